import PyProof.Rows.All
import Wide.All
import OpenK.AllK
import Wide.FinOn
import HandS.ForMost
import HandS.Style
import HandS.ExcOwn
import HandS.Exc
import HandS.TryMany
import HandS.ExcInit
import HandS.ExcField
import HandS.WordsExc
import HandS.Conv
import HandS.Codes
import HandS.FStr
import HandS.TryOnly
import HandS.Walk
import HandS.Iter
import HandS.Strs
import HandS.Text
import HandS.IsInst
import PySem.Challenge.RW_everdays_k82_days_told_from_today
set_option Elab.async false
set_option linter.all false
set_option maxRecDepth 100000
set_option maxHeartbeats 4000000
namespace Q
open PySem PySem.Spec PyProof.Rows L2
theorem op_fdivE {X : Cx} : OpR X (binaryOp .FloorDiv) (rI CDiv fun i j => .int (i / j)) := op_fdiv
theorem op_modE {X : Cx} : OpR X (binaryOp .Mod) (rI (fun _ j => 0 < j) fun i j => .int (i % j)) := op_mod
theorem cmul_r {i j : Int} (h1 : -(2 ^ 64) < j) (h2 : j < 2 ^ 64) : CMul i j := .inr ⟨h1, h2⟩
theorem cmul_l {i j : Int} (h1 : -(2 ^ 64) < i) (h2 : i < 2 ^ 64) : CMul i j := .inl ⟨h1, h2⟩
theorem iteK {c A B : Prop} {inst : Decidable c} (h1 : c → A) (h2 : ¬ c → B) : if decide c = true then A else B := by
  by_cases h : c
  · rw [if_pos (decide_eq_true h)]; exact h1 h
  · rw [if_neg (by simpa using h)]; exact h2 h
theorem ite_y {c : Bool} {A B : Prop} (hc : c = true) (h : A) : if c = true then A else B := by
  rw [if_pos hc]; exact h
theorem ite_n {c : Bool} {A B : Prop} (hc : c = false) (h : B) : if c = true then A else B := by
  rw [if_neg (by rw [hc]; decide)]; exact h
end Q
namespace Q
open PySem PySem.Spec PyProof.Rows L2
section
variable {K : PySem.W.Frag} {σ : L2.St} {H H' : Hp} {i j : Nat} {v x y z : V} {Q : VK} {R : Bool → Hp → Prop} {ta tb te : TE} {D : Ends} {t u : TS} {p : Addr} {xs : List V}
theorem red {σ' : L2.St} (e : σ = σ') (h : t D σ' H) : t D σ H := e ▸ h
theorem g_var (h : σ[i]? = some (some v)) (q : Q v H) : tVar i σ H Q := ⟨v, h, q⟩
theorem g_c (q : Q v H) : tC v σ H Q := q
theorem g_op {r : R2} (q : ta σ H fun x H1 => tb σ H1 fun y H2 => r x y H2 Q) : tOp r ta tb σ H Q := q
theorem g_un {r : V → Hp → VK → Prop} (q : ta σ H fun x H1 => r x H1 Q) : tUn r ta σ H Q := q
theorem g_tt (q : te σ H fun x H' => ∃ k, x = .bl k ∧ R k H') : tTest te σ H R := q
theorem g_tB (q : te σ H fun x H' => ∃ k, x = .bl k ∧ R k H') : tB te σ H R := q
theorem g_ifs {c : TT} (q : c σ H fun b H1 => if b = true then t D σ H1 else u D σ H1) : tIfS c t u D σ H := q
theorem g_seq (q : t { D with nx := u D } σ H) : tSeq t u D σ H := q
theorem g_next (q : D.nx σ H) : tNext D σ H := q
theorem g_asg {g : TG} (q : te σ H fun x H1 => g x σ H1 D.nx) : tAsg te g D σ H := q
theorem g_name {R : L2.St → Hp → Prop} (q : R (σ.set i (some v)) H) : gName i v σ H R := q
theorem g_ret (q : te σ H D.rt) : tRet te D σ H := q
theorem g_drop (q : te σ H fun _ H1 => D.nx σ H1) : tDrop te D σ H := q
theorem g_nil {R : List V → Hp → Prop} (q : R [] H) : tNil σ H R := q
theorem g_cons {tr : TA} {R : List V → Hp → Prop} (q : te σ H fun x H1 => tr σ H1 fun xs H2 => R (x :: xs) H2) : tCons te tr σ H R := q
theorem g_cb {r : List V → Hp → VK → Prop} {ta : TA} (q : ta σ H fun vs H1 => r vs H1 Q) : tCB r ta σ H Q := q
theorem g_sub {to ti : TE} {ts : TSet} {R : L2.St → Hp → Prop} (q : to σ H fun o H1 => ti σ H1 fun i H2 => ts o i v H2 fun H3 => R σ H3) : gSub to ti ts v σ H R := q
theorem g_call {sp : Sp} {dvs : List V} {E : XK} {ta : TA} (q : ta σ H fun vs H1 => sp (vs ++ dvs) H1 Q E) : tCall sp dvs E ta σ H Q := q
theorem g_if {c : TT} (q : c σ H fun b H1 => if b = true then ta σ H1 Q else tb σ H1 Q) : tIf c ta tb σ H Q := q
theorem g_and {c d : TT} (q : c σ H fun b H1 => if b = true then d σ H1 R else R false H1) : tAnd c d σ H R := q
theorem g_or {c d : TT} (q : c σ H fun b H1 => if b = true then R true H1 else d σ H1 R) : tOr c d σ H R := q
theorem g_not {c : TT} (q : c σ H fun b H1 => R (!b) H1) : tNot c σ H R := q
theorem g_tup {ta : TA} (q : ta σ H fun xs H1 => xs.length ≤ sizeLine ∧ ∀ p, H1 p = none → Q (.ref p) (upd H1 p (.tup xs))) : tTup ta σ H Q := q
theorem g_lst {ta : TA} (q : ta σ H fun xs H1 => xs.length ≤ sizeLine ∧ ∀ p, H1 p = none → Q (.ref p) (upd H1 p (.lst xs))) : tLst ta σ H Q := q
theorem g_vei {ta : TA} (q : ta σ H fun vs H1 => ∃ (a C : Addr) (ws : List V), vs = .ref a :: ws ∧ ws.length ≤ 1000 ∧ OexC K C ∧ H1 a = some (exo a C none) ∧ Q .non H1) : tVeI K ta σ H Q := q
theorem g_jc {t : TE} {ts : List TE} {acc : Str} {R : Str → Hp → Prop} (q : t σ H fun x H1 => ∃ y : Str, x = .str y ∧ (acc ++ y).length ≤ sizeLine ∧ tJs ts (acc ++ y) σ H1 R) : tJs (t :: ts) acc σ H R := q
theorem g_jn {acc : Str} {R : Str → Hp → Prop} (q : R acc H) : tJs [] acc σ H R := q
theorem g_fmt (q : te σ H fun x H1 => (∃ y : Str, x = .str y ∧ y.length ≤ sizeLine ∧ Q (.str y) H1) ∨ ∃ i : Int, x = .int i ∧ i.natAbs.log2 < 1920 ∧ Q (.str (toString i)) H1) : tFmt te σ H Q := q
theorem g_ost {f : Str} {to : TE} (q : te σ H fun y H1 => to σ H1 fun x H2 => ∃ a C : Addr, x = .ref a ∧ OexC K C ∧ PySem.W.findIn K (.ref C) f = some none ∧
  ((H2 a = some (exo a C none) ∧ ∀ dx, H2 dx = none → dx ≠ a → D.nx σ (upd (upd H2 dx (exd dx [(f, y)])) a (exo a C (some dx)))) ∨
    ∃ (dx : Addr) (fs : List (Str × V)), H2 a = some (exo a C (some dx)) ∧ H2 dx = some (exd dx fs) ∧ fs.length ≤ 900 ∧ D.nx σ (upd H2 dx (exd dx ((f, y) :: fs))))) : tOst K f to te D σ H := q
theorem g_mko {C : Addr} {sp : Sp} {dvs : List V} {ta : TA} {R : XK} (q : ta σ H fun vs H1 => vs.length ≤ 1000 ∧ ∀ a, H1 a = none → sp (.ref a :: (vs ++ dvs)) (upd H1 a (exo a C none))
  (fun v H2 => v = .non ∧ ∃ (d : Addr) (fs : List (Str × V)), H2 a = some (exo a C (some d)) ∧ H2 d = some (exd d fs) ∧ H1 d = none ∧ R (.ref C) (some d) (upd (del H2 a) d (.xd fs))) (fun _ _ _ => False)) : tMkO C sp dvs ta σ H R := q
theorem g_fld {f : Str} (q : ta σ H fun x H1 => ∃ a C dx fs v, x = .ref a ∧ H1 a = some (.ins C dx fs) ∧ Cls K C ∧ NoAttr K C f ∧ fs.lookup f = some v ∧ Q v H1) : tFld K ta f σ H Q := q
theorem g_sfld {f : Str} {tv : TE} (q : tv σ H fun y H1 => ta σ H1 fun x H2 => ∃ a C dx fs, x = .ref a ∧ H2 a = some (.ins C dx fs) ∧ Cls K C ∧ NoAttr K C f ∧ fs.length < 1000 ∧ D.nx σ (upd H2 a (.ins C dx (putF f y fs)))) : sFld K ta tv f D σ H := q
theorem g_meth {C : Addr} {m : Str} {sp : Sp} {dvs : List V} {E : XK} {tr : TA} (q : ta σ H fun x H1 => ∃ a dx fs, x = .ref a ∧ H1 a = some (.ins C dx fs) ∧ fs.lookup m = none ∧ tr σ H1 fun vs H2 => sp (x :: (vs ++ dvs)) H2 Q E) : tMeth C m sp dvs E ta tr σ H Q := q
theorem g_make {C : Addr} {sp : Sp} {dvs : List V} {E : XK} {tr : TA} (q : tr σ H fun vs H1 => ∀ x dx, H1 x = none → H1 dx = none → dx ≠ x → sp (.ref x :: (vs ++ dvs)) (upd (upd H1 dx (.own x)) x (.ins C dx [])) (fun v H2 => v = .non ∧ Q (.ref x) H2) E) : tMake C sp dvs E tr σ H Q := q
theorem g_ofld {f : Str} {C dx : Addr} {fs : List (Str × V)} (h : H p = some (.ins C dx fs)) (c : Cls K C) (n : NoAttr K C f) (l : fs.lookup f = some v) {R : V → Prop} (q : R v) : ∃ a C dx fs v, V.ref p = .ref a ∧ H a = some (.ins C dx fs) ∧ Cls K C ∧ NoAttr K C f ∧ fs.lookup f = some v ∧ R v := ⟨p, C, dx, fs, v, rfl, h, c, n, l, q⟩
theorem g_omet {m : Str} {C dx : Addr} {fs : List (Str × V)} (h : H p = some (.ins C dx fs)) (l : fs.lookup m = none) {R : Prop} (q : R) : ∃ a dx fs, V.ref p = .ref a ∧ H a = some (.ins C dx fs) ∧ fs.lookup m = none ∧ R := ⟨p, dx, fs, rfl, h, l, q⟩
theorem g_dget {td ty : TE} (q : td σ H fun x H1 => ty σ H1 fun y H2 => ∃ a v, x = .ref a ∧ DGet H2 a y (some v) ∧ Q v H2) : tDGet td ty σ H Q := q
theorem g_din {td ty : TE} (q : ty σ H fun y H1 => td σ H1 fun x H2 => ∃ a o, x = .ref a ∧ DGet H2 a y o ∧ Q (.bl o.isSome) H2) : tDIn ty td σ H Q := q
theorem g_dni {td ty : TE} (q : ty σ H fun y H1 => td σ H1 fun x H2 => ∃ a o, x = .ref a ∧ DGet H2 a y o ∧ Q (.bl (!o.isSome)) H2) : tDNotIn ty td σ H Q := q
theorem g_dput {td ty tv : TE} (q : tv σ H fun v H1 => td σ H1 fun x H2 => ty σ H2 fun y H3 => ∃ a H4, x = .ref a ∧ DPut H3 a y v H4 ∧ D.nx σ H4) : sDPut td ty tv D σ H := q
theorem g_dg1 {td ty : TE} (q : td σ H fun x H1 => ∃ a, x = .ref a ∧ IsD H1 a ∧ ty σ H1 fun y H2 => ∃ o, DGet H2 a y o ∧ Q (o.getD .non) H2) : tDGet1 td ty σ H Q := q
theorem g_dg2 {td ty tx : TE} (q : td σ H fun x H1 => ∃ a, x = .ref a ∧ IsD H1 a ∧ ty σ H1 fun y H2 => tx σ H2 fun z H3 => ∃ o, DGet H3 a y o ∧ Q (o.getD z) H3) : tDGet2 td ty tx σ H Q := q
theorem g_or2 {c d : TE} (q : c σ H fun x H1 => ∃ k, x = .bl k ∧ if k = true then Q (.bl true) H1 else d σ H1 Q) : tOrV c d σ H Q := q
theorem g_an2 {c d : TE} (q : c σ H fun x H1 => ∃ k, x = .bl k ∧ if k = true then d σ H1 Q else Q (.bl false) H1) : tAndV c d σ H Q := q
theorem g_no2 {c : TE} (q : c σ H fun x H1 => ∃ k, x = .bl k ∧ Q (.bl (!k)) H1) : tNotV c σ H Q := q
theorem g_I0 {g : Int → Int → V} {m n : Int} (q : Q (g m n) H) : rI0 g (.int m) (.int n) H Q := ⟨m, n, rfl, rfl, q⟩
theorem g_I {C : Int → Int → Prop} {g : Int → Int → V} {m n : Int} (c : C m n) (q : Q (g m n) H) : rI C g (.int m) (.int n) H Q := ⟨m, n, rfl, rfl, c, q⟩
theorem g_U {g : Int → V} {m : Int} (q : Q (g m) H) : rU g (.int m) H Q := ⟨m, rfl, q⟩
theorem g_eq (c : scal x y = true) (q : Q (.bl (decide (x = y))) H) : rEq x y H Q := ⟨c, q⟩
theorem g_ne (c : scal x y = true) (q : Q (.bl (!decide (x = y))) H) : rNe x y H Q := ⟨c, q⟩
theorem g_ixL {n : Int} (h : SqL K H p xs) (a : atI xs n = some v) (q : Q v H) : rIxL K (.ref p) (.int n) H Q := ⟨p, xs, n, v, rfl, rfl, h, a, q⟩
theorem g_ixT {n : Int} (h : SqT K H p xs) (a : atI xs n = some v) (q : Q v H) : rIxT K (.ref p) (.int n) H Q := ⟨p, xs, n, v, rfl, rfl, h, a, q⟩
theorem g_setL {n : Int} (h : H p = some (.lst xs)) (a : ixN xs.length n = some j) {Q : Hp → Prop} (q : Q (upd H p (.lst (xs.set j v)))) : rSetL (.ref p) (.int n) v H Q := ⟨p, xs, n, j, rfl, rfl, h, a, q⟩
theorem g_test {b : Bool} {R : Bool → Prop} (q : R b) : (∃ k, V.bl b = .bl k ∧ R k) := ⟨b, rfl, q⟩
theorem g_int1 {n : Int} {R : Int → Prop} {S : Bool → Prop} (q : R n) : (∃ i, [V.int n] = [V.int i] ∧ R i) ∨ (∃ k, [V.int n] = [V.bl k] ∧ S k) := .inl ⟨n, rfl, q⟩
theorem g_bl1 {b : Bool} {R : Int → Prop} {S : Bool → Prop} (q : S b) : (∃ i, [V.bl b] = [V.int i] ∧ R i) ∨ (∃ k, [V.bl b] = [V.bl k] ∧ S k) := .inr ⟨b, rfl, q⟩
theorem g_lenL {R : List V → Prop} (h : SqL K H p xs) (q : R xs) : ∃ p' ys, [V.ref p] = [V.ref p'] ∧ (SqL K H p' ys ∨ SqT K H p' ys) ∧ R ys := ⟨p, xs, rfl, .inl h, q⟩
theorem g_lenT {R : List V → Prop} (h : SqT K H p xs) (q : R xs) : ∃ p' ys, [V.ref p] = [V.ref p'] ∧ (SqL K H p' ys ∨ SqT K H p' ys) ∧ R ys := ⟨p, xs, rfl, .inr h, q⟩
end
section
variable {K : PySem.W.Frag} {σ : L2.St} {H : Hp} {te : TE} {ta : TA} {wi : TI} {g : TG} {gs : TGs} {tt : TT} {tb t : TS} {D : Ends} {Q : VK} {R : It → Hp → Prop} {v : V}
theorem g_itup (q : te σ H fun x H1 => ∃ a, x = .ref a ∧ (∃ xs, SqT K H1 a xs) ∧ R (Itt K a) H1) : iTup K te σ H R := q
theorem g_ilist (q : te σ H fun x H1 => ∃ a, x = .ref a ∧ (∃ xs, SqL K H1 a xs) ∧ R (Itl K a) H1) : iList K te σ H R := q
theorem g_ikeys (q : te σ H fun x H1 => ∃ d o, x = .ref d ∧ ((∃ kvs, H1 d = some (.frz o (.dK kvs)) ∧ R (Itk d o kvs) H1) ∨ ∃ kvs, H1 d = some (.frz o (.dT kvs)) ∧ R (Itkt d o kvs) H1)) : iKeys te σ H R := q
theorem g_irng1 (q : ta σ H fun vs H1 => ∃ j : Int, vs = [.int j] ∧ -(2 ^ 62) ≤ j ∧ j < 2 ^ 62 ∧ R (Itr 0 j.toNat) H1) : iRng1 ta σ H R := q
theorem g_irng2 (q : ta σ H fun vs H1 => ∃ i j : Int, vs = [.int i, .int j] ∧ (-(2 ^ 62) ≤ i ∧ i < 2 ^ 62 ∧ -(2 ^ 62) ≤ j ∧ j < 2 ^ 62) ∧ R (Itr i (j - i).toNat) H1) : iRng2 ta σ H R := q
theorem g_for (q : wi σ H fun J H1 => ∃ W : Nat → Nat → L2.St → Hp → Prop, (∃ m, W 0 m σ H1) ∧ ∀ i m σ H, W i m σ H →
  (J.stop i H ∧ D.nx σ H) ∨ (J.go i H ∧ ∃ N : L2.St → Hp → Prop, (∀ σ' H', N σ' H' → ∃ m', m' < m ∧ W (i + 1) m' σ' H') ∧ ∀ x H', J.yld i H x H' → g x σ H' fun σ2 H2 => tb { D with nx := N, ct := N, bk := D.nx } σ2 H2)) : tFor wi g tb D σ H := q
theorem g_lc {vs : List Nat} (q : wi σ H fun J H1 => ∀ D, H1 D = none → ∃ W : Nat → Nat → Hp → Prop, (∃ m, W 0 m (upd H1 D (.lst []))) ∧ ∀ i m H, W i m H →
  (J.stop i H ∧ Q (.ref D) H) ∨ (J.go i H ∧ ∃ Nx : Hp → Prop, (∀ H', Nx H' → ∃ m', m' < m ∧ W (i + 1) m' H') ∧ ∀ x H', J.yld i H x H' → g x (wipe σ vs) H' fun σ2 H2 => wipe σ2 vs = wipe σ vs ∧ tt σ2 H2 fun b H3 =>
    if b = true then te σ2 H3 fun y H4 => ∃ acc, H4 D = some (.lst acc) ∧ acc.length < sizeLine ∧ Nx (upd H4 D (.lst (acc ++ [y]))) else Nx H3)) : tLc wi g tt te vs σ H Q := q
theorem g_lock (q : ∃ d u, H d = some u ∧ Mut (some u) ∧ ∀ od, t ⟨fun σ' H' => H' d = some (.frz od u) ∧ D.nx σ' (upd H' d u), fun v H' => H' d = some (.frz od u) ∧ D.rt v (upd H' d u), fun σ' H' => H' d = some (.frz od u) ∧ D.bk σ' (upd H' d u), fun σ' H' => H' d = some (.frz od u) ∧ D.ct σ' (upd H' d u)⟩ σ (upd H d (.frz od u))) : tLock t D σ H := q
theorem g_gtup {n : Nat} {R : L2.St → Hp → Prop} (q : ∃ a xs, v = .ref a ∧ SqT K H a xs ∧ xs.length = n ∧ gs xs σ H R) : gTup K n gs v σ H R := q
theorem g_gcons {vs : List V} {R : L2.St → Hp → Prop} (q : g v σ H fun σ' H' => gs vs σ' H' R) : gCons g gs (v :: vs) σ H R := ⟨v, vs, rfl, q⟩
theorem g_gnil {R : L2.St → Hp → Prop} (q : R σ H) : gNil [] σ H R := ⟨rfl, q⟩
theorem g_sl {r : V → Option Int → Option Int → Hp → VK → Prop} {tl th : TO} (q : te σ H fun x H1 => tl σ H1 fun l H2 => th σ H2 fun u H3 => r x l u H3 Q) : tSl r te tl th σ H Q := q
theorem g_npart {R : Option Int → Hp → Prop} (q : R none H) : tNoPart σ H R := q
theorem g_part {R : Option Int → Hp → Prop} (q : te σ H fun x H1 => ∃ i, x = .int i ∧ R (some i) H1) : tPart te σ H R := q
theorem g_dnt (q : ∀ p, H p = none → Q (.ref p) (upd H p (.dT []))) : tDNewT σ H Q := q
theorem g_dnk (q : ∀ p, H p = none → Q (.ref p) (upd H p (.dK []))) : tDNewK σ H Q := q
theorem g_yes {R : Bool → Hp → Prop} (q : R true H) : tYes σ H R := q
theorem g_par {i j : Nat} (q : ta σ H fun vs H1 => ∃ v w, vs = [v, w] ∧ D.nx ((σ.set i (some v)).set j (some w)) H1) : tPar i j ta D σ H := q
theorem g_par3 {i j l : Nat} (q : ta σ H fun vs H1 => ∃ u v w, vs = [u, v, w] ∧ D.nx (((σ.set i (some u)).set j (some v)).set l (some w)) H1) : tPar3 i j l ta D σ H := q
theorem g_calls {sp : Sp} {E : L2.St → XK} (q : ta σ H fun vs H1 => sp vs H1 Q (E σ)) : tCallS sp E ta σ H Q := q
end
end Q
namespace Q
open PySem PySem.Spec PyProof.Rows L2
/-- what the written part says of a class of the program whose __init__ is ValueError's own, read off the class: D.__init__ -/
structure BaseInit (K : PySem.W.Frag) (D : Addr) (mc : Value) : Prop where
  rd : PySem.W.readsIn K D mc = true
  ga : PySem.W.specialIn K (.ref D) "__getattribute__" = some (some (.builtin "type.__getattribute__"))
  at_ : PySem.W.findCls K (.ref D) mc "__init__" = some (.val (.builtin "ValueError.__init__"))
/-- D.__init__(self, ..), D a class of the program: the same as ValueError.__init__ -/
theorem pe_deinit {X : Cx} {e : Expr} {es : List Expr} {ta : TA} {x : Str} {D : Addr} {mc : Value} {p1 p2 pos : PySem.Pos} {pl : Sem Bool} (hg : Gl X x) (hm : X.mg x = some (.ref D)) (B : BaseInit X.K D mc) (ha : PA X (e :: es) ta)
    (hdb : (x == ("__debug__" : Str)) = false := by decide)
    (hc : eval (.Call (.Attribute (.Name x p1) "__init__" p2) (e :: es) [] pos) X.env = (do
      let ov ← eval (.Name x p1) X.env
      standAt p2.atName
      let (f, first) ← holding [ov] (getMethod ov "__init__" pl)
      callWith pos f first (backTo pos (starEach (e :: es) X.env)) (backToKw pos (keywordEach [] X.env))) := by rfl)
    (he : starEach (e :: es) X.env = (false, eval e X.env) :: starEach es X.env := by rfl) (hpl : (backTo pos (starEach es X.env)).any (·.1) = false := by rfl) :
    PE X (.Call (.Attribute (.Name x p1) "__init__" p2) (e :: es) [] pos) (tVeI X.K ta) := by
  refine ⟨fun pins s σ H Q I h => ?_⟩
  refine PySem.W.methodCall_KW (ld_glob I hg hm ?_ hdb) hc
  refine PySem.W.method_cls I.kIn B.ga (PySem.W.cls_value I.kIn B.rd B.at_ (by decide +kernel) ?_)
  show wpAny _ _ (callWith pos (Value.builtin "ValueError.__init__") [] (backTo pos (starEach (e :: es) X.env)) []) _ _ _
  have I0 : Inv X pins σ H { s with toks := s.toks + 1 } := I.tok _
  refine PyProof.Rows.callWith_method1 (thn (ha.run pos pins _ σ H _ I0 h) fun us s1 hv => ?_) he hpl
  obtain ⟨vs, H1, I1, r1, a, C, ws, ev, hl, T, ea, q⟩ := hv
  subst ev
  cases r1 with
  | @cons _ u0 _ ur ra rw' =>
    obtain rfl : u0 = Value.ref a := ra
    have hlen : ur.length ≤ sizeLine := by
      rw [← Paired.length rw', sizeLine_eq]; omega
    exact oinit_ok T I1 ea hlen fun s' J => ⟨.non, H1, J, rfl, q⟩
end Q
namespace Q
open PySem PySem.Spec PyProof.Rows L2
/-- X(), an own exception class without own __init__ -/
theorem pmk_own0 {X : Cx} {C : Addr} {bmB : List Value} {B newId initId : String} {x : Str} {p pos : PySem.Pos} (F : ExcBaseFacts B newId initId bmB) (q : PySem.W.excIn X.K C bmB newId = true) (gC : X.mg x = some (.ref C))
    (kC : PySem.W.keepIn X.K (.ref C) = true) (r : Raises X (.ref C)) (hg : Gl X x) (hdb : (x == ("__debug__" : Str)) = false := by decide) : PMk X (.Call (.Name x p) [] [] pos) (fun _ H Q => Q (.ref C) none H) := by
  intro pins s σ H Q I h
  refine wpAny_Call_Name_kw (ld_glob I hg gC ?_ hdb)
  refine PySem.W.callWith_K0 I.kIn kC ?_
  obtain ⟨bm, N, nm, qn, bs, hdct, sn, sub, ab, col, dd, k0, k1, k2, k3, k5, mN, hC, hN, hni, T⟩ := exc_obj I.kIn q
  exact wpAny_call_exc_subT F T hC hN hni (fun h' e hm => mk_of I hm r h (I.hok.gone hm.new)) (Nat.zero_le _)
end Q
namespace Q
/-- does «except D» take an error of the class C -/
theorem exm_sub {K : PySem.W.Frag} {C D : PySem.Addr} {b : Bool} (h1 : PySem.W.subIn K (.ref D) (.type "BaseException") = some true) (h2 : PySem.W.isClsIn K D = true) (h3 : PySem.W.typeIn K (.ref D) = some (.type "type")) (h4 : PySem.W.subIn K (.ref C) (.ref D) = some b) :
    PySem.W.exmOne K (.ref C) (.ref D) = some b := by
  have e1 : (PySem.W.subIn K (.ref D) (.type "BaseException") == some true) = true := by rw [h1]; rfl
  have e2 : ((PySem.W.clsIn K D).isSome && PySem.W.typeIn K (.ref D) == some (.type "type")) = true := by
    have h2' : (PySem.W.clsIn K D).isSome = true := h2
    rw [h2', h3]; rfl
  show (if (PySem.W.subIn K (.ref D) (.type "BaseException") == some true) = true then (if ((PySem.W.clsIn K D).isSome && PySem.W.typeIn K (.ref D) == some (.type "type")) = true then PySem.W.subIn K (.ref C) (.ref D) else none) else none) = some b
  rw [if_pos e1, if_pos e2]
  exact h4
end Q
namespace Q
open PySem PySem.Spec PyProof.Rows L2
/-- o.m(e, ..) where what is raised is wished for at the caller's slots -/
def tMethX (C : Addr) (m : Str) (sp : Sp) (E : L2.St → XK) (ta : TE) (t : TA) : TE := fun σ H Q => ta σ H fun x H1 => ∃ a dx fs, x = .ref a ∧ H1 a = some (.ins C dx fs) ∧ fs.lookup m = none ∧ t σ H1 fun vs H2 => sp (x :: vs) H2 Q (E σ)
theorem g_methx {C : Addr} {m : Str} {sp : Sp} {E : L2.St → XK} {ta : TE} {t : TA} {σ : L2.St} {H : Hp} {Q : VK} (q : ta σ H fun x H1 => ∃ a dx fs, x = .ref a ∧ H1 a = some (.ins C dx fs) ∧ fs.lookup m = none ∧ t σ H1 fun vs H2 => sp (x :: vs) H2 Q (E σ)) : tMethX C m sp E ta t σ H Q := q
theorem pe_methX {X : Cx} {CX : CXT} {k : Nat} {f C : Addr} {fd : FuncData} {ps : List Str} {sp : Sp} {E : L2.St → XK} {m : Str} {apos pos : PySem.Pos} {e o : Expr} {es : List Expr} {ta : TE} {t : TA} {pl : Sem Bool} (he : PE X o ta) (c : Cls X.K C) (hm : Meth X.K C m f)
    (F : FnOk X.prog X.w X.K X.mg X.base CX k f fd ps sp) (hr : Room k X.A) (hb : Binds X.K fd ps []) (hx : ∀ σ, PassesAt CX X σ (E σ)) (ha : PA X (e :: es) t)
    (hst : starEach (e :: es) X.env = (false, eval e X.env) :: starEach es X.env := by rfl) (hpl : (backTo pos (starEach es X.env)).any (·.1) = false := by rfl)
    (ht : eval (.Call (.Attribute o m apos) (e :: es) [] pos) X.env = (do
      let ov ← eval o X.env
      standAt apos.atName
      let (f, first) ← holding [ov] (getMethod ov m pl)
      callWith pos f first (backTo pos (starEach (e :: es) X.env)) (backToKw pos (keywordEach [] X.env))) := by rfl) :
    PE X (.Call (.Attribute o m apos) (e :: es) [] pos) (tMethX C m sp E ta t) := by
  refine ⟨fun pins s σ H Q I h => PySem.W.methodCall_KW (pl := pl) (thn (he.run pins s σ H _ I h) fun u s1 hv => ?_) ht⟩
  obtain ⟨x, H1, I1, rx, a, dx, fs, rfl, ea, l, q⟩ := hv
  obtain rfl : u = Value.ref a := rx
  refine getmeth_ok I1 ea c hm l (PySem.W.callWith_K (first := [.ref a]) (h₀ := X.base) I.ok.mod.kin hm.kp (thn (ha.run pos pins s1 σ H1 _ I1 q) fun us s2 hv => ?_) hst hpl)
  obtain ⟨vs, H2, I2, r, q2⟩ := hv
  exact ⟨I2.kIn, run_fnS (us := .ref a :: us) (vs := .ref a :: vs) F hr hb (hx σ) I2 (.cons rfl r) q2⟩
theorem pe_meth0X {X : Cx} {CX : CXT} {k : Nat} {f C : Addr} {fd : FuncData} {ps : List Str} {sp : Sp} {E : L2.St → XK} {m : Str} {apos pos : PySem.Pos} {o : Expr} {ta : TE} {pl : Sem Bool} (he : PE X o ta) (c : Cls X.K C) (hm : Meth X.K C m f)
    (F : FnOk X.prog X.w X.K X.mg X.base CX k f fd ps sp) (hr : Room k X.A) (hb : Binds X.K fd ps []) (hx : ∀ σ, PassesAt CX X σ (E σ))
    (ht : eval (.Call (.Attribute o m apos) [] [] pos) X.env = (do
      let ov ← eval o X.env
      standAt apos.atName
      let (f, first) ← holding [ov] (getMethod ov m pl)
      callWith pos f first (backTo pos (starEach [] X.env)) (backToKw pos (keywordEach [] X.env))) := by rfl) :
    PE X (.Call (.Attribute o m apos) [] [] pos) (tMethX C m sp E ta tNil) := by
  refine ⟨fun pins s σ H Q I h => PySem.W.methodCall_KW (pl := pl) (thn (he.run pins s σ H _ I h) fun u s1 hv => ?_) ht⟩
  obtain ⟨x, H1, I1, rx, a, dx, fs, rfl, ea, l, q⟩ := hv
  obtain rfl : u = Value.ref a := rx
  exact getmeth_ok I1 ea c hm l (PySem.W.callWith_K0 (first := [.ref a]) I1.kIn hm.kp (run_fnS (us := [.ref a]) (vs := [.ref a]) F hr hb (hx σ) I1 (.cons rfl .nil) q))
end Q
/-! several except clauses, some of them with a name -/
namespace Q
open PySem PySem.Spec PyProof.Rows L2
abbrev Suite := Addr → Value → Option Addr → TS
/-- the ends and the slots of a clause: slot i (if any) is the clause's own name -/
def cEnds (D : Ends) : Option Nat → Ends
  | none => D
  | some i => { nx := fun σ' H' => D.nx (σ'.set i none) H', rt := D.rt, bk := fun σ' H' => D.bk (σ'.set i none) H', ct := fun σ' H' => D.ct (σ'.set i none) H' }
def cSlot (σ : L2.St) (a : Addr) : Option Nat → L2.St
  | none => σ
  | some i => σ.set i (some (.ref a))
def wCl (K : PySem.W.Frag) (Wout : WX) (D : Ends) : List (Value × Option Nat × Suite) → WX
  | [] => Wout
  | (c, o, ts) :: r => fun cls d σ H => ∃ b, PySem.W.exmOne K cls c = some b ∧ (b = true → ∀ a, H a = none → ts a cls d (cEnds D o) (cSlot σ a o) H) ∧ (b = false → wCl K Wout D r cls d σ H)
inductive ClOk (X : Cx) : List ExceptHandler → List (Value × Option Nat × Suite) → Prop
  | nil : ClOk X [] []
  | bare {x : Str} {c : Value} {ts : Suite} {b₀ : Stmt} {su : List Stmt} {np p' : PySem.Pos} {hds : List ExceptHandler} {l : List (Value × Option Nat × Suite)} (hc : Names X x c)
      (hsu : ∀ (a : Addr) (oe : Obj) (cls : Value) (d : Option Addr) (pn : List (Addr × Obj)), Zc cls d oe → (∃ vs, oe.data = .fields vs) → PSs (X.suite a ((a, oe) :: pn)) (b₀ :: su) (ts a cls d)) (r : ClOk X hds l) :
      ClOk X (.ExceptHandler (some (.Name x np)) none (b₀ :: su) p' :: hds) ((c, none, ts) :: l)
  | named {x n : Str} {c : Value} {i : Nat} {ts : Suite} {b₀ : Stmt} {su : List Stmt} {np p' : PySem.Pos} {hds : List ExceptHandler} {l : List (Value × Option Nat × Suite)} (hc : Names X x c) (hi : X.N[i]? = some n) (hln : X.env.kindOf n = some .local)
      (hsu : ∀ (a : Addr) (oe : Obj) (cls : Value) (d : Option Addr) (pn : List (Addr × Obj)), Zc cls d oe → (∃ vs, oe.data = .fields vs) → PSs (X.suite a ((a, oe) :: pn)) (b₀ :: su) (ts a cls d)) (r : ClOk X hds l) :
      ClOk X (.ExceptHandler (some (.Name x np)) (some n) (b₀ :: su) p' :: hds) ((c, some i, ts) :: l)
section
variable {X : Cx} {pins : List (Addr × Obj)} {D : Ends} {Wout : WX} {a : Addr} {B : Heap} {sI s' : Shared} {σ' : L2.St} {H' : Hp} {cls : Value} {d : Option Addr} {h3 : Heap}
/-- the exception on the ground of the try: what is known of it -/
structure Grd (X : Cx) (pins : List (Addr × Obj)) (a : Addr) (B : Heap) (sI s' : Shared) (σ' : L2.St) (H' : Hp) (cls : Value) (d : Option Addr) (h3 : Heap) : Prop where
  J : Inv X pins σ' H' sI
  nb : ∀ b o, sI.heap.get? b = some o → b ∉ frs X.stack → B.get? b = some o
  up : sI.heap.UpToSlots h3
  fl : HandSPX.FlyingZ B (X.env :: X.outer) a (Zc cls d) h3
  na : H' a = none
  os : s'.os = sI.os
  ag : AllBare s'.gens
theorem Grd.inv (g : Grd X pins a B sI s' σ' H' cls d h3) : Inv X pins σ' H' { s' with heap := h3 } := g.J.landed (s' := { s' with heap := h3 }) g.nb g.fl.1 g.up g.os g.ag
theorem Grd.away (g : Grd X pins a B sI s' σ' H' cls d h3) (hf : X.env.frame = some X.env.locals) : a ≠ X.env.locals ∧ a ∉ X.fs := by
  obtain ⟨oe, vs, he, _, hd⟩ := g.fl.there
  have key : a ∉ frs (X.env :: X.outer) := fun hm => by
    obtain ⟨_, o', e', hnf⟩ := g.fl.2.2.1.mem hm
    rw [he] at e'; cases e'
    exact hnf _ hd
  refine ⟨fun z => key (List.mem_filterMap.mpr ⟨X.env, List.mem_cons_self, by rw [hf, z]⟩), fun hm => ?_⟩
  obtain ⟨e, he, q⟩ := List.mem_filterMap.mp hm
  exact key (List.mem_filterMap.mpr ⟨e, List.mem_cons_of_mem _ he, q⟩)
/-- the clauses, one after the other, over an exception on the ground -/
theorem clauses {hds : List ExceptHandler} {l : List (Value × Option Nat × Suite)} (hs : X.stack = X.env :: X.outer) (hf : X.env.frame = some X.env.locals) (hN : X.N.Nodup) (tk : Takes X Wout) (ok : ClOk X hds l) :
    Grd X pins a B sI s' σ' H' cls d h3 → wCl X.K Wout D l cls d σ' H' → wpAny (model X.prog X.w) X.A (handleBy (.ref a) X.env hds) (SP X pins D) X.xe { s' with heap := h3 } := by
  induction ok with
  | nil =>
    intro g w
    refine wpAny_handleBy_nil ?_
    obtain ⟨_, _, _, oe, vs, T, _, _, he, _, hd, h1, _⟩ := id g.fl
    unfold PySem.passOn
    refine wpAny_bind (wpAny_field he hd h1 ?_)
    have no : ¬ ((Value.ref T == Value.none) = true) := by simp
    rw [if_neg no]
    have out : wpAny (model X.prog X.w) X.A (setFlight (.ref a) X.env.frame) (fun _ s4 => wpAny (model X.prog X.w) X.A (throw (.ref a) : Sem Flow) (SP X pins D) X.xe s4) X.xe { s' with heap := h3 } := by
      rw [hf]
      refine HandSPX.setFlight_upZ g.fl fun h4 held up4 => wpAny_throw (tk _ _ ?_)
      refine ⟨a, B, sI, pins, σ', H', cls, d, rfl, g.J, g.nb, g.up.trans up4, .inr (.inr ?_), g.na, g.os, g.ag, w⟩
      rw [hs]; exact held
    first
      | exact wpAny_bind (wpAny_pure (wpAny_bind out))
      | exact wpAny_bind out
  | @bare x c ts b₀ su np p' hds l hc hsu r ih =>
    intro g w
    obtain ⟨b, hb, hy, hn⟩ := w
    obtain ⟨nL, nF⟩ := g.away hf
    obtain ⟨oe, vs, he, hz, hd⟩ := g.fl.there
    have S := g.inv.suite he hd g.na nL nF
    have LM := PySem.W.exm_one (M := model X.prog X.w) (g.inv.kIn) (fun A Q E s k q => wpAny_typeOf_ref (k _ _ he) (by rw [hz.1]; exact q)) hb
    refine wpAny_handleBy_cons (codeAny_handlers_test ?_) (by intro q; cases q)
    have rd : ∀ {Q : Value → Shared → Prop} {E : Value → Shared → Prop}, Q c { s' with heap := h3 } → wpAny (model X.prog X.w) (X.A.mark (some (.ref a))) (eval (.Name x np) X.env) Q E { s' with heap := h3 } := fun {Q E} q => by
      obtain ⟨hg, hdb, hm | ⟨hm, hv, hnn⟩⟩ := hc
      · exact ld_glob (X := X.suite a ((a, oe) :: (X.pn ++ pins))) S hg hm q hdb
      · exact ld_blt (X := X.suite a ((a, oe) :: (X.pn ++ pins))) S hg hm hv q hnn hdb
    refine rd (LM.here ?_)
    cases b with
    | false => exact ih g (hn rfl)
    | true =>
      refine codeAny_handlers_suite (HandSPX.lands_againZ g.fl fun h4 fl4 up4 => ?_)
      have J4 : Inv X pins σ' H' { s' with heap := h4 } := g.J.landed (s' := { s' with heap := h4 }) g.nb fl4.1 (g.up.trans up4) g.os g.ag
      obtain ⟨oe4, vs4, he4, hz4, hd4⟩ := fl4.there
      refine wpAny_mono ((hsu a oe4 cls d (X.pn ++ pins) hz4 ⟨_, hd4⟩).run [] _ _ H' _ (J4.suite he4 hd4 g.na nL nF) (hy rfl a g.na)) (fun f s6 hsp => ?_) (fun _ _ z => False.elim z)
      have ok := g.J.ok
      cases f with
      | next => obtain ⟨σ6, H6, S6, q6⟩ := hsp; exact ⟨_, _, S6.unsuite ok, q6⟩
      | brk => obtain ⟨σ6, H6, S6, q6⟩ := hsp; exact ⟨_, _, S6.unsuite ok, q6⟩
      | cont => obtain ⟨σ6, H6, S6, q6⟩ := hsp; exact ⟨_, _, S6.unsuite ok, q6⟩
      | ret u => obtain ⟨v6, σ6, H6, S6, r6, q6⟩ := hsp; exact ⟨_, _, _, S6.unsuite ok, r6, q6⟩
  | @named x n c i ts b₀ su np p' hds l hc hi hln hsu r ih =>
    intro g w
    obtain ⟨b, hb, hy, hn⟩ := w
    obtain ⟨nL, nF⟩ := g.away hf
    obtain ⟨oe, vs, he, hz, hd⟩ := g.fl.there
    have S := g.inv.suite he hd g.na nL nF
    have LM := PySem.W.exm_one (M := model X.prog X.w) (g.inv.kIn) (fun A Q E s k q => wpAny_typeOf_ref (k _ _ he) (by rw [hz.1]; exact q)) hb
    refine wpAny_handleBy_cons (codeAny_handlers_test ?_) (by intro q; cases q)
    have rd : ∀ {Q : Value → Shared → Prop} {E : Value → Shared → Prop}, Q c { s' with heap := h3 } → wpAny (model X.prog X.w) (X.A.mark (some (.ref a))) (eval (.Name x np) X.env) Q E { s' with heap := h3 } := fun {Q E} q => by
      obtain ⟨hg, hdb, hm | ⟨hm, hv, hnn⟩⟩ := hc
      · exact ld_glob (X := X.suite a ((a, oe) :: (X.pn ++ pins))) S hg hm q hdb
      · exact ld_blt (X := X.suite a ((a, oe) :: (X.pn ++ pins))) S hg hm hv q hnn hdb
    refine rd (LM.here ?_)
    cases b with
    | false => exact ih g (hn rfl)
    | true =>
      refine codeAny_handlers_suite_as (HandSPX.lands_againZ g.fl fun h4 fl4 up4 => ?_)
      have J4 : Inv X pins σ' H' { s' with heap := h4 } := g.J.landed (s' := { s' with heap := h4 }) g.nb fl4.1 (g.up.trans up4) g.os g.ag
      obtain ⟨oe4, vs4, he4, hz4, hd4⟩ := fl4.there
      have S4 := J4.suite he4 hd4 g.na nL nF
      refine store_ok (X := X.suite a ((a, oe4) :: (X.pn ++ pins))) (v := .ref a) S4 hN hi (.inl hln) rfl (fun s5 S5 => ?_) (.inr hln)
      refine wpAny_mono ((hsu a oe4 cls d (X.pn ++ pins) hz4 ⟨_, hd4⟩).run [] s5 _ H' _ S5 (hy rfl a g.na)) (fun f s6 hsp => ?_) (fun _ _ z => False.elim z)
      have ok := g.J.ok
      have out : ∀ {σ6 : L2.St} {H6 : Hp} {Q : Shared → Prop}, Inv (X.suite a ((a, oe4) :: (X.pn ++ pins))) [] σ6 H6 s6 → (∀ s7, Inv X pins (σ6.set i none) H6 s7 → Q s7) →
          wpAny (model X.prog X.w) X.A (do bindName X.env n .none; unbindBehindTheSuite X.env n p') (fun _ s7 => Q s7) X.xe s6 := fun {σ6 H6 Q} S6 hq => gone_ok (S6.unsuite ok) hN hi hln hq
      cases f with
      | next => obtain ⟨σ6, H6, S6, q6⟩ := hsp; exact out S6 fun s7 J7 => ⟨_, _, J7, q6⟩
      | brk => obtain ⟨σ6, H6, S6, q6⟩ := hsp; exact out S6 fun s7 J7 => ⟨_, _, J7, q6⟩
      | cont => obtain ⟨σ6, H6, S6, q6⟩ := hsp; exact out S6 fun s7 J7 => ⟨_, _, J7, q6⟩
      | ret u => obtain ⟨v6, σ6, H6, S6, r6, q6⟩ := hsp; exact out S6 fun s7 J7 => ⟨_, _, _, J7, r6, q6⟩
/-- try: body, any clauses -/
theorem ps_try_cl {body : List Stmt} {h₀ : ExceptHandler} {hds : List ExceptHandler} {l : List (Value × Option Nat × Suite)} {pos : PySem.Pos} {tb : WX → TS} (hs : X.stack = X.env :: X.outer) (hf : X.env.frame = some X.env.locals) (hN : X.N.Nodup) (tk : Takes X Wout)
    (hb : ∀ (W : WX) (pn : List (Addr × Obj)) (xe : Value → Shared → Prop), Takes (X.tr pn xe) W → PassesOwn (model X.prog X.w) X.A X.env xe → PSs (X.tr pn xe) body (tb W))
    (hh : ClOk X (h₀ :: hds) l) : PS X (.Try body (h₀ :: hds) [] [] pos) (fun D σ H => tb (wCl X.K Wout D l) D σ H) := by
  refine ⟨fun pins s σ H D I h => ?_⟩
  have ok := I.ok
  have hfr : X.A.frames = some (X.env :: X.outer) := by rw [ok.frames, hs]
  refine wpAny_Try_except (wpAny_mono ((hb (wCl X.K Wout D l) (X.pn ++ pins) (fun e s₁ => wpAny (model X.prog X.w) X.A (noteFrame e X.env) (fun _ s₂ => wpAny (model X.prog X.w) X.A (setFlight e none) (fun _ s₃ =>
    wpAny (model X.prog X.w) X.A (handleBy e X.env (h₀ :: hds)) (SP X pins D) X.xe s₃) X.xe s₂) X.xe s₁) (fun u s' xx => ?_) PassesOwn.looking).run [] s σ H D (I.toTry _) h) (fun f s1 hsp => ?_) (fun e s1 he => he))
  · obtain ⟨a, B, sI, pins', σ', H', cls, d, rfl, J', nb, up, sky, na, os, ag, w⟩ := xx
    have sky' : Sky B (X.env :: X.outer) a (Zc cls d) X.env.locals s'.heap := by rw [← hs]; exact sky
    show wpAny (model X.prog X.w) X.A (noteFrame (.ref a) X.env) _ _ _
    exact Sky.land Zc.steady hfr hf sky' fun h3 fl3 up3 => clauses hs hf hN tk hh ⟨J'.ofTry ok, nb, up.trans up3, fl3, na, os, ag⟩ w
  · cases f with
    | next => obtain ⟨σ', H', J', q⟩ := hsp; exact wpAny_execs_nil ⟨σ', H', J'.ofTry ok, q⟩
    | brk => obtain ⟨σ', H', J', q⟩ := hsp; exact ⟨σ', H', J'.ofTry ok, q⟩
    | cont => obtain ⟨σ', H', J', q⟩ := hsp; exact ⟨σ', H', J'.ofTry ok, q⟩
    | ret u => obtain ⟨v, σ', H', J', r, q⟩ := hsp; exact ⟨v, σ', H', J'.ofTry ok, r, q⟩
end
end Q
/-! texts as lists of code points; more stepping lemmas -/
namespace Q
open PySem PySem.Spec PyProof.Rows L2 SX
theorem sizeBig : 1000000 ≤ sizeLine := by decide
theorem rep_flat (z : List Nat) : ∀ n : Nat, (List.replicate n z.toArray).foldl (· ++ ·) #[] = ((List.replicate n z).flatten).toArray := by
  have key : ∀ (n : Nat) (acc : List Nat), (List.replicate n z.toArray).foldl (· ++ ·) acc.toArray = (acc ++ (List.replicate n z).flatten).toArray := by
    intro n
    induction n with
    | zero => intro acc; simp
    | succ n ih =>
      intro acc
      rw [List.replicate_succ, List.foldl_cons, show acc.toArray ++ z.toArray = (acc ++ z).toArray by simp, ih, List.replicate_succ, List.flatten_cons, List.append_assoc]
  intro n
  have := key n []
  rw [List.nil_append] at this
  exact this
def rMulS : R2 := fun x y H Q => ∃ (z : List Nat) (n : Int), x = .str (S z) ∧ y = .int n ∧ -1000 ≤ n ∧ n ≤ 1000 ∧ z.length ≤ 1000 ∧ Q (.str (S (List.replicate n.toNat z).flatten)) H
theorem mul_S {z : List Nat} {n : Int} : Txt.mul (S z) n = S (List.replicate n.toNat z).flatten := by
  unfold Txt.mul
  by_cases h : n < 1
  · rw [if_pos h]
    have e : n.toNat = 0 := by omega
    rw [e]; rfl
  · rw [if_neg h]
    by_cases h2 : (n == 1 || (S z).length == 0) = true
    · rw [if_pos h2]
      rw [Bool.or_eq_true, beq_iff_eq, beq_iff_eq] at h2
      rcases h2 with h2 | h2
      · subst h2; show S z = S (List.replicate 1 z).flatten; simp
      · rw [S_len] at h2
        have e : z = [] := List.length_eq_zero_iff.mp h2
        subst e
        congr 1
        have : (List.replicate n.toNat ([] : List Nat)).flatten = [] := by simp
        rw [this]
    · rw [if_neg h2]
      show (⟨(List.replicate n.toNat z.toArray).foldl (· ++ ·) #[]⟩ : Str) = _
      rw [rep_flat]
theorem op_mul_str {X : Cx} : OpR X (binaryOp .Mult) rMulS := by
  intro pins s σ H x y v u Q I rx ry h
  obtain ⟨z, n, rfl, rfl, h1, h2, h3, q⟩ := h
  obtain ⟨t, rfl⟩ := rx
  obtain ⟨t', rfl⟩ := ry
  refine PySem.SB.mul ⟨?_, fun g1 _ => ?_, fun g1 _ => ?_⟩ fun t2 k => ?_
  · have e1 : decide (n < -(2 ^ 63 : Int)) = false := decide_eq_false (by omega)
    have e2 : decide (n ≥ 2 ^ 63) = false := decide_eq_false (by omega)
    rw [e1, e2]; rfl
  · rw [S_len]
    have : (2 ^ 63 - 1 : Int) / 1000 ≤ (2 ^ 63 - 1) / n := by
      apply Int.le_ediv_of_mul_le (by omega)
      calc (2 ^ 63 - 1 : Int) / 1000 * n ≤ (2 ^ 63 - 1 : Int) / 1000 * 1000 := Int.mul_le_mul_of_nonneg_left h2 (by decide)
        _ ≤ 2 ^ 63 - 1 := by decide
    omega
  · rw [S_len]
    have : z.length * n.toNat ≤ 1000 * 1000 := Nat.mul_le_mul h3 (by omega)
    generalize z.length * n.toNat = w at this
    have := sizeBig
    exact decide_eq_false (show ¬ w > sizeLine by omega)
  · rw [mul_S]
    exact ⟨.str _, H, I.tok _, ⟨_, rfl⟩, q⟩
/-- a written tuple's values -/
def absL : List Value → Option (List V)
  | [] => some []
  | v :: r => (absV v).bind fun x => (absL r).map (x :: ·)
theorem relV_of {u : Value} {x : V} (h : absV u = some x) : RelV x u := by
  cases u <;> first
    | (cases h; rfl)
    | (cases h; exact ⟨_, rfl⟩)
    | (cases h; done)
theorem absL_ok : ∀ {us : List Value} {xs : List V}, absL us = some xs → Vals xs us
  | [], xs, h => by cases h; exact .nil
  | v :: r, xs, h => by
    unfold absL at h
    cases e : absV v with
    | none => rw [e] at h; cases h
    | some x =>
      rw [e] at h
      cases e2 : absL r with
      | none => rw [e2] at h; cases h
      | some ys => rw [e2] at h; cases h; exact .cons (relV_of e) (absL_ok e2)
def absT (o : Obj) : Option (List V) := match o.cls, o.data with
  | .type n, .seq its _ => if n = "tuple" ∧ its.size ≤ sizeLine then absL its.toList else none
  | _, _ => none
theorem sqT_of {K : PySem.W.Frag} {A : Addr} {o : Obj} {xs : List V} {H : Hp} (h : K.lookup A = some o) (hs : absT o = some xs) : SqT K H A xs := by
  unfold absT at hs
  split at hs
  · next n its k e1 e2 =>
    split at hs
    · next c => exact .inr ⟨o, its, k, h, by rw [e1, c.1], e2, c.2, absL_ok hs⟩
    · cases hs
  · cases hs
/-- a statement that is never run -/
theorem ps_never {X : Cx} {st : Stmt} : PS X st (fun _ _ _ => False) := ⟨fun _ _ _ _ _ _ h => h.elim⟩
/-- a cut of a list, as a slice does it -/
def cutL (l : List Nat) (lo hi : Option Int) : List Nat := (l.drop (HT.sIx l.length 0 lo)).take (HT.sIx l.length l.length hi - HT.sIx l.length 0 lo)
theorem cutS_S (l : List Nat) (lo hi : Option Int) : cutS (S l) lo hi = S (cutL l lo hi) := by
  unfold cutS cutL
  rw [S_len]
theorem cutL_len (l : List Nat) (lo hi : Option Int) : (cutL l lo hi).length ≤ l.length := by
  unfold cutL
  rw [List.length_take, List.length_drop]
  omega
theorem cutL_to {l : List Nat} {n : Nat} (h : n ≤ l.length) : cutL l none (some (n : Int)) = l.take n := by
  unfold cutL
  rw [HT.sIx_none, HT.sIx_nat, List.drop_zero, Nat.sub_zero, Nat.min_eq_left h]
theorem cutL_from {l : List Nat} {n : Nat} (h : n ≤ l.length) : cutL l (some (n : Int)) none = l.drop n := by
  unfold cutL
  rw [HT.sIx_none, HT.sIx_nat, Nat.min_eq_left h]
  exact List.take_of_length_le (by rw [List.length_drop]; exact Nat.le_refl _)
theorem cutL_mid {l : List Nat} {i j : Nat} (h1 : i ≤ j) (h : j ≤ l.length) : cutL l (some (i : Int)) (some (j : Int)) = (l.drop i).take (j - i) := by
  unfold cutL
  rw [HT.sIx_nat, HT.sIx_nat, Nat.min_eq_left h, Nat.min_eq_left (by omega)]
section
variable {K : PySem.W.Frag} {σ : L2.St} {H : Hp} {te : TE} {ta tb tc : TE} {tas : TA} {g : TG} {gs : TGs} {D : Ends} {Q : VK} {R : It → Hp → Prop} {v x : V} {i : Nat}
theorem g_mulS {z : List Nat} {n : Int} (c : -1000 ≤ n ∧ n ≤ 1000 ∧ z.length ≤ 1000) (q : Q (.str (S (List.replicate n.toNat z).flatten)) H) : rMulS (.str (S z)) (.int n) H Q := ⟨z, n, rfl, rfl, c.1, c.2.1, c.2.2, q⟩
theorem g_catS {a b : List Nat} {R : Str → Str → Prop} (c : a.length + b.length ≤ 1000000) (q : R (S a) (S b)) : ∃ i j, V.str (S a) = .str i ∧ V.str (S b) = .str j ∧ i.length + j.length ≤ sizeLine ∧ R i j :=
  ⟨S a, S b, rfl, rfl, by rw [S_len, S_len]; exact Nat.le_trans c sizeBig, q⟩
theorem g_ixS {l : List Nat} {n : Int} {c : Nat} (hl : l.length ≤ 1000000) (a : atI l n = some c) (q : Q (.str (S [c])) H) : rIxS (.str (S l)) (.int n) H Q := ⟨S l, n, c, rfl, rfl, by rw [S_len]; exact Nat.le_trans hl sizeBig, a, q⟩
theorem g_slS {l : List Nat} {lo hi : Option Int} (hl : l.length ≤ 1000000) (q : Q (.str (S (cutL l lo hi))) H) : rSlS (.str (S l)) lo hi H Q := ⟨S l, rfl, by rw [S_len]; exact Nat.le_trans hl sizeBig, by rw [cutS_S]; exact q⟩
theorem g_lenS {l : List Nat} {R : Str → Prop} (hl : l.length ≤ 1000000) (q : R (S l)) : ∃ z, [V.str (S l)] = [V.str z] ∧ z.length ≤ sizeLine ∧ R z := ⟨S l, rfl, by rw [S_len]; exact Nat.le_trans hl sizeBig, q⟩
theorem g_exi {n : Int} {R : Int → Prop} (q : R n) : ∃ i, V.int n = .int i ∧ R i := ⟨n, rfl, q⟩
theorem g_istr (q : te σ H fun v H1 => ∃ x, v = .str x ∧ R (Its x) H1) : iStr te σ H R := q
theorem g_glst {n : Nat} {R : L2.St → Hp → Prop} (q : ∃ a xs, v = .ref a ∧ SqL K H a xs ∧ xs.length = n ∧ gs xs σ H R) : gLst K n gs v σ H R := q
theorem g_aug {ti : TIp} (h : σ[i]? = some (some x)) (q : te σ H fun y H1 => ti x y H1 fun z H2 => D.nx (σ.set i (some z)) H2) : tAug i te ti D σ H := ⟨x, h, q⟩
theorem g_chain {r r' : R2} (q : ta σ H fun x H1 => tb σ H1 fun y H2 => r x y H2 fun z H3 => ∃ k, z = .bl k ∧ (if k = true then tc σ H3 fun w' H4 => r' y w' H4 Q else Q (.bl false) H3)) : tChain r r' ta tb tc σ H Q := q
theorem g_isN {P : Prop} (q : P) : V.non = .non ∧ P := ⟨rfl, q⟩
theorem log_ok {n : Int} (c : n.natAbs < 10 ^ 60) : n.natAbs.log2 < 1920 := by
  by_cases h : n.natAbs = 0
  · rw [h]; decide
  · exact Nat.lt_trans ((Nat.log2_lt h).mpr (Nat.lt_trans c (by decide : 10 ^ 60 < 2 ^ 200))) (by decide)
theorem g_strI {n : Int} {R : Int → Prop} (c : n.natAbs < 10 ^ 60) (q : R n) : ∃ i : Int, [V.int n] = [V.int i] ∧ i.natAbs.log2 < 1920 ∧ R i := ⟨n, rfl, log_ok c, q⟩
theorem iteNK {c A B : Prop} {inst : Decidable c} (h1 : ¬ c → A) (h2 : c → B) : if (!decide c) = true then A else B := by
  by_cases h : c
  · rw [decide_eq_true h, if_neg (by decide)]; exact h2 h
  · rw [decide_eq_false h, if_pos (by decide)]; exact h1 h
theorem g_inS {c : Nat} {z : Str} {R : Nat → Str → Prop} (q : R c z) : ∃ (c' : Nat) (z' : Str), V.str (S [c]) = .str ⟨#[c']⟩ ∧ V.str z = .str z' ∧ R c' z' := ⟨c, z, rfl, rfl, q⟩
theorem g_ipI {f : Int → Int → Int} {m n : Int} (q : Q (.int (f m n)) H) : ipI f (.int m) (.int n) H Q := ⟨m, n, rfl, rfl, q⟩
end
end Q

namespace Q
open PySem PySem.Spec PyProof.Rows L2
section
variable {K : PySem.W.Frag} {σ : L2.St} {H : Hp} {te to : TE} {t : TA} {Q : VK}
theorem g_bm {T : String} {r : V → List V → Hp → VK → Prop} (q : to σ H fun x H1 => tyV K T x H1 ∧ t σ H1 fun xs H2 => r x xs H2 Q) : tBM K T r to t σ H Q := q
theorem g_bm0 {T : String} {r : V → List V → Hp → VK → Prop} (q : to σ H fun x H1 => tyV K T x H1 ∧ r x [] H1 Q) : tBM0 K T r to σ H Q := q
end
end Q
/-! a method of a tuple that is written where it is asked -/
namespace Q
open PySem PySem.Spec PyProof.Rows L2 SX
section
variable {X : Cx} {e : Expr} {es ts : List Expr} {t tt : TA} {name : Str} {apos cpos tpos : PySem.Pos} {id : String} {r : V → List V → Hp → VK → Prop} {k : Nat}
def tTupM (r : V → List V → Hp → VK → Prop) (tt t : TA) : TE := fun σ H Q => tt σ H fun xs H1 => xs.length ≤ sizeLine ∧ ∀ p, H1 p = none → t σ (upd H1 p (.tup xs)) fun ys H2 => r (.ref p) ys H2 Q
theorem g_tupm {σ : L2.St} {H : Hp} {Q : VK} (q : tt σ H fun xs H1 => xs.length ≤ sizeLine ∧ ∀ p, H1 p = none → t σ (upd H1 p (.tup xs)) fun ys H2 => r (.ref p) ys H2 Q) : tTupM r tt t σ H Q := q
theorem pe_tupM (pa : PlainAttrs "tuple") (slot : Slot "tuple" name id) (hty : typeOf (.builtin id) = pure (.type "method_descriptor")) (hm : MtR X id r) (ho : PA X ts tt) (ha : PA X (e :: es) t)
    (hbase : attributeBase (.Tuple ts k tpos) name X.env (eval (.Tuple ts k tpos) X.env) = eval (.Tuple ts k tpos) X.env := by rfl)
    (hfew : ((backTo cpos (starEach (e :: es) X.env)).all (fun x => !x.1) && (backToKw cpos (keywordEach [] X.env)).all (fun x => x.1.isSome)
      && decide ((e :: es).length + ([] : List Keyword).length + (if ([] : List Keyword).isEmpty then 0 else 1) < 30)) = true := by rfl)
    (hline : (apos.endLine == cpos.line) = true := by rfl) (hs : starEach (e :: es) X.env = (false, eval e X.env) :: starEach es X.env := by rfl) (hplain : (backTo cpos (starEach es X.env)).any (·.1) = false := by rfl) :
    PE X (.Call (.Attribute (.Tuple ts k tpos) name apos) (e :: es) [] cpos) (tTupM r tt t) := by
  refine ⟨fun pins s σ H Q I h => ?_⟩
  refine wpAny_Call_method_late hbase hfew hline rfl ?_
  refine wpAny_Tuple_spliced (thn (ho.run tpos pins s σ H _ I h) fun us s1 ⟨xs, H1, I1, rv, z, q⟩ => ⟨by rw [← rv.length]; exact z, ?_⟩)
  have hf : H1 s1.heap.objs.size = none := I1.hok.fresh (Nat.le_refl _)
  have I2 := I1.laid (t' := s1.toks) (o := .tup xs) (h' := s1.heap.push { cls := .type "tuple", data := .seq us.toArray }) (fun b u e => Heap.get?_push_of_some _ e) (Nat.le_refl _) (by
    exact ⟨z, us, rv, ⟨_, Heap.get?_push_size _ rfl, rfl, _, rfl⟩⟩)
  have hg := Heap.get?_push_size s1.heap (o := { cls := .type "tuple", data := .seq us.toArray }) rfl
  refine ⟨"tuple", id, pa, slot, hty, ⟨_, hg, rfl⟩, fun a ea => ?_, ?_⟩
  · cases ea; exact ⟨_, hg, rfl⟩
  have hA := ha.run cpos pins _ σ _ _ I2 (q _ hf)
  rw [hs] at hA ⊢
  refine Calls.callWith_builtin (by show (false || (backTo cpos (starEach es X.env)).any (·.1)) = false; rw [hplain] <;> rfl) (Calls.evalArgs_plain ?_)
  exact thn hA fun us s2 ⟨vs, H2, I2, r2, q2⟩ => hm pins s2 σ H2 (.ref s1.heap.objs.size) vs _ us Q I2 rfl r2 q2
end
end Q

namespace Q
open PySem PySem.Spec PyProof.Rows L2 SX
section
variable {K : PySem.W.Frag} {σ : L2.St} {H : Hp} {te to ta tv : TE} {D : Ends} {Q : VK}
theorem g_m1 {r : V → List V → Hp → VK → Prop} (q : to σ H fun x H1 => (∃ a, x = .str a) ∧ te σ H1 fun y H2 => r x [y] H2 Q) : tM1 r to te σ H Q := q
theorem g_fldaug {rd : V → V → Hp → VK → Prop} {f : Str} (q : ta σ H fun x H1 => ∃ a C dx fs v, x = .ref a ∧ H1 a = some (.ins C dx fs) ∧ Cls K C ∧ NoAttr K C f ∧ fs.lookup f = some v ∧
  tv σ H1 fun y H2 => rd v y H2 fun z H3 => ∃ dx' fs', H3 a = some (.ins C dx' fs') ∧ fs'.length < 1000 ∧ D.nx σ (upd H3 a (.ins C dx' (putF f z fs')))) : sFldAug K ta tv rd f D σ H := q
end
end Q
/-! the civil calendar, in plain -/
namespace Civ
def isLeap (y : Int) : Bool := decide (y % 4 = 0) && (!decide (y % 100 = 0) || decide (y % 400 = 0))
def LEN : List Int := [31, 28, 31, 30, 31, 30, 31, 31, 30, 31, 30, 31]
def BEF : List Int := [0, 31, 59, 90, 120, 151, 181, 212, 243, 273, 304, 334]
def lenT (k : Int) : Int := LEN.getD k.toNat 0
def bef (k : Int) : Int := BEF.getD k.toNat 0
def lp (y : Int) : Int := if isLeap y = true then 1 else 0
def len (m : Int) : Int := lenT (m % 12) + if m % 12 = 1 then lp (m / 12 + 1) else 0
def yd (p : Int) : Int := 365 * p + p / 4 - p / 100 + p / 400
def fd (m : Int) : Int := yd (m / 12) + bef (m % 12) + if 1 < m % 12 then lp (m / 12 + 1) else 0
theorem lp_eq (y : Int) : (y % 4 = 0 ∧ (y % 100 ≠ 0 ∨ y % 400 = 0) ∧ lp y = 1) ∨ (¬ (y % 4 = 0 ∧ (y % 100 ≠ 0 ∨ y % 400 = 0)) ∧ lp y = 0) := by
  by_cases h : isLeap y = true
  · left
    have e : lp y = 1 := if_pos h
    unfold isLeap at h
    rw [Bool.and_eq_true, decide_eq_true_eq, Bool.or_eq_true, Bool.not_eq_true', decide_eq_false_iff_not, decide_eq_true_eq] at h
    exact ⟨h.1, h.2, e⟩
  · right
    have e : lp y = 0 := if_neg h
    refine ⟨fun k => h ?_, e⟩
    unfold isLeap
    rw [Bool.and_eq_true, decide_eq_true_eq, Bool.or_eq_true, Bool.not_eq_true', decide_eq_false_iff_not, decide_eq_true_eq]
    exact k
theorem yd_succ (p : Int) : yd (p + 1) = yd p + 365 + lp (p + 1) := by
  unfold yd
  rcases lp_eq (p + 1) with ⟨h1, h2, e⟩ | ⟨h, e⟩ <;> rw [e] <;> omega
theorem mod12 (m : Int) : m % 12 = 0 ∨ m % 12 = 1 ∨ m % 12 = 2 ∨ m % 12 = 3 ∨ m % 12 = 4 ∨ m % 12 = 5 ∨ m % 12 = 6 ∨ m % 12 = 7 ∨ m % 12 = 8 ∨ m % 12 = 9 ∨ m % 12 = 10 ∨ m % 12 = 11 := by omega
theorem lp01 (y : Int) : 0 ≤ lp y ∧ lp y ≤ 1 := by
  unfold lp; split <;> omega
theorem fd_succ (m : Int) : fd (m + 1) = fd m + len m := by
  have q := mod12 m
  have ys := yd_succ (m / 12)
  unfold fd len
  rcases q with h | h | h | h | h | h | h | h | h | h | h | h
  all_goals first
    | (have e1 : (m + 1) / 12 = m / 12 := by omega
       have e2 : (m + 1) % 12 = m % 12 + 1 := by omega
       rw [e1, e2, h]
       simp only [bef, lenT, BEF, LEN]
       simp
       try omega)
    | (have e1 : (m + 1) / 12 = m / 12 + 1 := by omega
       have e2 : (m + 1) % 12 = 0 := by omega
       rw [e1, e2, h, ys]
       simp only [bef, lenT, BEF, LEN]
       simp
       try omega)
theorem len_le (m : Int) : 28 ≤ len m ∧ len m ≤ 31 := by
  have q := mod12 m
  have l := lp01 (m / 12 + 1)
  unfold len
  rcases q with h | h | h | h | h | h | h | h | h | h | h | h <;> rw [h] <;> simp only [lenT, LEN] <;> simp <;> omega
theorem fd_add (m : Int) : ∀ n : Nat, fd m + 28 * n ≤ fd (m + n)
  | 0 => by simp
  | n + 1 => by
    have h1 := fd_add m n
    have h2 := fd_succ (m + n)
    have h3 := len_le (m + n)
    have e : m + ((n + 1 : Nat) : Int) = m + n + 1 := by omega
    rw [e, h2]
    omega
theorem fd_lt {m k : Int} (h : m < k) : fd m + 28 ≤ fd k := by
  have := fd_add m (k - m).toNat
  have e : m + ((k - m).toNat : Int) = k := by omega
  rw [e] at this
  omega
theorem fd_le {m k : Int} (h : m ≤ k) : fd m ≤ fd k := by
  rcases Int.lt_or_eq_of_le h with h | h
  · have := fd_lt h; omega
  · rw [h]; omega
/-- the month of a day -/
def IsM (d m : Int) : Prop := fd m ≤ d ∧ d < fd (m + 1)
theorem IsM.uniq {d m k : Int} (h : IsM d m) (g : IsM d k) : m = k := by
  rcases Int.lt_trichotomy m k with l | l | l
  · have := fd_le (show m + 1 ≤ k by omega)
    have h2 := h.2; have g1 := g.1; omega
  · exact l
  · have := fd_le (show k + 1 ≤ m by omega)
    have h2 := g.2; have g1 := h.1; omega
theorem fd_year (p : Int) : fd (12 * p) = yd p := by
  unfold fd
  have e1 : 12 * p / 12 = p := by omega
  have e2 : 12 * p % 12 = 0 := by omega
  rw [e1, e2]
  simp [bef, BEF]
theorem yd_cycle (p c : Int) : yd (p + 400 * c) = yd p + 146097 * c := by
  unfold yd; omega
theorem lp_cycle (y c : Int) : lp (y + 400 * c) = lp y := by
  rcases lp_eq (y + 400 * c) with ⟨h1, h2, e⟩ | ⟨h, e⟩ <;> rcases lp_eq y with ⟨g1, g2, f⟩ | ⟨g, f⟩ <;> rw [e, f] <;> omega
theorem fd_cycle (m c : Int) : fd (m + 4800 * c) = fd m + 146097 * c := by
  unfold fd
  have e1 : (m + 4800 * c) / 12 = m / 12 + 400 * c := by omega
  have e2 : (m + 4800 * c) % 12 = m % 12 := by omega
  have e3 : m / 12 + 400 * c + 1 = m / 12 + 1 + 400 * c := by omega
  rw [e1, e2, yd_cycle, e3, lp_cycle]
  omega
theorem IsM.cycle {d m c : Int} (h : IsM d m) : IsM (d + 146097 * c) (m + 4800 * c) := by
  have e : m + 4800 * c + 1 = m + 1 + 4800 * c := by omega
  unfold IsM
  rw [e, fd_cycle, fd_cycle]
  have h1 := h.1; have h2 := h.2
  omega
/-- a year of the cycle by days, from below -/
theorem yd_mono {p q : Int} (h : p ≤ q) : yd p ≤ yd q := by
  rw [← fd_year, ← fd_year]; exact fd_le (by omega)
/-- day of (year, month, date) -/
def dayOf (y mo d : Int) : Option Int := if (1 ≤ mo ∧ mo ≤ 12) ∧ (1 ≤ d ∧ d ≤ len (12 * (y - 1) + mo - 1)) then some (fd (12 * (y - 1) + mo - 1) + d - 1) else none
theorem dayOf_isM {y mo d k : Int} (h : dayOf y mo d = some k) : IsM k (12 * (y - 1) + mo - 1) ∧ 1 ≤ mo ∧ mo ≤ 12 ∧ d = k - fd (12 * (y - 1) + mo - 1) + 1 := by
  unfold dayOf at h
  split at h
  · next c =>
    cases h
    refine ⟨⟨by omega, ?_⟩, c.1.1, c.1.2, by omega⟩
    rw [fd_succ]
    omega
  · cases h
theorem dayOf_of {d m : Int} (h : IsM d m) : dayOf (m / 12 + 1) (m % 12 + 1) (d - fd m + 1) = some d := by
  have e : 12 * (m / 12 + 1 - 1) + (m % 12 + 1) - 1 = m := by omega
  unfold dayOf
  rw [e]
  have h1 := h.1; have h2 := h.2
  rw [fd_succ] at h2
  rw [if_pos ⟨by omega, by omega⟩]
  congr 1
  omega
end Civ
/-! digits, words of days and of minutes, in plain -/
namespace Dg
open PySem PySem.NumText
theorem val_snoc (l : List Nat) (c : Nat) : digitsVal (l ++ [c]) = digitsVal l * 10 + (c - 48) := by
  unfold digitsVal; rw [List.foldl_append]; rfl
theorem val_cons0 (l : List Nat) : digitsVal (48 :: l) = digitsVal l := rfl
theorem val_rep (l : List Nat) : ∀ j : Nat, digitsVal (List.replicate j 48 ++ l) = digitsVal l
  | 0 => rfl
  | j + 1 => by rw [List.replicate_succ, List.cons_append, val_cons0, val_rep l j]
def dg (n : Nat) : Nat → List Nat
  | 0 => []
  | k + 1 => (48 + n / 10 ^ k % 10) :: dg n k
theorem dg_len (n : Nat) : ∀ k, (dg n k).length = k
  | 0 => rfl
  | k + 1 => by show (dg n k).length + 1 = k + 1; rw [dg_len n k]
theorem dg_dig (n : Nat) : ∀ k, ∀ c ∈ dg n k, 48 ≤ c ∧ c ≤ 57
  | 0, c, h => nomatch h
  | k + 1, c, h => by
    rcases List.mem_cons.mp h with e | h
    · have : n / 10 ^ k % 10 < 10 := Nat.mod_lt _ (by decide)
      omega
    · exact dg_dig n k c h
theorem dg_snoc (n : Nat) : ∀ k, dg n (k + 1) = dg (n / 10) k ++ [48 + n % 10]
  | 0 => by show [48 + n / 10 ^ 0 % 10] = _; rw [Nat.pow_zero, Nat.div_one]; rfl
  | k + 1 => by
    show (48 + n / 10 ^ (k + 1) % 10) :: dg n (k + 1) = (48 + n / 10 / 10 ^ k % 10) :: dg (n / 10) k ++ [48 + n % 10]
    rw [dg_snoc n k, Nat.div_div_eq_div_mul, Nat.pow_succ, Nat.mul_comm (10 ^ k) 10, List.cons_append]
theorem dg_val : ∀ (k n : Nat), digitsVal (dg n k) = n % 10 ^ k
  | 0, n => by rw [Nat.pow_zero, Nat.mod_one]; rfl
  | k + 1, n => by
    rw [dg_snoc, val_snoc, dg_val k (n / 10), Nat.pow_succ, Nat.mul_comm (10 ^ k) 10, Nat.mod_mul]
    have : n % 10 < 10 := Nat.mod_lt _ (by decide)
    omega
theorem snoc_ind {α : Type} {P : List α → Prop} (h0 : P []) (h1 : ∀ l c, P l → P (l ++ [c])) (l : List α) : P l := by
  have : ∀ (n : Nat) (l : List α), l.length = n → P l := by
    intro n
    induction n with
    | zero => intro l h; rw [List.length_eq_zero_iff.mp h]; exact h0
    | succ n ih =>
      intro l h
      have hne : l ≠ [] := fun e => by rw [e] at h; cases h
      rw [← List.dropLast_concat_getLast hne]
      exact h1 _ _ (ih _ (by rw [List.length_dropLast, h]; rfl))
  exact this _ l rfl
theorem dg_of_val (l : List Nat) : (∀ c ∈ l, 48 ≤ c ∧ c ≤ 57) → dg (digitsVal l) l.length = l := by
  refine snoc_ind (P := fun l => (∀ c ∈ l, 48 ≤ c ∧ c ≤ 57) → dg (digitsVal l) l.length = l) (fun _ => rfl) (fun l c ih h => ?_) l
  have hc := h c (List.mem_append_right _ List.mem_cons_self)
  have hl := ih fun d hd => h d (List.mem_append_left _ hd)
  rw [List.length_append, List.length_singleton, val_snoc, dg_snoc]
  have e1 : (digitsVal l * 10 + (c - 48)) / 10 = digitsVal l := by omega
  have e2 : 48 + (digitsVal l * 10 + (c - 48)) % 10 = c := by omega
  rw [e1, e2, hl]
theorem val_lt (l : List Nat) (h : ∀ c ∈ l, 48 ≤ c ∧ c ≤ 57) : digitsVal l < 10 ^ l.length := by
  have e := dg_val l.length (digitsVal l)
  rw [dg_of_val l h] at e
  rw [e]
  exact Nat.mod_lt _ (Nat.pow_pos (by decide))
theorem dg_inj {k m n : Nat} (hm : m < 10 ^ k) (hn : n < 10 ^ k) (h : dg m k = dg n k) : m = n := by
  have := congrArg digitsVal h
  rw [dg_val, dg_val, Nat.mod_eq_of_lt hm, Nat.mod_eq_of_lt hn] at this
  exact this
theorem pad {n k : Nat} (hk : 0 < k) (h : n < 10 ^ k) : List.replicate (k - (TL.numL n).length) 48 ++ TL.numL n = dg n k := by
  have hl := TL.numL_len hk h
  have hd : ∀ c ∈ List.replicate (k - (TL.numL n).length) 48 ++ TL.numL n, 48 ≤ c ∧ c ≤ 57 := fun c hc => by
    rcases List.mem_append.mp hc with q | q
    · rw [List.eq_of_mem_replicate q]; decide
    · exact TL.numL_digits n c q
  have e := dg_of_val _ hd
  rw [val_rep, TL.numL_val, List.length_append, List.length_replicate] at e
  have e2 : k - (TL.numL n).length + (TL.numL n).length = k := by omega
  rw [e2] at e
  exact e.symm
/-! ### words of days -/
def isDig (l : List Nat) : Bool := !l.isEmpty && l.all (fun c => decide (48 ≤ c) && decide (c ≤ 57))
theorem isDig_iff {l : List Nat} : isDig l = true ↔ l ≠ [] ∧ ∀ c ∈ l, 48 ≤ c ∧ c ≤ 57 := by
  unfold isDig
  rw [Bool.and_eq_true, List.all_eq_true]
  constructor
  · rintro ⟨h1, h2⟩
    refine ⟨(fun e => by rw [e] at h1; cases h1), fun c hc => ?_⟩
    have := h2 c hc
    rw [Bool.and_eq_true, decide_eq_true_eq, decide_eq_true_eq] at this
    exact this
  · rintro ⟨h1, h2⟩
    constructor
    · cases l with
      | nil => exact absurd rfl h1
      | cons a l => rfl
    · intro c hc
      rw [Bool.and_eq_true, decide_eq_true_eq, decide_eq_true_eq]
      exact h2 c hc
def dw (d m : Int) : List Nat := dg (m / 12 + 1).toNat 4 ++ 45 :: (dg (m % 12 + 1).toNat 2 ++ 45 :: dg (d - Civ.fd m + 1).toNat 2)
def form (w : List Nat) : Bool := decide (w.length = 10) && (decide (w.getD 4 0 = 45) && decide (w.getD 7 0 = 45)) && (isDig (w.take 4) && (isDig ((w.drop 5).take 2) && isDig (w.drop 8)))
def rday (w : List Nat) : Option Int := Civ.dayOf (digitsVal (w.take 4) : Nat) (digitsVal ((w.drop 5).take 2) : Nat) (digitsVal (w.drop 8) : Nat)
def rdw (w : List Nat) : Option Int := if form w = true then (rday w).bind fun d => if 0 ≤ d then some d else none else none
theorem dw_len (d m : Int) : (dw d m).length = 10 := by
  unfold dw
  rw [List.length_append, List.length_cons, List.length_append, List.length_cons, dg_len, dg_len, dg_len]
theorem fd_top : Civ.fd 119988 = 3652059 := by decide
theorem fd_zero : Civ.fd 0 = 0 := by decide
theorem month_range {d m : Int} (h : Civ.IsM d m) (h0 : 0 ≤ d) (h1 : d < 3652059) : 0 ≤ m ∧ m < 119988 := by
  constructor
  · apply Classical.byContradiction
    intro g
    have := Civ.fd_le (show m + 1 ≤ 0 by omega)
    rw [fd_zero] at this
    have := h.2
    omega
  · apply Classical.byContradiction
    intro g
    have := Civ.fd_le (show 119988 ≤ m by omega)
    rw [fd_top] at this
    have := h.1
    omega
theorem split10 {w : List Nat} (h : w.length = 10) : w = w.take 4 ++ w.getD 4 0 :: ((w.drop 5).take 2 ++ w.getD 7 0 :: w.drop 8) := by
  match w, h with
  | [a, b, c, d, e, f, g, i, j, k], _ => rfl
theorem dw_parts (d m : Int) : (dw d m).take 4 = dg (m / 12 + 1).toNat 4 ∧ (dw d m).getD 4 0 = 45 ∧ ((dw d m).drop 5).take 2 = dg (m % 12 + 1).toNat 2 ∧ (dw d m).getD 7 0 = 45 ∧ (dw d m).drop 8 = dg (d - Civ.fd m + 1).toNat 2 := by
  unfold dw
  have h4 := dg_len (m / 12 + 1).toNat 4
  have h2 := dg_len (m % 12 + 1).toNat 2
  have h3 := dg_len (d - Civ.fd m + 1).toNat 2
  generalize dg (m / 12 + 1).toNat 4 = a at h4
  generalize dg (m % 12 + 1).toNat 2 = b at h2
  generalize dg (d - Civ.fd m + 1).toNat 2 = c at h3
  match a, h4, b, h2, c, h3 with
  | [a, b, c, d], _, [e, f], _, [g, i], _ => exact ⟨rfl, rfl, rfl, rfl, rfl⟩
theorem isDig_dg (n k : Nat) : isDig (dg n (k + 1)) = true := isDig_iff.mpr ⟨(fun h => nomatch h), dg_dig n (k + 1)⟩
theorem day_date {d m : Int} (h : Civ.IsM d m) : 1 ≤ d - Civ.fd m + 1 ∧ d - Civ.fd m + 1 ≤ 31 := by
  have h1 := h.1
  have h2 := h.2
  rw [Civ.fd_succ] at h2
  have := Civ.len_le m
  omega
theorem rdw_dw {d m : Int} (h : Civ.IsM d m) (h0 : 0 ≤ d) (h1 : d < 3652059) : rdw (dw d m) = some d := by
  obtain ⟨p1, p2, p3, p4, p5⟩ := dw_parts d m
  have hm := month_range h h0 h1
  have hd := day_date h
  unfold rdw form rday
  rw [p1, p2, p3, p4, p5, dw_len, isDig_dg, isDig_dg, isDig_dg, dg_val, dg_val, dg_val]
  rw [if_pos (by decide)]
  rw [Nat.mod_eq_of_lt (by omega : (m / 12 + 1).toNat < 10 ^ 4), Nat.mod_eq_of_lt (by omega : (m % 12 + 1).toNat < 10 ^ 2), Nat.mod_eq_of_lt (by omega : (d - Civ.fd m + 1).toNat < 10 ^ 2)]
  rw [Int.toNat_of_nonneg (by omega), Int.toNat_of_nonneg (by omega), Int.toNat_of_nonneg (by omega), Civ.dayOf_of h]
  show (if 0 ≤ d then some d else none) = some d
  rw [if_pos h0]
theorem form_of {w : List Nat} (h : form w = true) : w.length = 10 ∧ w.getD 4 0 = 45 ∧ w.getD 7 0 = 45 ∧ isDig (w.take 4) = true ∧ isDig ((w.drop 5).take 2) = true ∧ isDig (w.drop 8) = true := by
  unfold form at h
  rw [Bool.and_eq_true, Bool.and_eq_true, Bool.and_eq_true, Bool.and_eq_true, Bool.and_eq_true, decide_eq_true_eq, decide_eq_true_eq, decide_eq_true_eq] at h
  exact ⟨h.1.1, h.1.2.1, h.1.2.2, h.2.1, h.2.2.1, h.2.2.2⟩
theorem dw_rdw {w : List Nat} {d : Int} (h : rdw w = some d) : 0 ≤ d ∧ d < 3652059 ∧ ∀ m, Civ.IsM d m → dw d m = w := by
  unfold rdw at h
  split at h
  · next f =>
    obtain ⟨f1, f2, f3, f4, f5, f6⟩ := form_of f
    cases e : rday w with
    | none => rw [e] at h; cases h
    | some k =>
      rw [e] at h
      have h' : (if 0 ≤ k then some k else none) = some d := h
      split at h'
      · next k0 =>
        have hk : k = d := Option.some.inj h'
        subst hk
        unfold rday at e
        obtain ⟨i1, i2, i3, i4⟩ := Civ.dayOf_isM e
        have l4 : (w.take 4).length = 4 := by rw [List.length_take, f1]; rfl
        have l2 : ((w.drop 5).take 2).length = 2 := by rw [List.length_take, List.length_drop, f1]; rfl
        have l3 : (w.drop 8).length = 2 := by rw [List.length_drop, f1]
        have b4 := val_lt _ (isDig_iff.mp f4).2
        have b2 := val_lt _ (isDig_iff.mp f5).2
        have b3 := val_lt _ (isDig_iff.mp f6).2
        have w4 := dg_of_val _ (isDig_iff.mp f4).2
        have w2 := dg_of_val _ (isDig_iff.mp f5).2
        have w3 := dg_of_val _ (isDig_iff.mp f6).2
        rw [l4] at b4 w4
        rw [l2] at b2 w2
        rw [l3] at b3 w3
        have sp := split10 f1
        rw [f2, f3] at sp
        generalize digitsVal (w.take 4) = y at *
        generalize digitsVal ((w.drop 5).take 2) = mo at *
        generalize digitsVal (w.drop 8) = da at *
        refine ⟨k0, ?_, fun m hm => ?_⟩
        · have := Civ.fd_le (show 12 * ((y : Int) - 1) + mo - 1 + 1 ≤ 119988 by omega)
          rw [fd_top] at this
          have := i1.2
          omega
        · have em := Civ.IsM.uniq hm i1
          subst em
          have e1 : ((12 * ((y : Int) - 1) + mo - 1) / 12 + 1).toNat = y := by omega
          have e2 : ((12 * ((y : Int) - 1) + mo - 1) % 12 + 1).toNat = mo := by omega
          have e3 : (k - Civ.fd (12 * ((y : Int) - 1) + mo - 1) + 1).toNat = da := by omega
          unfold dw
          rw [e1, e2, e3, w4, w2, w3]
          exact sp.symm
      · cases h'
  · cases h
/-! ### words of minutes -/
def mw (k : Int) : List Nat := dg (k / 60).toNat 2 ++ 46 :: dg (k % 60).toNat 2
def mform (w : List Nat) : Bool := decide (w.length = 5) && decide (w.getD 2 0 = 46) && (isDig (w.take 2) && isDig (w.drop 3))
def rmw (w : List Nat) : Option Int := if mform w = true then (if (24 < digitsVal (w.take 2) ∨ 59 < digitsVal (w.drop 3)) ∨ (digitsVal (w.take 2) = 24 ∧ 0 < digitsVal (w.drop 3)) then none else some (60 * (digitsVal (w.take 2) : Nat) + (digitsVal (w.drop 3) : Nat))) else none
theorem mw_len (k : Int) : (mw k).length = 5 := by
  unfold mw
  rw [List.length_append, List.length_cons, dg_len, dg_len]
theorem mw_parts (k : Int) : (mw k).take 2 = dg (k / 60).toNat 2 ∧ (mw k).getD 2 0 = 46 ∧ (mw k).drop 3 = dg (k % 60).toNat 2 := by
  unfold mw
  have h4 := dg_len (k / 60).toNat 2
  have h2 := dg_len (k % 60).toNat 2
  generalize dg (k / 60).toNat 2 = a at h4
  generalize dg (k % 60).toNat 2 = b at h2
  match a, h4, b, h2 with
  | [a, b], _, [e, f], _ => exact ⟨rfl, rfl, rfl⟩
theorem rmw_mw {k : Int} (h0 : 0 ≤ k) (h1 : k ≤ 1440) : rmw (mw k) = some k := by
  obtain ⟨p1, p2, p3⟩ := mw_parts k
  unfold rmw mform
  rw [p1, p2, p3, mw_len, isDig_dg, isDig_dg, dg_val, dg_val]
  rw [if_pos (by decide)]
  rw [Nat.mod_eq_of_lt (by omega : (k / 60).toNat < 10 ^ 2), Nat.mod_eq_of_lt (by omega : (k % 60).toNat < 10 ^ 2)]
  rw [if_neg (by omega)]
  congr 1
  omega
theorem split5 {w : List Nat} (h : w.length = 5) : w = w.take 2 ++ w.getD 2 0 :: w.drop 3 := by
  match w, h with
  | [a, b, c, d, e], _ => rfl
theorem mw_rmw {w : List Nat} {k : Int} (h : rmw w = some k) : 0 ≤ k ∧ k ≤ 1440 ∧ mw k = w := by
  unfold rmw at h
  split at h
  · next f =>
    unfold mform at f
    rw [Bool.and_eq_true, Bool.and_eq_true, Bool.and_eq_true, decide_eq_true_eq, decide_eq_true_eq] at f
    obtain ⟨⟨f1, f2⟩, f3, f4⟩ := f
    split at h
    · cases h
    · next c =>
      have l2 : (w.take 2).length = 2 := by rw [List.length_take, f1]; rfl
      have l3 : (w.drop 3).length = 2 := by rw [List.length_drop, f1]
      have w2 := dg_of_val _ (isDig_iff.mp f3).2
      have w3 := dg_of_val _ (isDig_iff.mp f4).2
      rw [l2] at w2
      rw [l3] at w3
      have sp := split5 f1
      rw [f2] at sp
      generalize digitsVal (w.take 2) = y at *
      generalize digitsVal (w.drop 3) = mo at *
      cases h
      refine ⟨by omega, by omega, ?_⟩
      have e1 : ((60 * (y : Int) + mo) / 60).toNat = y := by omega
      have e2 : ((60 * (y : Int) + mo) % 60).toNat = mo := by omega
      unfold mw
      rw [e1, e2, w2, w3]
      exact sp.symm
  · cases h
end Dg
/-! words read one after the other, in plain -/
namespace Wd
open PySem PySem.NumText Dg
abbrev W := List Nat
def WD : List W := [[109, 111, 110], [116, 117, 101], [119, 101, 100], [116, 104, 117], [102, 114, 105], [115, 97, 116], [115, 117, 110]]
def MO : List W := [[106, 97, 110], [102, 101, 98], [109, 97, 114], [97, 112, 114], [109, 97, 121], [106, 117, 110], [106, 117, 108], [97, 117, 103], [115, 101, 112], [111, 99, 116], [110, 111, 118], [100, 101, 99]]
def PL : List W := [[102, 105, 114, 115, 116], [115, 101, 99, 111, 110, 100], [116, 104, 105, 114, 100], [102, 111, 117, 114, 116, 104], [102, 105, 102, 116, 104]]
def UN : List W := [[100, 97, 121, 115], [119, 101, 101, 107, 115], [109, 111, 110, 116, 104, 115], [121, 101, 97, 114, 115]]
def dash (l : W) : W := if l.take 1 = [45] then l.drop 1 else l
def rint (l : W) : Option Int :=
  if dash l = [] ∨ 18 < (dash l).length ∨ isDig (dash l) = false then none
  else if (dash l).getD 0 0 = 48 ∧ l ≠ [48] then none
  else some (if l.take 1 = [45] then -((digitsVal (dash l) : Nat) : Int) else ((digitsVal (dash l) : Nat) : Int))
def one (es : List W) (ws : List W) (p : Nat) : Except Nat (W × Nat) := match ws[p]? with
  | some x => if x ∈ es then .ok (x, p + 1) else .error p
  | none => .error p
def int (lo hi : Int) (ws : List W) (p : Nat) : Except Nat (Int × Nat) := match ws[p]?.bind rint with
  | some n => if lo ≤ n ∧ n ≤ hi then .ok (n, p + 1) else .error p
  | none => .error p
theorem numL_head {n : Nat} (h : n ≠ 0) : ∃ c r, TL.numL n = c :: r ∧ c ≠ 48 := by
  have : ∀ m n : Nat, n ≤ m → n ≠ 0 → ∃ c r, TL.numL n = c :: r ∧ c ≠ 48 := by
    intro m
    induction m with
    | zero => intro n h1 h2; omega
    | succ m ih =>
      intro n h1 h2
      by_cases h : n < 10
      · rw [TL.numL_lt h]
        exact ⟨48 + n, [], rfl, by omega⟩
      · rw [TL.numL_step (by omega)]
        obtain ⟨c, r, e, hc⟩ := ih (n / 10) (by omega) (by omega)
        rw [e]
        exact ⟨c, r ++ [48 + n % 10], rfl, hc⟩
  exact this n n (Nat.le_refl _) h
theorem isDig_num (n : Nat) : isDig (TL.numL n) = true := isDig_iff.mpr ⟨TL.numL_ne n, TL.numL_digits n⟩
theorem dash_dig {l : W} (h : isDig l = true) : dash l = l ∧ ¬ l.take 1 = [45] := by
  have : ¬ l.take 1 = [45] := fun e => by
    cases l with
    | nil => cases e
    | cons c r =>
      have hc := (isDig_iff.mp h).2 c List.mem_cons_self
      have : c = 45 := by simpa using e
      omega
  exact ⟨if_neg this, this⟩
theorem rint_num {n : Nat} (h : n < 10 ^ 18) : rint (TL.numL n) = some (n : Int) := by
  obtain ⟨d1, d2⟩ := dash_dig (isDig_num n)
  have hl := TL.numL_len (k := 18) (by decide) h
  unfold rint
  rw [d1, isDig_num, if_neg (fun z => z.elim (TL.numL_ne n) fun z => z.elim (fun z => by omega) fun z => by cases z), if_neg d2, TL.numL_val]
  refine if_neg fun z => ?_
  by_cases h0 : n = 0
  · subst h0; exact z.2 (by decide)
  · obtain ⟨c, r, e, hc⟩ := numL_head h0
    rw [e] at z
    exact hc z.1
/-- a whole text's words -/
def cutw (t : W) : List W := TL.spl [32] 0 [] t
def txt (ws : List W) : W := TL.joinL [32] ws
theorem cutw_txt {ws : List W} (h : ws ≠ []) (g : ∀ x ∈ ws, 32 ∉ x) : cutw (txt ws) = ws := SX.spl_join h g
end Wd
/-! new objects, cuts of lists, joins -/
namespace Q
open PySem PySem.Spec PyProof.Rows L2 SX
theorem same_new7 {H : Hp} {p : Addr} {o : HO} (h : H p = none) : Same H (upd H p o) := fun b x e => by
  rw [upd_ne (ne_of_none e h)]; exact e
section
variable {K : PySem.W.Frag} {σ : L2.St} {H H' : Hp} {ta : TA} {te to : TE} {Q : VK} {p l b : Addr} {xs ys zs : List V}
/-- a new list, a new tuple -/
abbrev NewL (xs : List V) (H : Hp) (Q : VK) : Prop := xs.length ≤ sizeLine ∧ ∀ p, H p = none → Q (.ref p) (upd H p (.lst xs))
abbrev NewT (xs : List V) (H : Hp) (Q : VK) : Prop := xs.length ≤ sizeLine ∧ ∀ p, H p = none → Q (.ref p) (upd H p (.tup xs))
theorem g_lstN (q : ta σ H fun xs H1 => NewL xs H1 Q) : tLst ta σ H Q := q
theorem g_tupN (q : ta σ H fun xs H1 => NewT xs H1 Q) : tTup ta σ H Q := q
theorem nwL (e : xs = ys) (hn : ys.length ≤ 1000000) (q : ∀ p H', H p = none → Same H H' → H' p = some (.lst ys) → Q (.ref p) H') : NewL xs H Q := by
  subst e
  exact ⟨Nat.le_trans hn sizeBig, fun p hp => q p _ hp (same_new7 hp) upd_same⟩
theorem nwT (e : xs = ys) (hn : ys.length ≤ 1000000) (q : ∀ p H', H p = none → Same H H' → H' p = some (.tup ys) → Q (.ref p) H') : NewT xs H Q := by
  subst e
  exact ⟨Nat.le_trans hn sizeBig, fun p hp => q p _ hp (same_new7 hp) upd_same⟩
theorem g_cat (hl : H l = some (.lst xs)) (hb : H b = some (.lst zs)) (e : xs ++ zs = ys) (hn : ys.length ≤ 1000000) (q : ∀ p H', H p = none → Same H H' → H' p = some (.lst ys) → Q (.ref p) H') : rCat (.ref l) (.ref b) H Q := by
  subst e
  refine ⟨l, b, xs, zs, rfl, rfl, hl, hb, ?_, fun p hp => q p _ hp (same_new7 hp) upd_same⟩
  rw [← List.length_append]
  exact Nat.le_trans hn sizeBig
theorem cutV_to {n : Nat} (h : n ≤ xs.length) : cutV xs none (some (n : Int)) = xs.take n := by
  unfold cutV
  rw [HT.sIx_none, HT.sIx_nat, List.drop_zero, Nat.sub_zero, Nat.min_eq_left h]
theorem cutV_from {n : Nat} (h : n ≤ xs.length) : cutV xs (some (n : Int)) none = xs.drop n := by
  unfold cutV
  rw [HT.sIx_none, HT.sIx_nat, Nat.min_eq_left h]
  exact List.take_of_length_le (by rw [List.length_drop]; exact Nat.le_refl _)
theorem g_slL {lo hi : Option Int} (hl : SqL K H l xs) (e : cutV xs lo hi = ys) (q : ∀ p H', H p = none → Same H H' → H' p = some (.lst ys) → Q (.ref p) H') : rSlL K (.ref l) lo hi H Q := by
  subst e
  exact ⟨l, xs, rfl, hl, fun p hp => q p _ hp (same_new7 hp) upd_same⟩
end
end Q
/-! days told from today, in plain -/
namespace Civ
theorem climb {f : Nat → Int} {r : Int} (h0 : f 0 ≤ r) : ∀ N : Nat, r < f N → ∃ n, f n ≤ r ∧ r < f (n + 1)
  | 0, h => absurd h0 (by omega)
  | N + 1, h => by
    by_cases g : f N ≤ r
    · exact ⟨N, g, h⟩
    · exact climb h0 N (by omega)
theorem exists_isM (d : Int) : ∃ m, IsM d m := by
  obtain ⟨n, h1, h2⟩ := climb (f := fun n => fd (n : Int)) (r := d % 146097) (by show fd 0 ≤ _; rw [show fd 0 = 0 by decide]; omega) 4800 (by show _ < fd 4800; rw [show fd 4800 = 146097 by decide]; omega)
  have := IsM.cycle (c := d / 146097) (d := d % 146097) (m := n) ⟨h1, h2⟩
  rw [show d % 146097 + 146097 * (d / 146097) = d by omega] at this
  exact ⟨_, this⟩
noncomputable def mOf (d : Int) : Int := Classical.choose (exists_isM d)
theorem mOf_is (d : Int) : IsM d (mOf d) := Classical.choose_spec (exists_isM d)
theorem IsM.eq {d m : Int} (h : IsM d m) : m = mOf d := h.uniq (mOf_is d)
def nthw (m k wd : Int) : Option Int :=
  let day := if k < 0 then fd m + len m - 1 - (fd m + len m - 1 - wd) % 7 + 7 * (k + 1) else fd m + (wd - fd m) % 7 + 7 * (k - 1)
  if k ≠ 0 ∧ fd m ≤ day ∧ day < fd m + len m then some day else none
noncomputable def addm (d k : Int) : Int := fd (mOf d + k) + (if len (mOf d + k) - 1 < d - fd (mOf d) then len (mOf d + k) - 1 else d - fd (mOf d))
end Civ
namespace Wd
open PySem PySem.NumText Dg
def TODAY : W := [116, 111, 100, 97, 121]
def TOMO : W := [116, 111, 109, 111, 114, 114, 111, 119]
def YEST : W := [121, 101, 115, 116, 101, 114, 100, 97, 121]
def NEXT : W := [110, 101, 120, 116]
def LAST : W := [108, 97, 115, 116]
def IN : W := [105, 110]
def AGO : W := [97, 103, 111]
def OF : W := [111, 102]
def DAY : W := [100, 97, 121]
def DAYS : W := [100, 97, 121, 115]
def WEEKS : W := [119, 101, 101, 107, 115]
def MONTHS : W := [109, 111, 110, 116, 104, 115]
def YEARS : W := [121, 101, 97, 114, 115]
def idx (es : List W) (w : W) : Int := (es.idxOf w : Nat)
theorem idx_at {es : List W} {w : W} (h : w ∈ es) : es[es.idxOf w]? = some w := by
  rw [List.getElem?_eq_getElem (List.idxOf_lt_length_of_mem h), List.getElem_idxOf]
theorem idx_no {es : List W} {w : W} {m : Nat} (h : m < es.idxOf w) : es[m]? ≠ some w := fun e => by
  have hm : m < es.length := Nat.lt_of_lt_of_le h (List.idxOf_le_length)
  rw [List.getElem?_eq_getElem hm] at e
  have := List.not_of_lt_findIdx (p := (· == w)) (xs := es) (i := m) h
  rw [Option.some.inj e] at this
  simp at this
noncomputable def later (d n : Int) (u : W) : Int := if u = DAYS then d + n else if u = WEEKS then d + 7 * n else if u = MONTHS then Civ.addm d n else Civ.addm d (12 * n)
def nextw (d wd : Int) : Int := d + 1 + (wd - d - 1) % 7
def lastw (d wd : Int) : Int := d - 1 - (d - 1 - wd) % 7
noncomputable def takeMonth (today : Int) (ws : List W) (p : Nat) : Except Nat (Int × Nat) := match one MO ws p with
  | .error e => .error e
  | .ok (w, p) => match ws[p]? with
    | some _ => match int 1 9999 ws p with
      | .error e => .error e
      | .ok (y, p) => .ok (12 * (y - 1) + idx MO w, p)
    | none => .ok (Civ.mOf today + (idx MO w - Civ.mOf today) % 12, p)
noncomputable def takeIn (today k : Int) (ws : List W) (p : Nat) : Except Nat (Int × Nat) := match one (WD ++ [DAY]) ws p with
  | .error e => .error e
  | .ok (w, p1) => match one [OF] ws p1 with
    | .error e => .error e
    | .ok (_, p2) => match takeMonth today ws p2 with
      | .error e => .error e
      | .ok (m, p3) => if w = DAY then .ok ((if k < 0 then Civ.fd m + Civ.len m + k else Civ.fd m + k - 1), p3) else match Civ.nthw m k (idx WD w) with
        | some d => .ok (d, p3)
        | none => .error p
noncomputable def inUnits (today : Int) (ws : List W) : Except Nat (Int × Nat) := match int 0 100000 ws 1 with
  | .error e => .error e
  | .ok (n, p) => match one UN ws p with
    | .error e => .error e
    | .ok (u, p) => .ok (later today n u, p)
noncomputable def ago (today n : Int) (ws : List W) : Except Nat (Int × Nat) := match one UN ws 1 with
  | .error e => .error e
  | .ok (u, p) => match one [AGO] ws p with
    | .error e => .error e
    | .ok (_, p) => .ok (later today (-n) u, p)
def nextWd (today : Int) (ws : List W) : Except Nat (Int × Nat) := match one WD ws 1 with
  | .error e => .error e
  | .ok (v, p) => .ok (nextw today (idx WD v), p)
def lastOk (ws : List W) : Bool := decide (ws.length = 2) && decide (ws.getD 1 [] ∈ WD)
def numOk (w : W) : Option Int := (rint w).bind fun n => if 0 ≤ n ∧ n ≤ 100000 then some n else none
noncomputable def when (today : Int) (ws : List W) : Except Nat (Int × Nat) := match ws[0]? with
  | none => .error 0
  | some w =>
    if w ∈ [TODAY, TOMO, YEST] then .ok (today + idx [YEST, TODAY, TOMO] w - 1, 1)
    else if w = NEXT then nextWd today ws
    else if w = LAST ∧ lastOk ws = true then .ok (lastw today (idx WD (ws.getD 1 [])), 2)
    else if w = LAST then takeIn today (-1) ws 1
    else if w ∈ PL then takeIn today (idx PL w + 1) ws 1
    else if w = IN then inUnits today ws
    else if w ∈ WD then .ok (today + (idx WD w - today % 7) % 7, 1)
    else match numOk w with
      | some n => ago today n ws
      | none => match rdw w with
        | some d => .ok (d, 1)
        | none => .error 0
noncomputable def readw (today : Int) (ws : List W) : Except Nat Int := match when today ws with
  | .error e => .error e
  | .ok (d, p) => if p < ws.length then .error p else .ok d
theorem one_le {es ws : List W} {p p' : Nat} {v : W} (h : one es ws p = .ok (v, p')) : p' = p + 1 := by
  unfold one at h
  split at h
  · split at h
    · cases h; rfl
    · cases h
  · cases h
theorem int_le {lo hi : Int} {ws : List W} {p p' : Nat} {v : Int} (h : int lo hi ws p = .ok (v, p')) : p' = p + 1 := by
  unfold int at h
  split at h
  · split at h
    · cases h; rfl
    · cases h
  · cases h
theorem month_le {today : Int} {ws : List W} {p p' : Nat} {v : Int} (h : takeMonth today ws p = .ok (v, p')) : p' ≤ p + 2 := by
  unfold takeMonth at h
  split at h
  · cases h
  · next w p1 e =>
    have := one_le e
    split at h
    · split at h
      · cases h
      · next y p2 e2 => have := int_le e2; cases h; omega
    · cases h; omega
theorem in_le {today k : Int} {ws : List W} {p p' : Nat} {v : Int} (h : takeIn today k ws p = .ok (v, p')) : p' ≤ p + 4 := by
  unfold takeIn at h
  split at h
  · cases h
  · next w p1 e1 =>
    have := one_le e1
    split at h
    · cases h
    · next w2 p2 e2 =>
      have := one_le e2
      split at h
      · cases h
      · next m p3 e3 =>
        have := month_le e3
        split at h
        · cases h; omega
        · split at h
          · cases h; omega
          · cases h
theorem when_le {today : Int} {ws : List W} {p : Nat} {v : Int} (h : when today ws = .ok (v, p)) : p ≤ 10 := by
  unfold when at h
  split at h
  · cases h
  · split at h
    · cases h; omega
    split at h
    · unfold nextWd at h
      split at h
      · cases h
      · next e => have := one_le e; cases h; omega
    split at h
    · cases h; omega
    split at h
    · have := in_le h; omega
    split at h
    · have := in_le h; omega
    split at h
    · unfold inUnits at h
      split at h
      · cases h
      · next e =>
        have := int_le e
        split at h
        · cases h
        · next e2 => have := one_le e2; cases h; omega
    split at h
    · cases h; omega
    split at h
    · unfold ago at h
      split at h
      · cases h
      · next e =>
        have := one_le e
        split at h
        · cases h
        · next e2 => have := one_le e2; cases h; omega
    split at h
    · cases h; omega
    · cases h
end Wd
/-! the days of a month by weekday, in plain -/
namespace Wd
open PySem PySem.NumText Dg
/-- how often a weekday comes in L days, the first time at o -/
def cnt (o L : Nat) : Nat := (L + 6 - o) / 7
theorem days_filter (f : Int) (o : Nat) (ho : o < 7) (wd : Int) (hw : (f + o) % 7 = wd % 7) : ∀ L : Nat,
    ((List.range L).map fun (i : Nat) => f + i).filter (fun d => decide (d % 7 = wd % 7)) = (List.range (cnt o L)).map fun (j : Nat) => f + o + 7 * j
  | 0 => by
    have : cnt o 0 = 0 := by unfold cnt; omega
    rw [this]; rfl
  | L + 1 => by
    rw [List.range_succ, List.map_append, List.filter_append, days_filter f o ho wd hw L]
    by_cases h : (f + (L : Int)) % 7 = wd % 7
    · have e1 : cnt o (L + 1) = cnt o L + 1 := by unfold cnt; omega
      have e2 : f + (L : Int) = f + o + 7 * ((cnt o L : Nat) : Int) := by unfold cnt; omega
      rw [e1, List.range_succ, List.map_append]
      congr 1
      show (List.filter _ [f + (L : Int)]) = [f + o + 7 * ((cnt o L : Nat) : Int)]
      rw [List.filter_cons_of_pos (by exact decide_eq_true h), ← e2]; rfl
    · have e1 : cnt o (L + 1) = cnt o L := by unfold cnt; omega
      rw [e1]
      show _ ++ (List.filter _ [f + (L : Int)]) = _
      rw [List.filter_cons_of_neg (by rw [decide_eq_false h]; decide)]
      simp
/-- the days of the month m: all, or those of a weekday -/
def mdays (m : Int) (w : W) : List Int := if w = DAY then (List.range (Civ.len m).toNat).map fun (i : Nat) => Civ.fd m + i
  else ((List.range (Civ.len m).toNat).map fun (i : Nat) => Civ.fd m + i).filter (fun d => decide (d % 7 = idx WD w))
def FIVE : List W := PL ++ [LAST]
def inm (m : Int) (pl w : W) : Option Int := if idx FIVE pl = 5 then (mdays m w)[(mdays m w).length - 1]? else (mdays m w)[(idx FIVE pl).toNat]?
theorem idx_lt {es : List W} {w : W} (h : w ∈ es) : 0 ≤ idx es w ∧ idx es w < es.length := by
  unfold idx
  have := List.idxOf_lt_length_of_mem h
  omega
theorem off_of (f wd : Int) (h0 : 0 ≤ wd) (h7 : wd < 7) : ∃ o : Nat, o < 7 ∧ (f + o) % 7 = wd % 7 ∧ (wd - f) % 7 = o := by
  obtain ⟨o, ho⟩ := Int.eq_ofNat_of_zero_le (show 0 ≤ (wd - f) % 7 by omega)
  exact ⟨o, by omega, by omega, ho⟩
theorem wd_days {m : Int} {w : W} (hw : w ∈ WD) : ∃ o : Nat, o < 7 ∧ (idx WD w - Civ.fd m) % 7 = o ∧ mdays m w = (List.range (cnt o (Civ.len m).toNat)).map fun (j : Nat) => Civ.fd m + o + 7 * j := by
  have hi := idx_lt hw
  have hl : (WD.length : Int) = 7 := rfl
  obtain ⟨o, o7, h1, h2⟩ := off_of (Civ.fd m) (idx WD w) hi.1 (by omega)
  refine ⟨o, o7, h2, ?_⟩
  have hd : w ≠ DAY := fun e => by rw [e] at hw; revert hw; decide
  unfold mdays
  rw [if_neg hd]
  have := days_filter (Civ.fd m) o o7 (idx WD w) h1 (Civ.len m).toNat
  rw [← this]
  congr 1
  funext d
  congr 1
  have e : idx WD w % 7 = idx WD w := by omega
  rw [e]
/-- a weekday for the k-th time -/
theorem nth_at {m : Int} {w : W} (hw : w ∈ WD) (j : Nat) : Civ.nthw m ((j : Int) + 1) (idx WD w) = (mdays m w)[j]? := by
  obtain ⟨o, o7, ho, e⟩ := wd_days (m := m) hw
  have hl := Civ.len_le m
  rw [e]
  unfold Civ.nthw
  have e1 : ¬ ((j : Int) + 1 < 0) := by omega
  simp only [if_neg e1, ho]
  rw [List.getElem?_map]
  by_cases h : j < cnt o (Civ.len m).toNat
  · rw [List.getElem?_eq_getElem (by rw [List.length_range]; exact h), List.getElem_range]
    unfold cnt at h
    rw [if_pos ⟨by omega, by omega, by omega⟩]
    show some _ = some (Civ.fd m + o + 7 * (j : Int))
    congr 1
    omega
  · rw [List.getElem?_eq_none (by rw [List.length_range]; omega)]
    unfold cnt at h
    rw [if_neg (by omega)]; rfl
theorem nth_last {m : Int} {w : W} (hw : w ∈ WD) : Civ.nthw m (-1) (idx WD w) = (mdays m w)[(mdays m w).length - 1]? := by
  obtain ⟨o, o7, ho, e⟩ := wd_days (m := m) hw
  have hl := Civ.len_le m
  rw [e, List.length_map, List.length_range]
  unfold Civ.nthw
  simp only [if_pos (show (-1 : Int) < 0 by decide)]
  have hc : 0 < cnt o (Civ.len m).toNat := by unfold cnt; omega
  rw [List.getElem?_map, List.getElem?_eq_getElem (by rw [List.length_range]; omega), List.getElem_range]
  have hv : Civ.fd m + Civ.len m - 1 - (Civ.fd m + Civ.len m - 1 - idx WD w) % 7 + 7 * (-1 + 1) = Civ.fd m + o + 7 * ((cnt o (Civ.len m).toNat - 1 : Nat) : Int) := by
    unfold cnt
    omega
  rw [hv, if_pos ⟨by decide, by omega, by unfold cnt at hc ⊢; omega⟩]; rfl
theorem day_len (m : Int) : (mdays m DAY).length = (Civ.len m).toNat := by
  unfold mdays
  rw [if_pos rfl, List.length_map, List.length_range]
theorem day_at {m : Int} {j : Nat} (h : j < (Civ.len m).toNat) : (mdays m DAY)[j]? = some (Civ.fd m + j) := by
  unfold mdays
  rw [if_pos rfl, List.getElem?_map, List.getElem?_eq_getElem (by rw [List.length_range]; exact h), List.getElem_range]; rfl
theorem mdays_len {m : Int} {w : W} (hw : w ∈ WD ++ [DAY]) : 0 < (mdays m w).length ∧ (mdays m w).length ≤ 31 := by
  have hl := Civ.len_le m
  by_cases h : w = DAY
  · rw [h, day_len]; omega
  · have hw2 : w ∈ WD := (List.mem_append.mp hw).elim id fun z => absurd (List.mem_singleton.mp z) h
    obtain ⟨o, o7, _, e⟩ := wd_days (m := m) hw2
    rw [e, List.length_map, List.length_range]
    unfold cnt
    omega
/-- the one day of seven, the one month of twelve -/
theorem one7 (lo r : Int) (h0 : 0 ≤ r) (h1 : r < 7) : ((List.range 7).map fun (i : Nat) => lo + i).filter (fun d => decide (d % 7 = r)) = [lo + (r - lo) % 7] := by
  obtain ⟨o, o7, e1, e2⟩ := off_of lo r h0 h1
  have := days_filter lo o o7 r e1 7
  have hc : cnt o 7 = 1 := by unfold cnt; omega
  rw [show r % 7 = r by omega, hc] at this
  rw [this, e2]
  show [lo + o + 7 * ((0 : Nat) : Int)] = _
  congr 1; omega
theorem one12 (lo r : Int) (h0 : 0 ≤ r) (h1 : r < 12) : ((List.range 12).map fun (i : Nat) => lo + i).filter (fun d => decide (d % 12 = r)) = [lo + (r - lo) % 12] := by
  have key : ∀ L : Nat, L ≤ 12 → ((List.range L).map fun (i : Nat) => lo + i).filter (fun d => decide (d % 12 = r)) = if (r - lo) % 12 < L then [lo + (r - lo) % 12] else [] := by
    intro L
    induction L with
    | zero => intro _; rw [if_neg (by omega)]; rfl
    | succ L ih =>
      intro hL
      rw [List.range_succ, List.map_append, List.filter_append, ih (by omega)]
      by_cases h : (lo + (L : Int)) % 12 = r
      · rw [if_neg (by omega), if_pos (by omega)]
        show [] ++ (List.filter _ [lo + (L : Int)]) = _
        rw [List.filter_cons_of_pos (by exact decide_eq_true h)]
        show [lo + (L : Int)] = _
        congr 1; omega
      · show _ ++ (List.filter _ [lo + (L : Int)]) = _
        rw [List.filter_cons_of_neg (by rw [decide_eq_false h]; decide), List.filter_nil, List.append_nil]
        by_cases g : (r - lo) % 12 < L
        · rw [if_pos g, if_pos (by omega)]
        · rw [if_neg g, if_neg (by omega)]
  rw [key 12 (Nat.le_refl _), if_pos (by omega)]
end Wd
/-! the ways of telling a day, in plain -/
namespace Wd
open PySem PySem.NumText Dg
def WRONG : List W := [[63], [77, 111, 110], [], [45, 49]]
def XX : W := [120]
theorem one_mem {es ws : List W} {p : Nat} {v : W} (h : ws[p]? = some v) (m : v ∈ es) : one es ws p = .ok (v, p + 1) := by
  unfold one; rw [h]; exact if_pos m
theorem one_not {es ws : List W} {p : Nat} {v : W} (h : ws[p]? = some v) (m : v ∉ es) : one es ws p = .error p := by
  unfold one; rw [h]; exact if_neg m
theorem one_none {es ws : List W} {p : Nat} (h : ws[p]? = none) : one es ws p = .error p := by
  unfold one; rw [h]
theorem int_at {lo hi : Int} {ws : List W} {p : Nat} {v : W} {n : Int} (h : ws[p]? = some v) (r : rint v = some n) (m : lo ≤ n ∧ n ≤ hi) : int lo hi ws p = .ok (n, p + 1) := by
  unfold int; rw [h]; show (match rint v with | some n => _ | none => _) = _; rw [r]; exact if_pos m
theorem int_bad {lo hi : Int} {ws : List W} {p : Nat} {v : W} (h : ws[p]? = some v) (r : ∀ n, rint v = some n → ¬ (lo ≤ n ∧ n ≤ hi)) : int lo hi ws p = .error p := by
  unfold int; rw [h]; show (match rint v with | some n => _ | none => _) = _
  cases e : rint v with
  | none => rfl
  | some n => exact if_neg (r n e)
theorem int_none {lo hi : Int} {ws : List W} {p : Nat} (h : ws[p]? = none) : int lo hi ws p = .error p := by
  unfold int; rw [h]; rfl
/-- no keyword -/
def KEYS : List W := [TODAY, TOMO, YEST, NEXT, LAST, IN] ++ PL ++ WD
theorem when_free {today : Int} {ws : List W} {w : W} (h : ws[0]? = some w) (k : w ∉ KEYS) : when today ws = (match numOk w with
        | some n => ago today n ws
        | none => match rdw w with
          | some d => .ok (d, 1)
          | none => .error 0) := by
  have k1 : w ∉ [TODAY, TOMO, YEST] := fun z => k (List.mem_append_left _ (List.mem_append_left _ (by
    simp only [List.mem_cons, List.not_mem_nil, or_false] at z ⊢; rcases z with r | r | r <;> simp [r])))
  have k2 : w ≠ NEXT := fun z => k (by rw [z]; decide)
  have k3 : w ≠ LAST := fun z => k (by rw [z]; decide)
  have k4 : w ∉ PL := fun z => k (List.mem_append_left _ (List.mem_append_right _ z))
  have k5 : w ≠ IN := fun z => k (by rw [z]; decide)
  have k6 : w ∉ WD := fun z => k (List.mem_append_right _ z)
  unfold when
  rw [h]
  show (if w ∈ [TODAY, TOMO, YEST] then _ else _) = _
  rw [if_neg k1, if_neg k2, if_neg (fun z => k3 z.1), if_neg k3, if_neg k4, if_neg k5, if_neg k6]
  try rfl
theorem wrong_facts : ∀ x ∈ WRONG, x ∉ KEYS ∧ numOk x = none ∧ rdw x = none ∧ x ∉ UN ∧ x ∉ MO ∧ x ∉ WD ++ [DAY] ∧ x ∉ [OF] ∧ x ∉ [AGO] ∧ x ∉ WD ∧ (∀ n, rint x = some n → n < 0) ∧ 32 ∉ x ∧ x.length ≤ 3 := by
  have h : ∀ x ∈ WRONG, x ∉ KEYS ∧ numOk x = none ∧ rdw x = none ∧ x ∉ UN ∧ x ∉ MO ∧ x ∉ WD ++ [DAY] ∧ x ∉ [OF] ∧ x ∉ [AGO] ∧ x ∉ WD ∧ (rint x = none ∨ rint x = some (-1)) ∧ 32 ∉ x ∧ x.length ≤ 3 := by decide +kernel
  intro x hx
  obtain ⟨a, b, c, d, e, f, g, i, j, k, l, m⟩ := h x hx
  refine ⟨a, b, c, d, e, f, g, i, j, fun n hn => ?_, l, m⟩
  rcases k with k | k
  · rw [k] at hn; cases hn
  · rw [k] at hn; cases hn; decide
theorem readw_err {today : Int} {ws : List W} {e : Nat} (h : when today ws = .error e) : readw today ws = .error e := by
  unfold readw; rw [h]
theorem readw_fin {today d : Int} {ws : List W} {p : Nat} (h : when today ws = .ok (d, p)) : readw today ws = if p < ws.length then .error p else .ok d := by
  unfold readw; rw [h]
theorem first_wrong {today : Int} {ws : List W} {x : W} (h : ws[0]? = some x) (hx : x ∈ WRONG) : readw today ws = .error 0 := by
  obtain ⟨a, b, c, _⟩ := wrong_facts x hx
  refine readw_err ?_
  rw [when_free h a, b, c]
structure Good (today : Int) (ws : List W) (d : Int) : Prop where
  ok : readw today ws = .ok d
  bad : ∀ i < ws.length, ∀ x ∈ WRONG, readw today (ws.set i x) = .error i
  more : readw today (ws ++ [XX]) = .error ws.length
/-! way 0 -/
theorem when_day {today : Int} {ws : List W} {w : W} (h : ws[0]? = some w) (k : w ∈ [TODAY, TOMO, YEST]) : when today ws = .ok (today + idx [YEST, TODAY, TOMO] w - 1, 1) := by
  unfold when; rw [h]; exact if_pos k
theorem good0 {today : Int} {w : W} (k : w ∈ [YEST, TODAY, TOMO]) : Good today [w] (today + idx [YEST, TODAY, TOMO] w - 1) := by
  have k' : w ∈ [TODAY, TOMO, YEST] := by
    simp only [List.mem_cons, List.not_mem_nil, or_false] at k ⊢
    rcases k with r | r | r <;> simp [r]
  refine ⟨?_, fun i hi x hx => ?_, ?_⟩
  · rw [readw_fin (when_day rfl k')]; rfl
  · have : i = 0 := by have : [w].length = 1 := rfl; omega
    subst this
    exact first_wrong rfl hx
  · rw [readw_fin (when_day rfl k')]; rfl
/-! ways 1, 2, 3 -/
theorem when_next {today : Int} {ws : List W} (h : ws[0]? = some NEXT) : when today ws = nextWd today ws := by
  unfold when; rw [h]
  show (if NEXT ∈ [TODAY, TOMO, YEST] then _ else _) = _
  rw [if_neg (by decide), if_pos rfl]
theorem good1 {today : Int} {v : W} (k : v ∈ WD) : Good today [NEXT, v] (nextw today (idx WD v)) := by
  refine ⟨?_, fun i hi x hx => ?_, ?_⟩
  · refine (readw_fin (d := nextw today (idx WD v)) (p := 2) ?_).trans rfl
    rw [when_next rfl]; unfold nextWd; rw [one_mem (v := v) rfl k]
  · match i, hi with
    | 0, _ => exact first_wrong rfl hx
    | 1, _ =>
      refine readw_err ?_
      rw [when_next rfl]; unfold nextWd; rw [one_not (v := x) rfl (wrong_facts x hx).2.2.2.2.2.2.2.2.1]
  · refine (readw_fin (d := nextw today (idx WD v)) (p := 2) ?_).trans rfl
    rw [when_next rfl]; unfold nextWd; rw [one_mem (v := v) rfl k]
theorem when_last {today : Int} {ws : List W} (h : ws[0]? = some LAST) : when today ws = if lastOk ws = true then .ok (lastw today (idx WD (ws.getD 1 [])), 2) else takeIn today (-1) ws 1 := by
  unfold when; rw [h]
  show (if LAST ∈ [TODAY, TOMO, YEST] then _ else _) = _
  rw [if_neg (by decide), if_neg (by decide)]
  by_cases g : lastOk ws = true
  · rw [if_pos ⟨rfl, g⟩, if_pos g]
  · rw [if_neg (fun z => g z.2), if_pos rfl, if_neg g]
theorem in_word {today k : Int} {ws : List W} {p : Nat} {x : W} (h : ws[p]? = some x) (hx : x ∉ WD ++ [DAY]) : takeIn today k ws p = .error p := by
  unfold takeIn; rw [one_not h hx]
theorem in_of {today k : Int} {ws : List W} {p : Nat} {w x : W} (h : ws[p]? = some w) (hw : w ∈ WD ++ [DAY]) (h1 : ws[p + 1]? = some x) (hx : x ∉ [OF]) : takeIn today k ws p = .error (p + 1) := by
  unfold takeIn; rw [one_mem h hw]
  show (match one [OF] ws (p + 1) with | .error e => _ | .ok (_, p2) => _) = _
  rw [one_not h1 hx]
theorem good2 {today : Int} {v : W} (k : v ∈ WD) : Good today [LAST, v] (lastw today (idx WD v)) := by
  have ho : lastOk [LAST, v] = true := by
    show (decide (2 = 2) && decide (v ∈ WD)) = true
    rw [decide_eq_true k]; rfl
  refine ⟨?_, fun i hi x hx => ?_, ?_⟩
  · refine (readw_fin (d := lastw today (idx WD v)) (p := 2) ?_).trans rfl
    rw [when_last rfl, if_pos ho]; rfl
  · match i, hi with
    | 0, _ => exact first_wrong rfl hx
    | 1, _ =>
      obtain ⟨_, _, _, _, _, f, _, _, j, _⟩ := wrong_facts x hx
      have hn : ¬ lastOk [LAST, x] = true := by
        intro z
        have z : (decide (2 = 2) && decide (x ∈ WD)) = true := z
        rw [decide_eq_false j, Bool.and_false] at z
        cases z
      refine readw_err ?_
      show when today [LAST, x] = _
      rw [when_last rfl, if_neg hn, in_word (x := x) rfl f]
  · have hn : ¬ lastOk [LAST, v, XX] = true := by
      intro z
      have z : (decide (3 = 2) && decide (v ∈ WD)) = true := z
      rw [decide_eq_false (by decide : ¬ 3 = 2), Bool.false_and] at z
      cases z
    refine readw_err ?_
    show when today [LAST, v, XX] = _
    rw [when_last rfl, if_neg hn, in_of (w := v) (x := XX) rfl (List.mem_append_left _ k) rfl (by decide)]; rfl
theorem wd_free : ∀ v ∈ WD, v ∉ [TODAY, TOMO, YEST] ∧ v ≠ NEXT ∧ v ≠ LAST ∧ v ∉ PL ∧ v ≠ IN := by decide
theorem when_wd {today : Int} {ws : List W} {v : W} (h : ws[0]? = some v) (k : v ∈ WD) : when today ws = .ok (today + (idx WD v - today % 7) % 7, 1) := by
  obtain ⟨a, b, c, d, e⟩ := wd_free v k
  unfold when; rw [h]
  show (if v ∈ [TODAY, TOMO, YEST] then _ else _) = _
  rw [if_neg a, if_neg b, if_neg (fun z => c z.1), if_neg c, if_neg d, if_neg e, if_pos k]
theorem good3 {today : Int} {v : W} (k : v ∈ WD) : Good today [v] (today + (idx WD v - today % 7) % 7) := by
  refine ⟨?_, fun i hi x hx => ?_, ?_⟩
  · rw [readw_fin (when_wd rfl k)]; rfl
  · have : i = 0 := by have : [v].length = 1 := rfl; omega
    subst this
    exact first_wrong rfl hx
  · rw [readw_fin (when_wd rfl k)]; rfl
/-! ways 4, 5 -/
def headBig : W → Bool
  | c :: _ => decide (57 < c)
  | [] => false
theorem not_key {es : List W} {w : W} (hw : headBig w = false) (h : es.all headBig = true) : w ∉ es := fun m => by
  have := List.all_eq_true.mp h w m
  rw [hw] at this; cases this
theorem num_small (n : Nat) : headBig (TL.numL n) = false := by
  have := TL.numL_digits n
  cases e : TL.numL n with
  | nil => rfl
  | cons c r =>
    rw [e] at this
    have := (this c List.mem_cons_self).2
    show decide (57 < c) = false
    exact decide_eq_false (by omega)
theorem when_in {today : Int} {ws : List W} (h : ws[0]? = some IN) : when today ws = inUnits today ws := by
  unfold when; rw [h]
  show (if IN ∈ [TODAY, TOMO, YEST] then _ else _) = _
  rw [if_neg (by decide), if_neg (by decide), if_neg (fun z => absurd z.1 (by decide)), if_neg (by decide), if_neg (by decide), if_pos rfl]
theorem good4 {today : Int} {n : Nat} {u : W} (hn : n ≤ 100000) (k : u ∈ UN) : Good today [IN, TL.numL n, u] (later today n u) := by
  have rn : rint (TL.numL n) = some (n : Int) := rint_num (Nat.lt_of_le_of_lt hn (by decide))
  have i1 : ∀ {ws : List W}, ws[1]? = some (TL.numL n) → int 0 100000 ws 1 = .ok ((n : Int), 2) := fun h => int_at h rn ⟨by omega, by omega⟩
  refine ⟨?_, fun i hi x hx => ?_, ?_⟩
  · refine (readw_fin (d := later today n u) (p := 3) ?_).trans rfl
    rw [when_in rfl]; unfold inUnits; rw [i1 rfl]
    show (match one UN [IN, TL.numL n, u] 2 with | .error e => (.error e : Except Nat (Int × Nat)) | .ok (u, p) => .ok (later today n u, p)) = _
    rw [one_mem (v := u) rfl k]
  · obtain ⟨_, _, _, d, _, _, _, _, _, r, _⟩ := wrong_facts x hx
    match i, hi with
    | 0, _ => exact first_wrong rfl hx
    | 1, _ =>
      refine readw_err ?_
      rw [when_in rfl]; unfold inUnits; rw [int_bad (v := x) rfl (fun n hn z => absurd (r n hn) (by omega))]
    | 2, _ =>
      refine readw_err ?_
      rw [when_in rfl]; unfold inUnits; rw [i1 rfl]
      show (match one UN [IN, TL.numL n, x] 2 with | .error e => (.error e : Except Nat (Int × Nat)) | .ok (u, p) => .ok (later today n u, p)) = _
      rw [one_not (v := x) rfl d]
  · refine (readw_fin (d := later today n u) (p := 3) ?_).trans rfl
    rw [when_in rfl]; unfold inUnits; rw [i1 rfl]
    show (match one UN [IN, TL.numL n, u, XX] 2 with | .error e => (.error e : Except Nat (Int × Nat)) | .ok (u, p) => .ok (later today n u, p)) = _
    rw [one_mem (v := u) rfl k]
theorem when_num {today : Int} {ws : List W} {n : Nat} (hn : n ≤ 100000) (h : ws[0]? = some (TL.numL n)) : when today ws = ago today n ws := by
  rw [when_free h (not_key (num_small n) (by decide))]
  have e : numOk (TL.numL n) = some (n : Int) := by
    unfold numOk
    rw [rint_num (Nat.lt_of_le_of_lt hn (by decide))]
    exact if_pos ⟨by omega, by omega⟩
  rw [e]
theorem good5 {today : Int} {n : Nat} {u : W} (hn : n ≤ 100000) (k : u ∈ UN) : Good today [TL.numL n, u, AGO] (later today (-(n : Int)) u) := by
  refine ⟨?_, fun i hi x hx => ?_, ?_⟩
  · refine (readw_fin (d := later today (-(n : Int)) u) (p := 3) ?_).trans rfl
    rw [when_num hn rfl]; unfold ago; rw [one_mem (v := u) rfl k]
    show (match one [AGO] [TL.numL n, u, AGO] 2 with | .error e => (.error e : Except Nat (Int × Nat)) | .ok (_, p) => .ok (later today (-(n : Int)) u, p)) = _
    rw [one_mem (v := AGO) rfl (by decide)]
  · obtain ⟨_, _, _, d, _, _, _, g, _⟩ := wrong_facts x hx
    match i, hi with
    | 0, _ => exact first_wrong rfl hx
    | 1, _ =>
      refine readw_err ?_
      rw [when_num hn rfl]; unfold ago; rw [one_not (v := x) rfl d]
    | 2, _ =>
      refine readw_err ?_
      rw [when_num hn rfl]; unfold ago; rw [one_mem (v := u) rfl k]
      show (match one [AGO] [TL.numL n, u, x] 2 with | .error e => (.error e : Except Nat (Int × Nat)) | .ok (_, p) => .ok (later today (-(n : Int)) u, p)) = _
      rw [one_not (v := x) rfl g]
  · refine (readw_fin (d := later today (-(n : Int)) u) (p := 3) ?_).trans rfl
    rw [when_num hn rfl]; unfold ago; rw [one_mem (v := u) rfl k]
    show (match one [AGO] [TL.numL n, u, AGO, XX] 2 with | .error e => (.error e : Except Nat (Int × Nat)) | .ok (_, p) => .ok (later today (-(n : Int)) u, p)) = _
    rw [one_mem (v := AGO) rfl (by decide)]
/-! way 7 -/
theorem dw_small (d m : Int) : headBig (dw d m) = false := by
  unfold dw
  show decide (57 < 48 + (m / 12 + 1).toNat / 10 ^ 3 % 10) = false
  exact decide_eq_false (by have : (m / 12 + 1).toNat / 10 ^ 3 % 10 < 10 := Nat.mod_lt _ (by decide); omega)
theorem dw_rint (d m : Int) : rint (dw d m) = none := by
  have h1 : ¬ (dw d m).take 1 = [45] := by
    unfold dw
    show ¬ [48 + (m / 12 + 1).toNat / 10 ^ 3 % 10] = [45]
    intro z
    have := (List.cons.inj z).1
    omega
  have h2 : isDig (dw d m) = false := by
    cases e : isDig (dw d m) with
    | false => rfl
    | true =>
      have := (isDig_iff.mp e).2 45 (by unfold dw; exact List.mem_append_right _ List.mem_cons_self)
      omega
  unfold rint
  have hd : dash (dw d m) = dw d m := if_neg h1
  rw [hd, h2, if_pos (.inr (.inr rfl))]
theorem good7 {today d m : Int} (h : Civ.IsM d m) (h0 : 0 ≤ d) (h1 : d < 3652059) : Good today [dw d m] d := by
  have hw : ∀ {ws : List W}, ws[0]? = some (dw d m) → when today ws = .ok (d, 1) := fun h' => by
    rw [when_free h' (not_key (dw_small d m) (by decide))]
    have e : numOk (dw d m) = none := by unfold numOk; rw [dw_rint]; rfl
    rw [e, rdw_dw h h0 h1]
  refine ⟨?_, fun i hi x hx => ?_, ?_⟩
  · rw [readw_fin (hw rfl)]; rfl
  · have : i = 0 := by have : [dw d m].length = 1 := rfl; omega
    subst this
    exact first_wrong rfl hx
  · rw [readw_fin (hw rfl)]; rfl
end Wd
/-! the way by a month, in plain -/
namespace Wd
open PySem PySem.NumText Dg
/-- what takeIn gives of a month -/
def inVal (k m : Int) (w : W) : Option Int := if w = DAY then some (if k < 0 then Civ.fd m + Civ.len m + k else Civ.fd m + k - 1) else Civ.nthw m k (idx WD w)
theorem in_ok {today k m : Int} {ws : List W} {w : W} {p : Nat} (h1 : ws[1]? = some w) (hw : w ∈ WD ++ [DAY]) (h2 : ws[2]? = some OF) (h3 : takeMonth today ws 3 = .ok (m, p)) :
    takeIn today k ws 1 = match inVal k m w with | some d => .ok (d, p) | none => .error 1 := by
  unfold takeIn
  rw [one_mem h1 hw]
  show (match one [OF] ws 2 with | .error e => (.error e : Except Nat (Int × Nat)) | .ok (_, p2) => _) = _
  rw [one_mem h2 (by decide)]
  show (match takeMonth today ws 3 with | .error e => (.error e : Except Nat (Int × Nat)) | .ok (m, p3) => _) = _
  rw [h3]
  unfold inVal
  by_cases h : w = DAY
  · rw [if_pos h]
    show (if w = DAY then _ else _) = _
    rw [if_pos h]
  · rw [if_neg h]
    show (if w = DAY then _ else _) = _
    rw [if_neg h]
    try rfl
theorem in_month_bad {today k : Int} {ws : List W} {w : W} {e : Nat} (h1 : ws[1]? = some w) (hw : w ∈ WD ++ [DAY]) (h2 : ws[2]? = some OF) (h3 : takeMonth today ws 3 = .error e) : takeIn today k ws 1 = .error e := by
  unfold takeIn
  rw [one_mem h1 hw]
  show (match one [OF] ws 2 with | .error e => (.error e : Except Nat (Int × Nat)) | .ok (_, p2) => _) = _
  rw [one_mem h2 (by decide)]
  show (match takeMonth today ws 3 with | .error e => (.error e : Except Nat (Int × Nat)) | .ok (m, p3) => _) = _
  rw [h3]
theorem pl_free : ∀ v ∈ PL, v ∉ [TODAY, TOMO, YEST] ∧ v ≠ NEXT ∧ v ≠ LAST := by decide
theorem when_pl {today : Int} {ws : List W} {v : W} (h : ws[0]? = some v) (k : v ∈ PL) : when today ws = takeIn today (idx PL v + 1) ws 1 := by
  obtain ⟨a, b, c⟩ := pl_free v k
  unfold when; rw [h]
  show (if v ∈ [TODAY, TOMO, YEST] then _ else _) = _
  rw [if_neg a, if_neg b, if_neg (fun z => c z.1), if_neg c, if_pos k]
def kOf (pl : W) : Int := if pl = LAST then -1 else idx PL pl + 1
theorem when_five {today : Int} {ws : List W} {v : W} (h : ws[0]? = some v) (k : v ∈ FIVE) (hl : ws.length ≠ 2) : when today ws = takeIn today (kOf v) ws 1 := by
  unfold kOf
  rcases List.mem_append.mp k with k | k
  · rw [if_neg (pl_free v k).2.2, when_pl h k]
  · have e := List.mem_singleton.mp k
    subst e
    rw [if_pos rfl, when_last h, if_neg]
    intro z
    unfold lastOk at z
    rw [decide_eq_false hl, Bool.false_and] at z
    cases z
theorem inVal_inm {m : Int} {pl w : W} (hp : pl ∈ FIVE) (hw : w ∈ WD ++ [DAY]) : inVal (kOf pl) m w = inm m pl w := by
  have hl := Civ.len_le m
  unfold inVal inm kOf
  rcases List.mem_append.mp hp with k | k
  · have h5 : ∀ v ∈ PL, v ≠ LAST ∧ idx FIVE v ≠ 5 ∧ idx FIVE v = idx PL v := by decide +kernel
    obtain ⟨a, b, c⟩ := h5 pl k
    obtain ⟨j, hj⟩ := Int.eq_ofNat_of_zero_le (idx_lt k).1
    have j5 := (idx_lt k).2
    have e5 : (PL.length : Int) = 5 := rfl
    rw [if_neg a, if_neg b, c, hj, Int.toNat_natCast]
    by_cases h : w = DAY
    · subst h
      rw [if_pos rfl, if_neg (by omega), day_at (by omega)]
      congr 1; omega
    · have hw2 : w ∈ WD := (List.mem_append.mp hw).elim id fun z => absurd (List.mem_singleton.mp z) h
      rw [if_neg h, nth_at hw2]
  · have e := List.mem_singleton.mp k
    subst e
    have e5 : idx FIVE LAST = 5 := by decide +kernel
    rw [if_pos rfl, if_pos e5]
    by_cases h : w = DAY
    · subst h
      rw [if_pos rfl, if_pos (by decide), day_len, day_at (by omega)]
      congr 1; omega
    · have hw2 : w ∈ WD := (List.mem_append.mp hw).elim id fun z => absurd (List.mem_singleton.mp z) h
      rw [if_neg h, nth_last hw2]
theorem month_here {today : Int} {ws : List W} {mo : W} (h3 : ws[3]? = some mo) (hm : mo ∈ MO) (h4 : ws[4]? = none) : takeMonth today ws 3 = .ok (Civ.mOf today + (idx MO mo - Civ.mOf today) % 12, 4) := by
  unfold takeMonth
  rw [one_mem h3 hm]
  show (match ws[4]? with | some _ => _ | none => _) = _
  rw [h4]
theorem month_year {today : Int} {ws : List W} {mo y : W} {n : Int} (h3 : ws[3]? = some mo) (hm : mo ∈ MO) (h4 : ws[4]? = some y) (hy : int 1 9999 ws 4 = .ok (n, 5)) : takeMonth today ws 3 = .ok (12 * (n - 1) + idx MO mo, 5) := by
  unfold takeMonth
  rw [one_mem h3 hm]
  show (match ws[4]? with | some _ => _ | none => _) = _
  rw [h4]
  show (match int 1 9999 ws 4 with | .error e => (.error e : Except Nat (Int × Nat)) | .ok (y, p) => _) = _
  rw [hy]
theorem month_bad {today : Int} {ws : List W} {mo y : W} {e : Nat} (h3 : ws[3]? = some mo) (hm : mo ∈ MO) (h4 : ws[4]? = some y) (hy : int 1 9999 ws 4 = .error e) : takeMonth today ws 3 = .error e := by
  unfold takeMonth
  rw [one_mem h3 hm]
  show (match ws[4]? with | some _ => _ | none => _) = _
  rw [h4]
  show (match int 1 9999 ws 4 with | .error e => (.error e : Except Nat (Int × Nat)) | .ok (y, p) => _) = _
  rw [hy]
theorem month_no {today : Int} {ws : List W} {x : W} (h3 : ws[3]? = some x) (hx : x ∉ MO) : takeMonth today ws 3 = .error 3 := by
  unfold takeMonth
  rw [one_not h3 hx]
theorem xx_facts : XX ∉ MO ∧ rint XX = none := by decide +kernel
theorem good6a {today : Int} {pl w mo : W} (hp : pl ∈ FIVE) (hw : w ∈ WD ++ [DAY]) (hm : mo ∈ MO) :
    (∀ d, inm (Civ.mOf today + (idx MO mo - Civ.mOf today) % 12) pl w = some d → Good today [pl, w, OF, mo] d) ∧ (inm (Civ.mOf today + (idx MO mo - Civ.mOf today) % 12) pl w = none → readw today [pl, w, OF, mo] = .error 1) := by
  have hk : when today [pl, w, OF, mo] = match inm (Civ.mOf today + (idx MO mo - Civ.mOf today) % 12) pl w with | some d => .ok (d, 4) | none => .error 1 := by
    rw [when_five (ws := [pl, w, OF, mo]) (v := pl) rfl hp (by simp), in_ok (w := w) rfl hw rfl (month_here (mo := mo) rfl hm rfl), inVal_inm hp hw]
  refine ⟨fun d hd => ⟨?_, fun i hi x hx => ?_, ?_⟩, fun hd => ?_⟩
  · rw [hd] at hk
    rw [readw_fin hk]; rfl
  · obtain ⟨_, _, _, _, e, f, g, _⟩ := wrong_facts x hx
    match i, hi with
    | 0, _ => exact first_wrong rfl hx
    | 1, _ => exact readw_err ((when_five rfl hp (by simp)).trans (in_word (x := x) rfl f))
    | 2, _ => exact readw_err ((when_five rfl hp (by simp)).trans (in_of (w := w) (x := x) rfl hw rfl g))
    | 3, _ => exact readw_err ((when_five rfl hp (by simp)).trans (in_month_bad (w := w) rfl hw rfl (month_no (x := x) rfl e)))
  · exact readw_err ((when_five (ws := [pl, w, OF, mo, XX]) rfl hp (by simp)).trans (in_month_bad (w := w) rfl hw rfl (month_bad (mo := mo) (y := XX) rfl hm rfl (int_bad rfl fun n hn => by rw [xx_facts.2] at hn; cases hn))))
  · rw [hd] at hk
    exact readw_err hk
theorem good6b {today : Int} {pl w mo : W} {y : Nat} (hp : pl ∈ FIVE) (hw : w ∈ WD ++ [DAY]) (hm : mo ∈ MO) (y1 : 1 ≤ y) (y2 : y ≤ 9999) :
    (∀ d, inm (12 * ((y : Int) - 1) + idx MO mo) pl w = some d → Good today [pl, w, OF, mo, TL.numL y] d) ∧ (inm (12 * ((y : Int) - 1) + idx MO mo) pl w = none → readw today [pl, w, OF, mo, TL.numL y] = .error 1) := by
  have ry : rint (TL.numL y) = some (y : Int) := rint_num (Nat.lt_of_le_of_lt y2 (by decide))
  have hi : ∀ {ws : List W}, ws[4]? = some (TL.numL y) → int 1 9999 ws 4 = .ok ((y : Int), 5) := fun h => int_at h ry ⟨by omega, by omega⟩
  have hk : ∀ {ws : List W}, ws[0]? = some pl → ws[1]? = some w → ws[2]? = some OF → ws[3]? = some mo → ws[4]? = some (TL.numL y) → ws.length ≠ 2 → when today ws = match inm (12 * ((y : Int) - 1) + idx MO mo) pl w with | some d => .ok (d, 5) | none => .error 1 := fun h0 h1 h2 h3 h4 hl => by
    rw [when_five h0 hp hl, in_ok h1 hw h2 (month_year h3 hm h4 (hi h4)), inVal_inm hp hw]
  refine ⟨fun d hd => ⟨?_, fun i hi2 x hx => ?_, ?_⟩, fun hd => ?_⟩
  · have h := hk (ws := [pl, w, OF, mo, TL.numL y]) rfl rfl rfl rfl rfl (by simp)
    rw [hd] at h
    rw [readw_fin h]; rfl
  · obtain ⟨_, _, _, _, e, f, g, _, _, r, _⟩ := wrong_facts x hx
    match i, hi2 with
    | 0, _ => exact first_wrong rfl hx
    | 1, _ => exact readw_err ((when_five rfl hp (by simp)).trans (in_word (x := x) rfl f))
    | 2, _ => exact readw_err ((when_five rfl hp (by simp)).trans (in_of (w := w) (x := x) rfl hw rfl g))
    | 3, _ => exact readw_err ((when_five rfl hp (by simp)).trans (in_month_bad (w := w) rfl hw rfl (month_no (x := x) rfl e)))
    | 4, _ => exact readw_err ((when_five rfl hp (by simp)).trans (in_month_bad (w := w) rfl hw rfl (month_bad (mo := mo) (y := x) rfl hm rfl (int_bad rfl fun n hn z => absurd (r n hn) (by omega)))))
  · have h := hk (ws := [pl, w, OF, mo, TL.numL y, XX]) rfl rfl rfl rfl rfl (by simp)
    rw [hd] at h
    show readw today [pl, w, OF, mo, TL.numL y, XX] = _
    rw [readw_fin h]; rfl
  · have h := hk (ws := [pl, w, OF, mo, TL.numL y]) rfl rfl rfl rfl rfl (by simp)
    rw [hd] at h
    exact readw_err h
end Wd
namespace Q
open PySem PySem.Spec PyProof.Rows L2 SX
/-! own words: ne (two addresses differ), hp (what stands at an address), sd (a side), go (a reading, straight on) -/
local macro_rules | `(tactic| walk_at "ne") => `(tactic| first
  | assumption
  | (refine Ne.symm ?_; assumption)
  | (refine (fun h2 => ne_of_none (by assumption) h2) ?_; assumption)
  | (refine Ne.symm ((fun h2 => ne_of_none (by assumption) h2) ?_); assumption))
local macro_rules | `(tactic| walk_at "hp") => `(tactic| first
  | with_reducible assumption
  | with_reducible exact upd_same
  | ((with_reducible refine' (upd_ne ?k1).trans ?k2); (case k1 => walk_at "ne"); (case k2 => walk_at "hp")))
local macro_rules | `(tactic| walk_at "sq") => `(tactic| first
  | with_reducible assumption
  | ((with_reducible refine' SqL.of ?k1); (case k1 => walk_at "hp"))
  | ((with_reducible refine' SqT.of ?k1); (case k1 => walk_at "hp")))
local macro_rules | `(tactic| walk_at "sd") => `(tactic| first
  | with_reducible rfl
  | with_reducible assumption
  | omega
  | decide
  | (refine cmul_r ?_ ?_ <;> decide)
  | (refine cmul_l ?_ ?_ <;> decide)
  | exact ⟨by decide, by decide, by decide⟩
  | exact ⟨by omega, by omega⟩)
local macro_rules | `(tactic| walk_at "go1") => `(tactic| first
  | ((with_reducible refine' g_var ?k1 ?k2); (case k1 => rfl))
  | (with_reducible refine g_c ?_)
  | (with_reducible refine g_op ?_)
  | (with_reducible refine g_un ?_)
  | (with_reducible refine g_tt ?_)
  | (with_reducible refine g_tB ?_)
  | (with_reducible refine g_ifs ?_)
  | (with_reducible refine g_seq ?_)
  | (with_reducible refine g_next ?_)
  | (with_reducible refine g_asg ?_)
  | (with_reducible refine g_name ?_)
  | (with_reducible refine g_ret ?_)
  | (with_reducible refine g_drop ?_)
  | (with_reducible refine g_nil ?_)
  | (with_reducible refine g_cons ?_)
  | (with_reducible refine g_cb ?_)
  | (with_reducible refine g_sub ?_)
  | (with_reducible refine g_call ?_)
  | (with_reducible refine g_if ?_)
  | (with_reducible refine g_and ?_)
  | (with_reducible refine g_or ?_)
  | (with_reducible refine g_not ?_)
  | (with_reducible refine g_tupN ?_)
  | (with_reducible refine g_lstN ?_)
  | (with_reducible refine g_vei ?_)
  | (with_reducible refine g_jc ?_)
  | (with_reducible refine g_jn ?_)
  | (with_reducible refine g_fmt ?_)
  | (with_reducible refine g_ost ?_)
  | (with_reducible refine g_mko ?_)
  | (with_reducible refine g_fld ?_)
  | (with_reducible refine g_sfld ?_)
  | (with_reducible refine g_meth ?_)
  | (with_reducible refine g_make ?_)
  | (with_reducible refine g_dget ?_)
  | (with_reducible refine g_din ?_)
  | (with_reducible refine g_dni ?_)
  | (with_reducible refine g_dput ?_)
  | (with_reducible refine g_dg1 ?_)
  | (with_reducible refine g_dg2 ?_)
  | (with_reducible refine g_or2 ?_)
  | (with_reducible refine g_an2 ?_)
  | (with_reducible refine g_no2 ?_)
  | (with_reducible refine g_itup ?_)
  | (with_reducible refine g_ilist ?_)
  | (with_reducible refine g_ikeys ?_)
  | (with_reducible refine g_irng1 ?_)
  | (with_reducible refine g_irng2 ?_)
  | (with_reducible refine g_for ?_)
  | (with_reducible refine g_lc ?_)
  | (with_reducible refine g_lock ?_)
  | (with_reducible refine g_gtup ?_)
  | (with_reducible refine g_gcons ?_)
  | (with_reducible refine g_gnil ?_)
  | (with_reducible refine g_par ?_)
  | (with_reducible refine g_par3 ?_)
  | (with_reducible refine g_calls ?_)
  | (with_reducible refine g_dct ?_)
  | (with_reducible refine g_methx ?_)
  | (with_reducible refine g_yes ?_)
  | (with_reducible refine g_sl ?_)
  | (with_reducible refine g_npart ?_)
  | (with_reducible refine g_part ?_)
  | (with_reducible refine g_dnt ?_)
  | (with_reducible refine g_dnk ?_)
  | (with_reducible refine g_istr ?_)
  | (with_reducible refine g_exi ?_)
  | (with_reducible refine g_glst ?_)
  | (with_reducible refine g_chain ?_)
  | (with_reducible refine g_isN ?_)
  | (with_reducible refine g_ipI ?_)
  | (with_reducible refine g_inS ?_)
  | (with_reducible refine g_bm ?_)
  | (with_reducible refine g_bm0 ?_)
  | ((with_reducible refine' g_aug ?k1 ?k2); (case k1 => rfl))
  | (with_reducible refine g_m1 ?_)
  | (with_reducible refine g_fldaug ?_)
  | (with_reducible refine g_tupm ?_)
  | (with_reducible refine g_I0 ?_)
  | ((with_reducible refine g_I ?_ ?_); (walk_at "sd"))
  | (with_reducible refine g_U ?_)
  | ((with_reducible refine g_eq ?_ ?_); rfl)
  | ((with_reducible refine g_ne ?_ ?_); rfl)
  | ((with_reducible refine' g_ixL ?k1 ?k2 ?k3); (case k1 => walk_at "sq"); (case k2 => rfl))
  | ((with_reducible refine' g_ixT ?k1 ?k2 ?k3); (case k1 => walk_at "sq"); (case k2 => rfl))
  | ((with_reducible refine' g_setL ?k1 ?k2 ?k3); (case k1 => walk_at "hp"); (case k2 => rfl))
  | (with_reducible refine g_test ?_)
  | (with_reducible refine g_int1 ?_)
  | (with_reducible refine g_bl1 ?_)
  | ((with_reducible refine' g_lenL ?k1 ?k2); (case k1 => walk_at "sq"))
  | ((with_reducible refine' g_lenT ?k1 ?k2); (case k1 => walk_at "sq"))
)
local macro_rules | `(tactic| walk_at "go") => `(tactic| repeat (first | (walk_at "go1") | (dsimp only; (walk_at "go1"))))
def topS (i : Nat) : Stmt := PySem.Challenge.pw_everdays_k82_days_told_from_today.main.body.getD i (.Pass ⟨0, 0, 0, 0⟩)
abbrev s_BadText_init : Stmt := (inClass (topS 4) 0)
theorem sc_BadText_init : FnScope ["self", "line", "word"] ["self", "line", "word"] (defScope s_BadText_init) := ⟨rfl, rfl, rfl, by decide +kernel, rfl, by decide +kernel, by decide +kernel⟩
abbrev s_is_leap : Stmt := (topS 10)
theorem sc_is_leap : FnScope ["year"] ["year"] (defScope s_is_leap) := ⟨rfl, rfl, rfl, by decide +kernel, rfl, by decide +kernel, by decide +kernel⟩
abbrev s_year_of_month : Stmt := (topS 11)
theorem sc_year_of_month : FnScope ["m"] ["m"] (defScope s_year_of_month) := ⟨rfl, rfl, rfl, by decide +kernel, rfl, by decide +kernel, by decide +kernel⟩
abbrev s_month_length : Stmt := (topS 12)
theorem sc_month_length : FnScope ["m"] ["m"] (defScope s_month_length) := ⟨rfl, rfl, rfl, by decide +kernel, rfl, by decide +kernel, by decide +kernel⟩
abbrev s_first_day : Stmt := (topS 13)
theorem sc_first_day : FnScope ["m", "past", "days"] ["m"] (defScope s_first_day) := ⟨rfl, rfl, rfl, by decide +kernel, rfl, by decide +kernel, by decide +kernel⟩
abbrev s_month_of : Stmt := (topS 14)
theorem sc_month_of : FnScope ["day", "cycles", "rest", "past", "place"] ["day"] (defScope s_month_of) := ⟨rfl, rfl, rfl, by decide +kernel, rfl, by decide +kernel, by decide +kernel⟩
abbrev s_day_of : Stmt := (topS 15)
theorem sc_day_of : FnScope ["year", "month", "date", "m"] ["year", "month", "date"] (defScope s_day_of) := ⟨rfl, rfl, rfl, by decide +kernel, rfl, by decide +kernel, by decide +kernel⟩
abbrev s_weekday_of : Stmt := (topS 16)
theorem sc_weekday_of : FnScope ["day"] ["day"] (defScope s_weekday_of) := ⟨rfl, rfl, rfl, by decide +kernel, rfl, by decide +kernel, by decide +kernel⟩
abbrev s_nth_weekday : Stmt := (topS 17)
theorem sc_nth_weekday : FnScope ["m", "k", "weekday", "first", "day", "last"] ["m", "k", "weekday"] (defScope s_nth_weekday) := ⟨rfl, rfl, rfl, by decide +kernel, rfl, by decide +kernel, by decide +kernel⟩
abbrev s_add_months : Stmt := (topS 19)
theorem sc_add_months : FnScope ["day", "k", "m", "date"] ["day", "k"] (defScope s_add_months) := ⟨rfl, rfl, rfl, by decide +kernel, rfl, by decide +kernel, by decide +kernel⟩
abbrev s_all_digits : Stmt := (topS 22)
theorem sc_all_digits : FnScope ["word", "sign"] ["word"] (defScope s_all_digits) := ⟨rfl, rfl, rfl, by decide +kernel, rfl, by decide +kernel, by decide +kernel⟩
abbrev s_read_day_word : Stmt := (topS 23)
theorem sc_read_day_word : FnScope ["word", "parts", "day", "part"] ["word"] (defScope s_read_day_word) := ⟨rfl, rfl, rfl, by decide +kernel, rfl, by decide +kernel, by decide +kernel⟩
abbrev s_read_integer : Stmt := (topS 27)
theorem sc_read_integer : FnScope ["word", "digits", "sign"] ["word"] (defScope s_read_integer) := ⟨rfl, rfl, rfl, by decide +kernel, rfl, by decide +kernel, by decide +kernel⟩
abbrev s_Line_init : Stmt := (inClass (topS 28) 0)
theorem sc_Line_init : FnScope ["self", "text", "line"] ["self", "text", "line"] (defScope s_Line_init) := ⟨rfl, rfl, rfl, by decide +kernel, rfl, by decide +kernel, by decide +kernel⟩
abbrev s_Line_upcoming : Stmt := (inClass (topS 28) 1)
theorem sc_Line_upcoming : FnScope ["self"] ["self"] (defScope s_Line_upcoming) := ⟨rfl, rfl, rfl, by decide +kernel, rfl, by decide +kernel, by decide +kernel⟩
abbrev s_Line_finish : Stmt := (inClass (topS 28) 3)
theorem sc_Line_finish : FnScope ["self"] ["self"] (defScope s_Line_finish) := ⟨rfl, rfl, rfl, by decide +kernel, rfl, by decide +kernel, by decide +kernel⟩
abbrev s_Line_take : Stmt := (inClass (topS 28) 4)
theorem sc_Line_take : FnScope ["self", "word"] ["self"] (defScope s_Line_take) := ⟨rfl, rfl, rfl, by decide +kernel, rfl, by decide +kernel, by decide +kernel⟩
abbrev s_Line_take_one_of : Stmt := (inClass (topS 28) 5)
theorem sc_Line_take_one_of : FnScope ["self", "expected", "word"] ["self", "expected"] (defScope s_Line_take_one_of) := ⟨rfl, rfl, rfl, by decide +kernel, rfl, by decide +kernel, by decide +kernel⟩
abbrev s_Line_take_integer : Stmt := (inClass (topS 28) 7)
theorem sc_Line_take_integer : FnScope ["self", "least", "most", "word", "n"] ["self", "least", "most"] (defScope s_Line_take_integer) := ⟨rfl, rfl, rfl, by decide +kernel, rfl, by decide +kernel, by decide +kernel⟩
abbrev s_later_by : Stmt := (topS 35)
theorem sc_later_by : FnScope ["day", "n", "unit"] ["day", "n", "unit"] (defScope s_later_by) := ⟨rfl, rfl, rfl, by decide +kernel, rfl, by decide +kernel, by decide +kernel⟩
abbrev s_next_weekday : Stmt := (topS 36)
theorem sc_next_weekday : FnScope ["day", "weekday"] ["day", "weekday"] (defScope s_next_weekday) := ⟨rfl, rfl, rfl, by decide +kernel, rfl, by decide +kernel, by decide +kernel⟩
abbrev s_last_weekday : Stmt := (topS 37)
theorem sc_last_weekday : FnScope ["day", "weekday"] ["day", "weekday"] (defScope s_last_weekday) := ⟨rfl, rfl, rfl, by decide +kernel, rfl, by decide +kernel, by decide +kernel⟩
abbrev s_take_month : Stmt := (topS 38)
theorem sc_take_month : FnScope ["line", "today", "word", "place", "m"] ["line", "today"] (defScope s_take_month) := ⟨rfl, rfl, rfl, by decide +kernel, rfl, by decide +kernel, by decide +kernel⟩
abbrev s_take_in_month : Stmt := (topS 39)
theorem sc_take_in_month : FnScope ["line", "today", "k", "at", "word", "m", "day"] ["line", "today", "k"] (defScope s_take_in_month) := ⟨rfl, rfl, rfl, by decide +kernel, rfl, by decide +kernel, by decide +kernel⟩
abbrev s_take_when : Stmt := (topS 40)
theorem sc_take_when : FnScope ["line", "today", "word", "n", "unit", "day"] ["line", "today"] (defScope s_take_when) := ⟨rfl, rfl, rfl, by decide +kernel, rfl, by decide +kernel, by decide +kernel⟩
abbrev s_read_when : Stmt := (topS 41)
theorem sc_read_when : FnScope ["text", "today", "line", "day"] ["text", "today"] (defScope s_read_when) := ⟨rfl, rfl, rfl, by decide +kernel, rfl, by decide +kernel, by decide +kernel⟩
abbrev s_law_is : Stmt := (topS 43)
theorem sc_law_is : FnScope ["told", "due"] ["told", "due"] (defScope s_law_is) := ⟨rfl, rfl, rfl, by decide +kernel, rfl, by decide +kernel, by decide +kernel⟩
abbrev s_law_draw : Stmt := (topS 44)
theorem sc_law_draw : FnScope ["tape", "many", "cells", "k", "cell", "digit"] ["tape", "many"] (defScope s_law_draw) := ⟨rfl, rfl, rfl, by decide +kernel, rfl, by decide +kernel, by decide +kernel⟩
abbrev s_law_tape : Stmt := (topS 45)
theorem sc_law_tape : FnScope ["script"] ["script"] (defScope s_law_tape) := ⟨rfl, rfl, rfl, by decide +kernel, rfl, by decide +kernel, by decide +kernel⟩
abbrev s_law_mod : Stmt := (topS 46)
theorem sc_law_mod : FnScope ["a", "n"] ["a", "n"] (defScope s_law_mod) := ⟨rfl, rfl, rfl, by decide +kernel, rfl, by decide +kernel, by decide +kernel⟩
abbrev s_law_leap : Stmt := (topS 47)
theorem sc_law_leap : FnScope ["calendar", "y"] ["calendar", "y"] (defScope s_law_leap) := ⟨rfl, rfl, rfl, by decide +kernel, rfl, by decide +kernel, by decide +kernel⟩
abbrev s_law_length : Stmt := (topS 48)
theorem sc_law_length : FnScope ["calendar", "m", "month", "long"] ["calendar", "m"] (defScope s_law_length) := ⟨rfl, rfl, rfl, by decide +kernel, rfl, by decide +kernel, by decide +kernel⟩
abbrev s_law_year_first : Stmt := (topS 49)
theorem sc_law_year_first : FnScope ["calendar", "y", "years", "days", "begin", "plain", "cycles", "found", "k"] ["calendar", "y"] (defScope s_law_year_first) := ⟨rfl, rfl, rfl, by decide +kernel, rfl, by decide +kernel, by decide +kernel⟩
abbrev s_law_month_first : Stmt := (topS 50)
theorem sc_law_month_first : FnScope ["calendar", "m", "found", "k"] ["calendar", "m"] (defScope s_law_month_first) := ⟨rfl, rfl, rfl, by decide +kernel, rfl, by decide +kernel, by decide +kernel⟩
abbrev s_law_month_at : Stmt := (topS 51)
theorem sc_law_month_at : FnScope ["calendar", "day", "year", "y", "k", "m", "first", "length"] ["calendar", "day"] (defScope s_law_month_at) := ⟨rfl, rfl, rfl, by decide +kernel, rfl, by decide +kernel, by decide +kernel⟩
abbrev s_law_digits2 : Stmt := (topS 52)
theorem sc_law_digits2 : FnScope ["n", "many", "text", "k"] ["n", "many"] (defScope s_law_digits2) := ⟨rfl, rfl, rfl, by decide +kernel, rfl, by decide +kernel, by decide +kernel⟩
abbrev s_law_day_text : Stmt := (topS 53)
theorem sc_law_day_text : FnScope ["day", "m", "first", "date"] ["day"] (defScope s_law_day_text) := ⟨rfl, rfl, rfl, by decide +kernel, rfl, by decide +kernel, by decide +kernel⟩
abbrev s_law_told : Stmt := (topS 54)
theorem sc_law_told : FnScope ["text", "today", "e"] ["text", "today"] (defScope s_law_told) := ⟨rfl, rfl, rfl, by decide +kernel, rfl, by decide +kernel, by decide +kernel⟩
abbrev s_law_later : Stmt := (topS 55)
theorem sc_law_later : FnScope ["day", "k", "m", "first"] ["day", "k"] (defScope s_law_later) := ⟨rfl, rfl, rfl, by decide +kernel, rfl, by decide +kernel, by decide +kernel⟩
abbrev s_law_by : Stmt := (topS 56)
theorem sc_law_by : FnScope ["today", "n", "unit"] ["today", "n", "unit"] (defScope s_law_by) := ⟨rfl, rfl, rfl, by decide +kernel, rfl, by decide +kernel, by decide +kernel⟩
abbrev s_law_in_month : Stmt := (topS 57)
theorem sc_law_in_month : FnScope ["m", "place", "word", "weekdays", "first", "days", "k", "day"] ["m", "place", "word", "weekdays"] (defScope s_law_in_month) := ⟨rfl, rfl, rfl, by decide +kernel, rfl, by decide +kernel, by decide +kernel⟩
abbrev s_law : Stmt := (topS 58)
theorem sc_law : FnScope ["script", "tape", "weekdays", "months", "today", "way", "weekday", "k", "words", "due", "n", "unit", "place", "word", "month", "m", "year", "at", "wrong", "d"] ["script"] (defScope s_law) := ⟨rfl, rfl, rfl, by decide +kernel, rfl, by decide +kernel, by decide +kernel⟩
structure Adr where
  f_BadText_init : Addr
  d_BadText_init : FuncData
  f_is_leap : Addr
  d_is_leap : FuncData
  f_year_of_month : Addr
  d_year_of_month : FuncData
  f_month_length : Addr
  d_month_length : FuncData
  f_first_day : Addr
  d_first_day : FuncData
  f_month_of : Addr
  d_month_of : FuncData
  f_day_of : Addr
  d_day_of : FuncData
  f_weekday_of : Addr
  d_weekday_of : FuncData
  f_nth_weekday : Addr
  d_nth_weekday : FuncData
  f_add_months : Addr
  d_add_months : FuncData
  f_all_digits : Addr
  d_all_digits : FuncData
  f_read_day_word : Addr
  d_read_day_word : FuncData
  f_read_integer : Addr
  d_read_integer : FuncData
  f_Line_init : Addr
  d_Line_init : FuncData
  f_Line_upcoming : Addr
  d_Line_upcoming : FuncData
  f_Line_finish : Addr
  d_Line_finish : FuncData
  f_Line_take : Addr
  d_Line_take : FuncData
  f_Line_take_one_of : Addr
  d_Line_take_one_of : FuncData
  f_Line_take_integer : Addr
  d_Line_take_integer : FuncData
  f_later_by : Addr
  d_later_by : FuncData
  f_next_weekday : Addr
  d_next_weekday : FuncData
  f_last_weekday : Addr
  d_last_weekday : FuncData
  f_take_month : Addr
  d_take_month : FuncData
  f_take_in_month : Addr
  d_take_in_month : FuncData
  f_take_when : Addr
  d_take_when : FuncData
  f_read_when : Addr
  d_read_when : FuncData
  f_law_is : Addr
  d_law_is : FuncData
  f_law_draw : Addr
  d_law_draw : FuncData
  f_law_tape : Addr
  d_law_tape : FuncData
  f_law_mod : Addr
  d_law_mod : FuncData
  f_law_leap : Addr
  d_law_leap : FuncData
  f_law_length : Addr
  d_law_length : FuncData
  f_law_year_first : Addr
  d_law_year_first : FuncData
  f_law_month_first : Addr
  d_law_month_first : FuncData
  f_law_month_at : Addr
  d_law_month_at : FuncData
  f_law_digits2 : Addr
  d_law_digits2 : FuncData
  f_law_day_text : Addr
  d_law_day_text : FuncData
  f_law_told : Addr
  d_law_told : FuncData
  f_law_later : Addr
  d_law_later : FuncData
  f_law_by : Addr
  d_law_by : FuncData
  f_law_in_month : Addr
  d_law_in_month : FuncData
  f_law : Addr
  d_law : FuncData
  C_Line : Addr
  C_BadText : Addr
  C_BadDate : Addr
  C_DaysError : Addr
  A_LENGTHS : Addr
  A_BEFORE : Addr
  A_WEEKDAYS : Addr
  A_MONTHS : Addr
  A_PLACES : Addr
  A_UNITS : Addr
  M_DaysError : Value
structure Txt (K : PySem.W.Frag) (mg : Str → Option Value) (a : Adr) : Prop where
  F_BadText_init : Fun K "__init__" "BadText.__init__" s_BadText_init a.f_BadText_init a.d_BadText_init
  b_BadText_init : Binds K a.d_BadText_init ["self", "line", "word"] []
  F_is_leap : Fun K "is_leap" "is_leap" s_is_leap a.f_is_leap a.d_is_leap
  b_is_leap : Binds K a.d_is_leap ["year"] []
  g_is_leap : mg "is_leap" = some (.ref a.f_is_leap)
  F_year_of_month : Fun K "year_of_month" "year_of_month" s_year_of_month a.f_year_of_month a.d_year_of_month
  b_year_of_month : Binds K a.d_year_of_month ["m"] []
  g_year_of_month : mg "year_of_month" = some (.ref a.f_year_of_month)
  F_month_length : Fun K "month_length" "month_length" s_month_length a.f_month_length a.d_month_length
  b_month_length : Binds K a.d_month_length ["m"] []
  g_month_length : mg "month_length" = some (.ref a.f_month_length)
  F_first_day : Fun K "first_day" "first_day" s_first_day a.f_first_day a.d_first_day
  b_first_day : Binds K a.d_first_day ["m"] []
  g_first_day : mg "first_day" = some (.ref a.f_first_day)
  F_month_of : Fun K "month_of" "month_of" s_month_of a.f_month_of a.d_month_of
  b_month_of : Binds K a.d_month_of ["day"] []
  g_month_of : mg "month_of" = some (.ref a.f_month_of)
  F_day_of : Fun K "day_of" "day_of" s_day_of a.f_day_of a.d_day_of
  b_day_of : Binds K a.d_day_of ["year", "month", "date"] []
  g_day_of : mg "day_of" = some (.ref a.f_day_of)
  F_weekday_of : Fun K "weekday_of" "weekday_of" s_weekday_of a.f_weekday_of a.d_weekday_of
  b_weekday_of : Binds K a.d_weekday_of ["day"] []
  g_weekday_of : mg "weekday_of" = some (.ref a.f_weekday_of)
  F_nth_weekday : Fun K "nth_weekday" "nth_weekday" s_nth_weekday a.f_nth_weekday a.d_nth_weekday
  b_nth_weekday : Binds K a.d_nth_weekday ["m", "k", "weekday"] []
  g_nth_weekday : mg "nth_weekday" = some (.ref a.f_nth_weekday)
  F_add_months : Fun K "add_months" "add_months" s_add_months a.f_add_months a.d_add_months
  b_add_months : Binds K a.d_add_months ["day", "k"] []
  g_add_months : mg "add_months" = some (.ref a.f_add_months)
  F_all_digits : Fun K "all_digits" "all_digits" s_all_digits a.f_all_digits a.d_all_digits
  b_all_digits : Binds K a.d_all_digits ["word"] []
  g_all_digits : mg "all_digits" = some (.ref a.f_all_digits)
  F_read_day_word : Fun K "read_day_word" "read_day_word" s_read_day_word a.f_read_day_word a.d_read_day_word
  b_read_day_word : Binds K a.d_read_day_word ["word"] []
  g_read_day_word : mg "read_day_word" = some (.ref a.f_read_day_word)
  F_read_integer : Fun K "read_integer" "read_integer" s_read_integer a.f_read_integer a.d_read_integer
  b_read_integer : Binds K a.d_read_integer ["word"] []
  g_read_integer : mg "read_integer" = some (.ref a.f_read_integer)
  F_Line_init : Fun K "__init__" "Line.__init__" s_Line_init a.f_Line_init a.d_Line_init
  b_Line_init : Binds K a.d_Line_init ["self", "text", "line"] []
  M_Line : Mk K a.C_Line a.f_Line_init
  F_Line_upcoming : Fun K "upcoming" "Line.upcoming" s_Line_upcoming a.f_Line_upcoming a.d_Line_upcoming
  b_Line_upcoming : Binds K a.d_Line_upcoming ["self"] []
  m_Line_upcoming : Meth K a.C_Line "upcoming" a.f_Line_upcoming
  F_Line_finish : Fun K "finish" "Line.finish" s_Line_finish a.f_Line_finish a.d_Line_finish
  b_Line_finish : Binds K a.d_Line_finish ["self"] []
  m_Line_finish : Meth K a.C_Line "finish" a.f_Line_finish
  F_Line_take : Fun K "take" "Line.take" s_Line_take a.f_Line_take a.d_Line_take
  b_Line_take : Binds K a.d_Line_take ["self"] []
  m_Line_take : Meth K a.C_Line "take" a.f_Line_take
  F_Line_take_one_of : Fun K "take_one_of" "Line.take_one_of" s_Line_take_one_of a.f_Line_take_one_of a.d_Line_take_one_of
  b_Line_take_one_of : Binds K a.d_Line_take_one_of ["self", "expected"] []
  m_Line_take_one_of : Meth K a.C_Line "take_one_of" a.f_Line_take_one_of
  F_Line_take_integer : Fun K "take_integer" "Line.take_integer" s_Line_take_integer a.f_Line_take_integer a.d_Line_take_integer
  b_Line_take_integer : Binds K a.d_Line_take_integer ["self", "least", "most"] []
  m_Line_take_integer : Meth K a.C_Line "take_integer" a.f_Line_take_integer
  F_later_by : Fun K "later_by" "later_by" s_later_by a.f_later_by a.d_later_by
  b_later_by : Binds K a.d_later_by ["day", "n", "unit"] []
  g_later_by : mg "later_by" = some (.ref a.f_later_by)
  F_next_weekday : Fun K "next_weekday" "next_weekday" s_next_weekday a.f_next_weekday a.d_next_weekday
  b_next_weekday : Binds K a.d_next_weekday ["day", "weekday"] []
  g_next_weekday : mg "next_weekday" = some (.ref a.f_next_weekday)
  F_last_weekday : Fun K "last_weekday" "last_weekday" s_last_weekday a.f_last_weekday a.d_last_weekday
  b_last_weekday : Binds K a.d_last_weekday ["day", "weekday"] []
  g_last_weekday : mg "last_weekday" = some (.ref a.f_last_weekday)
  F_take_month : Fun K "take_month" "take_month" s_take_month a.f_take_month a.d_take_month
  b_take_month : Binds K a.d_take_month ["line", "today"] []
  g_take_month : mg "take_month" = some (.ref a.f_take_month)
  F_take_in_month : Fun K "take_in_month" "take_in_month" s_take_in_month a.f_take_in_month a.d_take_in_month
  b_take_in_month : Binds K a.d_take_in_month ["line", "today", "k"] []
  g_take_in_month : mg "take_in_month" = some (.ref a.f_take_in_month)
  F_take_when : Fun K "take_when" "take_when" s_take_when a.f_take_when a.d_take_when
  b_take_when : Binds K a.d_take_when ["line", "today"] []
  g_take_when : mg "take_when" = some (.ref a.f_take_when)
  F_read_when : Fun K "read_when" "read_when" s_read_when a.f_read_when a.d_read_when
  b_read_when : Binds K a.d_read_when ["text", "today"] []
  g_read_when : mg "read_when" = some (.ref a.f_read_when)
  F_law_is : Fun K "_law_is" "_law_is" s_law_is a.f_law_is a.d_law_is
  b_law_is : Binds K a.d_law_is ["told", "due"] []
  g_law_is : mg "_law_is" = some (.ref a.f_law_is)
  F_law_draw : Fun K "_law_draw" "_law_draw" s_law_draw a.f_law_draw a.d_law_draw
  b_law_draw : Binds K a.d_law_draw ["tape", "many"] []
  g_law_draw : mg "_law_draw" = some (.ref a.f_law_draw)
  F_law_tape : Fun K "_law_tape" "_law_tape" s_law_tape a.f_law_tape a.d_law_tape
  b_law_tape : Binds K a.d_law_tape ["script"] []
  g_law_tape : mg "_law_tape" = some (.ref a.f_law_tape)
  F_law_mod : Fun K "_law_mod" "_law_mod" s_law_mod a.f_law_mod a.d_law_mod
  b_law_mod : Binds K a.d_law_mod ["a", "n"] []
  g_law_mod : mg "_law_mod" = some (.ref a.f_law_mod)
  F_law_leap : Fun K "_law_leap" "_law_leap" s_law_leap a.f_law_leap a.d_law_leap
  b_law_leap : Binds K a.d_law_leap ["calendar", "y"] []
  g_law_leap : mg "_law_leap" = some (.ref a.f_law_leap)
  F_law_length : Fun K "_law_length" "_law_length" s_law_length a.f_law_length a.d_law_length
  b_law_length : Binds K a.d_law_length ["calendar", "m"] []
  g_law_length : mg "_law_length" = some (.ref a.f_law_length)
  F_law_year_first : Fun K "_law_year_first" "_law_year_first" s_law_year_first a.f_law_year_first a.d_law_year_first
  b_law_year_first : Binds K a.d_law_year_first ["calendar", "y"] []
  g_law_year_first : mg "_law_year_first" = some (.ref a.f_law_year_first)
  F_law_month_first : Fun K "_law_month_first" "_law_month_first" s_law_month_first a.f_law_month_first a.d_law_month_first
  b_law_month_first : Binds K a.d_law_month_first ["calendar", "m"] []
  g_law_month_first : mg "_law_month_first" = some (.ref a.f_law_month_first)
  F_law_month_at : Fun K "_law_month_at" "_law_month_at" s_law_month_at a.f_law_month_at a.d_law_month_at
  b_law_month_at : Binds K a.d_law_month_at ["calendar", "day"] []
  g_law_month_at : mg "_law_month_at" = some (.ref a.f_law_month_at)
  F_law_digits2 : Fun K "_law_digits2" "_law_digits2" s_law_digits2 a.f_law_digits2 a.d_law_digits2
  b_law_digits2 : Binds K a.d_law_digits2 ["n", "many"] []
  g_law_digits2 : mg "_law_digits2" = some (.ref a.f_law_digits2)
  F_law_day_text : Fun K "_law_day_text" "_law_day_text" s_law_day_text a.f_law_day_text a.d_law_day_text
  b_law_day_text : Binds K a.d_law_day_text ["day"] []
  g_law_day_text : mg "_law_day_text" = some (.ref a.f_law_day_text)
  F_law_told : Fun K "_law_told" "_law_told" s_law_told a.f_law_told a.d_law_told
  b_law_told : Binds K a.d_law_told ["text", "today"] []
  g_law_told : mg "_law_told" = some (.ref a.f_law_told)
  F_law_later : Fun K "_law_later" "_law_later" s_law_later a.f_law_later a.d_law_later
  b_law_later : Binds K a.d_law_later ["day", "k"] []
  g_law_later : mg "_law_later" = some (.ref a.f_law_later)
  F_law_by : Fun K "_law_by" "_law_by" s_law_by a.f_law_by a.d_law_by
  b_law_by : Binds K a.d_law_by ["today", "n", "unit"] []
  g_law_by : mg "_law_by" = some (.ref a.f_law_by)
  F_law_in_month : Fun K "_law_in_month" "_law_in_month" s_law_in_month a.f_law_in_month a.d_law_in_month
  b_law_in_month : Binds K a.d_law_in_month ["m", "place", "word", "weekdays"] []
  g_law_in_month : mg "_law_in_month" = some (.ref a.f_law_in_month)
  F_law : Fun K "law" "law" s_law a.f_law a.d_law
  b_law : Binds K a.d_law ["script"] []
  g_law : mg "law" = some (.ref a.f_law)
  c_Line : Cls K a.C_Line
  g_Line : mg "Line" = some (.ref a.C_Line)
  n_Line_words : NoAttr K a.C_Line "words"
  n_Line_line : NoAttr K a.C_Line "line"
  n_Line_place : NoAttr K a.C_Line "place"
  g_BadText : mg "BadText" = some (.ref a.C_BadText)
  r_BadText : PySem.W.subIn K (.ref a.C_BadText) (.type "BaseException") = some true
  t_BadText : PySem.W.typeIn K (.ref a.C_BadText) = some (.type "type")
  k_BadText : PySem.W.keepIn K (.ref a.C_BadText) = true
  x_BadText : OexC K a.C_BadText
  y_BadText : XfC K a.C_BadText
  i_BadText : PySem.W.findIn K (.ref a.C_BadText) "__init__" = some (some (.ref a.f_BadText_init))
  u_BadText : PySem.W.typeIn K (.ref a.f_BadText_init) = some (.type "function")
  n_BadText_line : PySem.W.findIn K (.ref a.C_BadText) "line" = some none
  n_BadText_word : PySem.W.findIn K (.ref a.C_BadText) "word" = some none
  g_BadDate : mg "BadDate" = some (.ref a.C_BadDate)
  r_BadDate : PySem.W.subIn K (.ref a.C_BadDate) (.type "BaseException") = some true
  t_BadDate : PySem.W.typeIn K (.ref a.C_BadDate) = some (.type "type")
  k_BadDate : PySem.W.keepIn K (.ref a.C_BadDate) = true
  x_BadDate : PySem.W.excIn K a.C_BadDate [.type "ValueError", .type "Exception", .type "BaseException", .type "object"] "ValueError.__new__" = true
  e_BadText_BadText : PySem.W.exmOne K (.ref a.C_BadText) (.ref a.C_BadText) = some true
  e_BadDate_BadDate : PySem.W.exmOne K (.ref a.C_BadDate) (.ref a.C_BadDate) = some true
  g_DaysError : mg "DaysError" = some (.ref a.C_DaysError)
  B_DaysError : BaseInit K a.C_DaysError a.M_DaysError
  z_len : mg "len" = none
  z_int : mg "int" = none
  z_str : mg "str" = none
  z_list : mg "list" = none
  z_range : mg "range" = none
  z_divmod : mg "divmod" = none
  z_all : mg "all" = none
  z_min : mg "min" = none
  z_isinstance : mg "isinstance" = none
  z_bool : mg "bool" = none
  z_tuple : mg "tuple" = none
  g_LENGTHS : mg "LENGTHS" = some (.ref a.A_LENGTHS)
  h_LENGTHS : ∀ H, SqT K H a.A_LENGTHS ([31, 28, 31, 30, 31, 30, 31, 31, 30, 31, 30, 31].map V.int)
  k_LENGTHS : ∃ o, K.lookup a.A_LENGTHS = some o ∧ o.cls = .type "tuple" ∧ o.dict = none
  g_BEFORE : mg "BEFORE" = some (.ref a.A_BEFORE)
  h_BEFORE : ∀ H, SqT K H a.A_BEFORE ([0, 31, 59, 90, 120, 151, 181, 212, 243, 273, 304, 334].map V.int)
  k_BEFORE : ∃ o, K.lookup a.A_BEFORE = some o ∧ o.cls = .type "tuple" ∧ o.dict = none
  g_CYCLE_MONTHS : ∃ u, mg "CYCLE_MONTHS" = some u ∧ RelV (.int 4800) u
  g_CYCLE_DAYS : ∃ u, mg "CYCLE_DAYS" = some u ∧ RelV (.int 146097) u
  g_DIGITS_MOST : ∃ u, mg "DIGITS_MOST" = some u ∧ RelV (.int 18) u
  g_WEEKDAYS : mg "WEEKDAYS" = some (.ref a.A_WEEKDAYS)
  h_WEEKDAYS : ∀ H, SqT K H a.A_WEEKDAYS (Wd.WD.map fun z => V.str (S z))
  k_WEEKDAYS : ∃ o, K.lookup a.A_WEEKDAYS = some o ∧ o.cls = .type "tuple" ∧ o.dict = none
  g_MONTHS : mg "MONTHS" = some (.ref a.A_MONTHS)
  h_MONTHS : ∀ H, SqT K H a.A_MONTHS (Wd.MO.map fun z => V.str (S z))
  k_MONTHS : ∃ o, K.lookup a.A_MONTHS = some o ∧ o.cls = .type "tuple" ∧ o.dict = none
  g_COUNT_MOST : ∃ u, mg "COUNT_MOST" = some u ∧ RelV (.int 100000) u
  g_DIGITS_dates : ∃ u, mg "DIGITS_dates" = some u ∧ RelV (.str "0123456789") u
  g_DIGITS_line : ∃ u, mg "DIGITS_line" = some u ∧ RelV (.str "0123456789") u
  g_PLACES : mg "PLACES" = some (.ref a.A_PLACES)
  h_PLACES : ∀ H, SqT K H a.A_PLACES (Wd.PL.map fun z => V.str (S z))
  k_PLACES : ∃ o, K.lookup a.A_PLACES = some o ∧ o.cls = .type "tuple" ∧ o.dict = none
  g_UNITS : mg "UNITS" = some (.ref a.A_UNITS)
  h_UNITS : ∀ H, SqT K H a.A_UNITS (Wd.UN.map fun z => V.str (S z))
  k_UNITS : ∃ o, K.lookup a.A_UNITS = some o ∧ o.cls = .type "tuple" ∧ o.dict = none
section
variable {P : Program} {w : World} {K : PySem.W.Frag} {mg : Str → Option Value} {base : Heap} {a : Adr}
theorem two_le : 2 ≤ sizeLine := by decide
theorem same_new {H : Hp} {p : Addr} {o : HO} (h : H p = none) : Same H (upd H p o) := fun b x e => by
  rw [upd_ne (ne_of_none e h)]; exact e
/-- the tape: its cells, its place, what is left -/
abbrev tp (c : Addr) (k r : Int) : HO := .lst [.ref c, .int k, .int r]
def sp_law_draw (K : PySem.W.Frag) : Sp := fun vs H Q _ => ∃ (t c : Addr) (m k r : Int) (ns : List Int), vs = [.ref t, .int m] ∧ 0 < m ∧ m < 1073741824 ∧ H t = some (tp c k r) ∧ H c = some (.lst (ns.map V.int)) ∧ 0 ≤ k ∧ 0 ≤ r ∧
  ∀ (d k' r' : Int), 0 ≤ d → d < m → 0 ≤ k' → 0 ≤ r' → Q (.int d) (upd H t (tp c k' r'))
theorem ok_law_draw (T : Txt K mg a) : FnOk P w K mg base CX0 1 a.f_law_draw a.d_law_draw ["tape", "many"] (sp_law_draw K) := by
  refine T.F_law_draw.ok sc_law_draw (fun vs H Q E h => ?_) (fun cdv A outer s H vs Q E hr h => ?_)
  · obtain ⟨t, c, m, k, r, ns, rfl, _⟩ := h
    rfl
  · obtain ⟨t, c, m, k, r, ns, rfl, m0, m1, ht, hc, k0, r0, q⟩ := h
    refine ⟨_, (C8.pss_cut (ps_if (pt_cmpR op_lt (pe_ix ix_list (pv 0) pe_int (fun _ _ => rfl)) (pv 1) (nomark _))
       (pss_cons (ps_set (i := 2) sc_law_draw.nd rfl (.inl rfl) (pe_ix ix_list (pv 0) pe_int (fun _ _ => rfl)))
       (pss_cons (ps_set (i := 3) sc_law_draw.nd rfl (.inl rfl) (pe_ix ix_list (pv 0) pe_int (fun _ _ => rfl)))
       (pss_cons (ps_set (i := 4) sc_law_draw.nd rfl (.inl rfl) pe_int)
       (C8.pss_cut (ps_if (pt_cmpR op_lt (pv 3) (pe_callB call_len_seq (by rfl) T.z_len (by decide +kernel) (pa_cons (pv 2) pa_nil)) (nomark _))
       (pss_one (ps_set (i := 4) sc_law_draw.nd rfl (.inl rfl) (pe_ix ix_list (pv 2) (pv 3) (fun _ _ => rfl))))
       pss_nil)
       (C8.pss_cut (ps_if (pt_cmpR op_lt (pv 4) pe_int (nomark _))
       (pss_one (ps_set (i := 4) sc_law_draw.nd rfl (.inl rfl) (pe_op op_sub (pe_op op_mul (pe_un un_neg pe_int) (pv 4)) pe_int)))
       pss_nil)
       (C8.pss_cut (ps_if (pt_cmpR op_lt (pv 4) (pe_op op_pow pe_int pe_int) (nomark _))
       (pss_cons (ps_set (i := 4) sc_law_draw.nd rfl (.inl rfl) (pe_op op_modE (pe_callTy call_int1 (by rfl) T.z_int (by decide +kernel) (pa_cons (pe_op op_add (pe_op op_add (pe_op op_mul (pv 4) pe_int) (pe_op op_mul (pv 3) pe_int)) pe_int) pa_nil)) pe_int))
       (pss_one (ps_set (i := 4) sc_law_draw.nd rfl (.inl rfl) (pe_op op_modE (pe_callTy call_int1 (by rfl) T.z_int (by decide +kernel) (pa_cons (pe_op op_add (pe_op op_add (pe_op op_mul (pv 4) pe_int) (pe_op op_mul (pv 3) pe_int)) pe_int) pa_nil)) pe_int))))
       pss_nil)
       (pss_cons (ps_asg (pe_op op_add (pv 3) pe_int) (pg_sub (pv 0) pe_int set_list))
       (pss_one (ps_asg (pv 4) (pg_sub (pv 0) pe_int set_list))))))))))
       pss_nil)
       (pss_cons (ps_set (i := 5) sc_law_draw.nd rfl (.inl rfl) (pe_op op_modE (pe_callTy call_int1 (by rfl) T.z_int (by decide +kernel) (pa_cons (pe_ix ix_list (pv 0) pe_int (fun _ _ => rfl)) pa_nil)) (pv 1)))
       (pss_cons (ps_asg (pe_op op_fdivE (pe_ix ix_list (pv 0) pe_int (fun _ _ => rfl)) (pv 1)) (pg_sub (pv 0) pe_int set_list))
       (pss_one (ps_ret (pv 5)))))), ?_⟩
    refine red (σ' := [some (.ref t), some (.int m), none, none, none, none]) rfl ?_
    dsimp only [cxOf]
    have htc : c ≠ t := ne_of hc ht (by intro z; unfold tp at z; cases ns <;> simp at z)
    refine ⟨fun σ' H' => ∃ (k' r' : Int) (x2 x3 x4 x5 : Option V), 0 ≤ k' ∧ 0 ≤ r' ∧ σ' = [some (.ref t), some (.int m), x2, x3, x4, x5] ∧ H' = upd H t (tp c k' r'), ?_, ?_⟩
    · walk_at "go"
      refine iteK (fun h1 => ?_) (fun h1 => ?_)
      · walk_at "go"
        refine ⟨fun σ' H' => ∃ z : Int, σ' = [some (.ref t), some (.int m), some (.ref c), some (.int k), some (.int z), none] ∧ H = H', ?_, ?_⟩
        · walk_at "go"
          refine iteK (fun h2 => ?_) (fun h2 => ?_)
          · walk_at "go"
            rw [List.length_map] at h2
            obtain ⟨j, rfl⟩ := Int.eq_ofNat_of_zero_le k0
            have hj : j < ns.length := by omega
            refine g_ixL (v := .int ns[j]) (SqL.of hc) (atI_nat (by rw [List.getElem?_map, List.getElem?_eq_getElem hj]; rfl)) ?_
            walk_at "go"
            exact ⟨_, rfl, rfl⟩
          · walk_at "go"
            exact ⟨_, rfl, rfl⟩
        · rintro σ' H' ⟨z, rfl, rfl⟩
          refine ⟨fun σ' H' => ∃ z : Int, 0 ≤ z ∧ σ' = [some (.ref t), some (.int m), some (.ref c), some (.int k), some (.int z), none] ∧ H = H', ?_, ?_⟩
          · walk_at "go"
            refine iteK (fun h2 => ?_) (fun h2 => ?_)
            · walk_at "go"
              exact ⟨_, by omega, rfl, rfl⟩
            · walk_at "go"
              exact ⟨_, by omega, rfl, rfl⟩
          · rintro σ' H' ⟨z, z0, rfl, rfl⟩
            refine ⟨fun σ' H' => ∃ z : Int, 0 ≤ z ∧ σ' = [some (.ref t), some (.int m), some (.ref c), some (.int k), some (.int z), none] ∧ H = H', ?_, ?_⟩
            · walk_at "go"
              refine iteK (fun h2 => ?_) (fun h2 => ?_)
              · walk_at "go"
                exact ⟨_, by omega, rfl, rfl⟩
              · walk_at "go"
                exact ⟨_, by omega, rfl, rfl⟩
            · rintro σ' H' ⟨z, z0, rfl, rfl⟩
              walk_at "go"
              exact ⟨k + 1, z, _, _, _, _, by omega, z0, rfl, by rw [upd_upd]; rfl⟩
      · walk_at "go"
        exact ⟨k, r, _, _, _, _, k0, r0, rfl, by funext b; unfold upd; split <;> simp_all⟩
    · rintro σ' H' ⟨k', r', x2, x3, x4, x5, k0', r0', rfl, rfl⟩
      walk_at "go"
      rw [upd_upd]
      exact q _ _ _ (Int.emod_nonneg _ (by omega)) (Int.emod_lt_of_pos _ m0) k0' (Int.ediv_nonneg r0' (by omega))
def sp_law_tape (K : PySem.W.Frag) : Sp := fun vs H Q _ => ∃ (b : Addr) (xs : List V), vs = [.ref b] ∧ SqL K H b xs ∧ xs.length < 100 ∧
  ∀ t c, H c = none → H t = none → c ≠ t → Q (.ref t) (upd (upd H c (.lst xs)) t (tp c 0 0))
theorem ok_law_tape (T : Txt K mg a) : FnOk P w K mg base CX0 1 a.f_law_tape a.d_law_tape ["script"] (sp_law_tape K) := by
  refine T.F_law_tape.ok sc_law_tape (fun vs H Q E h => ?_) (fun cdv A outer s H vs Q E hr h => ?_)
  · obtain ⟨b, xs, rfl, _⟩ := h
    rfl
  · obtain ⟨b, xs, rfl, hb, hl, q⟩ := h
    refine ⟨_, (pss_one (ps_ret (pe_lst (pa_cons (pe_callTy call_list_of (by rfl) T.z_list (by decide +kernel) (pa_cons (pv 0) pa_nil)) (pa_cons pe_int (pa_cons pe_int pa_nil)))))), ?_⟩
    refine red (σ' := [some (.ref b)]) rfl ?_
    dsimp only [cxOf]
    walk_at "go"
    intro c hc
    walk_at "go"
    refine ⟨by show 3 ≤ sizeLine; decide, fun t ht => ?_⟩
    have ct : c ≠ t := fun e => by rw [← e, upd_same] at ht; cases ht
    rw [upd_ne ct.symm] at ht
    exact q t c hc ht ct
end
section
variable {P : Program} {w : World} {K : PySem.W.Frag} {mg : Str → Option Value} {base : Heap} {a : Adr}
theorem i_if {c : Prop} [Decidable c] {A B : Prop} (h1 : c → A) (h2 : ¬ c → B) : if c then A else B := by
  by_cases h : c
  · rw [if_pos h]; exact h1 h
  · rw [if_neg h]; exact h2 h
/-- a test told by a Bool -/
theorem iteB {b : Bool} {A B : Prop} (h1 : b = true → A) (h2 : b = false → B) : if b = true then A else B := by
  cases b with
  | true => exact h1 rfl
  | false => exact h2 rfl
def sp_is_leap : Sp := fun vs H Q _ => ∃ y : Int, vs = [.int y] ∧ Q (.bl (Civ.isLeap y)) H
theorem dec_int (i j : Int) : decide (V.int i = V.int j) = decide (i = j) := by
  by_cases h : i = j
  · subst h; simp
  · have : ¬ V.int i = V.int j := fun z => h (by cases z; rfl)
    rw [decide_eq_false this, decide_eq_false h]
theorem ok_is_leap (T : Txt K mg a) : FnOk P w K mg base CX0 1 a.f_is_leap a.d_is_leap ["year"] sp_is_leap := by
  refine T.F_is_leap.ok sc_is_leap (fun vs H Q E h => ?_) (fun cdv A outer s H vs Q E hr h => ?_)
  · obtain ⟨y, rfl, _⟩ := h
    rfl
  · obtain ⟨y, rfl, q⟩ := h
    refine ⟨_, (pss_one (ps_ret (pe_and (pe_cmpR op_eq (pe_op op_modE (pv 0) pe_int) pe_int (nomark _)) (pe_one (pe_or (pe_cmpR op_ne (pe_op op_modE (pv 0) pe_int) pe_int (nomark _)) (pe_one (pe_cmpR op_eq (pe_op op_modE (pv 0) pe_int) pe_int (nomark _)))))))), ?_⟩
    refine red (σ' := [some (.int y)]) rfl ?_
    try dsimp only [cxOf]
    have e : Civ.isLeap y = (decide (y % 4 = 0) && (!decide (y % 100 = 0) || decide (y % 400 = 0))) := rfl
    walk_at "go"
    rw [dec_int]
    refine iteB (fun h1 => ?_) (fun h1 => ?_)
    · walk_at "go"
      rw [dec_int]
      refine iteB (fun h2 => ?_) (fun h2 => ?_)
      · rw [e, h1, h2] at q; exact q
      · walk_at "go"
        rw [dec_int]
        rw [e, h1, h2] at q; exact q
    · rw [e, h1] at q; exact q
def sp_year_of_month : Sp := fun vs H Q _ => ∃ m : Int, vs = [.int m] ∧ Q (.int (m / 12 + 1)) H
theorem ok_year_of_month (T : Txt K mg a) : FnOk P w K mg base CX0 1 a.f_year_of_month a.d_year_of_month ["m"] sp_year_of_month := by
  refine T.F_year_of_month.ok sc_year_of_month (fun vs H Q E h => ?_) (fun cdv A outer s H vs Q E hr h => ?_)
  · obtain ⟨y, rfl, _⟩ := h
    rfl
  · obtain ⟨y, rfl, q⟩ := h
    refine ⟨_, (pss_one (ps_ret (pe_op op_add (pe_op op_fdivE (pv 0) pe_int) pe_int))), ?_⟩
    refine red (σ' := [some (.int y)]) rfl ?_
    try dsimp only [cxOf]
    walk_at "go"
    exact q
theorem at12 {xs : List Int} (hx : xs.length = 12) (m : Int) : atI (xs.map V.int) (m % 12) = some (.int (xs.getD (m % 12).toNat 0)) := by
  obtain ⟨k, hk⟩ := Int.eq_ofNat_of_zero_le (show 0 ≤ m % 12 by omega)
  rw [hk, Int.toNat_natCast]
  have l : k < xs.length := by omega
  refine atI_nat ?_
  rw [List.getElem?_map, List.getElem?_eq_getElem l, List.getD_eq_getElem?_getD, List.getElem?_eq_getElem l]
  rfl
def sp_month_length : Sp := fun vs H Q _ => ∃ m : Int, vs = [.int m] ∧ Q (.int (Civ.len m)) H
theorem ok_month_length (T : Txt K mg a) : FnOk P w K mg base CX0 2 a.f_month_length a.d_month_length ["m"] sp_month_length := by
  refine T.F_month_length.ok sc_month_length (fun vs H Q E h => ?_) (fun cdv A outer s H vs Q E hr h => ?_)
  · obtain ⟨y, rfl, _⟩ := h
    rfl
  · obtain ⟨m, rfl, q⟩ := h
    refine ⟨_, (pss_cons (ps_if (PW.pt (pw_and (pt_cmpR op_eq (pe_op op_modE (pv 0) pe_int) pe_int (nomark _)) (pw_and1 (pt_val (pe_call (ok_is_leap T) (hr.mono (by decide)) (by rfl) T.g_is_leap T.F_is_leap.kp T.b_is_leap .nil pass0 (pa_cons (pe_call (ok_year_of_month T) (hr.mono (by decide)) (by rfl) T.g_year_of_month T.F_year_of_month.kp T.b_year_of_month .nil pass0 (pa_cons (pv 0) pa_nil)) pa_nil))))))
       (pss_one (ps_ret pe_int))
       pss_nil)
       (pss_one (ps_ret (pe_ix ix_tup (pe_glob (v := .ref a.A_LENGTHS) (by rfl) T.g_LENGTHS rfl) (pe_op op_modE (pv 0) pe_int) (fun _ _ => rfl))))), ?_⟩
    refine red (σ' := [some (.int m)]) rfl ?_
    try dsimp only [cxOf]
    have fin : ∀ {Q : VK}, ¬ (m % 12 = 1 ∧ Civ.isLeap (m / 12 + 1) = true) → Q (.int (Civ.len m)) H → rIxT K (.ref a.A_LENGTHS) (.int (m % 12)) H Q := fun {Q} hn q => by
      refine g_ixT (T.h_LENGTHS H) (at12 rfl m) ?_
      have e : Civ.len m = Civ.LEN.getD (m % 12).toNat 0 := by
        unfold Civ.len Civ.lp
        by_cases h1 : m % 12 = 1
        · rw [if_pos h1, if_neg (fun h2 => hn ⟨h1, h2⟩)]; show _ + 0 = _; rw [Int.add_zero]; rfl
        · rw [if_neg h1]; show _ + 0 = _; rw [Int.add_zero]; rfl
      rw [e] at q
      exact q
    walk_at "go"
    rw [dec_int]
    refine iteB (fun h1 => ?_) (fun h1 => ?_)
    · have h1 := of_decide_eq_true h1
      walk_at "go"
      refine ⟨m, rfl, ?_⟩
      walk_at "go"
      refine ⟨_, rfl, ?_⟩
      walk_at "go"
      refine iteB (fun h2 => ?_) (fun h2 => ?_)
      · have e : Civ.len m = 29 := by
          unfold Civ.len Civ.lp
          rw [if_pos h1, if_pos h2, h1]; rfl
        rw [e] at q
        walk_at "go"
        exact q
      · walk_at "go"
        exact fin (fun z => by rw [z.2] at h2; cases h2) q
    · have h1 := of_decide_eq_false h1
      refine iteF ?_
      walk_at "go"
      exact fin (fun z => h1 z.1) q
def sp_first_day : Sp := fun vs H Q _ => ∃ m : Int, vs = [.int m] ∧ Q (.int (Civ.fd m)) H
theorem ok_first_day (T : Txt K mg a) : FnOk P w K mg base CX0 2 a.f_first_day a.d_first_day ["m"] sp_first_day := by
  refine T.F_first_day.ok sc_first_day (fun vs H Q E h => ?_) (fun cdv A outer s H vs Q E hr h => ?_)
  · obtain ⟨y, rfl, _⟩ := h
    rfl
  · obtain ⟨m, rfl, q⟩ := h
    refine ⟨_, (pss_cons (ps_set (i := 1) sc_first_day.nd rfl (.inl rfl) (pe_op op_fdivE (pv 0) pe_int))
       (pss_cons (ps_set (i := 2) sc_first_day.nd rfl (.inl rfl) (pe_op op_add (pe_op op_sub (pe_op op_add (pe_op op_mul pe_int (pv 1)) (pe_op op_fdivE (pv 1) pe_int)) (pe_op op_fdivE (pv 1) pe_int)) (pe_op op_fdivE (pv 1) pe_int)))
       (pss_cons (ps_aug (i := 2) sc_first_day.nd rfl (.inl rfl) (pe_ix ix_tup (pe_glob (v := .ref a.A_BEFORE) (by rfl) T.g_BEFORE rfl) (pe_op op_modE (pv 0) pe_int) (fun _ _ => rfl)) ip_add)
       (C8.pss_cut (ps_if (PW.pt (pw_and (pt_cmpR op_gt (pe_op op_modE (pv 0) pe_int) pe_int (nomark _)) (pw_and1 (pt_val (pe_call (ok_is_leap T) (hr.mono (by decide)) (by rfl) T.g_is_leap T.F_is_leap.kp T.b_is_leap .nil pass0 (pa_cons (pe_op op_add (pv 1) pe_int) pa_nil))))))
       (pss_one (ps_aug (i := 2) sc_first_day.nd rfl (.inl rfl) pe_int ip_add))
       pss_nil)
       (pss_one (ps_ret (pv 2))))))), ?_⟩
    refine red (σ' := [some (.int m), none, none]) rfl ?_
    try dsimp only [cxOf]
    walk_at "go"
    refine g_ixT (T.h_BEFORE H) (at12 rfl m) ?_
    walk_at "go"
    refine ⟨fun σ' H' => ∃ z : Int, z = Civ.fd m ∧ σ' = [some (.int m), some (.int (m / 12)), some (.int z)] ∧ H = H', ?_, ?_⟩
    · walk_at "go"
      refine iteK (fun h1 => ?_) (fun h1 => ?_)
      · walk_at "go"
        refine ⟨_, rfl, ?_⟩
        walk_at "go"
        refine iteB (fun h2 => ?_) (fun h2 => ?_)
        · walk_at "go"
          refine ⟨_, ?_, rfl, rfl⟩
          show _ = Civ.yd (m / 12) + Civ.bef (m % 12) + if 1 < m % 12 then Civ.lp (m / 12 + 1) else 0
          rw [if_pos (by omega)]
          unfold Civ.lp
          rw [if_pos h2]
          rfl
        · walk_at "go"
          refine ⟨_, ?_, rfl, rfl⟩
          show _ = Civ.yd (m / 12) + Civ.bef (m % 12) + if 1 < m % 12 then Civ.lp (m / 12 + 1) else 0
          rw [if_pos (by omega)]
          unfold Civ.lp
          rw [if_neg (by rw [h2]; decide), Int.add_zero]
          rfl
      · refine iteF ?_
        walk_at "go"
        refine ⟨_, ?_, rfl, rfl⟩
        show _ = Civ.yd (m / 12) + Civ.bef (m % 12) + if 1 < m % 12 then Civ.lp (m / 12 + 1) else 0
        rw [if_neg (by omega), Int.add_zero]
        rfl
    · rintro σ' H' ⟨z, rfl, rfl, rfl⟩
      walk_at "go"
      exact q
end
section
variable {P : Program} {w : World} {K : PySem.W.Frag} {mg : Str → Option Value} {base : Heap} {a : Adr}
def sp_month_of : Sp := fun vs H Q _ => ∃ d : Int, vs = [.int d] ∧ ∀ m H', Same H H' → Civ.IsM d m → Q (.int m) H'
theorem ok_month_of (T : Txt K mg a) : FnOk P w K mg base CX0 3 a.f_month_of a.d_month_of ["day"] sp_month_of := by
  refine T.F_month_of.ok sc_month_of (fun vs H Q E h => ?_) (fun cdv A outer s H vs Q E hr h => ?_)
  · obtain ⟨y, rfl, _⟩ := h
    rfl
  · obtain ⟨d, rfl, q⟩ := h
    refine ⟨_, (pss_cons (ps_asg (pe_callB call_divmod (by rfl) T.z_divmod (by decide +kernel) (pa_cons (pv 0) (pa_cons (C8.pe_gc (v := .int 146097) (by rfl) T.g_CYCLE_DAYS) pa_nil))) (pg_tup (by rfl) (pgs_cons (pg_name (i := 1) sc_month_of.nd rfl (.inl rfl)) (pgs_cons (pg_name (i := 2) sc_month_of.nd rfl (.inl rfl)) pgs_nil))))
       (pss_cons (ps_set (i := 3) sc_month_of.nd rfl (.inl rfl) (pe_op op_fdivE (pv 2) pe_int))
       (pss_cons (ps_while PassesOwn.never (pt_cmpR op_le (pe_call (ok_first_day T) (hr.mono (by decide)) (by rfl) T.g_first_day T.F_first_day.kp T.b_first_day .nil pass0 (pa_cons (pe_op op_mul pe_int (pe_op op_add (pv 3) pe_int)) pa_nil)) (pv 2) (nomark _))
       (pss_one (ps_aug (i := 3) sc_month_of.nd rfl (.inl rfl) pe_int ip_add)))
       (pss_cons (ps_set (i := 4) sc_month_of.nd rfl (.inl rfl) pe_int)
       (pss_cons (ps_while PassesOwn.never (PW.pt (pw_and (pt_cmpR op_lt (pv 4) pe_int (nomark _)) (pw_and1 (pt_cmpR op_le (pe_call (ok_first_day T) (hr.mono (by decide)) (by rfl) T.g_first_day T.F_first_day.kp T.b_first_day .nil pass0 (pa_cons (pe_op op_add (pe_op op_add (pe_op op_mul pe_int (pv 3)) (pv 4)) pe_int) pa_nil)) (pv 2) (nomark _)))))
       (pss_one (ps_aug (i := 4) sc_month_of.nd rfl (.inl rfl) pe_int ip_add)))
       (pss_one (ps_ret (pe_op op_add (pe_op op_add (pe_op op_mul (C8.pe_gc (v := .int 4800) (by rfl) T.g_CYCLE_MONTHS) (pv 1)) (pe_op op_mul pe_int (pv 3))) (pv 4))))))))), ?_⟩
    refine red (σ' := [some (.int d), none, none, none, none]) rfl ?_
    try dsimp only [cxOf]
    walk_at "go"
    refine ⟨d, 146097, rfl, ⟨by decide, by decide⟩, fun p hp => ?_⟩
    refine g_gtup ⟨p, [.int (d / 146097), .int (d % 146097)], rfl, SqT.of upd_same, rfl, ?_⟩
    have sm : Same H (upd H p (.tup [.int (d / 146097), .int (d % 146097)])) := same_new hp
    generalize upd H p (.tup [.int (d / 146097), .int (d % 146097)]) = H1 at sm
    have hd : d = d % 146097 + 146097 * (d / 146097) := by omega
    have r0 : 0 ≤ d % 146097 := by omega
    have r1 : d % 146097 < 146097 := by omega
    generalize d % 146097 = r at hd r0 r1
    generalize d / 146097 = c at hd
    walk_at "go"
    refine ⟨fun n σ' H' => ∃ p : Int, σ' = [some (.int d), some (.int c), some (.int r), some (.int p), none] ∧ H' = H1 ∧ 0 ≤ p ∧ Civ.yd p ≤ r ∧ n = (500 - p).toNat, ⟨_, _, rfl, rfl, by omega, ?_, rfl⟩, ?_⟩
    · unfold Civ.yd; omega
    rintro n σ' H' ⟨p, rfl, rfl, p0, hp, rfl⟩
    walk_at "go"
    refine ⟨_, rfl, ?_⟩
    walk_at "go"
    rw [Civ.fd_year]
    refine iteK (fun h1 => ?_) (fun h1 => ?_)
    · refine ⟨fun σ' H2 => σ' = [some (.int d), some (.int c), some (.int r), some (.int (p + 1)), none] ∧ H2 = H', fun σ' H2 h => ⟨(500 - (p + 1)).toNat, ?_, p + 1, h.1, h.2, by omega, h1, rfl⟩, ?_⟩
      · have : p + 1 < 401 := by unfold Civ.yd at h1; omega
        omega
      · walk_at "go"
        exact ⟨rfl, rfl⟩
    · walk_at "go"
      refine ⟨fun n σ' H2 => ∃ k : Int, σ' = [some (.int d), some (.int c), some (.int r), some (.int p), some (.int k)] ∧ H2 = H' ∧ 0 ≤ k ∧ k ≤ 11 ∧ Civ.fd (12 * p + k) ≤ r ∧ n = (11 - k).toNat, ⟨_, _, rfl, rfl, by omega, by omega, ?_, rfl⟩, ?_⟩
      · rw [Int.add_zero, Civ.fd_year]; exact hp
      rintro n σ' H2 ⟨k, rfl, rfl, k0, k11, hk, rfl⟩
      have fin : r < Civ.fd (12 * p + k + 1) → Q (.int (4800 * c + 12 * p + k)) H2 := fun h => by
        have := (Civ.IsM.cycle (c := c) (m := 12 * p + k) (d := r) ⟨hk, h⟩)
        rw [← hd] at this
        have e : 4800 * c + 12 * p + k = 12 * p + k + 4800 * c := by omega
        rw [e]
        exact q _ _ sm this
      walk_at "go"
      refine iteK (fun h2 => ?_) (fun h2 => ?_)
      · walk_at "go"
        refine ⟨_, rfl, ?_⟩
        walk_at "go"
        refine iteK (fun h3 => ?_) (fun h3 => ?_)
        · refine ⟨fun σ' H3 => σ' = [some (.int d), some (.int c), some (.int r), some (.int p), some (.int (k + 1))] ∧ H3 = H2, fun σ' H3 h => ⟨(11 - (k + 1)).toNat, by omega, k + 1, h.1, h.2, by omega, by omega, ?_, rfl⟩, ?_⟩
          · have e : 12 * p + (k + 1) = 12 * p + k + 1 := by omega
            rw [e]; exact h3
          · walk_at "go"
            exact ⟨rfl, rfl⟩
        · walk_at "go"
          exact fin (by omega)
      · refine iteF ?_
        walk_at "go"
        have e : k = 11 := by omega
        refine fin ?_
        have e2 : 12 * p + k + 1 = 12 * (p + 1) := by omega
        rw [e2, Civ.fd_year]
        omega
end
section
variable {P : Program} {w : World} {K : PySem.W.Frag} {mg : Str → Option Value} {base : Heap} {a : Adr}
def sp_law_mod : Sp := fun vs H Q _ => ∃ i n : Int, vs = [.int i, .int n] ∧ 0 < n ∧ n < 1073741824 ∧ Q (.int (i % n)) H
theorem ok_law_mod (T : Txt K mg a) : FnOk P w K mg base CX0 1 a.f_law_mod a.d_law_mod ["a", "n"] sp_law_mod := by
  refine T.F_law_mod.ok sc_law_mod (fun vs H Q E h => ?_) (fun cdv A outer s H vs Q E hr h => ?_)
  · obtain ⟨i, n, rfl, _⟩ := h
    rfl
  · obtain ⟨i, n, rfl, n0, n1, q⟩ := h
    refine ⟨_, (pss_one (ps_ret (pe_op op_sub (pv 0) (pe_op op_mul (pe_op op_fdivE (pv 0) (pv 1)) (pv 1))))), ?_⟩
    refine red (σ' := [some (.int i), some (.int n)]) rfl ?_
    try dsimp only [cxOf]
    walk_at "go"
    refine g_I (cmul_r (by omega) (by omega)) ?_
    walk_at "go"
    have e : i - i / n * n = i % n := by rw [Int.emod_def, Int.mul_comm]
    show Q (.int (i - i / n * n)) H
    rw [e]
    exact q
def sp_law_leap : Sp := fun vs H Q _ => ∃ y : Int, vs = [.str "civil", .int y] ∧ Q (.bl (Civ.isLeap y)) H
theorem ok_law_leap (T : Txt K mg a) : FnOk P w K mg base CX0 2 a.f_law_leap a.d_law_leap ["calendar", "y"] sp_law_leap := by
  refine T.F_law_leap.ok sc_law_leap (fun vs H Q E h => ?_) (fun cdv A outer s H vs Q E hr h => ?_)
  · obtain ⟨y, rfl, _⟩ := h
    rfl
  · obtain ⟨y, rfl, q⟩ := h
    refine ⟨_, (pss_cons (ps_if (pt_cmpR op_eq (pv 0) pe_str (nomark _))
       (pss_one (ps_ret (pe_cmpR op_eq (pe_call (ok_law_mod T) (hr.mono (by decide)) (by rfl) T.g_law_mod T.F_law_mod.kp T.b_law_mod .nil pass0 (pa_cons (pv 1) (pa_cons pe_int pa_nil))) pe_int (nomark _))))
       pss_nil)
       (pss_cons (ps_if (pt_cmpR op_eq (pv 0) pe_str (nomark _))
       (pss_one (ps_ret (pe_cmpR op_gt (pe_op op_fdivE (pe_op op_add (pe_op op_mul pe_int (pv 1)) pe_int) pe_int) (pe_op op_fdivE (pe_op op_add (pe_op op_mul pe_int (pe_op op_sub (pv 1) pe_int)) pe_int) pe_int) (nomark _))))
       pss_nil)
       (pss_one (ps_ret (pe_and (pe_cmpR op_eq (pe_call (ok_law_mod T) (hr.mono (by decide)) (by rfl) T.g_law_mod T.F_law_mod.kp T.b_law_mod .nil pass0 (pa_cons (pv 1) (pa_cons pe_int pa_nil))) pe_int (nomark _)) (pe_one (pe_or (pe_cmpR op_ne (pe_call (ok_law_mod T) (hr.mono (by decide)) (by rfl) T.g_law_mod T.F_law_mod.kp T.b_law_mod .nil pass0 (pa_cons (pv 1) (pa_cons pe_int pa_nil))) pe_int (nomark _)) (pe_one (pe_cmpR op_eq (pe_call (ok_law_mod T) (hr.mono (by decide)) (by rfl) T.g_law_mod T.F_law_mod.kp T.b_law_mod .nil pass0 (pa_cons (pv 1) (pa_cons pe_int pa_nil))) pe_int (nomark _)))))))))), ?_⟩
    refine red (σ' := [some (.str "civil"), some (.int y)]) rfl ?_
    try dsimp only [cxOf]
    have e : Civ.isLeap y = (decide (y % 4 = 0) && (!decide (y % 100 = 0) || decide (y % 400 = 0))) := rfl
    walk_at "go"
    refine ite_n rfl ?_
    walk_at "go"
    refine ite_n rfl ?_
    walk_at "go"
    refine ⟨y, 4, rfl, by decide, by decide, ?_⟩
    walk_at "go"
    rw [dec_int]
    refine iteB (fun h1 => ?_) (fun h1 => ?_)
    · walk_at "go"
      refine ⟨y, 100, rfl, by decide, by decide, ?_⟩
      walk_at "go"
      rw [dec_int]
      refine iteB (fun h2 => ?_) (fun h2 => ?_)
      · rw [e, h1, h2] at q; exact q
      · walk_at "go"
        refine ⟨y, 400, rfl, by decide, by decide, ?_⟩
        walk_at "go"
        rw [dec_int]
        rw [e, h1, h2] at q; exact q
    · rw [e, h1] at q; exact q
def sp_law_length : Sp := fun vs H Q _ => ∃ m : Int, vs = [.str "civil", .int m] ∧ ∀ H', Same H H' → Q (.int (Civ.len m)) H'
theorem ok_law_length (T : Txt K mg a) : FnOk P w K mg base CX0 3 a.f_law_length a.d_law_length ["calendar", "m"] sp_law_length := by
  refine T.F_law_length.ok sc_law_length (fun vs H Q E h => ?_) (fun cdv A outer s H vs Q E hr h => ?_)
  · obtain ⟨y, rfl, _⟩ := h
    rfl
  · obtain ⟨m, rfl, q⟩ := h
    refine ⟨_, (pss_cons (ps_set (i := 2) sc_law_length.nd rfl (.inl rfl) (pe_call (ok_law_mod T) (hr.mono (by decide)) (by rfl) T.g_law_mod T.F_law_mod.kp T.b_law_mod .nil pass0 (pa_cons (pv 1) (pa_cons pe_int pa_nil))))
       (pss_cons (ps_set (i := 3) sc_law_length.nd rfl (.inl rfl) (pe_call (ok_law_leap T) (hr.mono (by decide)) (by rfl) T.g_law_leap T.F_law_leap.kp T.b_law_leap .nil pass0 (pa_cons (pv 0) (pa_cons (pe_op op_add (pe_op op_fdivE (pv 1) pe_int) pe_int) pa_nil))))
       (pss_cons (ps_if (pt_cmpR op_eq (pv 0) pe_str (nomark _))
       (pss_one (ps_ret (pe_op op_add (pe_ix ix_list (pe_lst (pa_cons pe_int (pa_cons pe_int pa_nil))) (pe_call (ok_law_mod T) (hr.mono (by decide)) (by rfl) T.g_law_mod T.F_law_mod.kp T.b_law_mod .nil pass0 (pa_cons (pv 2) (pa_cons pe_int pa_nil))) (fun _ _ => rfl)) (pe_callTy call_int1 (by rfl) T.z_int (by decide +kernel) (pa_cons (pe_and (pe_cmpR op_eq (pv 2) pe_int (nomark _)) (pe_one (pv 3))) pa_nil)))))
       pss_nil)
       (pss_one (ps_ret (pe_op op_add (pe_ix ix_list (pe_lst (pa_cons pe_int (pa_cons pe_int (pa_cons pe_int (pa_cons pe_int (pa_cons pe_int (pa_cons pe_int (pa_cons pe_int (pa_cons pe_int (pa_cons pe_int (pa_cons pe_int (pa_cons pe_int (pa_cons pe_int pa_nil))))))))))))) (pv 2) (fun _ _ => rfl)) (pe_callTy call_int1 (by rfl) T.z_int (by decide +kernel) (pa_cons (pe_and (pe_cmpR op_eq (pv 2) pe_int (nomark _)) (pe_one (pv 3))) pa_nil)))))))), ?_⟩
    refine red (σ' := [some (.str "civil"), some (.int m), none, none]) rfl ?_
    try dsimp only [cxOf]
    walk_at "go"
    refine ⟨m, 12, rfl, by decide, by decide, ?_⟩
    walk_at "go"
    refine ⟨m / 12 + 1, rfl, ?_⟩
    walk_at "go"
    refine ite_n rfl ?_
    walk_at "go"
    refine ⟨by show 12 ≤ sizeLine; decide, fun l hl => ?_⟩
    walk_at "go"
    refine g_ixL (SqL.of upd_same) (at12 (xs := Civ.LEN) rfl m) ?_
    have sm : Same H (upd H l (.lst (Civ.LEN.map V.int))) := same_new hl
    change tCB _ _ _ (upd H l (.lst (Civ.LEN.map V.int))) _
    generalize upd H l (.lst (Civ.LEN.map V.int)) = H1 at sm
    walk_at "go"
    rw [dec_int]
    have e : Civ.len m = Civ.LEN.getD (m % 12).toNat 0 + if m % 12 = 1 then Civ.lp (m / 12 + 1) else 0 := rfl
    refine iteB (fun h1 => ?_) (fun h1 => ?_)
    · rw [if_pos (of_decide_eq_true h1)] at e
      walk_at "go"
      have := q H1 sm
      rw [e] at this
      exact this
    · rw [if_neg (of_decide_eq_false h1)] at e
      walk_at "go"
      have := q H1 sm
      rw [e] at this
      exact this
def sp_law_year_first : Sp := fun vs H Q _ => ∃ y : Int, vs = [.str "civil", .int y] ∧ ∀ H', Same H H' → Q (.int (Civ.yd (y - 1))) H'
theorem ok_law_year_first (T : Txt K mg a) : FnOk P w K mg base CX0 3 a.f_law_year_first a.d_law_year_first ["calendar", "y"] sp_law_year_first := by
  refine T.F_law_year_first.ok sc_law_year_first (fun vs H Q E h => ?_) (fun cdv A outer s H vs Q E hr h => ?_)
  · obtain ⟨y, rfl, _⟩ := h
    rfl
  · obtain ⟨y, rfl, q⟩ := h
    refine ⟨_, (pss_cons (ps_asg (pe_tup (pa_cons pe_int (pa_cons pe_int (pa_cons pe_int (pa_cons pe_int pa_nil))))) (pg_tup (by rfl) (pgs_cons (pg_name (i := 2) sc_law_year_first.nd rfl (.inl rfl)) (pgs_cons (pg_name (i := 3) sc_law_year_first.nd rfl (.inl rfl)) (pgs_cons (pg_name (i := 4) sc_law_year_first.nd rfl (.inl rfl)) (pgs_cons (pg_name (i := 5) sc_law_year_first.nd rfl (.inl rfl)) pgs_nil))))))
       (C8.pss_cut (ps_if (pt_cmpR op_eq (pv 0) pe_str (nomark _))
       (pss_one ps_never)
       pss_nil)
       (C8.pss_cut (ps_if (pt_cmpR op_eq (pv 0) pe_str (nomark _))
       (pss_one (ps_asg (pe_tup (pa_cons pe_int (pa_cons pe_int (pa_cons pe_int (pa_cons pe_int pa_nil))))) (pg_tup (by rfl) (pgs_cons (pg_name (i := 2) sc_law_year_first.nd rfl (.inl rfl)) (pgs_cons (pg_name (i := 3) sc_law_year_first.nd rfl (.inl rfl)) (pgs_cons (pg_name (i := 4) sc_law_year_first.nd rfl (.inl rfl)) (pgs_cons (pg_name (i := 5) sc_law_year_first.nd rfl (.inl rfl)) pgs_nil)))))))
       pss_nil)
       (pss_cons (ps_set (i := 6) sc_law_year_first.nd rfl (.inl rfl) (pe_op op_fdivE (pe_op op_sub (pv 1) pe_int) (pv 2)))
       (pss_cons (ps_set (i := 7) sc_law_year_first.nd rfl (.inl rfl) (pe_op op_add (pv 4) (pe_op op_mul (pv 3) (pv 6))))
       (pss_cons (ps_for PassesOwn.never rfl (pi_range1 (by rfl) T.z_range (pa_cons (pe_op op_sub (pe_op op_sub (pv 1) pe_int) (pe_op op_mul (pv 2) (pv 6))) pa_nil)) (pg_name (i := 8) sc_law_year_first.nd rfl (.inl rfl))
       (pss_one (ps_set (i := 7) sc_law_year_first.nd rfl (.inl rfl) (pe_op op_add (pe_op op_add (pv 7) (pv 5)) (pe_callTy call_int1 (by rfl) T.z_int (by decide +kernel) (pa_cons (pe_call (ok_law_leap T) (hr.mono (by decide)) (by rfl) T.g_law_leap T.F_law_leap.kp T.b_law_leap .nil pass0 (pa_cons (pv 0) (pa_cons (pe_op op_add (pv 8) pe_int) pa_nil))) pa_nil))))))
       (pss_one (ps_ret (pv 7))))))))), ?_⟩
    refine red (σ' := [some (.str "civil"), some (.int y), none, none, none, none, none, none, none]) rfl ?_
    try dsimp only [cxOf]
    walk_at "go"
    refine ⟨by show 4 ≤ sizeLine; decide, fun l hl => ?_⟩
    refine g_gtup ⟨l, [.int 400, .int 146097, .int 0, .int 365], rfl, SqT.of upd_same, rfl, ?_⟩
    have sm : Same H (upd H l (.tup [.int 400, .int 146097, .int 0, .int 365])) := same_new hl
    generalize upd H l (.tup [.int 400, .int 146097, .int 0, .int 365]) = H1 at sm
    walk_at "go"
    refine ⟨fun σ' H' => σ' = [some (.str "civil"), some (.int y), some (.int 400), some (.int 146097), some (.int 0), some (.int 365), none, none, none] ∧ H' = H1, ?_, ?_⟩
    · walk_at "go"
      refine ite_n rfl ?_
      walk_at "go"
      exact ⟨rfl, rfl⟩
    rintro σ' H' ⟨rfl, rfl⟩
    refine ⟨fun σ' H2 => σ' = [some (.str "civil"), some (.int y), some (.int 400), some (.int 146097), some (.int 0), some (.int 365), none, none, none] ∧ H2 = H', ?_, ?_⟩
    · walk_at "go"
      refine ite_n rfl ?_
      walk_at "go"
      exact ⟨rfl, rfl⟩
    rintro σ' H' ⟨rfl, rfl⟩
    walk_at "go"
    refine ⟨_, rfl, by omega, by omega, ?_⟩
    have hy : y - 1 = (y - 1) % 400 + 400 * ((y - 1) / 400) := by omega
    have e0 : y - 1 - 400 * ((y - 1) / 400) = (y - 1) % 400 := by omega
    rw [e0]
    obtain ⟨n, hn⟩ := Int.eq_ofNat_of_zero_le (show 0 ≤ (y - 1) % 400 by omega)
    rw [hn] at hy ⊢
    rw [Int.toNat_natCast]
    have n4 : n < 400 := by omega
    generalize (y - 1) / 400 = c at hy
    refine for_range (fun i σ' H2 => ∃ y8, σ' = [some (.str "civil"), some (.int y), some (.int 400), some (.int 146097), some (.int 0), some (.int 365), some (.int c), some (.int (0 + 146097 * c + Civ.yd i)), y8] ∧ H2 = H')
      ⟨none, by rw [show Civ.yd ((0 : Nat) : Int) = 0 from rfl, Int.add_zero]; rfl, rfl⟩ ?_ ?_
    · rintro i σ' H2 hi ⟨y8, rfl, rfl⟩
      walk_at "go"
      refine ⟨0 + (i : Int) + 1, rfl, ?_⟩
      walk_at "go"
      refine ⟨some (.int (0 + (i : Int))), ?_, rfl⟩
      have e1 : (0 : Int) + i + 1 = i + 1 := by omega
      have e2 : ((i + 1 : Nat) : Int) = (i : Int) + 1 := by omega
      have e3 : (0 + 146097 * c + Civ.yd i + 365 + if Civ.isLeap (0 + (i : Int) + 1) = true then 1 else 0) = 0 + 146097 * c + Civ.yd ((i + 1 : Nat) : Int) := by
        rw [e1, e2, Civ.yd_succ]
        show _ = 0 + 146097 * c + (Civ.yd i + 365 + if Civ.isLeap ((i : Int) + 1) = true then 1 else 0)
        omega
      rw [← e3]
      rfl
    · rintro σ' H2 ⟨y8, rfl, rfl⟩
      walk_at "go"
      have := q H2 sm
      rw [hy, Civ.yd_cycle] at this
      have e4 : 0 + 146097 * c + Civ.yd n = Civ.yd n + 146097 * c := by omega
      rw [e4]
      exact this
def sp_law_month_at : Sp := fun vs H Q _ => ∃ d : Int, vs = [.str "civil", .int d] ∧ ∀ m r H', Same H H' → Civ.IsM d m → H' r = some (.lst [.int m, .int (Civ.fd m)]) → Q (.ref r) H'
theorem ok_law_month_at (T : Txt K mg a) : FnOk P w K mg base CX0 4 a.f_law_month_at a.d_law_month_at ["calendar", "day"] sp_law_month_at := by
  refine T.F_law_month_at.ok sc_law_month_at (fun vs H Q E h => ?_) (fun cdv A outer s H vs Q E hr h => ?_)
  · obtain ⟨y, rfl, _⟩ := h
    rfl
  · obtain ⟨d, rfl, q⟩ := h
    refine ⟨_, (pss_cons (ps_set (i := 2) sc_law_month_at.nd rfl (.inl rfl) (pe_lst (pa_cons (pe_op op_fdivE (pe_op op_mul (pv 1) pe_int) pe_int) (pa_cons (pe_op op_fdivE (pe_op op_mul (pe_op op_add (pv 1) pe_int) pe_int) pe_int) (pa_cons (pe_op op_fdivE (pe_op op_mul (pe_op op_sub (pv 1) pe_int) pe_int) pe_int) pa_nil)))))
       (pss_cons (ps_set (i := 3) sc_law_month_at.nd rfl (.inl rfl) (pe_ix ix_list (pv 2) (pe_bm PySem.F.plainAttrs_list PySem.F.slot_list_index PySem.F.type_list_index mt_index (pe_lst (pa_cons pe_str (pa_cons pe_str (pa_cons pe_str pa_nil)))) (pa_cons (pv 0) pa_nil)) (fun _ _ => rfl)))
       (pss_cons (ps_for PassesOwn.never rfl (pi_range1 (by rfl) T.z_range (pa_cons pe_int pa_nil)) (pg_name (i := 4) sc_law_month_at.nd rfl (.inl rfl))
       (pss_one (ps_if (pt_cmpR op_le (pe_call (ok_law_year_first T) (hr.mono (by decide)) (by rfl) T.g_law_year_first T.F_law_year_first.kp T.b_law_year_first .nil pass0 (pa_cons (pv 0) (pa_cons (pe_op op_add (pv 3) pe_int) pa_nil))) (pv 1) (nomark _))
       (pss_one (ps_set (i := 3) sc_law_month_at.nd rfl (.inl rfl) (pe_op op_add (pv 3) pe_int)))
       pss_nil)))
       (pss_cons (ps_set (i := 5) sc_law_month_at.nd rfl (.inl rfl) (pe_op op_mul pe_int (pe_op op_sub (pv 3) pe_int)))
       (pss_cons (ps_set (i := 6) sc_law_month_at.nd rfl (.inl rfl) (pe_call (ok_law_year_first T) (hr.mono (by decide)) (by rfl) T.g_law_year_first T.F_law_year_first.kp T.b_law_year_first .nil pass0 (pa_cons (pv 0) (pa_cons (pv 3) pa_nil))))
       (pss_cons (ps_for PassesOwn.never rfl (pi_range1 (by rfl) T.z_range (pa_cons pe_int pa_nil)) (pg_name (i := 4) sc_law_month_at.nd rfl (.inl rfl))
       (pss_cons (ps_set (i := 7) sc_law_month_at.nd rfl (.inl rfl) (pe_call (ok_law_length T) (hr.mono (by decide)) (by rfl) T.g_law_length T.F_law_length.kp T.b_law_length .nil pass0 (pa_cons (pv 0) (pa_cons (pv 5) pa_nil))))
       (pss_one (ps_if (pt_cmpR op_le (pe_op op_add (pv 6) (pv 7)) (pv 1) (nomark _))
       (pss_cons (ps_set (i := 6) sc_law_month_at.nd rfl (.inl rfl) (pe_op op_add (pv 6) (pv 7)))
       (pss_one (ps_set (i := 5) sc_law_month_at.nd rfl (.inl rfl) (pe_op op_add (pv 5) pe_int))))
       pss_nil))))
       (pss_one (ps_ret (pe_lst (pa_cons (pv 5) (pa_cons (pv 6) pa_nil))))))))))), ?_⟩
    refine red (σ' := [some (.str "civil"), some (.int d), none, none, none, none, none, none]) rfl ?_
    try dsimp only [cxOf]
    walk_at "go"
    refine ⟨by show 3 ≤ sizeLine; decide, fun l hl => ?_⟩
    have sm : Same H (upd H l (.lst [.int (d * 400 / 146097), .int ((d + 2) * 4 / 1461), .int ((d - 227014) * 30 / 10631)])) := same_new hl
    have h1 : upd H l (.lst [.int (d * 400 / 146097), .int ((d + 2) * 4 / 1461), .int ((d - 227014) * 30 / 10631)]) l = some (.lst [.int (d * 400 / 146097), .int ((d + 2) * 4 / 1461), .int ((d - 227014) * 30 / 10631)]) := upd_same
    generalize upd H l (.lst [.int (d * 400 / 146097), .int ((d + 2) * 4 / 1461), .int ((d - 227014) * 30 / 10631)]) = H1 at sm h1
    walk_at "go"
    refine ⟨by show 3 ≤ sizeLine; decide, fun l2 hl2 => ?_⟩
    refine ⟨.inl ⟨rfl, _, SqL.of upd_same⟩, ?_⟩
    walk_at "go"
    refine ⟨l2, _, _, 0, _, rfl, rfl, SqL.of upd_same, rfl, rfl, rfl, rfl, fun m z' hm => by omega, ?_⟩
    refine g_ixL (n := ((0 : Nat) : Int)) (SqL.of ((upd_ne (ne_of_none h1 hl2)).trans h1)) (atI_nat rfl) ?_
    replace sm := sm.trans (same_new (o := .lst [.str "civil", .str "julian", .str "moon"]) hl2)
    generalize upd H1 l2 (.lst [.str "civil", .str "julian", .str "moon"]) = H2 at sm
    walk_at "go"
    refine ⟨4, rfl, by decide, by decide, ?_⟩
    have hy0 : 146097 * (d * 400 / 146097) ≤ 400 * d ∧ 400 * d < 146097 * (d * 400 / 146097 + 1) := by omega
    generalize d * 400 / 146097 = y0 at hy0
    refine for_range (fun i σ' H' => ∃ (y : Int) (y4 : Option V), σ' = [some (.str "civil"), some (.int d), some (.ref l), some (.int y), y4, none, none, none] ∧ Same H H' ∧ y0 ≤ y ∧ y ≤ y0 + i ∧ Civ.yd (y - 1) ≤ d ∧ (y = y0 + i ∨ d < Civ.yd y))
      ⟨y0, none, rfl, sm, by omega, by omega, by unfold Civ.yd; omega, .inl (by omega)⟩ ?_ ?_
    · rintro i σ' H3 hi ⟨y, y4, rfl, sm, g1, g2, g3, g4⟩
      walk_at "go"
      refine ⟨y + 1, rfl, fun H4 sm4 => ?_⟩
      walk_at "go"
      have e1 : y + 1 - 1 = y := by omega
      rw [e1]
      refine iteK (fun h => ?_) (fun h => ?_)
      · walk_at "go"
        refine ⟨y + 1, _, rfl, sm.trans sm4, by omega, by omega, by rw [e1]; exact h, ?_⟩
        rcases g4 with g4 | g4
        · left; omega
        · omega
      · walk_at "go"
        exact ⟨y, _, rfl, sm.trans sm4, g1, by omega, g3, .inr (by omega)⟩
    · rintro σ' H3 ⟨y, y4, rfl, sm, g1, g2, g3, g4⟩
      have top : d < Civ.yd y := by
        rcases g4 with g4 | g4
        · have g4 : y = y0 + 4 := g4
          unfold Civ.yd
          omega
        · exact g4
      clear g1 g2 g4 hy0
      walk_at "go"
      refine ⟨y, rfl, fun H4 sm4 => ?_⟩
      walk_at "go"
      refine ⟨11, rfl, by decide, by decide, ?_⟩
      refine for_range (fun i σ' H' => ∃ (m : Int) (y4 y7 : Option V), σ' = [some (.str "civil"), some (.int d), some (.ref l), some (.int y), y4, some (.int m), some (.int (Civ.fd m)), y7] ∧ Same H H' ∧ 12 * (y - 1) ≤ m ∧ m ≤ 12 * (y - 1) + i ∧ Civ.fd m ≤ d ∧ (m = 12 * (y - 1) + i ∨ d < Civ.fd (m + 1)))
        ⟨12 * (y - 1), y4, none, by rw [Civ.fd_year]; rfl, sm.trans sm4, by omega, by omega, by rw [Civ.fd_year]; exact g3, .inl (by omega)⟩ ?_ ?_
      · rintro i σ' H5 hi ⟨m, y4, y7, rfl, sm, g1, g2, g3, g4⟩
        walk_at "go"
        refine ⟨m, rfl, fun H6 sm6 => ?_⟩
        walk_at "go"
        rw [← Civ.fd_succ]
        refine iteK (fun h => ?_) (fun h => ?_)
        · walk_at "go"
          refine ⟨m + 1, _, _, by rw [Civ.fd_succ]; rfl, sm.trans sm6, by omega, by omega, h, ?_⟩
          rcases g4 with g4 | g4
          · left; omega
          · omega
        · walk_at "go"
          exact ⟨m, _, _, rfl, sm.trans sm6, g1, by omega, g3, .inr (by omega)⟩
      · rintro σ' H5 ⟨m, y4, y7, rfl, sm, g1, g2, g3, g4⟩
        walk_at "go"
        refine ⟨two_le, fun r hr => ?_⟩
        refine q m r _ (sm.trans (same_new hr)) ⟨g3, ?_⟩ upd_same
        rcases g4 with g4 | g4
        · have g4 : m = 12 * (y - 1) + 11 := g4
          have e2 : m + 1 = 12 * y := by omega
          rw [e2, Civ.fd_year]
          exact top
        · exact g4
end
section
variable {P : Program} {w : World} {K : PySem.W.Frag} {mg : Str → Option Value} {base : Heap} {a : Adr}
theorem dec_str (x y : List Nat) : decide (V.str (S x) = V.str (S y)) = decide (x = y) := by
  by_cases h : x = y
  · subst h; simp
  · have : ¬ V.str (S x) = V.str (S y) := fun z => h (S_inj (by cases z; rfl))
    rw [decide_eq_false this, decide_eq_false h]
def sp_day_of (a : Adr) : Sp := fun vs H Q E => ∃ y mo d : Int, vs = [.int y, .int mo, .int d] ∧ (Civ.dayOf y mo d = none → E (.ref a.C_BadDate) none H) ∧ ∀ k, Civ.dayOf y mo d = some k → Q (.int k) H
theorem ok_day_of (T : Txt K mg a) : FnOk P w K mg base (L2.CX P w) 3 a.f_day_of a.d_day_of ["year", "month", "date"] (sp_day_of a) := by
  refine T.F_day_of.okX sc_day_of (fun vs H Q E h => ?_) (fun cdv A outer s H vs Q E hr h => ?_)
  · obtain ⟨y, mo, d, rfl, _⟩ := h
    rfl
  · obtain ⟨y, mo, d, rfl, q1, q2⟩ := h
    refine ⟨_, (pss_cons (ps_if (pt_not (pt_chain op_le op_le pe_int (pv 1) pe_int))
       (pss_one (ps_raise rfl (takes_of rfl rfl rfl rfl) (pmk_own0 PySem.F.excBase_ValueError T.x_BadDate T.g_BadDate T.k_BadDate (raises_own T.r_BadDate T.t_BadDate) rfl)))
       pss_nil)
       (pss_cons (ps_set (i := 3) sc_day_of.nd rfl (.inl rfl) (pe_op op_sub (pe_op op_add (pe_op op_mul pe_int (pe_op op_sub (pv 0) pe_int)) (pv 1)) pe_int))
       (pss_cons (ps_if (pt_not (pt_chain op_le op_le pe_int (pv 2) (pe_call (ok_month_length T) (hr.mono (by decide)) (by rfl) T.g_month_length T.F_month_length.kp T.b_month_length .nil pass0 (pa_cons (pv 3) pa_nil))))
       (pss_one (ps_raise rfl (takes_of rfl rfl rfl rfl) (pmk_own0 PySem.F.excBase_ValueError T.x_BadDate T.g_BadDate T.k_BadDate (raises_own T.r_BadDate T.t_BadDate) rfl)))
       pss_nil)
       (pss_one (ps_ret (pe_op op_sub (pe_op op_add (pe_call (ok_first_day T) (hr.mono (by decide)) (by rfl) T.g_first_day T.F_first_day.kp T.b_first_day .nil pass0 (pa_cons (pv 3) pa_nil)) (pv 2)) pe_int)))))), ?_⟩
    refine red (σ' := [some (.int y), some (.int mo), some (.int d), none]) rfl ?_
    try dsimp only [cxOf]
    walk_at "go"
    have no : ∀ {A : Prop}, (Civ.dayOf y mo d = none → A) → ¬ ((1 ≤ mo ∧ mo ≤ 12) ∧ (1 ≤ d ∧ d ≤ Civ.len (12 * (y - 1) + mo - 1))) → A := fun f h => f (by unfold Civ.dayOf; rw [if_neg h])
    refine iteK (fun h1 => ?_) (fun h1 => ?_)
    · walk_at "go"
      refine iteNK (fun h2 => ?_) (fun h2 => ?_)
      · walk_at "go"
        exact no q1 fun z => h2 z.1.2
      · walk_at "go"
        refine iteK (fun h3 => ?_) (fun h3 => ?_)
        · walk_at "go"
          refine ⟨_, rfl, ?_⟩
          walk_at "go"
          refine iteNK (fun h4 => ?_) (fun h4 => ?_)
          · walk_at "go"
            exact no q1 fun z => h4 z.2.2
          · walk_at "go"
            refine ⟨_, rfl, ?_⟩
            walk_at "go"
            refine q2 _ ?_
            unfold Civ.dayOf
            rw [if_pos ⟨⟨h1, h2⟩, h3, h4⟩]
        · walk_at "go"
          refine ite_y rfl ?_
          walk_at "go"
          exact no q1 fun z => h3 z.2.1
    · walk_at "go"
      refine ite_y rfl ?_
      walk_at "go"
      exact no q1 fun z => h1 z.1.1
end
section
variable {P : Program} {w : World} {K : PySem.W.Frag} {mg : Str → Option Value} {base : Heap} {a : Adr}
def sp_all_digits : Sp := fun vs H Q _ => ∃ l : List Nat, vs = [.str (S l)] ∧ l.length ≤ 100000 ∧ ∀ H', Same H H' → Q (.bl (Dg.isDig l)) H'
theorem in_digits (c : Nat) : decide (c ∈ [48, 49, 50, 51, 52, 53, 54, 55, 56, 57]) = (decide (48 ≤ c) && decide (c ≤ 57)) := by
  by_cases h : 48 ≤ c ∧ c ≤ 57
  · rw [decide_eq_true h.1, decide_eq_true h.2]
    have : c = 48 ∨ c = 49 ∨ c = 50 ∨ c = 51 ∨ c = 52 ∨ c = 53 ∨ c = 54 ∨ c = 55 ∨ c = 56 ∨ c = 57 := by omega
    rcases this with r | r | r | r | r | r | r | r | r | r <;> subst r <;> rfl
  · have h2 : (decide (48 ≤ c) && decide (c ≤ 57)) = false := by
      rw [Bool.and_eq_false_iff, decide_eq_false_iff_not, decide_eq_false_iff_not]
      omega
    rw [h2, decide_eq_false_iff_not]
    intro hm
    simp only [List.mem_cons, List.not_mem_nil, or_false] at hm
    omega
theorem all_id {α : Type} (f : α → Bool) : ∀ l : List α, (l.map f).all id = l.all f
  | [] => rfl
  | x :: l => by rw [List.map_cons, List.all_cons, List.all_cons, all_id f l]; rfl
theorem take_more {α : Type} : ∀ {l : List α} {i : Nat} {x : α}, l[i]? = some x → l.take (i + 1) = l.take i ++ [x]
  | [], i, x, h => by simp at h
  | a :: l, 0, x, h => by cases h; rfl
  | a :: l, i + 1, x, h => by
    show a :: l.take (i + 1) = a :: l.take i ++ [x]
    rw [take_more (l := l) (i := i) (x := x) h]; rfl
theorem digs {σ : L2.St} {i j : Nat} {l : List Nat} {H : Hp} {Q : VK} (hl : l.length ≤ 900000) (hj : σ[j]? = some (some (.str (S l)))) (h1 : ∀ x : V, wipe ((wipe σ [i]).set i (some x)) [i] = wipe σ [i]) (h2 : ∀ x : V, ((wipe σ [i]).set i (some x))[i]? = some (some x))
    (q : ∀ D H', Same H H' → H' D = some (.lst ((l.map fun c => decide (48 ≤ c) && decide (c ≤ 57)).map V.bl)) → Q (.ref D) H') :
    tLc (iStr (tVar j)) (gName i) tYes (tOp (fun x y H Q => ∃ (c : Nat) (z : Str), x = .str ⟨#[c]⟩ ∧ y = .str z ∧ Q (.bl (decide (c ∈ z.cps.toList))) H) (tVar i) (tC (.str "0123456789"))) [i] σ H Q := by
  refine g_lc (g_istr (g_var hj ⟨S l, rfl, fun D hD => ?_⟩))
  have hsz : (S l).cps.size = l.length := S_len l
  refine lc_it walk_str (fun i H' => Same H H' ∧ H' D = some (.lst (((l.take i).map fun c => decide (48 ≤ c) && decide (c ≤ 57)).map V.bl))) ⟨same_new hD, upd_same⟩ (fun _ _ _ _ => trivial) ?_ ?_
  · rintro k x H1 H2 hi ⟨sm, hL⟩ ⟨rfl, c, hc, rfl⟩
    have hc' : l[k]? = some c := by simpa using hc
    refine g_name ⟨h1 _, g_yes (iteT (g_op (g_var (h2 _) (g_c ⟨c, _, rfl, rfl, ?_⟩))))⟩
    have e1 : decide (c ∈ (Str.ofString "0123456789").cps.toList) = (decide (48 ≤ c) && decide (c ≤ 57)) := in_digits c
    rw [e1]
    refine ⟨_, hL, ?_, fun b o hb => ?_, ?_⟩
    · have := sizeBig
      rw [List.length_map, List.length_map, List.length_take]
      omega
    · rw [upd_ne (ne_of_none hb hD)]; exact sm b o hb
    · rw [upd_same, take_more hc', List.map_append, List.map_append]; rfl
  · rintro H1 ⟨sm, hL⟩
    rw [hsz, List.take_length] at hL
    exact q D H1 sm hL
theorem isDig_all {l : List Nat} (hn : l ≠ []) : (l.map fun c => decide (48 ≤ c) && decide (c ≤ 57)).all id = Dg.isDig l := by
  rw [all_id]
  unfold Dg.isDig
  cases l with
  | nil => exact absurd rfl hn
  | cons x l => rfl
theorem ok_all_digits (T : Txt K mg a) : FnOk P w K mg base CX0 1 a.f_all_digits a.d_all_digits ["word"] sp_all_digits := by
  refine T.F_all_digits.ok sc_all_digits (fun vs H Q E h => ?_) (fun cdv A outer s H vs Q E hr h => ?_)
  · obtain ⟨l, rfl, _⟩ := h
    rfl
  · obtain ⟨l, rfl, hl, q⟩ := h
    refine ⟨_, (pss_one (ps_ret (pe_and (pe_cmpR op_ne (pv 0) pe_str (nomark _)) (pe_one (pe_callB (cr_all rfl) (by rfl) T.z_all (by decide +kernel) (pa_cons (pe_lc (own := [("sign", 1)]) (g := (gName 1)) rfl sc_all_digits.nd (pi_str (pv 0)) (blkOk_by (own := [("sign", 1)]) (N := ["word", "sign"]) (sc := defScope s_all_digits) (by decide +kernel)) (fun _ _ _ _ _ => (pg_name (i := 1) sc_all_digits.nd rfl (.inl rfl))) (fun _ _ _ _ _ => pts_nil) (fun _ _ _ _ _ => (pe_cmpR op_in_sign (pv 1) (C8.pe_gc (v := .str "0123456789") (by rfl) T.g_DIGITS_dates) rfl))) pa_nil)))))), ?_⟩
    refine red (σ' := [some (.str (S l)), none]) rfl ?_
    try dsimp only [cxOf]
    refine g_ret (g_an2 (g_op (g_var rfl (g_c ((g_ne rfl (g_test ?_)))))))
    have e0 : decide (V.str (S l) = V.str "") = decide (l = []) := dec_str l []
    rw [e0]
    by_cases hn : l = []
    · rw [decide_eq_true hn]
      refine iteF ?_
      rw [hn] at q
      exact q H (Same.refl H)
    · rw [decide_eq_false hn]
      refine iteT ?_
      refine g_cb (g_cons (digs (i := 1) (j := 0) (by omega) rfl (fun _ => rfl) (fun _ => rfl) fun D H1 sm hL => g_nil ⟨D, _, rfl, SqL.of hL, ?_⟩))
      rw [isDig_all hn]
      exact q H1 sm
end
section
variable {P : Program} {w : World} {K : PySem.W.Frag} {mg : Str → Option Value} {base : Heap} {a : Adr}
theorem lk_hd {f : Str} {v : V} {r : List (Str × V)} : List.lookup f ((f, v) :: r) = some v := by simp [List.lookup]
theorem lk_tl {f g : Str} {v : V} {r : List (Str × V)} (h : ¬ f = g) : List.lookup f ((g, v) :: r) = List.lookup f r := by
  have e : (f == g) = false := by simpa using h
  simp [List.lookup, e]
abbrev bx (l w : Int) : List (Str × V) := [("word", .int w), ("line", .int l)]
theorem bx_word (l w : Int) : List.lookup ("word" : Str) (bx l w) = some (.int w) := lk_hd
theorem bx_line (l w : Int) : List.lookup ("line" : Str) (bx l w) = some (.int l) := by
  rw [lk_tl (by decide +kernel)]; exact lk_hd
def sp_BadText_init (K : PySem.W.Frag) : Sp := fun vs H Q _ => ∃ (x C : Addr) (l w : Int), vs = [.ref x, .int l, .int w] ∧ l.natAbs < 10 ^ 60 ∧ w.natAbs < 10 ^ 60 ∧ OexC K C ∧ PySem.W.findIn K (.ref C) "line" = some none ∧ PySem.W.findIn K (.ref C) "word" = some none ∧ H x = some (exo x C none) ∧
  ∀ d, H d = none → d ≠ x → Q .non (upd (upd (upd H d (exd d [("line", .int l)])) x (exo x C (some d))) d (exd d (bx l w)))
theorem int_text_len {n : Int} (h : n.natAbs < 10 ^ 60) : (Str.ofString (toString n)).length ≤ 70 := by
  obtain ⟨k, hk⟩ | ⟨k, hk⟩ : (∃ k : Nat, n = k) ∨ (∃ k : Nat, n = -((k : Int) + 1)) := by
    rcases Int.lt_or_le n 0 with h0 | h0
    · exact .inr ⟨(-n - 1).toNat, by omega⟩
    · exact .inl ⟨n.toNat, by omega⟩
  · subst hk
    rw [num_S, S_len]
    have := TL.numL_len (k := 60) (n := k) (by decide) (by omega)
    omega
  · subst hk
    have e : (toString (-((k : Int) + 1)) : String) = "-" ++ toString ((k + 1 : Nat) : Int) := by
      have : -((k : Int) + 1) = Int.negSucc k := by omega
      rw [this]; rfl
    rw [e]
    have e2 : Str.ofString ("-" ++ toString ((k + 1 : Nat) : Int)) = S ([45] ++ TL.numL (k + 1)) := by
      rw [← S_cat, ← num_S]
      exact TL.ext_tl (by rw [TL.tl_append]; first | rfl | simp [TL.tl, Str.ofString])
    rw [e2, S_len]
    have := TL.numL_len (k := 60) (n := k + 1) (by decide) (by omega)
    rw [List.length_append]
    show 1 + _ ≤ 70
    omega
theorem ok_BadText_init (T : Txt K mg a) : FnOk P w K mg base CX0 1 a.f_BadText_init a.d_BadText_init ["self", "line", "word"] (sp_BadText_init K) := by
  refine T.F_BadText_init.ok sc_BadText_init (fun vs H Q E h => ?_) (fun cdv A outer s H vs Q E hr h => ?_)
  · obtain ⟨x, C, l, w, rfl, _⟩ := h
    rfl
  · obtain ⟨x, C, l, v, rfl, hl, hw, hC, n1, n2, hx, q⟩ := h
    refine ⟨_, (pss_cons (ps_expr (pe_deinit (by rfl) T.g_DaysError T.B_DaysError (pa_cons (pv 0) (pa_cons (pe_joined (PJ.cons pe_str (PJ.cons (pe_fmt (pv 1)) (PJ.cons pe_str (PJ.cons (pe_fmt (pv 2)) PJ.nil))))) pa_nil))))
       (pss_cons (ps_ost (pv 0) (pv 1))
       (pss_one (ps_ost (pv 0) (pv 2))))), ?_⟩
    refine red (σ' := [some (.ref x), some (.int l), some (.int v)]) rfl ?_
    try dsimp only [cxOf]
    have t1 := int_text_len hl
    have t2 := int_text_len hw
    have e2 : sizeLine = 16777216 := sizeLine_eq
    have c1 : (Str.ofString "line ").length = 5 := by decide +kernel
    have c2 : (Str.ofString ", word ").length = 7 := by decide +kernel
    have c0 : (Str.empty).length = 0 := by decide +kernel
    walk_at "go"
    refine ⟨_, rfl, by rw [strLen_append]; omega, ?_⟩
    walk_at "go"
    refine .inr ⟨l, rfl, log_ok hl, ?_⟩
    refine ⟨_, rfl, by rw [strLen_append, strLen_append]; omega, ?_⟩
    walk_at "go"
    refine ⟨_, rfl, by rw [strLen_append, strLen_append, strLen_append]; omega, ?_⟩
    walk_at "go"
    refine .inr ⟨v, rfl, log_ok hw, ?_⟩
    refine ⟨_, rfl, by rw [strLen_append, strLen_append, strLen_append, strLen_append]; omega, ?_⟩
    walk_at "go"
    refine ⟨x, C, _, rfl, by show 1 ≤ 1000; decide, hC, hx, ?_⟩
    walk_at "go"
    refine ⟨x, C, rfl, hC, n1, .inl ⟨hx, fun d hd hne => ?_⟩⟩
    walk_at "go"
    refine ⟨x, C, rfl, hC, n2, .inr ⟨d, [("line", .int l)], upd_same, (upd_ne hne).trans upd_same, by show 1 ≤ 900; decide, ?_⟩⟩
    exact q d hd hne
/-- an error BadText(l, w) -/
def BadAt (C : Addr) (E : XK) (H : Hp) (l w : Int) : Prop := ∀ d, H d = none → E (.ref C) (some d) (upd H d (.xd (bx l w)))
theorem mk_bad (T : Txt K mg a) {H : Hp} {l v : Int} {R : XK} (hl : l.natAbs < 10 ^ 60) (hv : v.natAbs < 10 ^ 60) (q : BadAt a.C_BadText R H l v) :
    [V.int l, V.int v].length ≤ 1000 ∧ ∀ x, H x = none → sp_BadText_init K (.ref x :: ([V.int l, V.int v] ++ [])) (upd H x (exo x a.C_BadText none))
      (fun v H2 => v = .non ∧ ∃ (d : Addr) (fs : List (Str × V)), H2 x = some (exo x a.C_BadText (some d)) ∧ H2 d = some (exd d fs) ∧ H d = none ∧ R (.ref a.C_BadText) (some d) (upd (del H2 x) d (.xd fs))) (fun _ _ _ => False) := by
  refine ⟨by show 2 ≤ 1000; decide, fun x hx => ⟨x, a.C_BadText, l, v, rfl, hl, hv, T.x_BadText, T.n_BadText_line, T.n_BadText_word, upd_same, fun d hd hne => ⟨rfl, d, bx l v, (upd_ne hne.symm).trans upd_same, upd_same, ?_, ?_⟩⟩⟩
  · rw [upd_ne hne] at hd; exact hd
  · have hd' : H d = none := by rw [upd_ne hne] at hd; exact hd
    have e : upd (del (upd (upd (upd (upd H x (exo x a.C_BadText none)) d (exd d [("line", V.int l)])) x (exo x a.C_BadText (some d))) d (exd d (bx l v))) x) d (.xd (bx l v)) = upd H d (.xd (bx l v)) := by
      funext b
      by_cases h1 : b = d
      · rw [h1, upd_same, upd_same]
      · rw [upd_ne h1, upd_ne h1]
        by_cases h2 : b = x
        · rw [h2, del_same, hx]
        · rw [del_ne h2, upd_ne h1, upd_ne h2, upd_ne h1, upd_ne h2]
    rw [e]
    exact q d hd'
end
section
theorem getD_at {l : List Nat} {n : Nat} (h : n < l.length) : atI l ((n : Nat) : Int) = some (l.getD n 0) := by
  refine atI_nat ?_
  rw [List.getD_eq_getElem?_getD, List.getElem?_eq_getElem h]; rfl
end
section
variable {P : Program} {w : World} {K : PySem.W.Frag} {mg : Str → Option Value} {base : Heap} {a : Adr}
def sp_read_day_word : Sp := fun vs H Q _ => ∃ l : List Nat, vs = [.str (S l)] ∧ l.length ≤ 1000 ∧ ∀ H', Same H H' → Q (((Dg.rdw l).map V.int).getD .non) H'
theorem ok_read_day_word (T : Txt K mg a) : FnOk P w K mg base CX0 4 a.f_read_day_word a.d_read_day_word ["word"] sp_read_day_word := by
  refine T.F_read_day_word.ok sc_read_day_word (fun vs H Q E h => ?_) (fun cdv A outer s H vs Q E hr h => ?_)
  · obtain ⟨l, rfl, _⟩ := h
    rfl
  · obtain ⟨l, rfl, hl, q⟩ := h
    refine ⟨_, (pss_cons (ps_if (PW.pt (pw_or (pt_cmpR op_ne (pe_callB call_len_str (by rfl) T.z_len (by decide +kernel) (pa_cons (pv 0) pa_nil)) pe_int (nomark _)) (pw_or (pt_cmpR op_ne (pe_ix ix_str (pv 0) pe_int (fun _ _ => rfl)) pe_str (nomark _)) (pw_or1 (pt_cmpR op_ne (pe_ix ix_str (pv 0) pe_int (fun _ _ => rfl)) pe_str (nomark _))))))
       (pss_one (ps_ret pe_non))
       pss_nil)
       (pss_cons (ps_set (i := 1) sc_read_day_word.nd rfl (.inl rfl) (pe_lst (pa_cons (pe_slice sl_str (pv 0) po_none (po_some pe_int)) (pa_cons (pe_slice sl_str (pv 0) (po_some pe_int) (po_some pe_int)) (pa_cons (pe_slice sl_str (pv 0) (po_some pe_int) po_none) pa_nil)))))
       (pss_cons (ps_if (pt_not (pt_val (pe_callB (cr_all rfl) (by rfl) T.z_all (by decide +kernel) (pa_cons (pe_lc (own := [("part", 3)]) (g := (gName 3)) rfl sc_read_day_word.nd (pi_list (pv 1)) (blkOk_by (own := [("part", 3)]) (N := ["word", "parts", "day", "part"]) (sc := defScope s_read_day_word) (by decide +kernel)) (fun _ _ _ _ _ => (pg_name (i := 3) sc_read_day_word.nd rfl (.inl rfl))) (fun _ _ _ _ _ => pts_nil) (fun _ _ _ _ _ => (pe_call (ok_all_digits T) (hr.mono (by decide)) (by rfl) T.g_all_digits T.F_all_digits.kp T.b_all_digits .nil pass0 (pa_cons (pv 3) pa_nil)))) pa_nil))))
       (pss_one (ps_ret pe_non))
       pss_nil)
       (pss_cons (ps_try_cl rfl rfl sc_read_day_word.nd takes0 (fun W pn xe tk _ => (pss_one (ps_set (i := 2) sc_read_day_word.nd rfl (.inl rfl) (by exact (pe_callS (ok_day_of T) (hr.mono (by decide)) rfl T.g_day_of T.F_day_of.kp T.b_day_of (fun σ => passAt tk σ) (by exact (pa_cons (pe_callTy call_int_str (by rfl) T.z_int (by decide +kernel) (pa_cons (pe_ix (r := rIxL K) ix_list (pv 1) pe_int (fun _ _ => rfl)) pa_nil)) (pa_cons (pe_callTy call_int_str (by rfl) T.z_int (by decide +kernel) (pa_cons (pe_ix (r := rIxL K) ix_list (pv 1) pe_int (fun _ _ => rfl)) pa_nil)) (pa_cons (pe_callTy call_int_str (by rfl) T.z_int (by decide +kernel) (pa_cons (pe_ix (r := rIxL K) ix_list (pv 1) pe_int (fun _ _ => rfl)) pa_nil)) pa_nil))))))))) (ClOk.bare ⟨rfl, by decide, .inl T.g_BadDate⟩ (fun x oe cls d pn hz hf => (pss_one (ps_ret pe_non))) ClOk.nil))
       (pss_one (ps_ret (pe_ifExp (pt_cmpR op_ge (pv 2) pe_int (nomark _)) (pv 2) pe_non))))))), ?_⟩
    refine red (σ' := [some (.str (S l)), none, none, none]) rfl ?_
    try dsimp only [cxOf]
    have no : ∀ {H'}, Same H H' → Dg.form l = false → Q .non H' := fun {H'} sm h => by
      have := q H' sm
      unfold Dg.rdw at this
      rw [h] at this
      exact this
    walk_at "go"
    refine g_lenS (by omega) ?_
    rw [S_len]
    walk_at "go"
    rw [dec_int]
    refine iteNK (fun h1 => ?_) (fun h1 => ?_)
    · refine iteT ?_
      walk_at "go"
      refine no (Same.refl H) ?_
      have : ¬ l.length = 10 := fun z => h1 (by omega)
      unfold Dg.form
      rw [decide_eq_false this]; rfl
    have l10 : l.length = 10 := by omega
    walk_at "go"
    refine g_ixS (n := ((4 : Nat) : Int)) (by omega) (getD_at (by omega)) ?_
    walk_at "go"
    have e0 : decide (V.str (S [l.getD 4 0]) = V.str "-") = decide (l.getD 4 0 = 45) := by
      refine (dec_str [l.getD 4 0] [45]).trans ?_
      simp
    rw [e0]
    refine iteNK (fun h2 => ?_) (fun h2 => ?_)
    · refine iteT ?_
      walk_at "go"
      refine no (Same.refl H) ?_
      unfold Dg.form
      rw [decide_eq_false h2, Bool.false_and, Bool.and_false]; rfl
    walk_at "go"
    refine g_ixS (n := ((7 : Nat) : Int)) (by omega) (getD_at (by omega)) ?_
    walk_at "go"
    have e0 : decide (V.str (S [l.getD 7 0]) = V.str "-") = decide (l.getD 7 0 = 45) := by
      refine (dec_str [l.getD 7 0] [45]).trans ?_
      simp
    rw [e0]
    refine iteNK (fun h3 => ?_) (fun h3 => ?_)
    · walk_at "go"
      refine no (Same.refl H) ?_
      unfold Dg.form
      rw [decide_eq_false h3, Bool.and_false, Bool.and_false]; rfl
    walk_at "go"
    refine g_slS (by omega) ?_
    rw [show cutL l none (some (4 : Int)) = l.take 4 from cutL_to (n := 4) (by omega)]
    walk_at "go"
    refine g_slS (by omega) ?_
    rw [show cutL l (some (5 : Int)) (some (7 : Int)) = (l.drop 5).take 2 from cutL_mid (i := 5) (j := 7) (by omega) (by omega)]
    walk_at "go"
    refine g_slS (by omega) ?_
    rw [show cutL l (some (8 : Int)) none = l.drop 8 from cutL_from (n := 8) (by omega)]
    walk_at "go"
    refine ⟨by show 3 ≤ sizeLine; decide, fun L hL => ?_⟩
    have smL : Same H (upd H L (.lst [.str (S (l.take 4)), .str (S ((l.drop 5).take 2)), .str (S (l.drop 8))])) := same_new hL
    have hLL : upd H L (.lst [.str (S (l.take 4)), .str (S ((l.drop 5).take 2)), .str (S (l.drop 8))]) L = some (.lst ([l.take 4, (l.drop 5).take 2, l.drop 8].map fun x => V.str (S x))) := upd_same
    generalize upd H L (.lst [.str (S (l.take 4)), .str (S ((l.drop 5).take 2)), .str (S (l.drop 8))]) = H1 at smL hLL
    walk_at "go"
    refine ⟨L, rfl, ⟨_, SqL.of hLL⟩, fun D hD => ?_⟩
    refine lc_list (K := K) (a := L) (xs := [l.take 4, (l.drop 5).take 2, l.drop 8].map fun x => V.str (S x)) (fun i H' => Same H1 H' ∧ H' D = some (.lst ((([l.take 4, (l.drop 5).take 2, l.drop 8].take i).map Dg.isDig).map V.bl))) ⟨same_new hD, upd_same⟩ (fun i H' _ h => SqL.of (h.1 _ _ hLL)) ?_ ?_
    · rintro i x H2 hi ⟨sm, hLi⟩
      have hx : ∃ z, [l.take 4, (l.drop 5).take 2, l.drop 8][i]? = some z ∧ x = .str (S z) := by
        rw [List.getElem?_map] at hi
        cases e : [l.take 4, (l.drop 5).take 2, l.drop 8][i]? with
        | none => rw [e] at hi; cases hi
        | some z => rw [e] at hi; exact ⟨z, rfl, (Option.some.inj hi).symm⟩
      obtain ⟨z, hz, rfl⟩ := hx
      have zl : z.length ≤ 1000 := by
        have := List.mem_of_getElem? hz
        simp only [List.mem_cons, List.not_mem_nil, or_false] at this
        rcases this with r | r | r <;> rw [r] <;> simp only [List.length_take, List.length_drop] <;> omega
      walk_at "go"
      refine ⟨rfl, ?_⟩
      refine g_yes ?_
      refine iteT ?_
      walk_at "go"
      refine ⟨z, rfl, by omega, fun H3 sm3 => ?_⟩
      refine ⟨_, sm3 _ _ hLi, ?_, fun b o hb => ?_, ?_⟩
      · have := sizeBig
        rw [List.length_map, List.length_map, List.length_take]
        show min i 3 < sizeLine
        omega
      · rw [upd_ne (ne_of_none hb hD)]; exact sm3 _ _ (sm b o hb)
      · rw [upd_same, take_more hz, List.map_append, List.map_append]; rfl
    rintro H2 ⟨sm2, hD2⟩
    have hD2 : H2 D = some (.lst ([Dg.isDig (l.take 4), Dg.isDig ((l.drop 5).take 2), Dg.isDig (l.drop 8)].map V.bl)) := hD2
    have smA := smL.trans sm2
    have hLL := sm2 _ _ hLL
    walk_at "go"
    refine ⟨D, _, rfl, SqL.of hD2, ?_⟩
    walk_at "go"
    have eA : [Dg.isDig (l.take 4), Dg.isDig ((l.drop 5).take 2), Dg.isDig (l.drop 8)].all id = (Dg.isDig (l.take 4) && (Dg.isDig ((l.drop 5).take 2) && Dg.isDig (l.drop 8))) := by
      simp [List.all_cons]
    rw [eA]
    cases hf : (Dg.isDig (l.take 4) && (Dg.isDig ((l.drop 5).take 2) && Dg.isDig (l.drop 8))) with
    | false =>
      refine ite_y rfl ?_
      walk_at "go"
      refine no smA ?_
      unfold Dg.form
      rw [hf, Bool.and_false]
    | true =>
    refine ite_n rfl ?_
    have hform : Dg.form l = true := by
      unfold Dg.form
      rw [hf, decide_eq_true l10, decide_eq_true h2, decide_eq_true h3]; rfl
    rw [Bool.and_eq_true, Bool.and_eq_true] at hf
    obtain ⟨f1, f2, f3⟩ := hf
    have q' := q H2 smA
    unfold Dg.rdw at q'
    rw [hform, if_pos rfl] at q'
    have iS : ∀ {z : List Nat}, Dg.isDig z = true → z.length ≤ 600 → PySem.intText? (S z) = some ((PySem.NumText.digitsVal z : Nat) : Int) := fun {z} h hz => int_S (by unfold Dg.isDig at h; rw [Bool.and_eq_true] at h; exact h.2) (Dg.isDig_iff.mp h).1 (by omega)
    walk_at "go"
    refine ⟨S (l.take 4), _, rfl, iS f1 (by rw [List.length_take]; omega), by rw [S_len, List.length_take]; omega, ?_⟩
    walk_at "go"
    refine ⟨S ((l.drop 5).take 2), _, rfl, iS f2 (by rw [List.length_take]; omega), by rw [S_len, List.length_take]; omega, ?_⟩
    walk_at "go"
    refine ⟨S (l.drop 8), _, rfl, iS f3 (by rw [List.length_drop]; omega), by rw [S_len, List.length_drop]; omega, ?_⟩
    walk_at "go"
    have er : Dg.rday l = Civ.dayOf (PySem.NumText.digitsVal (l.take 4) : Nat) (PySem.NumText.digitsVal ((l.drop 5).take 2) : Nat) (PySem.NumText.digitsVal (l.drop 8) : Nat) := rfl
    refine ⟨_, _, _, rfl, fun hno => ?_, fun k hk => ?_⟩
    · rw [er, hno] at q'
      refine ⟨true, T.e_BadDate_BadDate, fun _ b hb => ?_, (fun z => nomatch z)⟩
      exact q'
    · rw [er, hk] at q'
      walk_at "go"
      refine iteK (fun g => ?_) (fun g => ?_)
      · walk_at "go"
        rw [show (some k).bind (fun d => if 0 ≤ d then some d else none) = some k from if_pos g] at q'
        exact q'
      · walk_at "go"
        rw [show (some k).bind (fun d => if 0 ≤ d then some d else none) = none from if_neg g] at q'
        exact q'
end
def RelT (t : Addr) (H H' : Hp) : Prop := ∀ b o, b ≠ t → H b = some o → H' b = some o
theorem RelT.refl (t : Addr) (H : Hp) : RelT t H H := fun _ _ _ h => h
theorem RelT.of {t : Addr} {H H' : Hp} (h : Same H H') : RelT t H H' := fun b o _ e => h b o e
theorem RelT.trans {t : Addr} {H H1 H2 : Hp} (h : RelT t H H1) (g : RelT t H1 H2) : RelT t H H2 := fun b o n e => g b o n (h b o n e)
/-! ### the tape -/
def Tp (t c : Addr) (ns : List Int) (H : Hp) : Prop := (∃ k r, 0 ≤ k ∧ 0 ≤ r ∧ H t = some (tp c k r)) ∧ H c = some (.lst (ns.map V.int))
theorem Tp.same {t c : Addr} {ns : List Int} {H H' : Hp} (h : Tp t c ns H) (g : Same H H') : Tp t c ns H' := by
  obtain ⟨⟨k, r, k0, r0, ht⟩, hc⟩ := h
  exact ⟨⟨k, r, k0, r0, g _ _ ht⟩, g _ _ hc⟩
theorem Tp.new {t c : Addr} {ns : List Int} {H : Hp} (h : Tp t c ns H) {p : Addr} {o : HO} (hp : H p = none) : Tp t c ns (upd H p o) := h.same (same_new hp)
theorem ne_ints {c k r} {ns : List Int} : HO.lst (ns.map V.int) ≠ tp c k r := by intro z; unfold tp at z; cases ns <;> simp at z
theorem Tp.draw {K : PySem.W.Frag} {t c : Addr} {ns : List Int} {H : Hp} (I : Tp t c ns H) {n : Int} (n0 : 0 < n) (n1 : n < 1073741824) {Q : VK} {X : XK}
    (q : ∀ d H', 0 ≤ d → d < n → Tp t c ns H' → RelT t H H' → Q (.int d) H') : sp_law_draw K [.ref t, .int n] H Q X := by
  obtain ⟨⟨k, r, k0, r0, ht⟩, hc⟩ := I
  exact ⟨t, c, n, k, r, ns, rfl, n0, n1, ht, hc, k0, r0, fun d k' r' d0 d1 k0' r0' => q d _ d0 d1 ⟨⟨k', r', k0', r0', upd_same⟩, (upd_ne (ne_of hc ht ne_ints)).trans hc⟩ fun b o hb h => (upd_ne hb).trans h⟩
theorem Tp.ne {t c : Addr} {ns : List Int} {H : Hp} (I : Tp t c ns H) {b : Addr} {o : HO} (h : H b = some o) (hn : ∀ k r, o ≠ tp c k r) : b ≠ t := by
  obtain ⟨⟨k, r, _, _, ht⟩, _⟩ := I
  exact ne_of h ht (hn k r)
theorem Tp.ne_none {t c : Addr} {ns : List Int} {H : Hp} (I : Tp t c ns H) {b : Addr} (h : H b = none) : b ≠ t := by
  obtain ⟨⟨k, r, _, _, ht⟩, _⟩ := I
  exact (ne_of_none ht h).symm
theorem Tp.made {t c : Addr} {ns : List Int} {H : Hp} (hc : H c = none) (ht : H t = none) (ct : c ≠ t) : Tp t c ns (upd (upd H c (.lst (ns.map V.int))) t (tp c 0 0)) :=
  ⟨⟨0, 0, by decide, by decide, upd_same⟩, (upd_ne ct).trans upd_same⟩
section
variable {P : Program} {w : World} {K : PySem.W.Frag} {mg : Str → Option Value} {base : Heap} {a : Adr}
theorem cutL_toA (l : List Nat) (n : Nat) : cutL l none (some (n : Int)) = l.take n := by
  unfold cutL
  rw [HT.sIx_none, HT.sIx_nat, List.drop_zero, Nat.sub_zero]
  by_cases h : n ≤ l.length
  · rw [Nat.min_eq_left h]
  · rw [Nat.min_eq_right (by omega), List.take_of_length_le (Nat.le_refl _), List.take_of_length_le (by omega)]
theorem cutL_fromA (l : List Nat) (n : Nat) : cutL l (some (n : Int)) none = l.drop n := by
  unfold cutL
  rw [HT.sIx_none, HT.sIx_nat]
  by_cases h : n ≤ l.length
  · rw [Nat.min_eq_left h]
    exact List.take_of_length_le (by rw [List.length_drop]; exact Nat.le_refl _)
  · rw [Nat.min_eq_right (by omega), List.drop_of_length_le (Nat.le_refl _), List.drop_of_length_le (by omega)]
    simp
def sp_read_integer : Sp := fun vs H Q _ => ∃ l : List Nat, vs = [.str (S l)] ∧ l.length ≤ 1000 ∧ ∀ H', Same H H' → Q (((Wd.rint l).map V.int).getD .non) H'
theorem ok_read_integer (T : Txt K mg a) : FnOk P w K mg base CX0 1 a.f_read_integer a.d_read_integer ["word"] sp_read_integer := by
  refine T.F_read_integer.ok sc_read_integer (fun vs H Q E h => ?_) (fun cdv A outer s H vs Q E hr h => ?_)
  · obtain ⟨l, rfl, _⟩ := h
    rfl
  · obtain ⟨l, rfl, hl, q⟩ := h
    refine ⟨_, (pss_cons (ps_set (i := 1) sc_read_integer.nd rfl (.inl rfl) (pv 0))
       (C8.pss_cut (ps_if (pt_cmpR op_eq (pe_slice sl_str (pv 0) po_none (po_some pe_int)) pe_str (nomark _))
       (pss_one (ps_set (i := 1) sc_read_integer.nd rfl (.inl rfl) (pe_slice sl_str (pv 0) (po_some pe_int) po_none)))
       pss_nil)
       (pss_cons (ps_if (PW.pt (pw_or (pt_cmpR op_eq (pv 1) pe_str (nomark _)) (pw_or (pt_cmpR op_gt (pe_callB call_len_str (by rfl) T.z_len (by decide +kernel) (pa_cons (pv 1) pa_nil)) (C8.pe_gc (v := .int 18) (by rfl) T.g_DIGITS_MOST) (nomark _)) (pw_or1 (pt_not (pt_val (pe_callB (cr_all rfl) (by rfl) T.z_all (by decide +kernel) (pa_cons (pe_lc (own := [("sign", 2)]) (g := (gName 2)) rfl sc_read_integer.nd (pi_str (pv 1)) (blkOk_by (own := [("sign", 2)]) (N := ["word", "digits", "sign"]) (sc := defScope s_read_integer) (by decide +kernel)) (fun _ _ _ _ _ => (pg_name (i := 2) sc_read_integer.nd rfl (.inl rfl))) (fun _ _ _ _ _ => pts_nil) (fun _ _ _ _ _ => (pe_cmpR op_in_sign (pv 2) (C8.pe_gc (v := .str "0123456789") (by rfl) T.g_DIGITS_line) rfl))) pa_nil))))))))
       (pss_one (ps_ret pe_non))
       pss_nil)
       (pss_cons (ps_if (PW.pt (pw_and (pt_cmpR op_eq (pe_ix ix_str (pv 1) pe_int (fun _ _ => rfl)) pe_str (nomark _)) (pw_and1 (pt_cmpR op_ne (pv 0) pe_str (nomark _)))))
       (pss_one (ps_ret pe_non))
       pss_nil)
       (pss_one (ps_ret (pe_callTy call_int_str (by rfl) T.z_int (by decide +kernel) (pa_cons (pv 0) pa_nil)))))))), ?_⟩
    refine red (σ' := [some (.str (S l)), none, none]) rfl ?_
    try dsimp only [cxOf]
    have no : ∀ {H'}, Same H H' → Wd.rint l = none → Q .non H' := fun {H'} sm h => by
      have := q H' sm
      rw [h] at this
      exact this
    have dl : (Wd.dash l).length ≤ l.length := by
      unfold Wd.dash
      split
      · rw [List.length_drop]; omega
      · omega
    walk_at "go"
    refine ⟨fun σ' H' => σ' = [some (.str (S l)), some (.str (S (Wd.dash l))), none] ∧ H' = H, ?_, ?_⟩
    · walk_at "go"
      refine g_slS (by omega) ?_
      rw [show cutL l none (some (1 : Int)) = l.take 1 from cutL_toA l 1]
      walk_at "go"
      have e0 : decide (V.str (S (l.take 1)) = V.str "-") = decide (l.take 1 = [45]) := dec_str (l.take 1) [45]
      rw [e0]
      unfold Wd.dash
      refine iteK (fun h => ?_) (fun h => ?_)
      · walk_at "go"
        refine g_slS (by omega) ?_
        rw [show cutL l (some (1 : Int)) none = l.drop 1 from cutL_fromA l 1]
        rw [if_pos h]
        exact ⟨rfl, rfl⟩
      · walk_at "go"
        rw [if_neg h]
        exact ⟨rfl, rfl⟩
    rintro σ' H' ⟨rfl, rfl⟩
    generalize hd : Wd.dash l = d at dl
    walk_at "go"
    have e0 : decide (V.str (S d) = V.str "") = decide (d = []) := dec_str d []
    rw [e0]
    refine iteK (fun h => ?_) (fun h1 => ?_)
    · refine iteT ?_
      walk_at "go"
      refine no (Same.refl _) ?_
      unfold Wd.rint
      rw [hd, if_pos (.inl h)]
    walk_at "go"
    refine g_lenS (by omega) ?_
    rw [S_len]
    walk_at "go"
    refine iteK (fun h => ?_) (fun h2 => ?_)
    · refine iteT ?_
      walk_at "go"
      refine no (Same.refl _) ?_
      unfold Wd.rint
      rw [hd, if_pos (.inr (.inl (by omega)))]
    refine g_not (g_tB (g_cb (g_cons (digs (i := 2) (j := 1) (by omega) rfl (fun _ => rfl) (fun _ => rfl) fun D H1 sm hL => g_nil ⟨D, _, rfl, SqL.of hL, ?_⟩))))
    rw [isDig_all h1]
    walk_at "go"
    cases h3 : Dg.isDig d with
    | false =>
      refine ite_y rfl ?_
      walk_at "go"
      refine no sm ?_
      unfold Wd.rint
      rw [hd, if_pos (.inr (.inr h3))]
    | true =>
    refine ite_n rfl ?_
    have hf : ¬ (d = [] ∨ 18 < d.length ∨ Dg.isDig d = false) := fun z => z.elim h1 fun z => z.elim (fun z => h2 (by omega)) fun z => by rw [h3] at z; cases z
    have d0 : 0 < d.length := by
      cases d with
      | nil => exact absurd rfl h1
      | cons c r => exact Nat.succ_pos _
    walk_at "go"
    refine g_ixS (n := ((0 : Nat) : Int)) (by omega) (getD_at d0) ?_
    walk_at "go"
    have e0 : decide (V.str (S [d.getD 0 0]) = V.str "0") = decide (d.getD 0 0 = 48) := by
      refine (dec_str [d.getD 0 0] [48]).trans ?_
      simp
    rw [e0]
    have fin : ¬ (d.getD 0 0 = 48 ∧ l ≠ [48]) → ∃ b n, [V.str (S l)] = [V.str b] ∧ PySem.intText? b = some n ∧ b.length ≤ 640 ∧ Q (.int n) H1 := fun hz => by
      have q' := q H1 sm
      unfold Wd.rint at q'
      rw [hd, if_neg hf, if_neg hz] at q'
      have dd := (Dg.isDig_iff.mp h3).2
      have dn := (Dg.isDig_iff.mp h3).1
      by_cases hm : l.take 1 = [45]
      · rw [if_pos hm] at q'
        have el : l = 45 :: d := by
          cases l with
          | nil => cases hm
          | cons c r =>
            have hc : c = 45 := by simpa using hm
            unfold Wd.dash at hd
            rw [if_pos hm] at hd
            rw [hc, ← hd]; rfl
        have hlen : (S l).length ≤ 640 := by rw [S_len, el, List.length_cons]; omega
        exact ⟨S l, _, rfl, PySem.intText_neg (x := S l) (cs := d) el dd dn (by omega), hlen, q'⟩
      · rw [if_neg hm] at q'
        have el : l = d := by
          unfold Wd.dash at hd
          rw [if_neg hm] at hd
          exact hd
        have hlen : (S l).length ≤ 640 := by rw [S_len, el]; omega
        rw [← el] at q' h3 dn
        refine ⟨S l, _, rfl, int_S ?_ dn (by rw [el]; omega), hlen, q'⟩
        unfold Dg.isDig at h3
        rw [Bool.and_eq_true] at h3
        exact h3.2
    refine iteK (fun g1 => ?_) (fun g1 => ?_)
    · walk_at "go"
      have e0 : decide (V.str (S l) = V.str "0") = decide (l = [48]) := dec_str l [48]
      rw [e0]
      refine iteNK (fun g2 => ?_) (fun g2 => ?_)
      · walk_at "go"
        refine no sm ?_
        unfold Wd.rint
        rw [hd, if_neg hf, if_pos ⟨g1, g2⟩]
      · walk_at "go"
        exact fin fun z => z.2 g2
    · refine iteF ?_
      walk_at "go"
      exact fin fun z => g1 z.1
end
section
variable {P : Program} {w : World} {K : PySem.W.Frag} {mg : Str → Option Value} {base : Heap} {a : Adr}
/-! ### a line of words -/
abbrev sv (ws : List (List Nat)) : List V := ws.map fun z => V.str (S z)
abbrev lf (W : Addr) (l p : Int) : List (Str × V) := [("words", .ref W), ("line", .int l), ("place", .int p)]
theorem lf_words (W : Addr) (l p : Int) : (lf W l p).lookup ("words" : Str) = some (.ref W) := lk_hd
theorem lf_line (W : Addr) (l p : Int) : (lf W l p).lookup ("line" : Str) = some (.int l) := by
  rw [lk_tl (by decide +kernel)]; exact lk_hd
theorem lf_place (W : Addr) (l p : Int) : (lf W l p).lookup ("place" : Str) = some (.int p) := by
  rw [lk_tl (by decide +kernel), lk_tl (by decide +kernel)]; exact lk_hd
theorem lf_no (W : Addr) (l p : Int) {f : Str} (h1 : ¬ f = "words") (h2 : ¬ f = "line") (h3 : ¬ f = "place") : (lf W l p).lookup f = none := by
  rw [lk_tl h1, lk_tl h2, lk_tl h3]; rfl
theorem lf_put (W : Addr) (l p v : Int) : putF "place" (.int v) (lf W l p) = lf W l v := by
  show (if ("words" : Str) = "place" then _ else (("words" : Str), V.ref W) :: (if ("line" : Str) = "place" then _ else (("line" : Str), V.int l) :: (if ("place" : Str) = "place" then _ else _))) = lf W l v
  rw [if_neg (by decide +kernel), if_neg (by decide +kernel), if_pos rfl]
theorem lf_made (W : Addr) (l : Int) : putF "place" (.int 0) (putF "line" (.int l) (putF "words" (.ref W) [])) = lf W l 0 := by
  have e1 : putF "words" (.ref W) [] = [(("words" : Str), V.ref W)] := rfl
  have e2 : putF "line" (.int l) [(("words" : Str), V.ref W)] = [(("words" : Str), V.ref W), (("line" : Str), V.int l)] := by
    show (if ("words" : Str) = "line" then _ else (("words" : Str), V.ref W) :: putF "line" (.int l) []) = _
    rw [if_neg (by decide +kernel)]; rfl
  rw [e1, e2]
  show (if ("words" : Str) = "place" then _ else (("words" : Str), V.ref W) :: (if ("line" : Str) = "place" then _ else (("line" : Str), V.int l) :: putF "place" (.int 0) [])) = lf W l 0
  rw [if_neg (by decide +kernel), if_neg (by decide +kernel)]; rfl
structure Ln (a : Adr) (x dx W : Addr) (ws : List (List Nat)) (l : Int) (p : Nat) (H : Hp) : Prop where
  x_ : H x = some (.ins a.C_Line dx (lf W l p))
  W_ : H W = some (.lst (sv ws))
theorem Ln.same {x dx W : Addr} {ws : List (List Nat)} {l : Int} {p : Nat} {H H' : Hp} (I : Ln a x dx W ws l p H) (h : Same H H') : Ln a x dx W ws l p H' := ⟨h _ _ I.x_, h _ _ I.W_⟩
theorem Ln.ne {x dx W : Addr} {ws : List (List Nat)} {l : Int} {p : Nat} {H : Hp} (I : Ln a x dx W ws l p H) : W ≠ x := ne_of I.W_ I.x_ (by intro z; cases z)
theorem Ln.rel {x dx W : Addr} {ws : List (List Nat)} {l : Int} {p p' : Nat} {H H' : Hp} (I : Ln a x dx W ws l p H) (h : RelT x H H') (hx : H' x = some (.ins a.C_Line dx (lf W l p'))) : Ln a x dx W ws l p' H' := ⟨hx, h _ _ I.ne I.W_⟩
theorem rel_upd {x : Addr} {H : Hp} {o : HO} : RelT x H (upd H x o) := fun b u hb h => (upd_ne hb).trans h
theorem Ln.step {x dx W : Addr} {ws : List (List Nat)} {l : Int} {p p' : Nat} {H : Hp} (I : Ln a x dx W ws l p H) : Ln a x dx W ws l p' (upd H x (.ins a.C_Line dx (lf W l p'))) := I.rel rel_upd upd_same
theorem inV_sv (x : List Nat) : ∀ es : List (List Nat), inV (.str (S x)) (sv es) = decide (x ∈ es)
  | [] => rfl
  | y :: es => by
    have ih := inV_sv x es
    unfold inV at ih ⊢
    rw [sv, List.map_cons, List.any_cons, ih]
    show (S y == S x || decide (x ∈ es)) = decide (x ∈ y :: es)
    rw [S_beq_eq]
    by_cases h : y = x
    · subst h; simp
    · have h'' : ¬ x = y := fun q => h q.symm
      rw [decide_eq_false h, Bool.false_or]
      simp [h'']
theorem inV_non : ∀ es : List (List Nat), inV .non (sv es) = false
  | [] => rfl
  | y :: es => by
    have ih := inV_non es
    unfold inV at ih ⊢
    rw [sv, List.map_cons, List.any_cons, ih]; rfl
theorem flat_sv (es : List (List Nat)) : (sv es).all flatV = true := by
  rw [List.all_map]; simp [flatV, Function.comp_def]
theorem sv_at {ws : List (List Nat)} {p : Nat} {x : List Nat} (h : ws[p]? = some x) : atI (sv ws) ((p : Nat) : Int) = some (.str (S x)) := atI_nat (by rw [List.getElem?_map, h]; rfl)
theorem split_sv {t : List Nat} : Txt.split (S t) (S [32]) = (Wd.cutw t).map S := split_S (by decide) (by decide)
def sp_Line_init (a : Adr) : Sp := fun vs H Q _ => ∃ (x dx : Addr) (t : List Nat) (l : Int), vs = [.ref x, .str (S t), .int l] ∧ t.length ≤ 100000 ∧ H x = some (.ins a.C_Line dx []) ∧
  ∀ W H', Ln a x dx W (Wd.cutw t) l 0 H' → RelT x H H' → Q .non H'
theorem ok_Line_init (T : Txt K mg a) : FnOk P w K mg base CX0 1 a.f_Line_init a.d_Line_init ["self", "text", "line"] (sp_Line_init a) := by
  refine T.F_Line_init.ok sc_Line_init (fun vs H Q E h => ?_) (fun cdv A outer s H vs Q E hr h => ?_)
  · obtain ⟨x, dx, t, l, rfl, _⟩ := h
    rfl
  · obtain ⟨x, dx, t, l, rfl, ht, hx, q⟩ := h
    refine ⟨_, (pss_cons (ps_fld (pv 0) (pe_split (pv 1) pe_str) rfl)
       (pss_cons (ps_fld (pv 0) (pv 2) rfl)
       (pss_one (ps_fld (pv 0) pe_int rfl)))), ?_⟩
    refine red (σ' := [some (.ref x), some (.str (S t)), some (.int l)]) rfl ?_
    try dsimp only [cxOf]
    have e2 : sizeLine = 16777216 := sizeLine_eq
    walk_at "go"
    refine ⟨⟨_, rfl⟩, ?_⟩
    walk_at "go"
    refine ⟨S t, " ", rfl, rfl, by decide, by rw [S_len]; omega, fun W hW => ?_⟩
    have es : Txt.split (S t) (Str.ofString " ") = (Wd.cutw t).map S := split_sv
    rw [es, List.map_map]
    have Wx : W ≠ x := (ne_of_none hx hW).symm
    walk_at "go"
    refine ⟨x, _, dx, [], rfl, (upd_ne Wx.symm).trans hx, T.c_Line, T.n_Line_words, by decide, ?_⟩
    walk_at "go"
    refine ⟨x, _, dx, _, rfl, upd_same, T.c_Line, T.n_Line_line, by show 1 < 1000; decide, ?_⟩
    walk_at "go"
    refine ⟨x, _, dx, _, rfl, upd_same, T.c_Line, T.n_Line_place, by show 2 < 1000; decide, ?_⟩
    rw [lf_made, upd_upd, upd_upd]
    exact q W _ ⟨upd_same, (upd_ne Wx).trans upd_same⟩ fun b o hb h => (upd_ne hb).trans ((upd_ne (ne_of_none h hW)).trans h)
def sp_Line_upcoming (a : Adr) : Sp := fun vs H Q _ => ∃ (x dx W : Addr) (ws : List (List Nat)) (l : Int) (p : Nat), vs = [.ref x] ∧ Ln a x dx W ws l p H ∧ Q ((ws[p]?.map fun z => V.str (S z)).getD .non) H
theorem fld {x dx W : Addr} {l p : Int} {H : Hp} {f : Str} {v : V} {R : V → Prop} (T : Txt K mg a) (h : H x = some (.ins a.C_Line dx (lf W l p))) (n : NoAttr K a.C_Line f) (e : (lf W l p).lookup f = some v) (q : R v) :
    ∃ b C dx fs v, V.ref x = .ref b ∧ H b = some (.ins C dx fs) ∧ Cls K C ∧ NoAttr K C f ∧ fs.lookup f = some v ∧ R v := ⟨x, _, _, _, _, rfl, h, T.c_Line, n, e, q⟩
theorem ok_Line_upcoming (T : Txt K mg a) : FnOk P w K mg base CX0 1 a.f_Line_upcoming a.d_Line_upcoming ["self"] (sp_Line_upcoming a) := by
  refine T.F_Line_upcoming.ok sc_Line_upcoming (fun vs H Q E h => ?_) (fun cdv A outer s H vs Q E hr h => ?_)
  · obtain ⟨x, dx, W, ws, l, p, rfl, _⟩ := h
    rfl
  · obtain ⟨x, dx, W, ws, l, p, rfl, I, q⟩ := h
    refine ⟨_, (pss_cons (ps_if (pt_cmpR op_lt (pe_fld (pv 0) rfl) (pe_callB call_len_seq (by rfl) T.z_len (by decide +kernel) (pa_cons (pe_fld (pv 0) rfl) pa_nil)) (nomark _))
       (pss_one (ps_ret (pe_ix ix_list (pe_fld (pv 0) rfl) (pe_fld (pv 0) rfl) (fun _ _ => rfl))))
       pss_nil)
       (pss_one (ps_ret pe_non))), ?_⟩
    refine red (σ' := [some (.ref x)]) rfl ?_
    try dsimp only [cxOf]
    walk_at "go"
    refine fld T I.x_ T.n_Line_place (lf_place W l p) ?_
    walk_at "go"
    refine fld T I.x_ T.n_Line_words (lf_words W l p) ?_
    walk_at "go"
    refine ⟨W, _, rfl, .inl (SqL.of I.W_), ?_⟩
    walk_at "go"
    rw [List.length_map]
    refine iteK (fun h => ?_) (fun h => ?_)
    · have hp : p < ws.length := by omega
      rw [List.getElem?_eq_getElem hp] at q
      walk_at "go"
      refine fld T I.x_ T.n_Line_words (lf_words W l p) ?_
      walk_at "go"
      refine fld T I.x_ T.n_Line_place (lf_place W l p) ?_
      refine g_ixL (SqL.of I.W_) (sv_at (List.getElem?_eq_getElem hp)) ?_
      exact q
    · walk_at "go"
      rw [List.getElem?_eq_none (by omega)] at q
      exact q
/-- a method that takes a word: what it gives, or the error at its place -/
def Takes1 (a : Adr) (x dx W : Addr) (ws : List (List Nat)) (l : Int) (H : Hp) (E : XK) {α : Type} (r : Except Nat (α × Nat)) (Q : α → Hp → Prop) : Prop :=
  (∀ e, r = .error e → BadAt a.C_BadText E H l e) ∧ ∀ v p', r = .ok (v, p') → ∀ H', Ln a x dx W ws l p' H' → RelT x H H' → Q v H'
def sp_Line_take (a : Adr) : Sp := fun vs H Q E => ∃ (x dx W : Addr) (ws : List (List Nat)) (l : Int) (p : Nat), vs = [.ref x] ∧ l.natAbs < 1000000 ∧ p ≤ 1000000 ∧ Ln a x dx W ws l p H ∧
  (ws[p]? = none → BadAt a.C_BadText E H l p) ∧ ∀ v, ws[p]? = some v → ∀ H', Ln a x dx W ws l (p + 1 : Nat) H' → RelT x H H' → Q (.str (S v)) H'
theorem ok_Line_take (T : Txt K mg a) : FnOk P w K mg base (L2.CX P w) 3 a.f_Line_take a.d_Line_take ["self"] (sp_Line_take a) := by
  refine T.F_Line_take.okX sc_Line_take (fun vs H Q E h => ?_) (fun cdv A outer s H vs Q E hr h => ?_)
  · obtain ⟨x, dx, W, ws, l, p, rfl, _⟩ := h
    rfl
  · obtain ⟨x, dx, W, ws, l, p, rfl, hl, hp, I, q1, q2⟩ := h
    refine ⟨_, (pss_cons (ps_set (i := 1) sc_Line_take.nd rfl (.inl rfl) (pe_meth0 (pv 0) T.c_Line T.m_Line_upcoming (ok_Line_upcoming T) (hr.mono (by decide)) T.b_Line_upcoming .nil pass0))
       (pss_cons (ps_if (pt_cmpR op_isN (pv 1) pe_non (nomark _))
       (pss_one (ps_raise rfl (takes_of rfl rfl rfl rfl) (pmk_oex T.x_BadText T.i_BadText T.u_BadText (ok_BadText_init T) (hr.mono (by decide)) T.b_BadText_init .nil pass0 rfl T.g_BadText (pa_cons (pe_fld (pv 0) rfl) (pa_cons (pe_fld (pv 0) rfl) pa_nil)))))
       pss_nil)
       (pss_cons (ps_fldaug (pv 0) pe_int in_add)
       (pss_one (ps_ret (pv 1)))))), ?_⟩
    refine red (σ' := [some (.ref x), none]) rfl ?_
    try dsimp only [cxOf]
    walk_at "go"
    refine ⟨x, _, _, rfl, I.x_, lf_no _ _ _ (by decide +kernel) (by decide +kernel) (by decide +kernel), ?_⟩
    walk_at "go"
    refine ⟨x, dx, W, ws, l, p, rfl, I, ?_⟩
    walk_at "go"
    cases e : ws[p]? with
    | none =>
      refine ite_y rfl ?_
      walk_at "go"
      refine fld T I.x_ T.n_Line_line (lf_line W l p) ?_
      walk_at "go"
      refine fld T I.x_ T.n_Line_place (lf_place W l p) ?_
      exact mk_bad T (by omega) (by omega) (q1 e)
    | some v =>
      refine ite_n rfl ?_
      walk_at "go"
      refine ⟨x, _, dx, _, .int p, rfl, I.x_, T.c_Line, T.n_Line_place, lf_place W l p, ?_⟩
      walk_at "go"
      refine ⟨(p : Int), 1, rfl, rfl, ?_⟩
      refine ⟨dx, _, I.x_, by show 3 < 1000; decide, ?_⟩
      rw [lf_put]
      have e1 : ((p : Nat) : Int) + 1 = ((p + 1 : Nat) : Int) := by omega
      rw [e1]
      walk_at "go"
      exact q2 v e _ I.step rel_upd
end
section
variable {P : Program} {w : World} {K : PySem.W.Frag} {mg : Str → Option Value} {base : Heap} {a : Adr}
def sp_Line_take_one_of (K : PySem.W.Frag) (a : Adr) : Sp := fun vs H Q E => ∃ (x dx W e : Addr) (ws es : List (List Nat)) (l : Int) (p : Nat), vs = [.ref x, .ref e] ∧ l.natAbs < 1000000 ∧ p ≤ 1000000 ∧ Ln a x dx W ws l p H ∧ SqT K H e (sv es) ∧
  Takes1 a x dx W ws l H E (Wd.one es ws p) fun v H' => Q (.str (S v)) H'
theorem ok_Line_take_one_of (T : Txt K mg a) : FnOk P w K mg base (L2.CX P w) 3 a.f_Line_take_one_of a.d_Line_take_one_of ["self", "expected"] (sp_Line_take_one_of K a) := by
  refine T.F_Line_take_one_of.okX sc_Line_take_one_of (fun vs H Q E h => ?_) (fun cdv A outer s H vs Q E hr h => ?_)
  · obtain ⟨x, dx, W, e, ws, es, l, p, rfl, _⟩ := h
    rfl
  · obtain ⟨x, dx, W, e, ws, es, l, p, rfl, hl, hp, I, he, q1, q2⟩ := h
    refine ⟨_, (pss_cons (ps_set (i := 2) sc_Line_take_one_of.nd rfl (.inl rfl) (pe_meth0 (pv 0) T.c_Line T.m_Line_upcoming (ok_Line_upcoming T) (hr.mono (by decide)) T.b_Line_upcoming .nil pass0))
       (pss_cons (ps_if (PW.pt (pw_or (pt_cmpR op_isN (pv 2) pe_non (nomark _)) (pw_or1 (pt_cmpR op_notIn_seq (pv 2) (pv 1) rfl))))
       (pss_one (ps_raise rfl (takes_of rfl rfl rfl rfl) (pmk_oex T.x_BadText T.i_BadText T.u_BadText (ok_BadText_init T) (hr.mono (by decide)) T.b_BadText_init .nil pass0 rfl T.g_BadText (pa_cons (pe_fld (pv 0) rfl) (pa_cons (pe_fld (pv 0) rfl) pa_nil)))))
       pss_nil)
       (pss_cons (ps_fldaug (pv 0) pe_int in_add)
       (pss_one (ps_ret (pv 2)))))), ?_⟩
    refine red (σ' := [some (.ref x), some (.ref e), none]) rfl ?_
    try dsimp only [cxOf]
    unfold Wd.one at q1 q2
    walk_at "go"
    refine ⟨x, _, _, rfl, I.x_, lf_no _ _ _ (by decide +kernel) (by decide +kernel) (by decide +kernel), ?_⟩
    walk_at "go"
    refine ⟨x, dx, W, ws, l, p, rfl, I, ?_⟩
    walk_at "go"
    cases ew : ws[p]? with
    | none =>
      rw [ew] at q1
      refine ite_y rfl ?_
      refine iteT ?_
      walk_at "go"
      refine fld T I.x_ T.n_Line_line (lf_line W l p) ?_
      walk_at "go"
      refine fld T I.x_ T.n_Line_place (lf_place W l p) ?_
      exact mk_bad T (by omega) (by omega) (q1 p rfl)
    | some v =>
      rw [ew] at q1 q2
      refine ite_n rfl ?_
      walk_at "go"
      refine ⟨e, sv es, rfl, .inr he, rfl, flat_sv es, _, rfl, ?_⟩
      show if (!inV (V.str (S v)) (sv es)) = true then _ else _
      rw [inV_sv]
      refine iteNK (fun h => ?_) (fun h => ?_)
      · have q1' := q1 p (if_neg h)
        walk_at "go"
        refine fld T I.x_ T.n_Line_line (lf_line W l p) ?_
        walk_at "go"
        refine fld T I.x_ T.n_Line_place (lf_place W l p) ?_
        exact mk_bad T (by omega) (by omega) q1'
      · have q2' := q2 v (p + 1) (if_pos h)
        walk_at "go"
        refine ⟨x, _, dx, _, .int p, rfl, I.x_, T.c_Line, T.n_Line_place, lf_place W l p, ?_⟩
        walk_at "go"
        refine ⟨(p : Int), 1, rfl, rfl, ?_⟩
        refine ⟨dx, _, I.x_, by show 3 < 1000; decide, ?_⟩
        rw [lf_put]
        have e1 : ((p : Nat) : Int) + 1 = ((p + 1 : Nat) : Int) := by omega
        rw [e1]
        walk_at "go"
        exact q2' _ I.step rel_upd
def sp_Line_take_integer (a : Adr) : Sp := fun vs H Q E => ∃ (x dx W : Addr) (ws : List (List Nat)) (l lo hi : Int) (p : Nat), vs = [.ref x, .int lo, .int hi] ∧ l.natAbs < 1000000 ∧ p ≤ 1000000 ∧ Ln a x dx W ws l p H ∧ (∀ z ∈ ws, z.length ≤ 1000) ∧
  ∀ H1, Same H H1 → Takes1 a x dx W ws l H1 E (Wd.int lo hi ws p) fun v H' => Q (.int v) H'
theorem ok_Line_take_integer (T : Txt K mg a) : FnOk P w K mg base (L2.CX P w) 3 a.f_Line_take_integer a.d_Line_take_integer ["self", "least", "most"] (sp_Line_take_integer a) := by
  refine T.F_Line_take_integer.okX sc_Line_take_integer (fun vs H Q E h => ?_) (fun cdv A outer s H vs Q E hr h => ?_)
  · obtain ⟨x, dx, W, ws, l, lo, hi, p, rfl, _⟩ := h
    rfl
  · obtain ⟨x, dx, W, ws, l, lo, hi, p, rfl, hl, hp, I, hws, q⟩ := h
    refine ⟨_, (pss_cons (ps_set (i := 3) sc_Line_take_integer.nd rfl (.inl rfl) (pe_meth0 (pv 0) T.c_Line T.m_Line_upcoming (ok_Line_upcoming T) (hr.mono (by decide)) T.b_Line_upcoming .nil pass0))
       (pss_cons (ps_set (i := 4) sc_Line_take_integer.nd rfl (.inl rfl) pe_non)
       (C8.pss_cut (ps_if (pt_cmpR op_notN (pv 3) pe_non (nomark _))
       (pss_one (ps_set (i := 4) sc_Line_take_integer.nd rfl (.inl rfl) (pe_call (ok_read_integer T) (hr.mono (by decide)) (by rfl) T.g_read_integer T.F_read_integer.kp T.b_read_integer .nil pass0 (pa_cons (pv 3) pa_nil))))
       pss_nil)
       (pss_cons (ps_if (PW.pt (pw_or (pt_cmpR op_isN (pv 4) pe_non (nomark _)) (pw_or1 (pt_not (pt_chain op_le op_le (pv 1) (pv 4) (pv 2))))))
       (pss_one (ps_raise rfl (takes_of rfl rfl rfl rfl) (pmk_oex T.x_BadText T.i_BadText T.u_BadText (ok_BadText_init T) (hr.mono (by decide)) T.b_BadText_init .nil pass0 rfl T.g_BadText (pa_cons (pe_fld (pv 0) rfl) (pa_cons (pe_fld (pv 0) rfl) pa_nil)))))
       pss_nil)
       (pss_cons (ps_fldaug (pv 0) pe_int in_add)
       (pss_one (ps_ret (pv 4)))))))), ?_⟩
    refine red (σ' := [some (.ref x), some (.int lo), some (.int hi), none, none]) rfl ?_
    try dsimp only [cxOf]
    walk_at "go"
    refine ⟨x, _, _, rfl, I.x_, lf_no _ _ _ (by decide +kernel) (by decide +kernel) (by decide +kernel), ?_⟩
    walk_at "go"
    refine ⟨x, dx, W, ws, l, p, rfl, I, ?_⟩
    walk_at "go"
    refine ⟨fun σ' H' => ∃ y3, σ' = [some (.ref x), some (.int lo), some (.int hi), y3, some (((ws[p]?.bind Wd.rint).map V.int).getD .non)] ∧ Same H H', ?_, ?_⟩
    · walk_at "go"
      cases ew : ws[p]? with
      | none =>
        refine ite_n rfl ?_
        walk_at "go"
        exact ⟨_, rfl, Same.refl H⟩
      | some v =>
        refine ite_y rfl ?_
        walk_at "go"
        refine ⟨v, rfl, hws v (List.mem_of_getElem? ew), fun H1 sm => ?_⟩
        walk_at "go"
        exact ⟨_, rfl, sm⟩
    rintro σ' H1 ⟨y3, rfl, sm⟩
    obtain ⟨q1, q2⟩ := q H1 sm
    replace I := I.same sm
    unfold Wd.int at q1 q2
    walk_at "go"
    cases ew : ws[p]?.bind Wd.rint with
    | none =>
      rw [ew] at q1
      refine ite_y rfl ?_
      refine iteT ?_
      walk_at "go"
      refine fld T I.x_ T.n_Line_line (lf_line W l p) ?_
      walk_at "go"
      refine fld T I.x_ T.n_Line_place (lf_place W l p) ?_
      exact mk_bad T (by omega) (by omega) (q1 p rfl)
    | some n =>
      rw [ew] at q1 q2
      refine ite_n rfl ?_
      dsimp only [Option.map, Option.getD]
      have bad : ¬ (lo ≤ n ∧ n ≤ hi) → BadAt a.C_BadText E H1 l p := fun h => q1 p (if_neg h)
      walk_at "go"
      refine iteK (fun h1 => ?_) (fun h1 => ?_)
      · walk_at "go"
        refine iteNK (fun h2 => ?_) (fun h2 => ?_)
        · walk_at "go"
          refine fld T I.x_ T.n_Line_line (lf_line W l p) ?_
          walk_at "go"
          refine fld T I.x_ T.n_Line_place (lf_place W l p) ?_
          exact mk_bad T (by omega) (by omega) (bad fun z => h2 z.2)
        · have q2' := q2 n (p + 1) (if_pos ⟨h1, h2⟩)
          walk_at "go"
          refine ⟨x, _, dx, _, .int p, rfl, I.x_, T.c_Line, T.n_Line_place, lf_place W l p, ?_⟩
          walk_at "go"
          refine ⟨(p : Int), 1, rfl, rfl, ?_⟩
          refine ⟨dx, _, I.x_, by show 3 < 1000; decide, ?_⟩
          rw [lf_put]
          have e1 : ((p : Nat) : Int) + 1 = ((p + 1 : Nat) : Int) := by omega
          rw [e1]
          walk_at "go"
          exact q2' _ I.step rel_upd
      · walk_at "go"
        refine ite_y rfl ?_
        walk_at "go"
        refine fld T I.x_ T.n_Line_line (lf_line W l p) ?_
        walk_at "go"
        refine fld T I.x_ T.n_Line_place (lf_place W l p) ?_
        exact mk_bad T (by omega) (by omega) (bad fun z => h1 z.1)
def sp_Line_finish (a : Adr) : Sp := fun vs H Q E => ∃ (x dx W : Addr) (ws : List (List Nat)) (l : Int) (p : Nat), vs = [.ref x] ∧ l.natAbs < 1000000 ∧ p ≤ 1000000 ∧ Ln a x dx W ws l p H ∧ (p < ws.length → BadAt a.C_BadText E H l p) ∧ (¬ p < ws.length → Q .non H)
theorem ok_Line_finish (T : Txt K mg a) : FnOk P w K mg base (L2.CX P w) 3 a.f_Line_finish a.d_Line_finish ["self"] (sp_Line_finish a) := by
  refine T.F_Line_finish.okX sc_Line_finish (fun vs H Q E h => ?_) (fun cdv A outer s H vs Q E hr h => ?_)
  · obtain ⟨x, dx, W, ws, l, p, rfl, _⟩ := h
    rfl
  · obtain ⟨x, dx, W, ws, l, p, rfl, hl, hp, I, q1, q2⟩ := h
    refine ⟨_, (pss_one (ps_if (pt_cmpR op_lt (pe_fld (pv 0) rfl) (pe_callB call_len_seq (by rfl) T.z_len (by decide +kernel) (pa_cons (pe_fld (pv 0) rfl) pa_nil)) (nomark _))
       (pss_one (ps_raise rfl (takes_of rfl rfl rfl rfl) (pmk_oex T.x_BadText T.i_BadText T.u_BadText (ok_BadText_init T) (hr.mono (by decide)) T.b_BadText_init .nil pass0 rfl T.g_BadText (pa_cons (pe_fld (pv 0) rfl) (pa_cons (pe_fld (pv 0) rfl) pa_nil)))))
       pss_nil)), ?_⟩
    refine red (σ' := [some (.ref x)]) rfl ?_
    try dsimp only [cxOf]
    walk_at "go"
    refine fld T I.x_ T.n_Line_place (lf_place W l p) ?_
    walk_at "go"
    refine fld T I.x_ T.n_Line_words (lf_words W l p) ?_
    walk_at "go"
    refine ⟨W, _, rfl, .inl (SqL.of I.W_), ?_⟩
    walk_at "go"
    rw [List.length_map]
    refine iteK (fun h => ?_) (fun h => ?_)
    · walk_at "go"
      refine fld T I.x_ T.n_Line_line (lf_line W l p) ?_
      walk_at "go"
      refine fld T I.x_ T.n_Line_place (lf_place W l p) ?_
      exact mk_bad T (by omega) (by omega) (q1 (by omega))
    · walk_at "go"
      exact q2 (by omega)
end
section
variable {P : Program} {w : World} {K : PySem.W.Frag} {mg : Str → Option Value} {base : Heap} {a : Adr}
def sp_weekday_of : Sp := fun vs H Q _ => ∃ d : Int, vs = [.int d] ∧ Q (.int (d % 7)) H
theorem ok_weekday_of (T : Txt K mg a) : FnOk P w K mg base CX0 1 a.f_weekday_of a.d_weekday_of ["day"] sp_weekday_of := by
  refine T.F_weekday_of.ok sc_weekday_of (fun vs H Q E h => ?_) (fun cdv A outer s H vs Q E hr h => ?_)
  · obtain ⟨y, rfl, _⟩ := h
    rfl
  · obtain ⟨d, rfl, q⟩ := h
    refine ⟨_, (pss_one (ps_ret (pe_op op_modE (pv 0) pe_int))), ?_⟩
    refine red (σ' := [some (.int d)]) rfl ?_
    try dsimp only [cxOf]
    walk_at "go"
    exact q
def sp_nth_weekday : Sp := fun vs H Q _ => ∃ m k wd : Int, vs = [.int m, .int k, .int wd] ∧ Q (((Civ.nthw m k wd).map V.int).getD .non) H
theorem ok_nth_weekday (T : Txt K mg a) : FnOk P w K mg base CX0 3 a.f_nth_weekday a.d_nth_weekday ["m", "k", "weekday"] sp_nth_weekday := by
  refine T.F_nth_weekday.ok sc_nth_weekday (fun vs H Q E h => ?_) (fun cdv A outer s H vs Q E hr h => ?_)
  · obtain ⟨m, k, wd, rfl, _⟩ := h
    rfl
  · obtain ⟨m, k, wd, rfl, q⟩ := h
    refine ⟨_, (pss_cons (ps_set (i := 3) sc_nth_weekday.nd rfl (.inl rfl) (pe_call (ok_first_day T) (hr.mono (by decide)) (by rfl) T.g_first_day T.F_first_day.kp T.b_first_day .nil pass0 (pa_cons (pv 0) pa_nil)))
       (pss_cons (ps_set (i := 4) sc_nth_weekday.nd rfl (.inl rfl) (pe_op op_add (pe_op op_add (pv 3) (pe_op op_modE (pe_op op_sub (pv 2) (pv 3)) pe_int)) (pe_op op_mul pe_int (pe_op op_sub (pv 1) pe_int))))
       (C8.pss_cut (ps_if (pt_cmpR op_lt (pv 1) pe_int (nomark _))
       (pss_cons (ps_set (i := 5) sc_nth_weekday.nd rfl (.inl rfl) (pe_op op_sub (pe_op op_add (pv 3) (pe_call (ok_month_length T) (hr.mono (by decide)) (by rfl) T.g_month_length T.F_month_length.kp T.b_month_length .nil pass0 (pa_cons (pv 0) pa_nil))) pe_int))
       (pss_one (ps_set (i := 4) sc_nth_weekday.nd rfl (.inl rfl) (pe_op op_add (pe_op op_sub (pv 5) (pe_op op_modE (pe_op op_sub (pv 5) (pv 2)) pe_int)) (pe_op op_mul pe_int (pe_op op_add (pv 1) pe_int))))))
       pss_nil)
       (pss_cons (ps_if (PW.pt (pw_and (pt_cmpR op_ne (pv 1) pe_int (nomark _)) (pw_and1 (pt_chain op_le op_lt (pv 3) (pv 4) (pe_op op_add (pv 3) (pe_call (ok_month_length T) (hr.mono (by decide)) (by rfl) T.g_month_length T.F_month_length.kp T.b_month_length .nil pass0 (pa_cons (pv 0) pa_nil)))))))
       (pss_one (ps_ret (pv 4)))
       pss_nil)
       (pss_one (ps_ret pe_non)))))), ?_⟩
    refine red (σ' := [some (.int m), some (.int k), some (.int wd), none, none, none]) rfl ?_
    try dsimp only [cxOf]
    walk_at "go"
    refine ⟨m, rfl, ?_⟩
    walk_at "go"
    refine ⟨fun σ' H' => ∃ y5 z, σ' = [some (.int m), some (.int k), some (.int wd), some (.int (Civ.fd m)), some (.int z), y5] ∧ H' = H ∧ z = (if k < 0 then Civ.fd m + Civ.len m - 1 - (Civ.fd m + Civ.len m - 1 - wd) % 7 + 7 * (k + 1) else Civ.fd m + (wd - Civ.fd m) % 7 + 7 * (k - 1)), ?_, ?_⟩
    · walk_at "go"
      refine iteK (fun h => ?_) (fun h => ?_)
      · walk_at "go"
        refine ⟨m, rfl, ?_⟩
        walk_at "go"
        exact ⟨_, _, rfl, rfl, (if_pos h).symm⟩
      · walk_at "go"
        exact ⟨_, _, rfl, rfl, (if_neg h).symm⟩
    rintro σ' H' ⟨y5, z, rfl, rfl, hz⟩
    have e : Civ.nthw m k wd = if k ≠ 0 ∧ Civ.fd m ≤ z ∧ z < Civ.fd m + Civ.len m then some z else none := by
      unfold Civ.nthw
      rw [← hz]
    rw [e] at q
    walk_at "go"
    rw [dec_int]
    refine iteNK (fun h1 => ?_) (fun h1 => ?_)
    · walk_at "go"
      refine iteK (fun h2 => ?_) (fun h2 => ?_)
      · walk_at "go"
        refine ⟨m, rfl, ?_⟩
        walk_at "go"
        refine iteK (fun h3 => ?_) (fun h3 => ?_)
        · walk_at "go"
          rw [if_pos ⟨h1, h2, h3⟩] at q
          exact q
        · walk_at "go"
          rw [if_neg (fun z => h3 z.2.2)] at q
          exact q
      · walk_at "go"
        refine iteF ?_
        walk_at "go"
        rw [if_neg (fun z => h2 z.2.1)] at q
        exact q
    · refine iteF ?_
      walk_at "go"
      rw [if_neg (fun z => z.1 h1)] at q
      exact q
def sp_add_months : Sp := fun vs H Q _ => ∃ d k : Int, vs = [.int d, .int k] ∧ ∀ H', Same H H' → Q (.int (Civ.addm d k)) H'
theorem ok_add_months (T : Txt K mg a) : FnOk P w K mg base CX0 4 a.f_add_months a.d_add_months ["day", "k"] sp_add_months := by
  refine T.F_add_months.ok sc_add_months (fun vs H Q E h => ?_) (fun cdv A outer s H vs Q E hr h => ?_)
  · obtain ⟨d, k, rfl, _⟩ := h
    rfl
  · obtain ⟨d, k, rfl, q⟩ := h
    refine ⟨_, (pss_cons (ps_set (i := 2) sc_add_months.nd rfl (.inl rfl) (pe_call (ok_month_of T) (hr.mono (by decide)) (by rfl) T.g_month_of T.F_month_of.kp T.b_month_of .nil pass0 (pa_cons (pv 0) pa_nil)))
       (pss_cons (ps_set (i := 3) sc_add_months.nd rfl (.inl rfl) (pe_op op_sub (pv 0) (pe_call (ok_first_day T) (hr.mono (by decide)) (by rfl) T.g_first_day T.F_first_day.kp T.b_first_day .nil pass0 (pa_cons (pv 2) pa_nil))))
       (pss_one (ps_ret (pe_op op_add (pe_call (ok_first_day T) (hr.mono (by decide)) (by rfl) T.g_first_day T.F_first_day.kp T.b_first_day .nil pass0 (pa_cons (pe_op op_add (pv 2) (pv 1)) pa_nil)) (pe_callB (call_min2 rfl) (by rfl) T.z_min (by decide +kernel) (pa_cons (pv 3) (pa_cons (pe_op op_sub (pe_call (ok_month_length T) (hr.mono (by decide)) (by rfl) T.g_month_length T.F_month_length.kp T.b_month_length .nil pass0 (pa_cons (pe_op op_add (pv 2) (pv 1)) pa_nil)) pe_int) pa_nil)))))))), ?_⟩
    refine red (σ' := [some (.int d), some (.int k), none, none]) rfl ?_
    try dsimp only [cxOf]
    walk_at "go"
    refine ⟨d, rfl, fun m H1 sm hm => ?_⟩
    have em := hm.eq
    subst em
    walk_at "go"
    refine ⟨_, rfl, ?_⟩
    walk_at "go"
    refine ⟨_, rfl, ?_⟩
    walk_at "go"
    refine ⟨_, rfl, ?_⟩
    walk_at "go"
    refine ⟨_, _, rfl, ?_⟩
    walk_at "go"
    exact q H1 sm
def sp_later_by : Sp := fun vs H Q _ => ∃ (d n : Int) (u : List Nat), vs = [.int d, .int n, .str (S u)] ∧ ∀ H', Same H H' → Q (.int (Wd.later d n u)) H'
theorem ok_later_by (T : Txt K mg a) : FnOk P w K mg base CX0 5 a.f_later_by a.d_later_by ["day", "n", "unit"] sp_later_by := by
  refine T.F_later_by.ok sc_later_by (fun vs H Q E h => ?_) (fun cdv A outer s H vs Q E hr h => ?_)
  · obtain ⟨d, k, u, rfl, _⟩ := h
    rfl
  · obtain ⟨d, n, u, rfl, q⟩ := h
    refine ⟨_, (pss_cons (ps_if (pt_cmpR op_eq (pv 2) pe_str (nomark _))
       (pss_one (ps_ret (pe_op op_add (pv 0) (pv 1))))
       pss_nil)
       (pss_cons (ps_if (pt_cmpR op_eq (pv 2) pe_str (nomark _))
       (pss_one (ps_ret (pe_op op_add (pv 0) (pe_op op_mul pe_int (pv 1)))))
       pss_nil)
       (pss_cons (ps_if (pt_cmpR op_eq (pv 2) pe_str (nomark _))
       (pss_one (ps_ret (pe_call (ok_add_months T) (hr.mono (by decide)) (by rfl) T.g_add_months T.F_add_months.kp T.b_add_months .nil pass0 (pa_cons (pv 0) (pa_cons (pv 1) pa_nil)))))
       pss_nil)
       (pss_one (ps_ret (pe_call (ok_add_months T) (hr.mono (by decide)) (by rfl) T.g_add_months T.F_add_months.kp T.b_add_months .nil pass0 (pa_cons (pv 0) (pa_cons (pe_op op_mul pe_int (pv 1)) pa_nil)))))))), ?_⟩
    refine red (σ' := [some (.int d), some (.int n), some (.str (S u))]) rfl ?_
    try dsimp only [cxOf]
    unfold Wd.later at q
    walk_at "go"
    have e0 : decide (V.str (S u) = V.str "days") = decide (u = Wd.DAYS) := dec_str u Wd.DAYS
    rw [e0]
    refine iteK (fun h => ?_) (fun h1 => ?_)
    · walk_at "go"
      have := q H (Same.refl H)
      rw [if_pos h] at this
      exact this
    walk_at "go"
    have e0 : decide (V.str (S u) = V.str "weeks") = decide (u = Wd.WEEKS) := dec_str u Wd.WEEKS
    rw [e0]
    refine iteK (fun h => ?_) (fun h2 => ?_)
    · walk_at "go"
      have := q H (Same.refl H)
      rw [if_neg h1, if_pos h] at this
      exact this
    walk_at "go"
    have e0 : decide (V.str (S u) = V.str "months") = decide (u = Wd.MONTHS) := dec_str u Wd.MONTHS
    rw [e0]
    refine iteK (fun h => ?_) (fun h3 => ?_)
    · walk_at "go"
      refine ⟨d, n, rfl, fun H' sm => ?_⟩
      have := q H' sm
      rw [if_neg h1, if_neg h2, if_pos h] at this
      exact this
    walk_at "go"
    refine ⟨d, _, rfl, fun H' sm => ?_⟩
    have := q H' sm
    rw [if_neg h1, if_neg h2, if_neg h3] at this
    exact this
def sp_next_weekday : Sp := fun vs H Q _ => ∃ d k : Int, vs = [.int d, .int k] ∧ Q (.int (Wd.nextw d k)) H
theorem ok_next_weekday (T : Txt K mg a) : FnOk P w K mg base CX0 1 a.f_next_weekday a.d_next_weekday ["day", "weekday"] sp_next_weekday := by
  refine T.F_next_weekday.ok sc_next_weekday (fun vs H Q E h => ?_) (fun cdv A outer s H vs Q E hr h => ?_)
  · obtain ⟨d, k, rfl, _⟩ := h
    rfl
  · obtain ⟨d, k, rfl, q⟩ := h
    refine ⟨_, (pss_one (ps_ret (pe_op op_add (pe_op op_add (pv 0) pe_int) (pe_op op_modE (pe_op op_sub (pe_op op_sub (pv 1) (pv 0)) pe_int) pe_int)))), ?_⟩
    refine red (σ' := [some (.int d), some (.int k)]) rfl ?_
    try dsimp only [cxOf]
    walk_at "go"
    exact q
def sp_last_weekday : Sp := fun vs H Q _ => ∃ d k : Int, vs = [.int d, .int k] ∧ Q (.int (Wd.lastw d k)) H
theorem ok_last_weekday (T : Txt K mg a) : FnOk P w K mg base CX0 1 a.f_last_weekday a.d_last_weekday ["day", "weekday"] sp_last_weekday := by
  refine T.F_last_weekday.ok sc_last_weekday (fun vs H Q E h => ?_) (fun cdv A outer s H vs Q E hr h => ?_)
  · obtain ⟨d, k, rfl, _⟩ := h
    rfl
  · obtain ⟨d, k, rfl, q⟩ := h
    refine ⟨_, (pss_one (ps_ret (pe_op op_sub (pe_op op_sub (pv 0) pe_int) (pe_op op_modE (pe_op op_sub (pe_op op_sub (pv 0) pe_int) (pv 1)) pe_int)))), ?_⟩
    refine red (σ' := [some (.int d), some (.int k)]) rfl ?_
    try dsimp only [cxOf]
    walk_at "go"
    exact q
end
section
variable {P : Program} {w : World} {K : PySem.W.Frag} {mg : Str → Option Value} {base : Heap} {a : Adr}
theorem Same.rel {x : Addr} {H H' : Hp} (h : Same H H') : RelT x H H' := fun b o _ e => h b o e
theorem sv_eq (es : List (List Nat)) : sv es = (es.map S).map V.str := by rw [List.map_map]; rfl
theorem idx_of {es : List (List Nat)} {v : List Nat} (h : v ∈ es) : (es.map S)[es.idxOf v]? = some (S v) ∧ ∀ m, m < es.idxOf v → (es.map S)[m]? ≠ some (S v) := by
  refine ⟨by rw [List.getElem?_map, Wd.idx_at h]; rfl, fun m hm e => ?_⟩
  rw [List.getElem?_map] at e
  cases e2 : es[m]? with
  | none => rw [e2] at e; cases e
  | some z =>
    rw [e2] at e
    have : z = v := S_inj (Option.some.inj e)
    rw [this] at e2
    exact Wd.idx_no hm e2
/-- (a tuple of words).index(a word that it holds) -/
theorem tup_idx {p : Addr} {es : List (List Nat)} {v : List Nat} {H : Hp} {R : Nat → Prop} (hp : SqT K H p (sv es)) (h : v ∈ es) (q : R (es.idxOf v)) :
    ∃ p', ∃ ys : List Str, ∃ z j, V.ref p = .ref p' ∧ [V.str (S v)] = [.str z] ∧ SqT K H p' (ys.map V.str) ∧ ys[j]? = some z ∧ (∀ m, m < j → ys[m]? ≠ some z) ∧ R j := by
  obtain ⟨h1, h2⟩ := idx_of h
  exact ⟨p, es.map S, S v, es.idxOf v, rfl, rfl, by rw [← sv_eq]; exact hp, h1, h2, q⟩
theorem one_ok {es ws : List (List Nat)} {p p' : Nat} {v : List Nat} (h : Wd.one es ws p = .ok (v, p')) : v ∈ es ∧ ws[p]? = some v ∧ p' = p + 1 := by
  unfold Wd.one at h
  split at h
  · next x e =>
    split at h
    · next c => cases h; exact ⟨c, e, rfl⟩
    · cases h
  · cases h
theorem int_ok {lo hi : Int} {ws : List (List Nat)} {p p' : Nat} {v : Int} (h : Wd.int lo hi ws p = .ok (v, p')) : p' = p + 1 ∧ p < ws.length ∧ lo ≤ v ∧ v ≤ hi := by
  unfold Wd.int at h
  split at h
  · next x e =>
    split at h
    · next c =>
      cases h
      refine ⟨rfl, ?_, c⟩
      cases e2 : ws[p]? with
      | none => rw [e2] at e; cases e
      | some z => exact (List.getElem?_eq_some_iff.mp e2).1
    · cases h
  · cases h
theorem at_lt {ws : List (List Nat)} {p : Nat} {v : List Nat} (h : ws[p]? = some v) : p < ws.length := (List.getElem?_eq_some_iff.mp h).1
/-- a line in hand -/
structure Lh (a : Adr) (x dx W : Addr) (ws : List (List Nat)) (l : Int) : Prop where
  l_ : l.natAbs < 1000000
  n_ : ws.length ≤ 200000
  z_ : ∀ z ∈ ws, z.length ≤ 1000
theorem pm {x dx W : Addr} {ws : List (List Nat)} {l : Int} {p : Nat} {H : Hp} {m : Str} {R : Prop} (I : Ln a x dx W ws l p H) (h1 : ¬ m = "words") (h2 : ¬ m = "line") (h3 : ¬ m = "place") (q : R) :
    ∃ b dx fs, V.ref x = .ref b ∧ H b = some (.ins a.C_Line dx fs) ∧ fs.lookup m = none ∧ R := ⟨x, _, _, rfl, I.x_, lf_no _ _ _ h1 h2 h3, q⟩
/-- the promise of a def that takes from a line and gives an int -/
def TakesI (a : Adr) (x dx W : Addr) (ws : List (List Nat)) (l : Int) (H : Hp) (E : XK) (r : Except Nat (Int × Nat)) (Q : VK) : Prop :=
  (∀ H' e, RelT x H H' → r = .error e → BadAt a.C_BadText E H' l e) ∧ ∀ H' v p', RelT x H H' → Ln a x dx W ws l p' H' → r = .ok (v, p') → Q (.int v) H'
def sp_take_month (a : Adr) : Sp := fun vs H Q E => ∃ (x dx W : Addr) (ws : List (List Nat)) (l today : Int) (p : Nat), vs = [.ref x, .int today] ∧ Lh a x dx W ws l ∧ p ≤ ws.length ∧ Ln a x dx W ws l p H ∧ TakesI a x dx W ws l H E (Wd.takeMonth today ws p) Q
theorem ok_take_month (T : Txt K mg a) : FnOk P w K mg base (L2.CX P w) 4 a.f_take_month a.d_take_month ["line", "today"] (sp_take_month a) := by
  refine T.F_take_month.okX sc_take_month (fun vs H Q E h => ?_) (fun cdv A outer s H vs Q E hr h => ?_)
  · obtain ⟨x, dx, W, ws, l, d, p, rfl, _⟩ := h
    rfl
  · obtain ⟨x, dx, W, ws, l, d, p, rfl, L, hp, I, q1, q2⟩ := h
    have ln := L.n_
    refine ⟨_, (pss_cons (ps_set (i := 2) sc_take_month.nd rfl (.inl rfl) (pe_meth (pv 0) T.c_Line T.m_Line_take_one_of (ok_Line_take_one_of T) (hr.mono (by decide)) T.b_Line_take_one_of .nil (passes_call (takes_of rfl rfl rfl rfl) (fun _ _ _ _ h => h)) (pa_cons (pe_glob (v := .ref a.A_MONTHS) (by rfl) T.g_MONTHS rfl) pa_nil)))
       (pss_cons (ps_set (i := 3) sc_take_month.nd rfl (.inl rfl) (pe_bm PySem.F.plainAttrs_tuple PySem.F.slot_tuple_index PySem.F.type_tuple_index mt_tup_index (pe_glob (v := .ref a.A_MONTHS) (by rfl) T.g_MONTHS rfl) (pa_cons (pv 2) pa_nil)))
       (pss_cons (ps_if (pt_cmpR op_notN (pe_meth0 (pv 0) T.c_Line T.m_Line_upcoming (ok_Line_upcoming T) (hr.mono (by decide)) T.b_Line_upcoming .nil pass0) pe_non (nomark _))
       (pss_one (ps_ret (pe_op op_add (pe_op op_mul pe_int (pe_op op_sub (pe_meth (pv 0) T.c_Line T.m_Line_take_integer (ok_Line_take_integer T) (hr.mono (by decide)) T.b_Line_take_integer .nil (passes_call (takes_of rfl rfl rfl rfl) (fun _ _ _ _ h => h)) (pa_cons pe_int (pa_cons pe_int pa_nil))) pe_int)) (pv 3))))
       pss_nil)
       (pss_cons (ps_set (i := 4) sc_take_month.nd rfl (.inl rfl) (pe_call (ok_month_of T) (hr.mono (by decide)) (by rfl) T.g_month_of T.F_month_of.kp T.b_month_of .nil pass0 (pa_cons (pv 1) pa_nil)))
       (pss_one (ps_ret (pe_op op_add (pv 4) (pe_op op_modE (pe_op op_sub (pv 3) (pv 4)) pe_int)))))))), ?_⟩
    refine red (σ' := [some (.ref x), some (.int d), none, none, none]) rfl ?_
    try dsimp only [cxOf]
    walk_at "go"
    refine pm I (by decide +kernel) (by decide +kernel) (by decide +kernel) ?_
    walk_at "go"
    refine ⟨x, dx, W, a.A_MONTHS, ws, Wd.MO, l, p, rfl, L.l_, by omega, I, T.h_MONTHS H, fun e he => ?_, fun v p1 hv H1 I rel1 => ?_⟩
    · refine q1 H e (RelT.refl x H) ?_
      unfold Wd.takeMonth
      rw [he]
    obtain ⟨vm, vw, rfl⟩ := one_ok hv
    have hpl := at_lt vw
    walk_at "go"
    refine ⟨.inr (.inl ⟨rfl, T.k_MONTHS⟩), ?_⟩
    walk_at "go"
    refine tup_idx (T.h_MONTHS H1) vm ?_
    walk_at "go"
    refine pm I (by decide +kernel) (by decide +kernel) (by decide +kernel) ?_
    walk_at "go"
    refine ⟨x, dx, W, ws, l, p + 1, rfl, I, ?_⟩
    refine ⟨rfl, ?_⟩
    walk_at "go"
    cases ew : ws[p + 1]? with
    | some u =>
      refine ite_y rfl ?_
      walk_at "go"
      refine pm I (by decide +kernel) (by decide +kernel) (by decide +kernel) ?_
      walk_at "go"
      refine ⟨x, dx, W, ws, l, 1, 9999, p + 1, rfl, L.l_, by omega, I, L.z_, fun H2 sm => ⟨fun e he => ?_, fun y p2 hy H3 I3 rel3 => ?_⟩⟩
      · refine q1 H2 e (rel1.trans (Same.rel sm)) ?_
        unfold Wd.takeMonth
        rw [hv]
        show (match ws[p + 1]? with | some _ => _ | none => _) = _
        rw [ew]
        show (match Wd.int 1 9999 ws (p + 1) with | .error e => _ | .ok (y, p) => _) = _
        rw [he]
      · walk_at "go"
        refine q2 H3 _ p2 (rel1.trans ((Same.rel sm).trans rel3)) I3 ?_
        unfold Wd.takeMonth
        rw [hv]
        show (match ws[p + 1]? with | some _ => _ | none => _) = _
        rw [ew]
        show (match Wd.int 1 9999 ws (p + 1) with | .error e => _ | .ok (y, p) => _) = _
        rw [hy]
        rfl
    | none =>
      refine ite_n rfl ?_
      walk_at "go"
      refine ⟨d, rfl, fun m H2 sm hm => ?_⟩
      have em := hm.eq
      subst em
      walk_at "go"
      refine q2 H2 _ (p + 1) (rel1.trans (Same.rel sm)) (I.same sm) ?_
      unfold Wd.takeMonth
      rw [hv]
      show (match ws[p + 1]? with | some _ => _ | none => _) = _
      rw [ew]
      rfl
end
section
variable {P : Program} {w : World} {K : PySem.W.Frag} {mg : Str → Option Value} {base : Heap} {a : Adr}
def sp_take_in_month (a : Adr) : Sp := fun vs H Q E => ∃ (x dx W : Addr) (ws : List (List Nat)) (l today k : Int) (p : Nat), vs = [.ref x, .int today, .int k] ∧ Lh a x dx W ws l ∧ p ≤ ws.length ∧ Ln a x dx W ws l p H ∧ TakesI a x dx W ws l H E (Wd.takeIn today k ws p) Q
theorem ok_take_in_month (T : Txt K mg a) : FnOk P w K mg base (L2.CX P w) 5 a.f_take_in_month a.d_take_in_month ["line", "today", "k"] (sp_take_in_month a) := by
  refine T.F_take_in_month.okX sc_take_in_month (fun vs H Q E h => ?_) (fun cdv A outer s H vs Q E hr h => ?_)
  · obtain ⟨x, dx, W, ws, l, d, k, p, rfl, _⟩ := h
    rfl
  · obtain ⟨x, dx, W, ws, l, d, k, p, rfl, L, hp, I, q1, q2⟩ := h
    have ln := L.n_
    refine ⟨_, (pss_cons (ps_set (i := 3) sc_take_in_month.nd rfl (.inl rfl) (pe_fld (pv 0) rfl))
       (pss_cons (ps_set (i := 4) sc_take_in_month.nd rfl (.inl rfl) (pe_meth (pv 0) T.c_Line T.m_Line_take_one_of (ok_Line_take_one_of T) (hr.mono (by decide)) T.b_Line_take_one_of .nil (passes_call (takes_of rfl rfl rfl rfl) (fun _ _ _ _ h => h)) (pa_cons (pe_op op_catT (pe_glob (v := .ref a.A_WEEKDAYS) (by rfl) T.g_WEEKDAYS rfl) (pe_tup (pa_cons pe_str pa_nil))) pa_nil)))
       (pss_cons (ps_expr (pe_meth (pv 0) T.c_Line T.m_Line_take_one_of (ok_Line_take_one_of T) (hr.mono (by decide)) T.b_Line_take_one_of .nil (passes_call (takes_of rfl rfl rfl rfl) (fun _ _ _ _ h => h)) (pa_cons (pe_tup (pa_cons pe_str pa_nil)) pa_nil)))
       (pss_cons (ps_set (i := 5) sc_take_in_month.nd rfl (.inl rfl) (pe_call (ok_take_month T) (hr.mono (by decide)) (by rfl) T.g_take_month T.F_take_month.kp T.b_take_month .nil (passes_call (takes_of rfl rfl rfl rfl) (fun _ _ _ _ h => h)) (pa_cons (pv 0) (pa_cons (pv 1) pa_nil))))
       (pss_cons (ps_if (pt_cmpR op_eq (pv 4) pe_str (nomark _))
       (pss_cons (ps_set (i := 6) sc_take_in_month.nd rfl (.inl rfl) (pe_op op_sub (pe_op op_add (pe_call (ok_first_day T) (hr.mono (by decide)) (by rfl) T.g_first_day T.F_first_day.kp T.b_first_day .nil pass0 (pa_cons (pv 5) pa_nil)) (pv 2)) pe_int))
       (C8.pss_cut (ps_if (pt_cmpR op_lt (pv 2) pe_int (nomark _))
       (pss_one (ps_set (i := 6) sc_take_in_month.nd rfl (.inl rfl) (pe_op op_add (pe_op op_add (pe_call (ok_first_day T) (hr.mono (by decide)) (by rfl) T.g_first_day T.F_first_day.kp T.b_first_day .nil pass0 (pa_cons (pv 5) pa_nil)) (pe_call (ok_month_length T) (hr.mono (by decide)) (by rfl) T.g_month_length T.F_month_length.kp T.b_month_length .nil pass0 (pa_cons (pv 5) pa_nil))) (pv 2))))
       pss_nil)
       (pss_one (ps_ret (pv 6)))))
       pss_nil)
       (pss_cons (ps_set (i := 6) sc_take_in_month.nd rfl (.inl rfl) (pe_call (ok_nth_weekday T) (hr.mono (by decide)) (by rfl) T.g_nth_weekday T.F_nth_weekday.kp T.b_nth_weekday .nil pass0 (pa_cons (pv 5) (pa_cons (pv 2) (pa_cons (pe_bm PySem.F.plainAttrs_tuple PySem.F.slot_tuple_index PySem.F.type_tuple_index mt_tup_index (pe_glob (v := .ref a.A_WEEKDAYS) (by rfl) T.g_WEEKDAYS rfl) (pa_cons (pv 4) pa_nil)) pa_nil)))))
       (pss_cons (ps_if (pt_cmpR op_isN (pv 6) pe_non (nomark _))
       (pss_one (ps_raise rfl (takes_of rfl rfl rfl rfl) (pmk_oex T.x_BadText T.i_BadText T.u_BadText (ok_BadText_init T) (hr.mono (by decide)) T.b_BadText_init .nil pass0 rfl T.g_BadText (pa_cons (pe_fld (pv 0) rfl) (pa_cons (pv 3) pa_nil)))))
       pss_nil)
       (pss_one (ps_ret (pv 6)))))))))), ?_⟩
    refine red (σ' := [some (.ref x), some (.int d), some (.int k), none, none, none, none]) rfl ?_
    try dsimp only [cxOf]
    unfold Wd.takeIn at q1 q2
    walk_at "go"
    refine fld T I.x_ T.n_Line_place (lf_place W l p) ?_
    walk_at "go"
    refine pm I (by decide +kernel) (by decide +kernel) (by decide +kernel) ?_
    walk_at "go"
    refine ⟨by show 1 ≤ sizeLine; decide, fun t1 ht1 => ?_⟩
    refine ⟨a.A_WEEKDAYS, t1, sv Wd.WD, [.str "day"], rfl, rfl, T.h_WEEKDAYS _, SqT.of upd_same, by decide, by show 8 ≤ sizeLine; decide, (fun z => nomatch z), fun _ t2 ht2 => ?_⟩
    have sm : Same H (upd (upd H t1 (.tup [.str "day"])) t2 (.tup (sv Wd.WD ++ [.str "day"]))) := (same_new ht1).trans (same_new ht2)
    have h2 : upd (upd H t1 (.tup [.str "day"])) t2 (.tup (sv Wd.WD ++ [.str "day"])) t2 = some (.tup (sv (Wd.WD ++ [Wd.DAY]))) := upd_same
    generalize upd (upd H t1 (.tup [.str "day"])) t2 (.tup (sv Wd.WD ++ [.str "day"])) = H1 at sm h2
    replace I := I.same sm
    walk_at "go"
    refine ⟨x, dx, W, t2, ws, Wd.WD ++ [Wd.DAY], l, p, rfl, L.l_, by omega, I, SqT.of h2, fun e he => ?_, fun v p1 hv H2 I rel1 => ?_⟩
    · refine q1 H1 e (Same.rel sm) ?_
      rw [he]
    rw [hv] at q1 q2
    obtain ⟨vm, vw, rfl⟩ := one_ok hv
    have hpl := at_lt vw
    replace rel1 := (Same.rel (x := x) sm).trans rel1
    clear sm h2 ht1 ht2
    walk_at "go"
    refine pm I (by decide +kernel) (by decide +kernel) (by decide +kernel) ?_
    walk_at "go"
    refine ⟨by show 1 ≤ sizeLine; decide, fun t1 ht1 => ?_⟩
    walk_at "go"
    have h2 : upd H2 t1 (.tup [.str "of"]) t1 = some (.tup (sv [Wd.OF])) := upd_same
    replace rel1 := rel1.trans (Same.rel (x := x) (same_new (o := .tup [.str "of"]) ht1))
    replace I := I.same (same_new (o := .tup [.str "of"]) ht1)
    generalize upd H2 t1 (.tup [.str "of"]) = H3 at rel1 h2 I
    refine ⟨x, dx, W, t1, ws, [Wd.OF], l, p + 1, rfl, L.l_, by omega, I, SqT.of h2, fun e he => ?_, fun v2 p2 hv2 H4 I rel2 => ?_⟩
    · refine q1 H3 e rel1 ?_
      show (match Wd.one [Wd.OF] ws (p + 1) with | .error e => _ | .ok (_, p2) => _) = _
      rw [he]
    obtain ⟨_, vw2, rfl⟩ := one_ok hv2
    have hpl2 := at_lt vw2
    replace rel1 := rel1.trans rel2
    clear rel2 h2 ht1
    walk_at "go"
    refine ⟨x, dx, W, ws, l, d, p + 1 + 1, rfl, L, by omega, I, fun H5 e rel2 he => ?_, fun H5 m p3 rel2 I hm => ?_⟩
    · refine q1 H5 e (rel1.trans rel2) ?_
      show (match Wd.one [Wd.OF] ws (p + 1) with | .error e => _ | .ok (_, p2) => _) = _
      rw [hv2]
      show (match Wd.takeMonth d ws (p + 1 + 1) with | .error e => _ | .ok (m, p3) => _) = _
      rw [he]
    replace rel1 := rel1.trans rel2
    clear rel2
    have red1 : ∀ {r : Except Nat (Int × Nat)}, (if v = Wd.DAY then .ok ((if k < 0 then Civ.fd m + Civ.len m + k else Civ.fd m + k - 1), p3) else match Civ.nthw m k (Wd.idx Wd.WD v) with | some d => .ok (d, p3) | none => .error p) = r →
        (match (Except.ok (v, p + 1) : Except Nat (Wd.W × Nat)) with
          | .error e => .error e
          | .ok (w, p1) => match Wd.one [Wd.OF] ws p1 with
            | .error e => .error e
            | .ok (_, p2) => match Wd.takeMonth d ws p2 with
              | .error e => .error e
              | .ok (m, p3) => if w = Wd.DAY then .ok ((if k < 0 then Civ.fd m + Civ.len m + k else Civ.fd m + k - 1), p3) else match Civ.nthw m k (Wd.idx Wd.WD w) with
                | some d => .ok (d, p3)
                | none => .error p) = r := fun {r} h => by
      show (match Wd.one [Wd.OF] ws (p + 1) with | .error e => _ | .ok (_, p2) => _) = _
      rw [hv2]
      show (match Wd.takeMonth d ws (p + 1 + 1) with | .error e => _ | .ok (m, p3) => _) = _
      rw [hm]
      exact h
    walk_at "go"
    have e0 : decide (V.str (S v) = V.str "day") = decide (v = Wd.DAY) := dec_str v Wd.DAY
    rw [e0]
    refine iteK (fun h => ?_) (fun h => ?_)
    · walk_at "go"
      refine ⟨_, rfl, ?_⟩
      walk_at "go"
      refine ⟨fun σ' H' => ∃ z, σ' = [some (.ref x), some (.int d), some (.int k), some (.int p), some (.str (S v)), some (.int m), some (.int z)] ∧ H' = H5 ∧ z = (if k < 0 then Civ.fd m + Civ.len m + k else Civ.fd m + k - 1), ?_, ?_⟩
      · walk_at "go"
        refine iteK (fun h => ?_) (fun h => ?_)
        · walk_at "go"
          refine ⟨_, rfl, ?_⟩
          walk_at "go"
          refine ⟨_, rfl, ?_⟩
          walk_at "go"
          exact ⟨_, rfl, rfl, (if_pos h).symm⟩
        · walk_at "go"
          exact ⟨_, rfl, rfl, (if_neg h).symm⟩
      rintro σ' H' ⟨z, rfl, rfl, hz⟩
      walk_at "go"
      refine q2 H' z p3 rel1 I (red1 ?_)
      rw [if_pos h, hz]
    · walk_at "go"
      have vm2 : v ∈ Wd.WD := (List.mem_append.mp vm).elim id fun z => absurd (List.mem_singleton.mp z) h
      refine ⟨.inr (.inl ⟨rfl, T.k_WEEKDAYS⟩), ?_⟩
      walk_at "go"
      refine tup_idx (T.h_WEEKDAYS H5) vm2 ?_
      refine ⟨m, k, _, rfl, ?_⟩
      walk_at "go"
      have en : Civ.nthw m k ((Wd.WD.idxOf v : Nat) : Int) = Civ.nthw m k (Wd.idx Wd.WD v) := rfl
      rw [en]
      cases ed : Civ.nthw m k (Wd.idx Wd.WD v) with
      | none =>
        refine ite_y rfl ?_
        walk_at "go"
        refine fld T I.x_ T.n_Line_line (lf_line W l p3) ?_
        walk_at "go"
        refine mk_bad T (by have := L.l_; omega) (by omega) (q1 H5 p rel1 (red1 ?_))
        rw [if_neg h, ed]
      | some z =>
        refine ite_n rfl ?_
        walk_at "go"
        refine q2 H5 z p3 rel1 I (red1 ?_)
        rw [if_neg h, ed]
end
section
variable {P : Program} {w : World} {K : PySem.W.Frag} {mg : Str → Option Value} {base : Heap} {a : Adr}
def sp_take_when (a : Adr) : Sp := fun vs H Q E => ∃ (x dx W : Addr) (ws : List (List Nat)) (l today : Int), vs = [.ref x, .int today] ∧ Lh a x dx W ws l ∧ Ln a x dx W ws l 0 H ∧ TakesI a x dx W ws l H E (Wd.when today ws) Q
theorem ok_take_when (T : Txt K mg a) : FnOk P w K mg base (L2.CX P w) 6 a.f_take_when a.d_take_when ["line", "today"] (sp_take_when a) := by
  refine T.F_take_when.okX sc_take_when (fun vs H Q E h => ?_) (fun cdv A outer s H vs Q E hr h => ?_)
  · obtain ⟨x, dx, W, ws, l, d, rfl, _⟩ := h
    rfl
  · obtain ⟨x, dx, W, ws, l, d, rfl, L, I, q1, q2⟩ := h
    have ln := L.n_
    refine ⟨_, (pss_cons (ps_set (i := 2) sc_take_when.nd rfl (.inl rfl) (pe_meth0 (pv 0) T.c_Line T.m_Line_take (ok_Line_take T) (hr.mono (by decide)) T.b_Line_take .nil (passes_call (takes_of rfl rfl rfl rfl) (fun _ _ _ _ h => h))))
       (pss_cons (ps_if (pt_cmpR op_in_seq (pv 2) (pe_tup (pa_cons pe_str (pa_cons pe_str (pa_cons pe_str pa_nil)))) rfl)
       (pss_one (ps_ret (pe_op op_sub (pe_op op_add (pv 1) (pe_tupM PySem.F.plainAttrs_tuple PySem.F.slot_tuple_index PySem.F.type_tuple_index mt_tup_index (pa_cons pe_str (pa_cons pe_str (pa_cons pe_str pa_nil))) (pa_cons (pv 2) pa_nil))) pe_int)))
       pss_nil)
       (pss_cons (ps_if (pt_cmpR op_eq (pv 2) pe_str (nomark _))
       (pss_one (ps_ret (pe_call (ok_next_weekday T) (hr.mono (by decide)) (by rfl) T.g_next_weekday T.F_next_weekday.kp T.b_next_weekday .nil pass0 (pa_cons (pv 1) (pa_cons (pe_bm PySem.F.plainAttrs_tuple PySem.F.slot_tuple_index PySem.F.type_tuple_index mt_tup_index (pe_glob (v := .ref a.A_WEEKDAYS) (by rfl) T.g_WEEKDAYS rfl) (pa_cons (pe_meth (pv 0) T.c_Line T.m_Line_take_one_of (ok_Line_take_one_of T) (hr.mono (by decide)) T.b_Line_take_one_of .nil (passes_call (takes_of rfl rfl rfl rfl) (fun _ _ _ _ h => h)) (pa_cons (pe_glob (v := .ref a.A_WEEKDAYS) (by rfl) T.g_WEEKDAYS rfl) pa_nil)) pa_nil)) pa_nil)))))
       pss_nil)
       (pss_cons (ps_if (PW.pt (pw_and (pt_cmpR op_eq (pv 2) pe_str (nomark _)) (pw_and (pt_cmpR op_in_seq (pe_meth0 (pv 0) T.c_Line T.m_Line_upcoming (ok_Line_upcoming T) (hr.mono (by decide)) T.b_Line_upcoming .nil pass0) (pe_glob (v := .ref a.A_WEEKDAYS) (by rfl) T.g_WEEKDAYS rfl) rfl) (pw_and1 (pt_cmpR op_eq (pe_op op_add (pe_fld (pv 0) rfl) pe_int) (pe_callB call_len_seq (by rfl) T.z_len (by decide +kernel) (pa_cons (pe_fld (pv 0) rfl) pa_nil)) (nomark _))))))
       (pss_one (ps_ret (pe_call (ok_last_weekday T) (hr.mono (by decide)) (by rfl) T.g_last_weekday T.F_last_weekday.kp T.b_last_weekday .nil pass0 (pa_cons (pv 1) (pa_cons (pe_bm PySem.F.plainAttrs_tuple PySem.F.slot_tuple_index PySem.F.type_tuple_index mt_tup_index (pe_glob (v := .ref a.A_WEEKDAYS) (by rfl) T.g_WEEKDAYS rfl) (pa_cons (pe_meth0 (pv 0) T.c_Line T.m_Line_take (ok_Line_take T) (hr.mono (by decide)) T.b_Line_take .nil (passes_call (takes_of rfl rfl rfl rfl) (fun _ _ _ _ h => h))) pa_nil)) pa_nil)))))
       pss_nil)
       (pss_cons (ps_if (pt_cmpR op_eq (pv 2) pe_str (nomark _))
       (pss_one (ps_ret (pe_call (ok_take_in_month T) (hr.mono (by decide)) (by rfl) T.g_take_in_month T.F_take_in_month.kp T.b_take_in_month .nil (passes_call (takes_of rfl rfl rfl rfl) (fun _ _ _ _ h => h)) (pa_cons (pv 0) (pa_cons (pv 1) (pa_cons (pe_un un_neg pe_int) pa_nil))))))
       pss_nil)
       (pss_cons (ps_if (pt_cmpR op_in_seq (pv 2) (pe_glob (v := .ref a.A_PLACES) (by rfl) T.g_PLACES rfl) rfl)
       (pss_one (ps_ret (pe_call (ok_take_in_month T) (hr.mono (by decide)) (by rfl) T.g_take_in_month T.F_take_in_month.kp T.b_take_in_month .nil (passes_call (takes_of rfl rfl rfl rfl) (fun _ _ _ _ h => h)) (pa_cons (pv 0) (pa_cons (pv 1) (pa_cons (pe_op op_add (pe_bm PySem.F.plainAttrs_tuple PySem.F.slot_tuple_index PySem.F.type_tuple_index mt_tup_index (pe_glob (v := .ref a.A_PLACES) (by rfl) T.g_PLACES rfl) (pa_cons (pv 2) pa_nil)) pe_int) pa_nil))))))
       pss_nil)
       (pss_cons (ps_if (pt_cmpR op_eq (pv 2) pe_str (nomark _))
       (pss_cons (ps_set (i := 3) sc_take_when.nd rfl (.inl rfl) (pe_meth (pv 0) T.c_Line T.m_Line_take_integer (ok_Line_take_integer T) (hr.mono (by decide)) T.b_Line_take_integer .nil (passes_call (takes_of rfl rfl rfl rfl) (fun _ _ _ _ h => h)) (pa_cons pe_int (pa_cons (C8.pe_gc (v := .int 100000) (by rfl) T.g_COUNT_MOST) pa_nil))))
       (pss_one (ps_ret (pe_call (ok_later_by T) (hr.mono (by decide)) (by rfl) T.g_later_by T.F_later_by.kp T.b_later_by .nil pass0 (pa_cons (pv 1) (pa_cons (pv 3) (pa_cons (pe_meth (pv 0) T.c_Line T.m_Line_take_one_of (ok_Line_take_one_of T) (hr.mono (by decide)) T.b_Line_take_one_of .nil (passes_call (takes_of rfl rfl rfl rfl) (fun _ _ _ _ h => h)) (pa_cons (pe_glob (v := .ref a.A_UNITS) (by rfl) T.g_UNITS rfl) pa_nil)) pa_nil)))))))
       pss_nil)
       (pss_cons (ps_if (pt_cmpR op_in_seq (pv 2) (pe_glob (v := .ref a.A_WEEKDAYS) (by rfl) T.g_WEEKDAYS rfl) rfl)
       (pss_one (ps_ret (pe_op op_add (pv 1) (pe_op op_modE (pe_op op_sub (pe_bm PySem.F.plainAttrs_tuple PySem.F.slot_tuple_index PySem.F.type_tuple_index mt_tup_index (pe_glob (v := .ref a.A_WEEKDAYS) (by rfl) T.g_WEEKDAYS rfl) (pa_cons (pv 2) pa_nil)) (pe_call (ok_weekday_of T) (hr.mono (by decide)) (by rfl) T.g_weekday_of T.F_weekday_of.kp T.b_weekday_of .nil pass0 (pa_cons (pv 1) pa_nil))) pe_int))))
       pss_nil)
       (pss_cons (ps_set (i := 3) sc_take_when.nd rfl (.inl rfl) (pe_call (ok_read_integer T) (hr.mono (by decide)) (by rfl) T.g_read_integer T.F_read_integer.kp T.b_read_integer .nil pass0 (pa_cons (pv 2) pa_nil)))
       (C8.pss_cut (ps_if (PW.pt (pw_and (pt_cmpR op_notN (pv 3) pe_non (nomark _)) (pw_and1 (pt_chain op_le op_le pe_int (pv 3) (C8.pe_gc (v := .int 100000) (by rfl) T.g_COUNT_MOST)))))
       (pss_cons (ps_set (i := 4) sc_take_when.nd rfl (.inl rfl) (pe_meth (pv 0) T.c_Line T.m_Line_take_one_of (ok_Line_take_one_of T) (hr.mono (by decide)) T.b_Line_take_one_of .nil (passes_call (takes_of rfl rfl rfl rfl) (fun _ _ _ _ h => h)) (pa_cons (pe_glob (v := .ref a.A_UNITS) (by rfl) T.g_UNITS rfl) pa_nil)))
       (pss_cons (ps_expr (pe_meth (pv 0) T.c_Line T.m_Line_take_one_of (ok_Line_take_one_of T) (hr.mono (by decide)) T.b_Line_take_one_of .nil (passes_call (takes_of rfl rfl rfl rfl) (fun _ _ _ _ h => h)) (pa_cons (pe_tup (pa_cons pe_str pa_nil)) pa_nil)))
       (pss_one (ps_ret (pe_call (ok_later_by T) (hr.mono (by decide)) (by rfl) T.g_later_by T.F_later_by.kp T.b_later_by .nil pass0 (pa_cons (pv 1) (pa_cons (pe_un un_neg (pv 3)) (pa_cons (pv 4) pa_nil))))))))
       pss_nil)
       (pss_cons (ps_set (i := 5) sc_take_when.nd rfl (.inl rfl) (pe_call (ok_read_day_word T) (hr.mono (by decide)) (by rfl) T.g_read_day_word T.F_read_day_word.kp T.b_read_day_word .nil pass0 (pa_cons (pv 2) pa_nil)))
       (pss_cons (ps_if (pt_cmpR op_isN (pv 5) pe_non (nomark _))
       (pss_one (ps_raise rfl (takes_of rfl rfl rfl rfl) (pmk_oex T.x_BadText T.i_BadText T.u_BadText (ok_BadText_init T) (hr.mono (by decide)) T.b_BadText_init .nil pass0 rfl T.g_BadText (pa_cons (pe_fld (pv 0) rfl) (pa_cons (pe_op op_sub (pe_fld (pv 0) rfl) pe_int) pa_nil)))))
       pss_nil)
       (pss_one (ps_ret (pv 5))))))))))))))), ?_⟩
    refine red (σ' := [some (.ref x), some (.int d), none, none, none, none]) rfl ?_
    try dsimp only [cxOf]
    walk_at "go"
    refine pm I (by decide +kernel) (by decide +kernel) (by decide +kernel) ?_
    walk_at "go"
    refine ⟨x, dx, W, ws, l, 0, rfl, L.l_, by decide, I, fun hn => ?_, fun v hv H1 I rel => ?_⟩
    · refine q1 H 0 (RelT.refl x H) ?_
      unfold Wd.when
      rw [hn]
    have hw : Wd.when d ws = (if v ∈ [Wd.TODAY, Wd.TOMO, Wd.YEST] then .ok (d + Wd.idx [Wd.YEST, Wd.TODAY, Wd.TOMO] v - 1, 1)
      else if v = Wd.NEXT then Wd.nextWd d ws
      else if v = Wd.LAST ∧ Wd.lastOk ws = true then .ok (Wd.lastw d (Wd.idx Wd.WD (ws.getD 1 [])), 2)
      else if v = Wd.LAST then Wd.takeIn d (-1) ws 1
      else if v ∈ Wd.PL then Wd.takeIn d (Wd.idx Wd.PL v + 1) ws 1
      else if v = Wd.IN then Wd.inUnits d ws
      else if v ∈ Wd.WD then .ok (d + (Wd.idx Wd.WD v - d % 7) % 7, 1)
      else match Wd.numOk v with
        | some n => Wd.ago d n ws
        | none => match Dg.rdw v with
          | some d => .ok (d, 1)
          | none => .error 0) := by
      unfold Wd.when
      rw [hv]
      try rfl
    have hv1000 := L.z_ v (List.mem_of_getElem? hv)
    have I : Ln a x dx W ws l 1 H1 := I
    have hv0 := at_lt hv
    clear hv
    walk_at "go"
    refine ⟨by show 3 ≤ sizeLine; decide, fun t1 ht1 => ?_⟩
    refine ⟨t1, sv [Wd.TODAY, Wd.TOMO, Wd.YEST], rfl, .inr (SqT.of upd_same), rfl, flat_sv _, _, rfl, ?_⟩
    replace rel := rel.trans (Same.rel (x := x) (same_new (o := .tup (sv [Wd.TODAY, Wd.TOMO, Wd.YEST])) ht1))
    replace I := I.same (same_new (o := .tup (sv [Wd.TODAY, Wd.TOMO, Wd.YEST])) ht1)
    change if inV (V.str (S v)) (sv [Wd.TODAY, Wd.TOMO, Wd.YEST]) = true then tRet _ _ _ (upd H1 t1 (.tup (sv [Wd.TODAY, Wd.TOMO, Wd.YEST]))) else tNext _ _ (upd H1 t1 (.tup (sv [Wd.TODAY, Wd.TOMO, Wd.YEST])))
    generalize upd H1 t1 (.tup (sv [Wd.TODAY, Wd.TOMO, Wd.YEST])) = H2 at rel I
    rw [inV_sv]
    refine iteK (fun h1 => ?_) (fun h1 => ?_)
    · rw [if_pos h1] at hw
      walk_at "go"
      refine ⟨by show 3 ≤ sizeLine; decide, fun t2 ht2 => ?_⟩
      walk_at "go"
      refine tup_idx (es := [Wd.YEST, Wd.TODAY, Wd.TOMO]) (SqT.of upd_same) ?_ ?_
      · simp only [List.mem_cons, List.not_mem_nil, or_false] at h1 ⊢
        rcases h1 with r | r | r
        · exact .inr (.inl r)
        · exact .inr (.inr r)
        · exact .inl r
      walk_at "go"
      exact q2 _ _ 1 (rel.trans (Same.rel (x := x) (same_new ht2))) (I.same (same_new ht2)) hw
    rw [if_neg h1] at hw
    walk_at "go"
    have e0 : decide (V.str (S v) = V.str "next") = decide (v = Wd.NEXT) := dec_str v Wd.NEXT
    rw [e0]
    refine iteK (fun h2 => ?_) (fun h2 => ?_)
    · rw [if_pos h2] at hw
      unfold Wd.nextWd at hw
      walk_at "go"
      refine ⟨.inr (.inl ⟨rfl, T.k_WEEKDAYS⟩), ?_⟩
      walk_at "go"
      refine pm I (by decide +kernel) (by decide +kernel) (by decide +kernel) ?_
      walk_at "go"
      refine ⟨x, dx, W, a.A_WEEKDAYS, ws, Wd.WD, l, 1, rfl, L.l_, by decide, I, T.h_WEEKDAYS _, fun e he => ?_, fun u p hu H3 I rel3 => ?_⟩
      · rw [he] at hw
        exact q1 H2 e rel hw
      · rw [hu] at hw
        obtain ⟨um, uw, rfl⟩ := one_ok hu
        refine tup_idx (T.h_WEEKDAYS H3) um ?_
        walk_at "go"
        refine ⟨d, _, rfl, ?_⟩
        exact q2 H3 _ _ (rel.trans rel3) I hw
    rw [if_neg h2] at hw
    walk_at "go"
    have e0 : decide (V.str (S v) = V.str "last") = decide (v = Wd.LAST) := dec_str v Wd.LAST
    -- the last weekday, or the last of a month
    rw [e0]
    have lastIn : v = Wd.LAST → Wd.lastOk ws = false → ∀ {Q' : VK}, Q' = Q → sp_take_in_month a [.ref x, .int d, .int (-1)] H2 Q' E := fun hl hn Q' eq => by
      subst eq
      rw [if_neg (fun z => by rw [hn] at z; cases z.2), if_pos hl] at hw
      refine ⟨x, dx, W, ws, l, d, -1, 1, rfl, L, by omega, I, fun H' e r he => q1 H' e (rel.trans r) (hw.trans he), fun H' z p' r I' hz => q2 H' z p' (rel.trans r) I' (hw.trans hz)⟩
    refine iteK (fun h3 => ?_) (fun h3 => ?_)
    · have e0' : decide (V.str (S v) = V.str "last") = true := e0.trans (decide_eq_true h3)
      walk_at "go"
      refine pm I (by decide +kernel) (by decide +kernel) (by decide +kernel) ?_
      walk_at "go"
      refine ⟨x, dx, W, ws, l, 1, rfl, I, ?_⟩
      walk_at "go"
      refine ⟨a.A_WEEKDAYS, sv Wd.WD, rfl, .inr (T.h_WEEKDAYS _), ?_, flat_sv _, _, rfl, ?_⟩
      · cases ws[1]? <;> rfl
      have ei : inV ((Option.map (fun z => V.str (S z)) ws[1]?).getD V.non) (sv Wd.WD) = decide (ws.getD 1 [] ∈ Wd.WD) := by
        rw [List.getD_eq_getElem?_getD]
        cases ws[1]? with
        | none => rw [show (Option.map (fun z => V.str (S z)) (none : Option (List Nat))).getD V.non = V.non from rfl, inV_non]; decide
        | some z => exact inV_sv z Wd.WD
      show if inV _ (sv Wd.WD) = true then _ else _
      rw [ei]
      refine iteK (fun h4 => ?_) (fun h4 => ?_)
      · walk_at "go"
        refine fld T I.x_ T.n_Line_place (lf_place W l _) ?_
        walk_at "go"
        refine fld T I.x_ T.n_Line_words (lf_words W l _) ?_
        walk_at "go"
        refine ⟨W, _, rfl, .inl (SqL.of I.W_), ?_⟩
        rw [List.length_map]
        walk_at "go"
        rw [dec_int]
        refine iteK (fun h5 => ?_) (fun h5 => ?_)
        · have l2 : ws.length = 2 := by omega
          have hlo : Wd.lastOk ws = true := by
            unfold Wd.lastOk
            rw [decide_eq_true l2, decide_eq_true h4]; rfl
          rw [if_pos ⟨h3, hlo⟩] at hw
          obtain ⟨u, hu⟩ : ∃ u, ws[1]? = some u := ⟨ws[1], List.getElem?_eq_getElem (by omega)⟩
          have ed : ws.getD 1 [] = u := by rw [List.getD_eq_getElem?_getD, hu]; rfl
          rw [ed] at hw h4
          walk_at "go"
          refine ⟨.inr (.inl ⟨rfl, T.k_WEEKDAYS⟩), ?_⟩
          walk_at "go"
          refine pm I (by decide +kernel) (by decide +kernel) (by decide +kernel) ?_
          walk_at "go"
          refine ⟨x, dx, W, ws, l, 1, rfl, L.l_, by decide, I, (fun hn => by rw [hn] at hu; cases hu), fun z hz H3 I rel3 => ?_⟩
          rw [hu] at hz
          cases hz
          refine tup_idx (T.h_WEEKDAYS H3) h4 ?_
          walk_at "go"
          refine ⟨d, _, rfl, ?_⟩
          exact q2 H3 _ 2 (rel.trans rel3) I hw
        · walk_at "go"
          rw [e0']
          refine iteT ?_
          walk_at "go"
          refine lastIn h3 ?_ rfl
          unfold Wd.lastOk
          rw [decide_eq_false (by omega : ¬ ws.length = 2)]; rfl
      · refine iteF ?_
        walk_at "go"
        rw [e0']
        refine iteT ?_
        walk_at "go"
        refine lastIn h3 ?_ rfl
        unfold Wd.lastOk
        rw [decide_eq_false h4, Bool.and_false]
    have e0' : decide (V.str (S v) = V.str "last") = false := e0.trans (decide_eq_false h3)
    rw [if_neg (fun z => h3 z.1), if_neg h3] at hw
    refine iteF ?_
    walk_at "go"
    rw [e0']
    refine iteF ?_
    walk_at "go"
    refine ⟨a.A_PLACES, sv Wd.PL, rfl, .inr (T.h_PLACES _), rfl, flat_sv _, _, rfl, ?_⟩
    show if inV (V.str (S v)) (sv Wd.PL) = true then _ else _
    rw [inV_sv]
    refine iteK (fun h4 => ?_) (fun h4 => ?_)
    · rw [if_pos h4] at hw
      walk_at "go"
      refine ⟨.inr (.inl ⟨rfl, T.k_PLACES⟩), ?_⟩
      walk_at "go"
      refine tup_idx (T.h_PLACES H2) h4 ?_
      walk_at "go"
      exact ⟨x, dx, W, ws, l, d, _, 1, rfl, L, by omega, I, fun H' e r he => q1 H' e (rel.trans r) (hw.trans he), fun H' z p' r I' hz => q2 H' z p' (rel.trans r) I' (hw.trans hz)⟩
    rw [if_neg h4] at hw
    walk_at "go"
    have e0 : decide (V.str (S v) = V.str "in") = decide (v = Wd.IN) := dec_str v Wd.IN
    rw [e0]
    refine iteK (fun h5 => ?_) (fun h5 => ?_)
    · rw [if_pos h5] at hw
      unfold Wd.inUnits at hw
      walk_at "go"
      refine pm I (by decide +kernel) (by decide +kernel) (by decide +kernel) ?_
      walk_at "go"
      refine ⟨x, dx, W, ws, l, 0, 100000, 1, rfl, L.l_, by decide, I, L.z_, fun H3 sm => ⟨fun e he => ?_, fun n p hn H4 I rel4 => ?_⟩⟩
      · rw [he] at hw
        exact q1 H3 e (rel.trans (Same.rel sm)) hw
      replace rel := rel.trans ((Same.rel sm).trans rel4)
      rw [hn] at hw
      obtain ⟨rfl, hp1, _, _⟩ := int_ok hn
      walk_at "go"
      refine pm I (by decide +kernel) (by decide +kernel) (by decide +kernel) ?_
      walk_at "go"
      refine ⟨x, dx, W, a.A_UNITS, ws, Wd.UN, l, 2, rfl, L.l_, by decide, I, T.h_UNITS _, fun e he => ?_, fun u p hu H5 I rel5 => ?_⟩
      · have hw : Wd.when d ws = (match Wd.one Wd.UN ws 2 with | .error e => .error e | .ok (u, p) => .ok (Wd.later d n u, p)) := hw
        rw [he] at hw
        exact q1 H4 e rel hw
      · have hw : Wd.when d ws = (match Wd.one Wd.UN ws 2 with | .error e => .error e | .ok (u, p) => .ok (Wd.later d n u, p)) := hw
        rw [hu] at hw
        refine ⟨d, n, u, rfl, fun H6 sm6 => ?_⟩
        exact q2 H6 _ _ (rel.trans (rel5.trans (Same.rel sm6))) (I.same sm6) hw
    rw [if_neg h5] at hw
    walk_at "go"
    refine ⟨a.A_WEEKDAYS, sv Wd.WD, rfl, .inr (T.h_WEEKDAYS _), rfl, flat_sv _, _, rfl, ?_⟩
    show if inV (V.str (S v)) (sv Wd.WD) = true then _ else _
    rw [inV_sv]
    refine iteK (fun h6 => ?_) (fun h6 => ?_)
    · rw [if_pos h6] at hw
      walk_at "go"
      refine ⟨.inr (.inl ⟨rfl, T.k_WEEKDAYS⟩), ?_⟩
      walk_at "go"
      refine tup_idx (T.h_WEEKDAYS H2) h6 ?_
      walk_at "go"
      refine ⟨d, rfl, ?_⟩
      walk_at "go"
      exact q2 H2 _ 1 rel I hw
    rw [if_neg h6] at hw
    walk_at "go"
    refine ⟨v, rfl, hv1000, fun H3 sm => ?_⟩
    replace rel := rel.trans (Same.rel (x := x) sm)
    replace I := I.same sm
    walk_at "go"
    refine ⟨fun σ' H' => σ' = [some (.ref x), some (.int d), some (.str (S v)), some (((Wd.rint v).map V.int).getD .non), none, none] ∧ H' = H3 ∧ Wd.numOk v = none, ?_, ?_⟩
    · walk_at "go"
      cases er : Wd.rint v with
      | none =>
        refine ite_n rfl ?_
        refine iteF ?_
        walk_at "go"
        refine ⟨rfl, rfl, ?_⟩
        unfold Wd.numOk
        rw [er]; rfl
      | some n =>
        refine ite_y rfl ?_
        dsimp only [Option.map, Option.getD]
        have no : ¬ (0 ≤ n ∧ n ≤ 100000) → Wd.numOk v = none := fun h => by
          unfold Wd.numOk
          rw [er]
          exact if_neg h
        walk_at "go"
        refine iteK (fun g1 => ?_) (fun g1 => ?_)
        · walk_at "go"
          refine iteK (fun g2 => ?_) (fun g2 => ?_)
          · have hn : Wd.numOk v = some n := by
              unfold Wd.numOk
              rw [er]
              exact if_pos ⟨g1, g2⟩
            rw [hn] at hw
            have hw : Wd.when d ws = (match Wd.one Wd.UN ws 1 with | .error e => .error e | .ok (u, p) => match Wd.one [Wd.AGO] ws p with | .error e => .error e | .ok (_, p) => .ok (Wd.later d (-n) u, p)) := hw
            walk_at "go"
            refine pm I (by decide +kernel) (by decide +kernel) (by decide +kernel) ?_
            walk_at "go"
            refine ⟨x, dx, W, a.A_UNITS, ws, Wd.UN, l, 1, rfl, L.l_, by decide, I, T.h_UNITS _, fun e he => ?_, fun u p hu H5 I rel5 => ?_⟩
            · rw [he] at hw
              exact q1 H3 e rel hw
            rw [hu] at hw
            have hw : Wd.when d ws = (match Wd.one [Wd.AGO] ws p with | .error e => .error e | .ok (_, p) => .ok (Wd.later d (-n) u, p)) := hw
            obtain ⟨um, uw, rfl⟩ := one_ok hu
            have hul := at_lt uw
            replace rel := rel.trans rel5
            walk_at "go"
            refine pm I (by decide +kernel) (by decide +kernel) (by decide +kernel) ?_
            walk_at "go"
            refine ⟨by show 1 ≤ sizeLine; decide, fun t1 ht1 => ?_⟩
            walk_at "go"
            have h2 : upd H5 t1 (.tup [.str "ago"]) t1 = some (.tup (sv [Wd.AGO])) := upd_same
            replace rel := rel.trans (Same.rel (x := x) (same_new (o := .tup [.str "ago"]) ht1))
            replace I := I.same (same_new (o := .tup [.str "ago"]) ht1)
            generalize upd H5 t1 (.tup [.str "ago"]) = H6 at rel h2 I
            refine ⟨x, dx, W, t1, ws, [Wd.AGO], l, 1 + 1, rfl, L.l_, by omega, I, SqT.of h2, fun e he => ?_, fun v2 p2 hv2 H7 I rel2 => ?_⟩
            · rw [he] at hw
              exact q1 H6 e rel hw
            rw [hv2] at hw
            replace rel := rel.trans rel2
            walk_at "go"
            refine ⟨d, -n, u, rfl, fun H8 sm8 => ?_⟩
            exact q2 H8 _ _ (rel.trans (Same.rel sm8)) (I.same sm8) hw
          · walk_at "go"
            exact ⟨rfl, rfl, no fun z => g2 z.2⟩
        · walk_at "go"
          refine iteF ?_
          walk_at "go"
          exact ⟨rfl, rfl, no fun z => g1 z.1⟩
    rintro σ' H' ⟨rfl, rfl, hn⟩
    rw [hn] at hw
    have hw : Wd.when d ws = (match Dg.rdw v with | some d => .ok (d, 1) | none => .error 0) := hw
    walk_at "go"
    refine ⟨v, rfl, hv1000, fun H4 sm4 => ?_⟩
    replace rel := rel.trans (Same.rel (x := x) sm4)
    replace I := I.same sm4
    walk_at "go"
    cases ed : Dg.rdw v with
    | none =>
      rw [ed] at hw
      refine ite_y rfl ?_
      walk_at "go"
      refine fld T I.x_ T.n_Line_line (lf_line W l _) ?_
      walk_at "go"
      refine fld T I.x_ T.n_Line_place (lf_place W l _) ?_
      walk_at "go"
      refine mk_bad T (by have := L.l_; omega) (by decide) ?_
      exact q1 H4 0 rel hw
    | some z =>
      rw [ed] at hw
      refine ite_n rfl ?_
      walk_at "go"
      exact q2 H4 z 1 rel I hw
def sp_read_when (a : Adr) : Sp := fun vs H Q E => ∃ (t : List Nat) (today : Int), vs = [.str (S t), .int today] ∧ t.length ≤ 1000 ∧ (Wd.cutw t).length ≤ 200000 ∧ (∀ z ∈ Wd.cutw t, z.length ≤ 1000) ∧
  ∀ H', Same H H' → (∀ e, Wd.readw today (Wd.cutw t) = .error e → BadAt a.C_BadText E H' 1 e) ∧ ∀ d, Wd.readw today (Wd.cutw t) = .ok d → Q (.int d) H'
theorem ok_read_when (T : Txt K mg a) : FnOk P w K mg base (L2.CX P w) 7 a.f_read_when a.d_read_when ["text", "today"] (sp_read_when a) := by
  refine T.F_read_when.okX sc_read_when (fun vs H Q E h => ?_) (fun cdv A outer s H vs Q E hr h => ?_)
  · obtain ⟨t, d, rfl, _⟩ := h
    rfl
  · obtain ⟨t, d, rfl, ht, hn, hz, q⟩ := h
    refine ⟨_, (pss_cons (ps_set (i := 2) sc_read_when.nd rfl (.inl rfl) (pe_make T.M_Line (ok_Line_init T) (hr.mono (by decide)) (by rfl) T.g_Line T.b_Line_init .nil pass0 (pa_cons (pv 0) (pa_cons pe_int pa_nil))))
       (pss_cons (ps_set (i := 3) sc_read_when.nd rfl (.inl rfl) (pe_call (ok_take_when T) (hr.mono (by decide)) (by rfl) T.g_take_when T.F_take_when.kp T.b_take_when .nil (passes_call (takes_of rfl rfl rfl rfl) (fun _ _ _ _ h => h)) (pa_cons (pv 2) (pa_cons (pv 1) pa_nil))))
       (pss_cons (ps_expr (pe_meth0 (pv 2) T.c_Line T.m_Line_finish (ok_Line_finish T) (hr.mono (by decide)) T.b_Line_finish .nil (passes_call (takes_of rfl rfl rfl rfl) (fun _ _ _ _ h => h))))
       (pss_one (ps_ret (pv 3)))))), ?_⟩
    refine red (σ' := [some (.str (S t)), some (.int d), none, none]) rfl ?_
    try dsimp only [cxOf]
    walk_at "go"
    intro x dx hx hdx dxx
    refine ⟨x, dx, t, 1, rfl, by omega, upd_same, fun W H1 I rel => ⟨rfl, ?_⟩⟩
    have sm : ∀ {H'}, RelT x H1 H' → Same H H' := fun {H'} r b o h => by
      have hb : b ≠ x := ne_of_none h hx
      have hb2 : b ≠ dx := ne_of_none h hdx
      exact r b o hb (rel b o hb ((upd_ne hb).trans ((upd_ne hb2).trans h)))
    have L : Lh a x dx W (Wd.cutw t) 1 := ⟨by decide, hn, hz⟩
    generalize Wd.cutw t = ws at *
    walk_at "go"
    refine ⟨x, dx, W, ws, 1, d, rfl, L, I, fun H' e r he => ?_, fun H' v p r I' hv => ?_⟩
    · refine (q H' (sm r)).1 e ?_
      unfold Wd.readw
      rw [he]
    walk_at "go"
    refine pm I' (by decide +kernel) (by decide +kernel) (by decide +kernel) ?_
    walk_at "go"
    have hp : p ≤ 1000000 := by
      apply Classical.byContradiction
      intro g
      exact absurd (Wd.when_le hv) (by omega)
    have er : Wd.readw d ws = if p < ws.length then .error p else .ok v := by
      unfold Wd.readw
      rw [hv]
    refine ⟨x, dx, W, ws, 1, p, rfl, by decide, hp, I', fun g => ?_, fun g => ?_⟩
    · exact (q H' (sm r)).1 p (by rw [er, if_pos g])
    · walk_at "go"
      exact (q H' (sm r)).2 v (by rw [er, if_neg g])
end
section
variable {P : Program} {w : World} {K : PySem.W.Frag} {mg : Str → Option Value} {base : Heap} {a : Adr}
theorem dig_at (n : Nat) : atI [48, 49, 50, 51, 52, 53, 54, 55, 56, 57] (((n : Nat) : Int) % 10) = some (48 + n % 10) := by
  have e : ((n : Nat) : Int) % 10 = ((n % 10 : Nat) : Int) := by omega
  rw [e]
  refine atI_nat ?_
  have h : n % 10 < 10 := Nat.mod_lt _ (by decide)
  have : ∀ k < 10, [48, 49, 50, 51, 52, 53, 54, 55, 56, 57][k]? = some (48 + k) := by decide
  exact this _ h
def sp_law_digits : Sp := fun vs H Q _ => ∃ n k : Int, vs = [.int n, .int k] ∧ 0 ≤ n ∧ 0 ≤ k ∧ k ≤ 100 ∧ Q (.str (S (Dg.dg n.toNat k.toNat))) H
theorem ok_law_digits2 (T : Txt K mg a) : FnOk P w K mg base CX0 2 a.f_law_digits2 a.d_law_digits2 ["n", "many"] sp_law_digits := by
  refine T.F_law_digits2.ok sc_law_digits2 (fun vs H Q E h => ?_) (fun cdv A outer s H vs Q E hr h => ?_)
  · obtain ⟨l, k, rfl, _⟩ := h
    rfl
  · obtain ⟨n, k, rfl, n0, k0, k1, q⟩ := h
    refine ⟨_, (pss_cons (ps_set (i := 2) sc_law_digits2.nd rfl (.inl rfl) pe_str)
       (pss_cons (ps_for PassesOwn.never rfl (pi_range1 (by rfl) T.z_range (pa_cons (pv 1) pa_nil)) (pg_name (i := 3) sc_law_digits2.nd rfl (.inl rfl))
       (pss_cons (ps_set (i := 2) sc_law_digits2.nd rfl (.inl rfl) (pe_op op_add_str (pe_ix ix_str pe_str (pe_call (ok_law_mod T) (hr.mono (by decide)) (by rfl) T.g_law_mod T.F_law_mod.kp T.b_law_mod .nil pass0 (pa_cons (pv 0) (pa_cons pe_int pa_nil))) (fun _ _ => rfl)) (pv 2)))
       (pss_one (ps_set (i := 0) sc_law_digits2.nd rfl (.inl rfl) (pe_op op_fdivE (pv 0) pe_int)))))
       (pss_one (ps_ret (pv 2))))), ?_⟩
    refine red (σ' := [some (.int n), some (.int k), none, none]) rfl ?_
    try dsimp only [cxOf]
    obtain ⟨m, rfl⟩ := Int.eq_ofNat_of_zero_le n0
    obtain ⟨j, rfl⟩ := Int.eq_ofNat_of_zero_le k0
    walk_at "go"
    refine ⟨_, rfl, by omega, by omega, ?_⟩
    rw [Int.toNat_natCast] at q ⊢
    rw [Int.toNat_natCast] at q
    refine for_range (fun i σ' H' => ∃ y3, σ' = [some (.int ((m / 10 ^ i : Nat) : Int)), some (.int (j : Nat)), some (.str (S (Dg.dg m i))), y3] ∧ H' = H) ⟨none, by rw [Nat.pow_zero, Nat.div_one]; rfl, rfl⟩ ?_ ?_
    · rintro i σ' H' hi ⟨y3, rfl, rfl⟩
      walk_at "go"
      refine ⟨_, 10, rfl, by decide, by decide, ?_⟩
      refine g_ixS (l := [48, 49, 50, 51, 52, 53, 54, 55, 56, 57]) (by decide) (dig_at _) ?_
      walk_at "go"
      refine g_catS (by rw [Dg.dg_len]; show 1 + i ≤ _; omega) ?_
      rw [S_cat]
      walk_at "go"
      refine ⟨some (.int (0 + (i : Int))), ?_, rfl⟩
      have e1 : ((m / 10 ^ i : Nat) : Int) / 10 = ((m / 10 ^ (i + 1) : Nat) : Int) := by
        rw [Nat.pow_succ, ← Nat.div_div_eq_div_mul]; omega
      show [some (V.int (((m / 10 ^ i : Nat) : Int) / 10)), some (V.int (j : Nat)), some (V.str (S ([48 + m / 10 ^ i % 10] ++ Dg.dg m i))), some (V.int (0 + (i : Int)))] = _
      rw [e1]
      rfl
    · rintro σ' H' ⟨y3, rfl, rfl⟩
      walk_at "go"
      exact q
end
section
variable {P : Program} {w : World} {K : PySem.W.Frag} {mg : Str → Option Value} {base : Heap} {a : Adr}
theorem month_pos {d m : Int} (h : Civ.IsM d m) (h0 : 0 ≤ d) : 0 ≤ m := by
  apply Classical.byContradiction
  intro g
  have := Civ.fd_le (show m + 1 ≤ 0 by omega)
  rw [Dg.fd_zero] at this
  have := h.2
  omega
def sp_law_month_first : Sp := fun vs H Q _ => ∃ m : Int, vs = [.str "civil", .int m] ∧ ∀ H', Same H H' → Q (.int (Civ.fd m)) H'
theorem ok_law_month_first (T : Txt K mg a) : FnOk P w K mg base CX0 4 a.f_law_month_first a.d_law_month_first ["calendar", "m"] sp_law_month_first := by
  refine T.F_law_month_first.ok sc_law_month_first (fun vs H Q E h => ?_) (fun cdv A outer s H vs Q E hr h => ?_)
  · obtain ⟨m, rfl, _⟩ := h
    rfl
  · obtain ⟨m, rfl, q⟩ := h
    refine ⟨_, (pss_cons (ps_set (i := 2) sc_law_month_first.nd rfl (.inl rfl) (pe_call (ok_law_year_first T) (hr.mono (by decide)) (by rfl) T.g_law_year_first T.F_law_year_first.kp T.b_law_year_first .nil pass0 (pa_cons (pv 0) (pa_cons (pe_op op_add (pe_op op_fdivE (pv 1) pe_int) pe_int) pa_nil))))
       (pss_cons (ps_for PassesOwn.never rfl (pi_range1 (by rfl) T.z_range (pa_cons (pe_call (ok_law_mod T) (hr.mono (by decide)) (by rfl) T.g_law_mod T.F_law_mod.kp T.b_law_mod .nil pass0 (pa_cons (pv 1) (pa_cons pe_int pa_nil))) pa_nil)) (pg_name (i := 3) sc_law_month_first.nd rfl (.inl rfl))
       (pss_one (ps_set (i := 2) sc_law_month_first.nd rfl (.inl rfl) (pe_op op_add (pv 2) (pe_call (ok_law_length T) (hr.mono (by decide)) (by rfl) T.g_law_length T.F_law_length.kp T.b_law_length .nil pass0 (pa_cons (pv 0) (pa_cons (pe_op op_add (pe_op op_mul (pe_op op_fdivE (pv 1) pe_int) pe_int) (pv 3)) pa_nil)))))))
       (pss_one (ps_ret (pv 2))))), ?_⟩
    refine red (σ' := [some (.str "civil"), some (.int m), none, none]) rfl ?_
    try dsimp only [cxOf]
    walk_at "go"
    refine ⟨_, rfl, fun H1 sm => ?_⟩
    walk_at "go"
    refine ⟨m, 12, rfl, by decide, by decide, ?_⟩
    walk_at "go"
    refine ⟨_, rfl, by omega, by omega, ?_⟩
    have e0 : Civ.yd (m / 12 + 1 - 1) = Civ.fd (12 * (m / 12)) := by
      rw [Civ.fd_year]; congr 1; omega
    rw [e0]
    obtain ⟨n, hn⟩ := Int.eq_ofNat_of_zero_le (show 0 ≤ m % 12 by omega)
    rw [hn, Int.toNat_natCast]
    refine for_range (fun i σ' H' => ∃ y3, σ' = [some (.str "civil"), some (.int m), some (.int (Civ.fd (12 * (m / 12) + i))), y3] ∧ Same H H') ⟨none, by rw [show ((0 : Nat) : Int) = 0 from rfl, Int.add_zero]; rfl, sm⟩ ?_ ?_
    · rintro i σ' H2 hi ⟨y3, rfl, sm⟩
      walk_at "go"
      refine ⟨_, rfl, fun H3 sm3 => ?_⟩
      walk_at "go"
      refine ⟨some (.int (0 + (i : Int))), ?_, sm.trans sm3⟩
      have e1 : m / 12 * 12 + (0 + (i : Int)) = 12 * (m / 12) + i := by omega
      have e2 : 12 * (m / 12) + ((i + 1 : Nat) : Int) = 12 * (m / 12) + i + 1 := by omega
      rw [e1, e2, Civ.fd_succ]
      rfl
    · rintro σ' H2 ⟨y3, rfl, sm⟩
      walk_at "go"
      have e : 12 * (m / 12) + (n : Int) = m := by omega
      rw [e]
      exact q H2 sm
def sp_law_day_text : Sp := fun vs H Q _ => ∃ d : Int, vs = [.int d] ∧ 0 ≤ d ∧ ∀ m H', Same H H' → Civ.IsM d m → Q (.str (S (Dg.dw d m))) H'
theorem ok_law_day_text (T : Txt K mg a) : FnOk P w K mg base CX0 5 a.f_law_day_text a.d_law_day_text ["day"] sp_law_day_text := by
  refine T.F_law_day_text.ok sc_law_day_text (fun vs H Q E h => ?_) (fun cdv A outer s H vs Q E hr h => ?_)
  · obtain ⟨l, rfl, _⟩ := h
    rfl
  · obtain ⟨d, rfl, d0, q⟩ := h
    refine ⟨_, (pss_cons (ps_asg (pe_call (ok_law_month_at T) (hr.mono (by decide)) (by rfl) T.g_law_month_at T.F_law_month_at.kp T.b_law_month_at .nil pass0 (pa_cons pe_str (pa_cons (pv 0) pa_nil))) (pg_lst (by rfl) (pgs_cons (pg_name (i := 1) sc_law_day_text.nd rfl (.inl rfl)) (pgs_cons (pg_name (i := 2) sc_law_day_text.nd rfl (.inl rfl)) pgs_nil))))
       (pss_cons (ps_set (i := 3) sc_law_day_text.nd rfl (.inl rfl) (pe_call (ok_law_digits2 T) (hr.mono (by decide)) (by rfl) T.g_law_digits2 T.F_law_digits2.kp T.b_law_digits2 .nil pass0 (pa_cons (pe_op op_add (pe_op op_sub (pv 0) (pv 2)) pe_int) (pa_cons pe_int pa_nil))))
       (pss_one (ps_ret (pe_op op_add_str (pe_op op_add_str (pe_op op_add_str (pe_op op_add_str (pe_call (ok_law_digits2 T) (hr.mono (by decide)) (by rfl) T.g_law_digits2 T.F_law_digits2.kp T.b_law_digits2 .nil pass0 (pa_cons (pe_op op_add (pe_op op_fdivE (pv 1) pe_int) pe_int) (pa_cons pe_int pa_nil))) pe_str) (pe_call (ok_law_digits2 T) (hr.mono (by decide)) (by rfl) T.g_law_digits2 T.F_law_digits2.kp T.b_law_digits2 .nil pass0 (pa_cons (pe_op op_add (pe_call (ok_law_mod T) (hr.mono (by decide)) (by rfl) T.g_law_mod T.F_law_mod.kp T.b_law_mod .nil pass0 (pa_cons (pv 1) (pa_cons pe_int pa_nil))) pe_int) (pa_cons pe_int pa_nil)))) pe_str) (pv 3)))))), ?_⟩
    refine red (σ' := [some (.int d), none, none, none]) rfl ?_
    try dsimp only [cxOf]
    walk_at "go"
    refine ⟨d, rfl, fun m r H1 sm hm hr => ?_⟩
    refine g_glst ⟨r, _, rfl, SqL.of hr, rfl, ?_⟩
    have m0 := month_pos hm d0
    have dd := Dg.day_date hm
    walk_at "go"
    refine ⟨_, _, rfl, by omega, by decide, by decide, ?_⟩
    walk_at "go"
    refine ⟨_, _, rfl, by omega, by decide, by decide, ?_⟩
    walk_at "go"
    refine g_catS (b := [45]) (by rw [Dg.dg_len]; decide) ?_
    rw [S_cat]
    walk_at "go"
    refine ⟨m, 12, rfl, by decide, by decide, ?_⟩
    walk_at "go"
    refine ⟨_, _, rfl, by omega, by decide, by decide, ?_⟩
    refine g_catS (by rw [List.length_append, Dg.dg_len, Dg.dg_len]; decide) ?_
    rw [S_cat]
    walk_at "go"
    refine g_catS (b := [45]) (by rw [List.length_append, List.length_append, Dg.dg_len, Dg.dg_len]; decide) ?_
    rw [S_cat]
    walk_at "go"
    refine g_catS (by rw [List.length_append, List.length_append, List.length_append, Dg.dg_len, Dg.dg_len, Dg.dg_len]; decide) ?_
    rw [S_cat]
    have e : ((Dg.dg (m / 12 + 1).toNat 4 ++ [45] ++ Dg.dg (m % 12 + 1).toNat 2) ++ [45]) ++ Dg.dg (d - Civ.fd m + 1).toNat 2 = Dg.dw d m := by
      unfold Dg.dw
      simp [List.append_assoc]
    have := q m H1 sm hm
    rw [← e] at this
    exact this
end
section
variable {P : Program} {w : World} {K : PySem.W.Frag} {mg : Str → Option Value} {base : Heap} {a : Adr}
def sp_law_later : Sp := fun vs H Q _ => ∃ d k : Int, vs = [.int d, .int k] ∧ ∀ H', Same H H' → Q (.int (Civ.addm d k)) H'
theorem ok_law_later (T : Txt K mg a) : FnOk P w K mg base CX0 5 a.f_law_later a.d_law_later ["day", "k"] sp_law_later := by
  refine T.F_law_later.ok sc_law_later (fun vs H Q E h => ?_) (fun cdv A outer s H vs Q E hr h => ?_)
  · obtain ⟨d, k, rfl, _⟩ := h
    rfl
  · obtain ⟨d, k, rfl, q⟩ := h
    refine ⟨_, (pss_cons (ps_asg (pe_call (ok_law_month_at T) (hr.mono (by decide)) (by rfl) T.g_law_month_at T.F_law_month_at.kp T.b_law_month_at .nil pass0 (pa_cons pe_str (pa_cons (pv 0) pa_nil))) (pg_lst (by rfl) (pgs_cons (pg_name (i := 2) sc_law_later.nd rfl (.inl rfl)) (pgs_cons (pg_name (i := 3) sc_law_later.nd rfl (.inl rfl)) pgs_nil))))
       (pss_one (ps_ret (pe_op op_add (pe_call (ok_law_month_first T) (hr.mono (by decide)) (by rfl) T.g_law_month_first T.F_law_month_first.kp T.b_law_month_first .nil pass0 (pa_cons pe_str (pa_cons (pe_op op_add (pv 2) (pv 1)) pa_nil))) (pe_callB (call_min2 rfl) (by rfl) T.z_min (by decide +kernel) (pa_cons (pe_op op_sub (pv 0) (pv 3)) (pa_cons (pe_op op_sub (pe_call (ok_law_length T) (hr.mono (by decide)) (by rfl) T.g_law_length T.F_law_length.kp T.b_law_length .nil pass0 (pa_cons pe_str (pa_cons (pe_op op_add (pv 2) (pv 1)) pa_nil))) pe_int) pa_nil))))))), ?_⟩
    refine red (σ' := [some (.int d), some (.int k), none, none]) rfl ?_
    try dsimp only [cxOf]
    walk_at "go"
    refine ⟨d, rfl, fun m r H1 sm hm hr => ?_⟩
    refine g_glst ⟨r, _, rfl, SqL.of hr, rfl, ?_⟩
    have em := hm.eq
    subst em
    walk_at "go"
    refine ⟨_, rfl, fun H2 sm2 => ?_⟩
    walk_at "go"
    refine ⟨_, rfl, fun H3 sm3 => ?_⟩
    walk_at "go"
    refine ⟨_, _, rfl, ?_⟩
    walk_at "go"
    exact q H3 (sm.trans (sm2.trans sm3))
def sp_law_by : Sp := fun vs H Q _ => ∃ (d n : Int) (u : List Nat), vs = [.int d, .int n, .str (S u)] ∧ u ∈ Wd.UN ∧ ∀ H', Same H H' → Q (.int (Wd.later d n u)) H'
theorem ok_law_by (T : Txt K mg a) : FnOk P w K mg base CX0 6 a.f_law_by a.d_law_by ["today", "n", "unit"] sp_law_by := by
  refine T.F_law_by.ok sc_law_by (fun vs H Q E h => ?_) (fun cdv A outer s H vs Q E hr h => ?_)
  · obtain ⟨d, k, u, rfl, _⟩ := h
    rfl
  · obtain ⟨d, n, u, rfl, hu, q⟩ := h
    refine ⟨_, (pss_cons (ps_if (pt_cmpR op_eq (pv 2) pe_str (nomark _))
       (pss_one (ps_ret (pe_op op_add (pv 0) (pv 1))))
       pss_nil)
       (pss_cons (ps_if (pt_cmpR op_eq (pv 2) pe_str (nomark _))
       (pss_one (ps_ret (pe_op op_add (pv 0) (pe_op op_mul pe_int (pv 1)))))
       pss_nil)
       (pss_one (ps_ret (pe_call (ok_law_later T) (hr.mono (by decide)) (by rfl) T.g_law_later T.F_law_later.kp T.b_law_later .nil pass0 (pa_cons (pv 0) (pa_cons (pe_ix ix_list (pe_lst (pa_cons (pv 1) (pa_cons (pe_op op_mul pe_int (pv 1)) pa_nil))) (pe_callTy call_int1 (by rfl) T.z_int (by decide +kernel) (pa_cons (pe_cmpR op_eq (pv 2) pe_str (nomark _)) pa_nil)) (fun _ _ => rfl)) pa_nil))))))), ?_⟩
    refine red (σ' := [some (.int d), some (.int n), some (.str (S u))]) rfl ?_
    try dsimp only [cxOf]
    unfold Wd.later at q
    walk_at "go"
    have e0 : decide (V.str (S u) = V.str "days") = decide (u = Wd.DAYS) := dec_str u Wd.DAYS
    rw [e0]
    refine iteK (fun h => ?_) (fun h1 => ?_)
    · walk_at "go"
      have := q H (Same.refl H)
      rw [if_pos h] at this
      exact this
    walk_at "go"
    have e0 : decide (V.str (S u) = V.str "weeks") = decide (u = Wd.WEEKS) := dec_str u Wd.WEEKS
    rw [e0]
    refine iteK (fun h => ?_) (fun h2 => ?_)
    · walk_at "go"
      have := q H (Same.refl H)
      rw [if_neg h1, if_pos h] at this
      exact this
    walk_at "go"
    refine ⟨by show 2 ≤ sizeLine; decide, fun l hl => ?_⟩
    walk_at "go"
    have e0 : decide (V.str (S u) = V.str "years") = decide (u = Wd.YEARS) := dec_str u Wd.YEARS
    rw [e0]
    have sm : Same H (upd H l (.lst [.int n, .int (12 * n)])) := same_new hl
    have hll : upd H l (.lst [.int n, .int (12 * n)]) l = some (.lst [.int n, .int (12 * n)]) := upd_same
    generalize upd H l (.lst [.int n, .int (12 * n)]) = H1 at sm hll
    by_cases h3 : u = Wd.YEARS
    · rw [decide_eq_true h3]
      refine g_ixL (n := ((1 : Nat) : Int)) (v := .int (12 * n)) (SqL.of hll) (atI_nat rfl) ?_
      walk_at "go"
      refine ⟨d, _, rfl, fun H2 sm2 => ?_⟩
      have := q H2 (sm.trans sm2)
      rw [if_neg h1, if_neg h2, if_neg (by rw [h3]; decide)] at this
      exact this
    · rw [decide_eq_false h3]
      refine g_ixL (n := ((0 : Nat) : Int)) (v := .int n) (SqL.of hll) (atI_nat rfl) ?_
      walk_at "go"
      refine ⟨d, _, rfl, fun H2 sm2 => ?_⟩
      have h4 : u = Wd.MONTHS := by
        simp only [Wd.UN, List.mem_cons, List.not_mem_nil, or_false] at hu
        rcases hu with r | r | r | r
        · exact absurd r h1
        · exact absurd r h2
        · exact r
        · exact absurd r h3
      have := q H2 (sm.trans sm2)
      rw [if_neg h1, if_neg h2, if_pos h4] at this
      exact this
def sp_law_told : Sp := fun vs H Q _ => ∃ (t : List Nat) (today : Int), vs = [.str (S t), .int today] ∧ t.length ≤ 1000 ∧ (Wd.cutw t).length ≤ 200000 ∧ (∀ z ∈ Wd.cutw t, z.length ≤ 1000) ∧
  ∀ H', Same H H' → (∀ d, Wd.readw today (Wd.cutw t) = .ok d → Q (.int d) H') ∧ ∀ e r, Wd.readw today (Wd.cutw t) = .error e → H' r = some (.tup [.int 1, .int e]) → Q (.ref r) H'
theorem ok_law_told (T : Txt K mg a) : FnOk P w K mg base CX0 8 a.f_law_told a.d_law_told ["text", "today"] sp_law_told := by
  refine T.F_law_told.ok sc_law_told (fun vs H Q E h => ?_) (fun cdv A outer s H vs Q E hr h => ?_)
  · obtain ⟨t, d, rfl, _⟩ := h
    rfl
  · obtain ⟨t, d, rfl, ht, hn, hz, q⟩ := h
    refine ⟨_, (pss_one (ps_try_cl rfl rfl sc_law_told.nd takes0 (fun W pn xe tk _ => (pss_one (ps_ret (by exact (pe_callS (ok_read_when T) (hr.mono (by decide)) rfl T.g_read_when T.F_read_when.kp T.b_read_when (fun σ => passAt tk σ) (by exact (pa_cons (pv 0) (pa_cons (pv 1) pa_nil)))))))) (ClOk.named (i := 2) ⟨rfl, by decide, .inl T.g_BadText⟩ rfl rfl (fun x oe cls d pn hz hf => (pss_one (ps_ret (pe_ifExp (PW.pt (pw_and (pt_val (pe_callB (show CallR _ _ (rIsi K) from call_isi) (by rfl) T.z_isinstance (by decide +kernel) (pa_cons (pe_xf T.y_BadText (T.n_BadText_line) hz hf (pv 2)) (pa_cons (pe_bltn (v := .ty "int") (by rfl) T.z_int (by decide +kernel) rfl) pa_nil)))) (pw_and1 (pt_val (pe_callB (show CallR _ _ (rIsi K) from call_isi) (by rfl) T.z_isinstance (by decide +kernel) (pa_cons (pe_xf T.y_BadText (T.n_BadText_word) hz hf (pv 2)) (pa_cons (pe_bltn (v := .ty "int") (by rfl) T.z_int (by decide +kernel) rfl) pa_nil))))))) (pe_tup (pa_cons (pe_xf T.y_BadText (T.n_BadText_line) hz hf (pv 2)) (pa_cons (pe_xf T.y_BadText (T.n_BadText_word) hz hf (pv 2)) pa_nil))) pe_non)))) ClOk.nil))), ?_⟩
    refine red (σ' := [some (.str (S t)), some (.int d), none]) rfl ?_
    try dsimp only [cxOf]
    walk_at "go"
    refine ⟨t, d, rfl, ht, hn, hz, fun H' sm => ⟨fun e he dd hd => ?_, fun v hv => (q H' sm).1 v hv⟩⟩
    refine ⟨true, T.e_BadText_BadText, fun _ b hb => ?_, (fun z => nomatch z)⟩
    have i1 : ∀ {n : Int} {Q : VK} {H : Hp}, Q (.bl true) H → rIsi K [.int n, .ty "int"] H Q := fun {n Q H} q => ⟨.int n, .ty "int", .type "int", .type "int", true, rfl, .ty "int", .base (.int n), kit_ty (by decide +kernel), q⟩
    have x1 : ∀ {f : Str} {v : V} {Q : VK}, List.lookup f (bx 1 e) = some v → Q v (upd H' dd (.xd (bx 1 e))) → tXf b (.ref a.C_BadText) (some dd) a.C_BadText f (tVar 2) (([some (.str (S t)), some (.int d), none] : L2.St).set 2 (some (.ref b))) (upd H' dd (.xd (bx 1 e))) Q := fun {f v Q} hl q => g_var rfl ⟨rfl, rfl, dd, _, v, rfl, upd_same, hl, q⟩
    refine g_ret (g_if (g_and (g_tB (g_cb (g_cons (x1 (bx_line 1 e) (g_cons (g_c (g_nil (i1 ⟨true, rfl, iteT ?_⟩))))))))))
    refine g_tB (g_cb (g_cons (x1 (bx_word 1 e) (g_cons (g_c (g_nil (i1 ⟨true, rfl, iteT ?_⟩)))))))
    refine g_tup (g_cons (x1 (bx_line 1 e) (g_cons (x1 (bx_word 1 e) (g_nil ⟨two_le, fun r hr => ?_⟩)))))
    exact (q _ ((sm.trans (same_new hd)).trans (same_new hr))).2 e r he upd_same
end
section
variable {P : Program} {w : World} {K : PySem.W.Frag} {mg : Str → Option Value} {base : Heap} {a : Adr}
theorem ne_same {K : PySem.W.Frag} {H : Hp} {x y : V} {d : PyData} {Q : VK} (h1 : Dp K H x d) (h2 : Dp K H y d) (s : SeqAt.shaped d = true) (q : Q (.bl false) H) : rNeD K x y H Q :=
  ⟨d, d, h1, h2, s, s, by rw [SeqAt.eqv_refl d (SeqAt.canLay_of_shaped s)]; exact q⟩
theorem eq_same {K : PySem.W.Frag} {H : Hp} {x y : V} {d : PyData} {Q : VK} (h1 : Dp K H x d) (h2 : Dp K H y d) (s : SeqAt.shaped d = true) (q : Q (.bl true) H) : rEqD K x y H Q :=
  ⟨d, d, h1, h2, s, s, by rw [SeqAt.eqv_refl d (SeqAt.canLay_of_shaped s)]; exact q⟩
/-- two values that are alike for _law_is: an int, a text, or tuples -/
inductive Alike (K : PySem.W.Frag) (H : Hp) : V → V → Prop
  | int (i : Int) : Alike K H (.int i) (.int i)
  | str (x : Str) (h : SeqAt.shaped (.str x) = true) : Alike K H (.str x) (.str x)
  | tup {p q : Addr} {xs ys : List V} {d : PyData} (hp : H p = some (.tup xs)) (hq : H q = some (.tup ys)) (h1 : Dp K H (.ref p) d) (h2 : Dp K H (.ref q) d) (s : SeqAt.shaped d = true) : Alike K H (.ref p) (.ref q)
def sp_law_is (K : PySem.W.Frag) : Sp := fun vs H Q _ => ∃ x y, vs = [x, y] ∧ Alike K H x y ∧ Q (.bl true) H
theorem isi {K : PySem.W.Frag} {H : Hp} {x : V} {t n : String} {b : Bool} {Q : VK} (h : TyX K H x (.type t)) (e : kitB t n = some b) (q : Q (.bl b) H) : rIsi K [x, .ty n] H Q :=
  ⟨x, .ty n, .type t, .type n, b, rfl, .ty n, h, kit_ty e, q⟩
theorem ok_law_is (T : Txt K mg a) : FnOk P w K mg base CX0 1 a.f_law_is a.d_law_is ["told", "due"] (sp_law_is K) := by
  refine T.F_law_is.ok sc_law_is (fun vs H Q E h => ?_) (fun cdv A outer s H vs Q E hr h => ?_)
  · obtain ⟨x, y, rfl, _⟩ := h
    rfl
  · obtain ⟨x, y, rfl, al, q⟩ := h
    refine ⟨_, (pss_cons (ps_if (pt_cmpR op_isN (pv 1) pe_non (nomark _))
       (pss_one (ps_ret (pe_cmpR op_isN (pv 0) pe_non (nomark _))))
       pss_nil)
       (pss_cons (ps_if (pt_val (pe_callB (show CallR _ _ (rIsi K) from call_isi) (by rfl) T.z_isinstance (by decide +kernel) (pa_cons (pv 1) (pa_cons (pe_bltn (v := .ty "bool") (by rfl) T.z_bool (by decide +kernel) rfl) pa_nil))))
       (pss_one (ps_ret (pe_and (pe_callB (show CallR _ _ (rIsi K) from call_isi) (by rfl) T.z_isinstance (by decide +kernel) (pa_cons (pv 0) (pa_cons (pe_bltn (v := .ty "bool") (by rfl) T.z_bool (by decide +kernel) rfl) pa_nil))) (pe_one (pe_cmpR (op_eqD (hr.units)) (pv 0) (pv 1) (nomark _))))))
       pss_nil)
       (pss_cons (ps_if (pt_val (pe_callB (show CallR _ _ (rIsi K) from call_isi) (by rfl) T.z_isinstance (by decide +kernel) (pa_cons (pv 1) (pa_cons (pe_bltn (v := .ty "int") (by rfl) T.z_int (by decide +kernel) rfl) pa_nil))))
       (pss_one (ps_ret (pe_and (pe_callB (show CallR _ _ (rIsi K) from call_isi) (by rfl) T.z_isinstance (by decide +kernel) (pa_cons (pv 0) (pa_cons (pe_bltn (v := .ty "int") (by rfl) T.z_int (by decide +kernel) rfl) pa_nil))) (pe_one (pe_cmpR (op_eqD (hr.units)) (pv 0) (pv 1) (nomark _))))))
       pss_nil)
       (pss_cons (ps_if (pt_val (pe_callB (show CallR _ _ (rIsi K) from call_isi) (by rfl) T.z_isinstance (by decide +kernel) (pa_cons (pv 1) (pa_cons (pe_bltn (v := .ty "str") (by rfl) T.z_str (by decide +kernel) rfl) pa_nil))))
       (pss_one (ps_ret (pe_and (pe_callB (show CallR _ _ (rIsi K) from call_isi) (by rfl) T.z_isinstance (by decide +kernel) (pa_cons (pv 0) (pa_cons (pe_bltn (v := .ty "str") (by rfl) T.z_str (by decide +kernel) rfl) pa_nil))) (pe_one (pe_cmpR (op_eqD (hr.units)) (pv 0) (pv 1) (nomark _))))))
       pss_nil)
       (pss_cons (ps_if (pt_val (pe_callB (show CallR _ _ (rIsi K) from call_isi) (by rfl) T.z_isinstance (by decide +kernel) (pa_cons (pv 1) (pa_cons (pe_bltn (v := .ty "tuple") (by rfl) T.z_tuple (by decide +kernel) rfl) pa_nil))))
       (pss_one (ps_ret (pe_and (pe_callB (show CallR _ _ (rIsi K) from call_isi) (by rfl) T.z_isinstance (by decide +kernel) (pa_cons (pv 0) (pa_cons (pe_bltn (v := .ty "tuple") (by rfl) T.z_tuple (by decide +kernel) rfl) pa_nil))) (pe_one (pe_cmpR (op_eqD (hr.units)) (pv 0) (pv 1) (nomark _))))))
       pss_nil)
       (pss_one (ps_ret (pe_and (pe_callB (show CallR _ _ (rIsi K) from call_isi) (by rfl) T.z_isinstance (by decide +kernel) (pa_cons (pv 0) (pa_cons (pe_bltn (v := .ty "list") (by rfl) T.z_list (by decide +kernel) rfl) pa_nil))) (pe_one (pe_cmpR (op_eqD (hr.units)) (pv 0) (pv 1) (nomark _))))))))))), ?_⟩
    refine red (σ' := [some x, some y]) rfl ?_
    try dsimp only [cxOf]
    cases al with
    | int i =>
      have ti : TyX K H (.int i) (.type "int") := .base (.int i)
      walk_at "go"
      refine ite_n rfl ?_
      walk_at "go"
      refine isi ti (b := false) (by decide +kernel) ?_
      walk_at "go"
      refine iteF ?_
      walk_at "go"
      refine isi ti (b := true) (by decide +kernel) ?_
      walk_at "go"
      refine iteT ?_
      walk_at "go"
      refine isi ti (b := true) (by decide +kernel) ?_
      walk_at "go"
      refine iteT ?_
      walk_at "go"
      exact eq_same (.int i) (.int i) rfl q
    | str z hz =>
      have ti : TyX K H (.str z) (.type "str") := .base (.str z)
      walk_at "go"
      refine ite_n rfl ?_
      walk_at "go"
      refine isi ti (b := false) (by decide +kernel) ?_
      walk_at "go"
      refine iteF ?_
      walk_at "go"
      refine isi ti (b := false) (by decide +kernel) ?_
      walk_at "go"
      refine iteF ?_
      walk_at "go"
      refine isi ti (b := true) (by decide +kernel) ?_
      walk_at "go"
      refine iteT ?_
      walk_at "go"
      refine isi ti (b := true) (by decide +kernel) ?_
      walk_at "go"
      refine iteT ?_
      walk_at "go"
      exact eq_same (.str z) (.str z) hz q
    | tup hp hq h1 h2 s =>
      have tp := TyX.base (TyOf.tup (K := K) hp)
      have tq := TyX.base (TyOf.tup (K := K) hq)
      walk_at "go"
      refine ite_n rfl ?_
      walk_at "go"
      refine isi tq (b := false) (by decide +kernel) ?_
      walk_at "go"
      refine iteF ?_
      walk_at "go"
      refine isi tq (b := false) (by decide +kernel) ?_
      walk_at "go"
      refine iteF ?_
      walk_at "go"
      refine isi tq (b := false) (by decide +kernel) ?_
      walk_at "go"
      refine iteF ?_
      walk_at "go"
      refine isi tq (b := true) (by decide +kernel) ?_
      walk_at "go"
      refine iteT ?_
      walk_at "go"
      refine isi tp (b := true) (by decide +kernel) ?_
      walk_at "go"
      refine iteT ?_
      walk_at "go"
      exact eq_same h1 h2 s q
end
section
variable {P : Program} {w : World} {K : PySem.W.Frag} {mg : Str → Option Value} {base : Heap} {a : Adr}
theorem lst_idx {p : Addr} {es : List (List Nat)} {v : List Nat} {H : Hp} {R : Nat → Prop} (hp : SqL K H p (sv es)) (h : v ∈ es) (q : R (es.idxOf v)) :
    ∃ (b : Addr) (ys : List V) (y : V) (j : Nat) (z : V), V.ref p = V.ref b ∧ [V.str (S v)] = [y] ∧ SqL K H b ys ∧ flatV y = true ∧ ys.all flatV = true ∧ ys[j]? = some z ∧ eqV z y = true ∧ (∀ (m : Nat) (z' : V), m < j → ys[m]? = some z' → eqV z' y = false) ∧ R j := by
  refine ⟨p, sv es, .str (S v), es.idxOf v, .str (S v), rfl, rfl, hp, rfl, flat_sv es, by rw [List.getElem?_map, Wd.idx_at h]; rfl, ?_, fun m z' hm e => ?_, q⟩
  · show (S v == S v) = true
    rw [S_beq_eq]; exact decide_eq_true rfl
  · rw [List.getElem?_map] at e
    cases e2 : es[m]? with
    | none => rw [e2] at e; cases e
    | some z =>
      rw [e2] at e
      cases e
      show (S z == S v) = false
      rw [S_beq_eq]
      refine decide_eq_false fun q => ?_
      rw [q] at e2
      exact Wd.idx_no hm e2
def sp_law_in_month (K : PySem.W.Frag) : Sp := fun vs H Q _ => ∃ (m : Int) (pl v : List Nat) (Lw : Addr), vs = [.int m, .str (S pl), .str (S v), .ref Lw] ∧ pl ∈ Wd.FIVE ∧ v ∈ Wd.WD ++ [Wd.DAY] ∧ H Lw = some (.lst (sv Wd.WD)) ∧ ∀ H', Same H H' → Q (((Wd.inm m pl v).map V.int).getD .non) H'
theorem ok_law_in_month (T : Txt K mg a) : FnOk P w K mg base CX0 5 a.f_law_in_month a.d_law_in_month ["m", "place", "word", "weekdays"] (sp_law_in_month K) := by
  refine T.F_law_in_month.ok sc_law_in_month (fun vs H Q E h => ?_) (fun cdv A outer s H vs Q E hr h => ?_)
  · obtain ⟨m, pl, v, Lw, rfl, _⟩ := h
    rfl
  · obtain ⟨m, pl, v, Lw, rfl, hpl, hv, hL, q⟩ := h
    refine ⟨_, (pss_cons (ps_set (i := 4) sc_law_in_month.nd rfl (.inr rfl) (pe_call (ok_law_month_first T) (hr.mono (by decide)) (by rfl) T.g_law_month_first T.F_law_month_first.kp T.b_law_month_first .nil pass0 (pa_cons pe_str (pa_cons (pv 0) pa_nil))))
       (pss_cons (ps_setLc (i := 5) (own := [("k", 6)]) (g := (gName 6)) rfl sc_law_in_month.nd rfl rfl (sw_true rfl rfl rfl (by decide +kernel)) (pi_range1 (by rfl) T.z_range (pa_cons (pe_call (ok_law_length T) (hr.mono (by decide)) (by rfl) T.g_law_length T.F_law_length.kp T.b_law_length .nil pass0 (pa_cons pe_str (pa_cons (pv 0) pa_nil))) pa_nil)) (blkOk_by (own := [("k", 6)]) (N := ["m", "place", "word", "weekdays", "first", "days", "k", "day"]) (sc := defScope s_law_in_month) (by decide +kernel)) (fun _ _ _ _ _ => (pg_name (i := 6) sc_law_in_month.nd rfl (.inl rfl))) (fun _ _ _ _ _ => pts_nil) (fun _ _ _ _ _ => (pe_op op_add (pv 4) (pv 6))))
       (C8.pss_cut (ps_if (pt_cmpR op_ne (pv 2) pe_str (nomark _))
       (pss_one (ps_setLc (i := 5) (own := [("day", 7)]) (g := (gName 7)) rfl sc_law_in_month.nd rfl rfl (sw_true rfl rfl rfl (by decide +kernel)) (pi_list (pv 5)) (blkOk_by (own := [("day", 7)]) (N := ["m", "place", "word", "weekdays", "first", "days", "k", "day"]) (sc := defScope s_law_in_month) (by decide +kernel)) (fun _ _ _ _ _ => (pg_name (i := 7) sc_law_in_month.nd rfl (.inl rfl))) (fun _ _ _ _ _ => (pts_one (pt_cmpR op_eq (pe_call (ok_law_mod T) (hr.mono (by decide)) (by rfl) T.g_law_mod T.F_law_mod.kp T.b_law_mod .nil pass0 (pa_cons (pv 7) (pa_cons pe_int pa_nil))) (show PE _ _ (tBM K "list" (rIndex K) (tVar 3) (tCons (tVar 2) tNil)) from pe_bm PySem.F.plainAttrs_list PySem.F.slot_list_index PySem.F.type_list_index mt_index (pv 3) (pa_cons (pv 2) pa_nil)) (nomark _)))) (fun _ _ _ _ _ => (pv 7))))
       pss_nil)
       (pss_cons (ps_set (i := 6) sc_law_in_month.nd rfl (.inl rfl) (pe_bm PySem.F.plainAttrs_list PySem.F.slot_list_index PySem.F.type_list_index mt_index (pe_lst (pa_cons pe_str (pa_cons pe_str (pa_cons pe_str (pa_cons pe_str (pa_cons pe_str (pa_cons pe_str pa_nil))))))) (pa_cons (pv 1) pa_nil)))
       (pss_cons (ps_if (pt_cmpR op_eq (pv 6) pe_int (nomark _))
       (pss_one (ps_ret (pe_ix ix_list (pv 5) (pe_op op_sub (pe_callB call_len_seq (by rfl) T.z_len (by decide +kernel) (pa_cons (pv 5) pa_nil)) pe_int) (fun _ _ => rfl))))
       pss_nil)
       (pss_one (ps_ret (pe_ifExp (pt_cmpR op_lt (pv 6) (pe_callB call_len_seq (by rfl) T.z_len (by decide +kernel) (pa_cons (pv 5) pa_nil)) (nomark _)) (pe_ix ix_list (pv 5) (pv 6) (fun _ _ => rfl)) pe_non)))))))), ?_⟩
    refine red (σ' := [some (.int m), some (.str (S pl)), some (.str (S v)), some (.ref Lw), none, none, none, none]) rfl ?_
    try dsimp only [cxOf]
    walk_at "go"
    refine ⟨m, rfl, fun H1 sm1 => ?_⟩
    walk_at "go"
    refine ⟨m, rfl, fun H2 sm2 => ?_⟩
    have hl := Civ.len_le m
    refine ⟨_, rfl, by omega, by omega, fun D hD => ?_⟩
    have sm := sm1.trans sm2
    clear sm1 sm2
    refine lc_range (fun i H' => Same H2 H' ∧ H' D = some (.lst (((List.range i).map fun (j : Nat) => Civ.fd m + j).map V.int))) ⟨same_new hD, upd_same⟩ ?_ ?_
    · rintro i H3 hi ⟨s3, hDi⟩
      walk_at "go"
      refine ⟨rfl, ?_⟩
      refine g_yes ?_
      refine iteT ?_
      walk_at "go"
      refine ⟨_, hDi, ?_, fun b o hb => ?_, ?_⟩
      · have := sizeBig
        rw [List.length_map, List.length_map, List.length_range]
        omega
      · rw [upd_ne (ne_of_none hb hD)]; exact s3 b o hb
      · rw [upd_same, List.range_succ, List.map_append, List.map_append]
        have e : (0 : Int) + i = i := by omega
        rw [e]; rfl
    rintro H3 ⟨s3, hD3⟩
    replace sm := sm.trans s3
    clear s3
    have hL3 := sm _ _ hL
    refine g_next ?_
    refine ⟨fun σ' H' => ∃ (D2 : Addr) (y6 y7 : Option V), σ' = [some (.int m), some (.str (S pl)), some (.str (S v)), some (.ref Lw), some (.int (Civ.fd m)), some (.ref D2), y6, y7] ∧ Same H H' ∧ H' D2 = some (.lst ((Wd.mdays m v).map V.int)), ?_, ?_⟩
    · walk_at "go"
      have e0 : decide (V.str (S v) = V.str "day") = decide (v = Wd.DAY) := dec_str v Wd.DAY
      rw [e0]
      refine iteNK (fun hd => ?_) (fun hd => ?_)
      · have hw : v ∈ Wd.WD := (List.mem_append.mp hv).elim id fun z => absurd (List.mem_singleton.mp z) hd
        have em : Wd.mdays m v = ((List.range (Civ.len m).toNat).map fun (i : Nat) => Civ.fd m + i).filter (fun d => decide (d % 7 = Wd.idx Wd.WD v)) := by
          unfold Wd.mdays
          rw [if_neg hd]
        rw [em]
        have hdl : ((List.range (Civ.len m).toNat).map (fun (i : Nat) => Civ.fd m + i)).length ≤ 31 := by rw [List.length_map, List.length_range]; omega
        generalize (List.range (Civ.len m).toNat).map (fun (i : Nat) => Civ.fd m + i) = ds at hD3 hdl
        walk_at "go"
        refine ⟨D, rfl, ⟨_, SqL.of hD3⟩, fun D2 hD2 => ?_⟩
        refine lc_list (K := K) (a := D) (xs := ds.map V.int) (fun i H' => Same H3 H' ∧ H' D2 = some (.lst (((ds.take i).filter (fun d => decide (d % 7 = Wd.idx Wd.WD v))).map V.int))) ⟨same_new hD2, upd_same⟩ (fun i H' _ h => SqL.of (h.1 _ _ hD3)) ?_ ?_
        · rintro i y H4 hi ⟨s4, hDi⟩
          obtain ⟨z, hz, rfl⟩ : ∃ z, ds[i]? = some z ∧ y = .int z := by
            rw [List.getElem?_map] at hi
            cases e : ds[i]? with
            | none => rw [e] at hi; cases hi
            | some z => rw [e] at hi; exact ⟨z, rfl, (Option.some.inj hi).symm⟩
          walk_at "go"
          refine ⟨rfl, ?_⟩
          walk_at "go"
          refine ⟨z, 7, rfl, by decide, by decide, ?_⟩
          walk_at "go"
          refine ⟨.inl ⟨rfl, _, SqL.of (s4 _ _ hL3)⟩, ?_⟩
          walk_at "go"
          refine lst_idx (SqL.of (s4 _ _ hL3)) hw ?_
          walk_at "go"
          rw [dec_int, take_more hz, List.filter_append]
          refine iteK (fun h => ?_) (fun h => ?_)
          · walk_at "go"
            have ef : [z].filter (fun d => decide (d % 7 = Wd.idx Wd.WD v)) = [z] := List.filter_cons_of_pos (by exact decide_eq_true h)
            rw [ef]
            refine ⟨_, hDi, ?_, fun b o hb => ?_, ?_⟩
            · have := sizeBig
              rw [List.length_map]
              have := List.length_filter_le (fun d => decide (d % 7 = Wd.idx Wd.WD v)) (ds.take i)
              rw [List.length_take] at this
              omega
            · rw [upd_ne (ne_of_none hb hD2)]; exact s4 b o hb
            · rw [upd_same, List.map_append]; rfl
          · have ef : [z].filter (fun d => decide (d % 7 = Wd.idx Wd.WD v)) = [] := List.filter_cons_of_neg (by rw [show decide (z % 7 = Wd.idx Wd.WD v) = false from decide_eq_false h]; decide)
            rw [ef, List.append_nil]
            exact ⟨s4, hDi⟩
        · rintro H4 ⟨s4, hD4⟩
          rw [List.length_map, List.take_length] at hD4
          walk_at "go"
          exact ⟨D2, _, _, rfl, sm.trans s4, hD4⟩
      · walk_at "go"
        refine ⟨D, _, _, rfl, sm, ?_⟩
        rw [hD3]
        unfold Wd.mdays
        rw [if_pos hd]
    rintro σ' H4 ⟨D2, y6, y7, rfl, sm4, hD4⟩
    have hml := Wd.mdays_len (m := m) hv
    unfold Wd.inm at q
    generalize Wd.mdays m v = ds at hD4 hml q
    walk_at "go"
    refine ⟨by show 6 ≤ sizeLine; decide, fun L6 hL6 => ?_⟩
    walk_at "go"
    refine ⟨.inl ⟨rfl, _, SqL.of upd_same⟩, ?_⟩
    walk_at "go"
    refine lst_idx (es := Wd.FIVE) (SqL.of upd_same) hpl ?_
    have hD5 : upd H4 L6 (.lst (sv Wd.FIVE)) D2 = some (.lst (ds.map V.int)) := (same_new hL6) _ _ hD4
    replace sm4 := sm4.trans (same_new (o := .lst (sv Wd.FIVE)) hL6)
    change Same H (upd H4 L6 (.lst (sv Wd.FIVE))) at sm4
    show tNext _ _ (upd H4 L6 (.lst (sv Wd.FIVE)))
    generalize upd H4 L6 (.lst (sv Wd.FIVE)) = H5 at hD5 sm4
    walk_at "go"
    rw [dec_int]
    have e5 : ((Wd.FIVE.idxOf pl : Nat) : Int) = Wd.idx Wd.FIVE pl := rfl
    rw [e5]
    have i0 := Wd.idx_lt hpl
    refine iteK (fun h5 => ?_) (fun h5 => ?_)
    · walk_at "go"
      rw [List.length_map]
      have e6 : ((ds.length : Nat) : Int) - 1 = ((ds.length - 1 : Nat) : Int) := by omega
      rw [e6]
      have hlt : ds.length - 1 < ds.length := by omega
      refine g_ixL (v := .int ds[ds.length - 1]) (SqL.of hD5) (atI_nat (by rw [List.getElem?_map, List.getElem?_eq_getElem hlt]; rfl)) ?_
      have := q H5 sm4
      rw [if_pos h5, List.getElem?_eq_getElem hlt] at this
      exact this
    · walk_at "go"
      rw [List.length_map]
      obtain ⟨j, hj⟩ := Int.eq_ofNat_of_zero_le i0.1
      rw [hj]
      have := q H5 sm4
      rw [if_neg h5, hj, Int.toNat_natCast] at this
      refine iteK (fun h => ?_) (fun h => ?_)
      · walk_at "go"
        have hlt : j < ds.length := by omega
        refine g_ixL (v := .int ds[j]) (SqL.of hD5) (atI_nat (by rw [List.getElem?_map, List.getElem?_eq_getElem hlt]; rfl)) ?_
        rw [List.getElem?_eq_getElem hlt] at this
        exact this
      · walk_at "go"
        rw [List.getElem?_eq_none (by omega)] at this
        exact this
end
section
variable {P : Program} {w : World} {K : PySem.W.Frag} {mg : Str → Option Value} {base : Heap} {a : Adr}
theorem at_idx {es : List Wd.W} (nd : es.Nodup) {k : Int} (h0 : 0 ≤ k) (h1 : k < es.length) : ∃ v ∈ es, Wd.idx es v = k ∧ atI (sv es) k = some (.str (S v)) := by
  obtain ⟨j, rfl⟩ := Int.eq_ofNat_of_zero_le h0
  have hj : j < es.length := by omega
  refine ⟨es[j], List.getElem_mem hj, ?_, sv_at (List.getElem?_eq_getElem hj)⟩
  unfold Wd.idx
  rw [List.Nodup.idxOf_getElem nd]
theorem num_word {n : Nat} (h : n < 10000) : 32 ∉ TL.numL n ∧ (TL.numL n).length ≤ 20 := by
  refine ⟨fun z => ?_, Nat.le_trans (TL.numL_len (k := 4) (by decide) h) (by decide)⟩
  have := TL.numL_digits n 32 z
  omega
theorem all3 {P : Wd.W → Prop} {x y z : Wd.W} (hx : P x) (hy : P y) (hz : P z) : ∀ v ∈ [x, y, z], P v := fun v hv => by
  simp only [List.mem_cons, List.not_mem_nil, or_false] at hv
  rcases hv with rfl | rfl | rfl <;> assumption
theorem all4 {P : Wd.W → Prop} {x y z u : Wd.W} (hx : P x) (hy : P y) (hz : P z) (hu : P u) : ∀ v ∈ [x, y, z, u], P v := fun v hv => by
  simp only [List.mem_cons, List.not_mem_nil, or_false] at hv
  rcases hv with rfl | rfl | rfl | rfl <;> assumption
theorem all5 {P : Wd.W → Prop} {x y z u t : Wd.W} (hx : P x) (hy : P y) (hz : P z) (hu : P u) (ht : P t) : ∀ v ∈ [x, y, z, u, t], P v := fun v hv => by
  simp only [List.mem_cons, List.not_mem_nil, or_false] at hv
  rcases hv with rfl | rfl | rfl | rfl | rfl <;> assumption
theorem _root_.Dg.dw_no32 (d m : Int) : 32 ∉ Dg.dw d m := by
  unfold Dg.dw
  intro z
  rcases List.mem_append.mp z with z | z
  · have := Dg.dg_dig _ _ _ z; omega
  · rcases List.mem_cons.mp z with z | z
    · omega
    · rcases List.mem_append.mp z with z | z
      · have := Dg.dg_dig _ _ _ z; omega
      · rcases List.mem_cons.mp z with z | z
        · omega
        · have := Dg.dg_dig _ _ _ z; omega
theorem join_txt (ws : List Wd.W) : Txt.join (S [32]) (ws.map S) = S (Wd.txt ws) := join_S [32] ws
theorem txt_len : ∀ ws : List Wd.W, (∀ z ∈ ws, z.length ≤ 20) → (Wd.txt ws).length ≤ 21 * ws.length
  | [], _ => by decide
  | [p], h => by
    have := h p List.mem_cons_self
    show p.length ≤ 21
    omega
  | p :: q :: r, h => by
    have h1 := h p List.mem_cons_self
    have ih := txt_len (q :: r) fun z hz => h z (List.mem_cons_of_mem _ hz)
    show (p ++ ([32] ++ Wd.txt (q :: r))).length ≤ _
    rw [List.length_append, List.length_append, List.length_cons, List.length_nil, List.length_cons]
    omega
theorem sum_len : ∀ ws : List Wd.W, (∀ z ∈ ws, z.length ≤ 20) → (((ws.map S).map (·.length)).sum : Nat) ≤ 20 * ws.length
  | [], _ => by decide
  | p :: r, h => by
    have h1 := h p List.mem_cons_self
    have ih := sum_len r fun z hz => h z (List.mem_cons_of_mem _ hz)
    rw [List.map_cons, List.map_cons, List.sum_cons, S_len, List.length_cons]
    omega
def Wok (ws : List Wd.W) : Prop := ws ≠ [] ∧ ws.length ≤ 7 ∧ ∀ z ∈ ws, 32 ∉ z ∧ z.length ≤ 20
inductive Due (today : Int) (ws : List Wd.W) (v : V) (H : Hp) : Prop
  | day (d : Int) (h : Wd.Good today ws d) (e : v = .int d)
  | no (p : Addr) (h : Wd.readw today ws = .error 1) (e : v = .ref p) (hp : H p = some (.tup [.int 1, .int 1]))
def Done (today : Int) (x8 x9 : Option V) (H : Hp) : Prop := ∃ Wa ws v, x8 = some (.ref Wa) ∧ x9 = some v ∧ H Wa = some (.lst (sv ws)) ∧ Wok ws ∧ Due today ws v H
def St (b t c : Addr) (ns : List Int) (Lw Lm : Addr) (today way wd i : Int) : L2.St → Hp → Prop := fun σ H => ∃ x7 x8 x9 x10 x11 x12 x13 x14 x15 x16 x17 x18 x19 : Option V,
  σ = [some (.ref b), some (.ref t), some (.ref Lw), some (.ref Lm), some (.int today), some (.int way), some (.int wd), x7, x8, x9, x10, x11, x12, x13, x14, x15, x16, x17, x18, x19] ∧
  Tp t c ns H ∧ H Lw = some (.lst (sv Wd.WD)) ∧ H Lm = some (.lst (sv Wd.MO)) ∧ (way < i → Done today x8 x9 H)
theorem ne_sv {c k r} {ws : List Wd.W} : HO.lst (sv ws) ≠ tp c k r := by intro z; unfold tp at z; cases ws <;> simp at z
/-- told: the words of a line, as _law_told takes them -/
def Wok2 (ws : List Wd.W) : Prop := ws ≠ [] ∧ ws.length ≤ 40 ∧ ∀ z ∈ ws, 32 ∉ z ∧ z.length ≤ 20
theorem Wok.two {ws : List Wd.W} (h : Wok ws) : Wok2 ws := ⟨h.1, by have := h.2.1; omega, h.2.2⟩
theorem sv_take (ws : List Wd.W) (j : Nat) : (sv ws).take j = sv (ws.take j) := List.map_take.symm
theorem sv_drop (ws : List Wd.W) (j : Nat) : (sv ws).drop j = sv (ws.drop j) := List.map_drop.symm
theorem sv_app (ws vs : List Wd.W) : sv ws ++ sv vs = sv (ws ++ vs) := List.map_append.symm
theorem told_ok {today : Int} {ws : List Wd.W} (h : Wok2 ws) {H : Hp} {Q : VK} {X : XK} (q : ∀ H', Same H H' → (∀ d, Wd.readw today ws = .ok d → Q (.int d) H') ∧ ∀ e r, Wd.readw today ws = .error e → H' r = some (.tup [.int 1, .int e]) → Q (.ref r) H') :
    sp_law_told [.str (S (Wd.txt ws)), .int today] H Q X := by
  obtain ⟨h1, h2, h3⟩ := h
  have e : Wd.cutw (Wd.txt ws) = ws := Wd.cutw_txt h1 fun z hz => (h3 z hz).1
  have := txt_len ws fun z hz => (h3 z hz).2
  refine ⟨Wd.txt ws, today, rfl, by omega, by rw [e]; omega, fun z hz => ?_, fun H' sm => ?_⟩
  · rw [e] at hz
    have := (h3 z hz).2
    omega
  · rw [e]; exact q H' sm
theorem join1 {ws : List Wd.W} {p : Addr} {H : Hp} (hp : H p = some (.lst (sv ws))) : SqL K H p ((ws.map S).map V.str) ∨ SqT K H p ((ws.map S).map V.str) := .inl (by rw [List.map_map]; exact SqL.of hp)
theorem join2 {ws : List Wd.W} (h : Wok2 ws) : ((ws.map S).map (·.length)).sum + (ws.map S).length * (S [32]).length ≤ 16777216 := by
  obtain ⟨h1, h2, h3⟩ := h
  have := sum_len ws fun z hz => (h3 z hz).2
  rw [List.length_map]
  show _ + ws.length * 1 ≤ _
  omega
def sp_law (K : PySem.W.Frag) : Sp := fun vs H Q _ => ∃ (a : Addr) (ns : List Int), vs = [.ref a] ∧ SqL K H a (ns.map V.int) ∧ ns.length ≤ 63 ∧ ∀ H', Q (.bl true) H'
theorem ok_law (T : Txt K mg a) : FnOk P w K mg base CX0 14 a.f_law a.d_law ["script"] (sp_law K) := by
  refine T.F_law.ok sc_law (fun vs H Q E h => ?_) (fun cdv A outer s H vs Q E hr h => ?_)
  · obtain ⟨b, ns, rfl, _⟩ := h
    rfl
  · obtain ⟨b, ns, rfl, hb, hl, q⟩ := h
    refine ⟨_, (pss_cons (ps_set (i := 1) sc_law.nd rfl (.inl rfl) (pe_call (ok_law_tape T) (hr.mono (by decide)) (by rfl) T.g_law_tape T.F_law_tape.kp T.b_law_tape .nil pass0 (pa_cons (pv 0) pa_nil)))
       (pss_cons (ps_set (i := 2) sc_law.nd rfl (.inl rfl) (pe_lst (pa_cons pe_str (pa_cons pe_str (pa_cons pe_str (pa_cons pe_str (pa_cons pe_str (pa_cons pe_str (pa_cons pe_str pa_nil)))))))))
       (pss_cons (ps_set (i := 3) sc_law.nd rfl (.inl rfl) (pe_lst (pa_cons pe_str (pa_cons pe_str (pa_cons pe_str (pa_cons pe_str (pa_cons pe_str (pa_cons pe_str (pa_cons pe_str (pa_cons pe_str (pa_cons pe_str (pa_cons pe_str (pa_cons pe_str (pa_cons pe_str pa_nil))))))))))))))
       (pss_cons (ps_set (i := 4) sc_law.nd rfl (.inl rfl) (pe_op op_add pe_int (pe_call (ok_law_draw T) (hr.mono (by decide)) (by rfl) T.g_law_draw T.F_law_draw.kp T.b_law_draw .nil pass0 (pa_cons (pv 1) (pa_cons pe_int pa_nil)))))
       (pss_cons (ps_set (i := 5) sc_law.nd rfl (.inl rfl) (pe_call (ok_law_draw T) (hr.mono (by decide)) (by rfl) T.g_law_draw T.F_law_draw.kp T.b_law_draw .nil pass0 (pa_cons (pv 1) (pa_cons pe_int pa_nil))))
       (pss_cons (ps_set (i := 6) sc_law.nd rfl (.inr rfl) (pe_call (ok_law_draw T) (hr.mono (by decide)) (by rfl) T.g_law_draw T.F_law_draw.kp T.b_law_draw .nil pass0 (pa_cons (pv 1) (pa_cons pe_int pa_nil))))
       (C8.pss_cut (ps_if (pt_cmpR op_eq (pv 5) pe_int (nomark _))
       (pss_cons (ps_set (i := 7) sc_law.nd rfl (.inl rfl) (pe_call (ok_law_draw T) (hr.mono (by decide)) (by rfl) T.g_law_draw T.F_law_draw.kp T.b_law_draw .nil pass0 (pa_cons (pv 1) (pa_cons pe_int pa_nil))))
       (pss_one (ps_par (i := 8) (j := 9) rfl sc_law.nd rfl rfl (by decide) rfl rfl (pa_cons (pe_lst (pa_cons (pe_ix ix_list (pe_lst (pa_cons pe_str (pa_cons pe_str (pa_cons pe_str pa_nil)))) (pv 7) (fun _ _ => rfl)) pa_nil)) (pa_cons (pe_op op_sub (pe_op op_add (pv 4) (pv 7)) pe_int) pa_nil)) (by rfl))))
       pss_nil)
       (C8.pss_cut (ps_if (pt_cmpR op_eq (pv 5) pe_int (nomark _))
       (pss_one (ps_par (i := 8) (j := 9) rfl sc_law.nd rfl rfl (by decide) rfl rfl (pa_cons (pe_lst (pa_cons pe_str (pa_cons (pe_ix ix_list (pv 2) (pv 6) (fun _ _ => rfl)) pa_nil))) (pa_cons (pe_ix ix_list (pe_lc (own := [("d", 19)]) (g := (gName 19)) rfl sc_law.nd (pi_range2 (by rfl) T.z_range (pa_cons (pe_op op_add (pv 4) pe_int) (pa_cons (pe_op op_add (pv 4) pe_int) pa_nil))) (blkOk_by (own := [("d", 19)]) (N := ["script", "tape", "weekdays", "months", "today", "way", "weekday", "k", "words", "due", "n", "unit", "place", "word", "month", "m", "year", "at", "wrong", "d"]) (sc := defScope s_law) (by decide +kernel)) (fun _ _ _ _ _ => (pg_name (i := 19) sc_law.nd rfl (.inl rfl))) (fun _ _ _ _ _ => (pts_one (pt_cmpR op_eq (pe_call (ok_law_mod T) (hr.mono (by decide)) (by rfl) T.g_law_mod T.F_law_mod.kp T.b_law_mod .nil pass0 (pa_cons (pv 19) (pa_cons pe_int pa_nil))) (pv 6) (nomark _)))) (fun _ _ _ _ _ => (pv 19))) pe_int (fun _ _ => rfl)) pa_nil)) (by rfl)))
       pss_nil)
       (C8.pss_cut (ps_if (pt_cmpR op_eq (pv 5) pe_int (nomark _))
       (pss_one (ps_par (i := 8) (j := 9) rfl sc_law.nd rfl rfl (by decide) rfl rfl (pa_cons (pe_lst (pa_cons pe_str (pa_cons (pe_ix ix_list (pv 2) (pv 6) (fun _ _ => rfl)) pa_nil))) (pa_cons (pe_ix ix_list (pe_lc (own := [("d", 19)]) (g := (gName 19)) rfl sc_law.nd (pi_range2 (by rfl) T.z_range (pa_cons (pe_op op_sub (pv 4) pe_int) (pa_cons (pv 4) pa_nil))) (blkOk_by (own := [("d", 19)]) (N := ["script", "tape", "weekdays", "months", "today", "way", "weekday", "k", "words", "due", "n", "unit", "place", "word", "month", "m", "year", "at", "wrong", "d"]) (sc := defScope s_law) (by decide +kernel)) (fun _ _ _ _ _ => (pg_name (i := 19) sc_law.nd rfl (.inl rfl))) (fun _ _ _ _ _ => (pts_one (pt_cmpR op_eq (pe_call (ok_law_mod T) (hr.mono (by decide)) (by rfl) T.g_law_mod T.F_law_mod.kp T.b_law_mod .nil pass0 (pa_cons (pv 19) (pa_cons pe_int pa_nil))) (pv 6) (nomark _)))) (fun _ _ _ _ _ => (pv 19))) pe_int (fun _ _ => rfl)) pa_nil)) (by rfl)))
       pss_nil)
       (C8.pss_cut (ps_if (pt_cmpR op_eq (pv 5) pe_int (nomark _))
       (pss_one (ps_par (i := 8) (j := 9) rfl sc_law.nd rfl rfl (by decide) rfl rfl (pa_cons (pe_lst (pa_cons (pe_ix ix_list (pv 2) (pv 6) (fun _ _ => rfl)) pa_nil)) (pa_cons (pe_ix ix_list (pe_lc (own := [("d", 19)]) (g := (gName 19)) rfl sc_law.nd (pi_range2 (by rfl) T.z_range (pa_cons (pv 4) (pa_cons (pe_op op_add (pv 4) pe_int) pa_nil))) (blkOk_by (own := [("d", 19)]) (N := ["script", "tape", "weekdays", "months", "today", "way", "weekday", "k", "words", "due", "n", "unit", "place", "word", "month", "m", "year", "at", "wrong", "d"]) (sc := defScope s_law) (by decide +kernel)) (fun _ _ _ _ _ => (pg_name (i := 19) sc_law.nd rfl (.inl rfl))) (fun _ _ _ _ _ => (pts_one (pt_cmpR op_eq (pe_call (ok_law_mod T) (hr.mono (by decide)) (by rfl) T.g_law_mod T.F_law_mod.kp T.b_law_mod .nil pass0 (pa_cons (pv 19) (pa_cons pe_int pa_nil))) (pv 6) (nomark _)))) (fun _ _ _ _ _ => (pv 19))) pe_int (fun _ _ => rfl)) pa_nil)) (by rfl)))
       pss_nil)
       (C8.pss_cut (ps_if (pt_cmpR op_in_seq (pv 5) (pe_lst (pa_cons pe_int (pa_cons pe_int pa_nil))) rfl)
       (pss_cons (ps_set (i := 10) sc_law.nd rfl (.inl rfl) (pe_call (ok_law_draw T) (hr.mono (by decide)) (by rfl) T.g_law_draw T.F_law_draw.kp T.b_law_draw .nil pass0 (pa_cons (pv 1) (pa_cons pe_int pa_nil))))
       (pss_cons (ps_set (i := 11) sc_law.nd rfl (.inl rfl) (pe_ix ix_list (pe_lst (pa_cons pe_str (pa_cons pe_str (pa_cons pe_str (pa_cons pe_str pa_nil))))) (pe_call (ok_law_draw T) (hr.mono (by decide)) (by rfl) T.g_law_draw T.F_law_draw.kp T.b_law_draw .nil pass0 (pa_cons (pv 1) (pa_cons pe_int pa_nil))) (fun _ _ => rfl)))
       (pss_cons (ps_par (i := 8) (j := 9) rfl sc_law.nd rfl rfl (by decide) rfl rfl (pa_cons (pe_lst (pa_cons pe_str (pa_cons (pe_callTy call_str_int (by rfl) T.z_str (by decide +kernel) (pa_cons (pv 10) pa_nil)) (pa_cons (pv 11) pa_nil)))) (pa_cons (pe_call (ok_law_by T) (hr.mono (by decide)) (by rfl) T.g_law_by T.F_law_by.kp T.b_law_by .nil pass0 (pa_cons (pv 4) (pa_cons (pv 10) (pa_cons (pv 11) pa_nil)))) pa_nil)) (by rfl))
       (pss_one (ps_if (pt_cmpR op_eq (pv 5) pe_int (nomark _))
       (pss_one (ps_par (i := 8) (j := 9) rfl sc_law.nd rfl rfl (by decide) rfl rfl (pa_cons (pe_lst (pa_cons (pe_callTy call_str_int (by rfl) T.z_str (by decide +kernel) (pa_cons (pv 10) pa_nil)) (pa_cons (pv 11) (pa_cons pe_str pa_nil)))) (pa_cons (pe_call (ok_law_by T) (hr.mono (by decide)) (by rfl) T.g_law_by T.F_law_by.kp T.b_law_by .nil pass0 (pa_cons (pv 4) (pa_cons (pe_op op_sub pe_int (pv 10)) (pa_cons (pv 11) pa_nil)))) pa_nil)) (by rfl)))
       pss_nil)))))
       pss_nil)
       (C8.pss_cut (ps_if (pt_cmpR op_eq (pv 5) pe_int (nomark _))
       (pss_cons (ps_set (i := 12) sc_law.nd rfl (.inl rfl) (pe_ix ix_list (pe_lst (pa_cons pe_str (pa_cons pe_str (pa_cons pe_str (pa_cons pe_str (pa_cons pe_str (pa_cons pe_str pa_nil))))))) (pe_call (ok_law_draw T) (hr.mono (by decide)) (by rfl) T.g_law_draw T.F_law_draw.kp T.b_law_draw .nil pass0 (pa_cons (pv 1) (pa_cons pe_int pa_nil))) (fun _ _ => rfl)))
       (pss_cons (ps_set (i := 13) sc_law.nd rfl (.inl rfl) (pe_ix ix_list (pe_op op_cat (pv 2) (pe_lst (pa_cons pe_str pa_nil))) (pe_call (ok_law_draw T) (hr.mono (by decide)) (by rfl) T.g_law_draw T.F_law_draw.kp T.b_law_draw .nil pass0 (pa_cons (pv 1) (pa_cons pe_int pa_nil))) (fun _ _ => rfl)))
       (pss_cons (ps_set (i := 14) sc_law.nd rfl (.inr rfl) (pe_call (ok_law_draw T) (hr.mono (by decide)) (by rfl) T.g_law_draw T.F_law_draw.kp T.b_law_draw .nil pass0 (pa_cons (pv 1) (pa_cons pe_int pa_nil))))
       (pss_cons (ps_set (i := 8) sc_law.nd rfl (.inl rfl) (pe_lst (pa_cons (pv 12) (pa_cons (pv 13) (pa_cons pe_str (pa_cons (pe_ix ix_list (pv 3) (pv 14) (fun _ _ => rfl)) pa_nil))))))
       (pss_cons (ps_set (i := 15) sc_law.nd rfl (.inl rfl) (pe_ix ix_list (pe_call (ok_law_month_at T) (hr.mono (by decide)) (by rfl) T.g_law_month_at T.F_law_month_at.kp T.b_law_month_at .nil pass0 (pa_cons pe_str (pa_cons (pv 4) pa_nil))) pe_int (fun _ _ => rfl)))
       (C8.pss_cut (ps_if (pt_cmpR op_eq (pe_call (ok_law_draw T) (hr.mono (by decide)) (by rfl) T.g_law_draw T.F_law_draw.kp T.b_law_draw .nil pass0 (pa_cons (pv 1) (pa_cons pe_int pa_nil))) pe_int (nomark _))
       (pss_cons (ps_set (i := 16) sc_law.nd rfl (.inl rfl) (pe_op op_add pe_int (pe_call (ok_law_draw T) (hr.mono (by decide)) (by rfl) T.g_law_draw T.F_law_draw.kp T.b_law_draw .nil pass0 (pa_cons (pv 1) (pa_cons pe_int pa_nil)))))
       (pss_cons (ps_set (i := 8) sc_law.nd rfl (.inl rfl) (pe_op op_cat (pv 8) (pe_lst (pa_cons (pe_callTy call_str_int (by rfl) T.z_str (by decide +kernel) (pa_cons (pv 16) pa_nil)) pa_nil))))
       (pss_one (ps_set (i := 15) sc_law.nd rfl (.inl rfl) (pe_op op_add (pe_op op_mul pe_int (pe_op op_sub (pv 16) pe_int)) (pv 14))))))
       (pss_one (ps_set (i := 15) sc_law.nd rfl (.inl rfl) (pe_ix ix_list (pe_lc (own := [("k", 7)]) (g := (gName 7)) rfl sc_law.nd (pi_range2 (by rfl) T.z_range (pa_cons (pv 15) (pa_cons (pe_op op_add (pv 15) pe_int) pa_nil))) (blkOk_by (own := [("k", 7)]) (N := ["script", "tape", "weekdays", "months", "today", "way", "weekday", "k", "words", "due", "n", "unit", "place", "word", "month", "m", "year", "at", "wrong", "d"]) (sc := defScope s_law) (by decide +kernel)) (fun _ _ _ _ _ => (pg_name (i := 7) sc_law.nd rfl (.inl rfl))) (fun _ _ _ _ _ => (pts_one (pt_cmpR op_eq (pe_call (ok_law_mod T) (hr.mono (by decide)) (by rfl) T.g_law_mod T.F_law_mod.kp T.b_law_mod .nil pass0 (pa_cons (pv 7) (pa_cons pe_int pa_nil))) (pv 14) (nomark _)))) (fun _ _ _ _ _ => (pv 7))) pe_int (fun _ _ => rfl)))))
       (pss_cons (ps_set (i := 9) sc_law.nd rfl (.inl rfl) (pe_call (ok_law_in_month T) (hr.mono (by decide)) (by rfl) T.g_law_in_month T.F_law_in_month.kp T.b_law_in_month .nil pass0 (pa_cons (pv 15) (pa_cons (pv 12) (pa_cons (pv 13) (pa_cons (pv 2) pa_nil))))))
       (pss_one (ps_if (pt_cmpR op_isN (pv 9) pe_non (nomark _))
       (pss_one (ps_set (i := 9) sc_law.nd rfl (.inl rfl) (pe_tup (pa_cons pe_int (pa_cons pe_int pa_nil)))))
       pss_nil)))))))))
       pss_nil)
       (C8.pss_cut (ps_if (pt_cmpR op_eq (pv 5) pe_int (nomark _))
       (pss_cons (ps_set (i := 9) sc_law.nd rfl (.inl rfl) (pe_call (ok_law_draw T) (hr.mono (by decide)) (by rfl) T.g_law_draw T.F_law_draw.kp T.b_law_draw .nil pass0 (pa_cons (pv 1) (pa_cons (pe_op op_pow pe_int pe_int) pa_nil))))
       (pss_one (ps_set (i := 8) sc_law.nd rfl (.inl rfl) (pe_lst (pa_cons (pe_call (ok_law_day_text T) (hr.mono (by decide)) (by rfl) T.g_law_day_text T.F_law_day_text.kp T.b_law_day_text .nil pass0 (pa_cons (pv 9) pa_nil)) pa_nil)))))
       pss_nil)
       (pss_cons (ps_if (pt_not (pt_val (pe_call (ok_law_is T) (hr.mono (by decide)) (by rfl) T.g_law_is T.F_law_is.kp T.b_law_is .nil pass0 (pa_cons (pe_call (ok_law_told T) (hr.mono (by decide)) (by rfl) T.g_law_told T.F_law_told.kp T.b_law_told .nil pass0 (pa_cons (pe_join pe_str (pv 8)) (pa_cons (pv 4) pa_nil))) (pa_cons (pv 9) pa_nil)))))
       (pss_one (ps_ret pe_bl))
       pss_nil)
       (pss_cons (ps_if (pt_cmpR (op_eqD (hr.units)) (pv 9) (pe_tup (pa_cons pe_int (pa_cons pe_int pa_nil))) (nomark _))
       (pss_one (ps_ret pe_bl))
       pss_nil)
       (pss_cons (ps_set (i := 17) sc_law.nd rfl (.inl rfl) (pe_call (ok_law_draw T) (hr.mono (by decide)) (by rfl) T.g_law_draw T.F_law_draw.kp T.b_law_draw .nil pass0 (pa_cons (pv 1) (pa_cons (pe_callB call_len_seq (by rfl) T.z_len (by decide +kernel) (pa_cons (pv 8) pa_nil)) pa_nil))))
       (pss_cons (ps_set (i := 18) sc_law.nd rfl (.inl rfl) (pe_ix ix_list (pe_lst (pa_cons pe_str (pa_cons pe_str (pa_cons pe_str (pa_cons pe_str pa_nil))))) (pe_call (ok_law_draw T) (hr.mono (by decide)) (by rfl) T.g_law_draw T.F_law_draw.kp T.b_law_draw .nil pass0 (pa_cons (pv 1) (pa_cons pe_int pa_nil))) (fun _ _ => rfl)))
       (pss_cons (ps_if (pt_cmpR (op_neD (hr.units)) (pe_call (ok_law_told T) (hr.mono (by decide)) (by rfl) T.g_law_told T.F_law_told.kp T.b_law_told .nil pass0 (pa_cons (pe_join pe_str (pe_op op_cat (pe_op op_cat (pe_slice sl_list (pv 8) po_none (po_some (pv 17))) (pe_lst (pa_cons (pv 18) pa_nil))) (pe_slice sl_list (pv 8) (po_some (pe_op op_add (pv 17) pe_int)) po_none))) (pa_cons (pv 4) pa_nil))) (pe_tup (pa_cons pe_int (pa_cons (pv 17) pa_nil))) (nomark _))
       (pss_one (ps_ret pe_bl))
       pss_nil)
       (pss_one (ps_ret (pe_cmpR (op_eqD (hr.units)) (pe_call (ok_law_told T) (hr.mono (by decide)) (by rfl) T.g_law_told T.F_law_told.kp T.b_law_told .nil pass0 (pa_cons (pe_join pe_str (pe_op op_cat (pv 8) (pe_lst (pa_cons pe_str pa_nil)))) (pa_cons (pv 4) pa_nil))) (pe_tup (pa_cons pe_int (pa_cons (pe_callB call_len_seq (by rfl) T.z_len (by decide +kernel) (pa_cons (pv 8) pa_nil)) pa_nil))) (nomark _)))))))))))))))))))))), ?_⟩
    refine red (σ' := [some (.ref b), none, none, none, none, none, none, none, none, none, none, none, none, none, none, none, none, none, none, none]) rfl ?_
    try dsimp only [cxOf]
    walk_at "go"
    refine ⟨b, _, rfl, hb, by rw [List.length_map]; omega, fun t c hc ht ct => ?_⟩
    have I : Tp t c ns _ := Tp.made hc ht ct
    generalize upd (upd H c (.lst (ns.map V.int))) t (tp c 0 0) = H1 at I
    clear hc ht
    walk_at "go"
    refine ⟨by show 7 ≤ sizeLine; decide, fun Lw hLw => ?_⟩
    replace I := I.new (o := .lst (sv Wd.WD)) hLw
    have hw : upd H1 Lw (.lst (sv Wd.WD)) Lw = some (.lst (sv Wd.WD)) := upd_same
    refine g_next ?_
    show tSeq _ _ _ _ (upd H1 Lw (.lst (sv Wd.WD)))
    generalize upd H1 Lw (.lst (sv Wd.WD)) = H2 at I hw
    walk_at "go"
    refine ⟨by show 12 ≤ sizeLine; decide, fun Lm hLm => ?_⟩
    replace I := I.new (o := .lst (sv Wd.MO)) hLm
    replace hw := (same_new (o := .lst (sv Wd.MO)) hLm) _ _ hw
    have hm : upd H2 Lm (.lst (sv Wd.MO)) Lm = some (.lst (sv Wd.MO)) := upd_same
    refine g_next ?_
    show tSeq _ _ _ _ (upd H2 Lm (.lst (sv Wd.MO)))
    generalize upd H2 Lm (.lst (sv Wd.MO)) = H3 at I hw hm
    walk_at "go"
    refine I.draw (by decide) (by decide) fun td H4 td0 td1 I2 rel => ?_
    replace hw := rel _ _ (I.ne hw fun _ _ => ne_sv) hw
    replace hm := rel _ _ (I.ne hm fun _ _ => ne_sv) hm
    replace I := I2
    clear I2
    walk_at "go"
    obtain ⟨today, ht⟩ : ∃ today : Int, today = 400000 + td := ⟨_, rfl⟩
    rw [← ht]
    have t0 : 400000 ≤ today := by omega
    have t1 : today < 900000 := by omega
    clear rel
    refine I.draw (by decide) (by decide) fun way H5 w0 w1 I2 rel => ?_
    replace hw := rel _ _ (I.ne hw fun _ _ => ne_sv) hw
    replace hm := rel _ _ (I.ne hm fun _ _ => ne_sv) hm
    replace I := I2
    clear I2
    clear rel
    walk_at "go"
    refine I.draw (by decide) (by decide) fun wd H6 d0 d1 I2 rel => ?_
    replace hw := rel _ _ (I.ne hw fun _ _ => ne_sv) hw
    replace hm := rel _ _ (I.ne hm fun _ _ => ne_sv) hm
    replace I := I2
    clear I2
    clear rel
    refine g_name ?_
    refine g_next ?_
    obtain ⟨v, hv, iv, av⟩ := at_idx (es := Wd.WD) (by decide) d0 (by show wd < 7; omega)
    refine ⟨St b t c ns Lw Lm today way wd 1, ?_, ?_⟩
    · walk_at "go"
      rw [dec_int]
      refine iteK (fun h => ?_) (fun h => ?_)
      · walk_at "go"
        refine I.draw (by decide) (by decide) fun k H7 k0 k1 I2 rel => ?_
        replace hw := rel _ _ (I.ne hw fun _ _ => ne_sv) hw
        replace hm := rel _ _ (I.ne hm fun _ _ => ne_sv) hm
        replace I := I2
        clear I2
        walk_at "go"
        refine ⟨by show 3 ≤ sizeLine; decide, fun L hL => ?_⟩
        obtain ⟨z, hz, iz, az⟩ := at_idx (es := [Wd.YEST, Wd.TODAY, Wd.TOMO]) (by decide) k0 (by show k < 3; omega)
        walk_at "go"
        refine g_ixL (SqL.of upd_same) az ?_
        walk_at "go"
        refine ⟨by show 1 ≤ sizeLine; decide, fun L2 hL2 => ?_⟩
        walk_at "go"
        refine ⟨_, _, rfl, ?_⟩
        have sm := (same_new (o := .lst (sv [Wd.YEST, Wd.TODAY, Wd.TOMO])) hL).trans (same_new (o := .lst (sv [z])) hL2)
        refine ⟨_, _, _, _, _, _, _, _, _, _, _, _, _, rfl, I.same sm, sm _ _ hw, sm _ _ hm, fun _ => ⟨L2, [z], _, rfl, rfl, upd_same, ?_, .day (today + k - 1) ?_ rfl⟩⟩
        · refine ⟨by simp, by show 1 ≤ 7; decide, fun y hy => ?_⟩
          have := List.mem_singleton.mp hy
          subst this
          have hall : ∀ z ∈ [Wd.YEST, Wd.TODAY, Wd.TOMO], 32 ∉ z ∧ z.length ≤ 20 := by decide
          exact hall _ hz
        · have := Wd.good0 (today := today) hz
          rw [iz] at this
          exact this
      · walk_at "go"
        exact ⟨_, _, _, _, _, _, _, _, _, _, _, _, _, rfl, I, hw, hm, fun h2 => absurd (show way = 0 by omega) h⟩
    rintro σ' H7 ⟨x7, x8, x9, x10, x11, x12, x13, x14, x15, x16, x17, x18, x19, rfl, I, hw, hm, dn⟩
    refine ⟨St b t c ns Lw Lm today way wd 2, ?_, ?_⟩
    · walk_at "go"
      rw [dec_int]
      refine iteK (fun h => ?_) (fun h => ?_)
      · walk_at "go"
        refine g_ixL (SqL.of hw) av ?_
        walk_at "go"
        refine ⟨by show 2 ≤ sizeLine; decide, fun L hL => ?_⟩
        have sm := same_new (o := .lst (sv [Wd.NEXT, v])) hL
        replace I := I.same sm
        replace hw := sm _ _ hw
        replace hm := sm _ _ hm
        have hws : upd H7 L (.lst (sv [Wd.NEXT, v])) L = some (.lst (sv [Wd.NEXT, v])) := upd_same
        have hL7 : H7 = H7 := rfl
        change Tp t c ns (upd H7 L (.lst (sv [Wd.NEXT, v]))) at I
        show tCons _ _ _ (upd H7 L (.lst (sv [Wd.NEXT, v]))) _
        generalize upd H7 L (.lst (sv [Wd.NEXT, v])) = H8 at I hw hm hws
        clear sm hL
        walk_at "go"
        refine ⟨today + 1, today + 8, rfl, by omega, fun D hD => ?_⟩
        rw [show (today + 8 - (today + 1)).toNat = 7 by omega]
        refine lc_range (fun i H' => Same H8 H' ∧ H' D = some (.lst ((((List.range i).map fun (j : Nat) => today + 1 + j).filter (fun d => decide (d % 7 = wd))).map V.int))) ⟨same_new hD, upd_same⟩ ?_ ?_
        · rintro i H9 hi ⟨s9, hDi⟩
          walk_at "go"
          refine ⟨rfl, ?_⟩
          walk_at "go"
          refine ⟨_, 7, rfl, by decide, by decide, ?_⟩
          walk_at "go"
          rw [dec_int, List.range_succ, List.map_append, List.filter_append]
          refine iteK (fun h => ?_) (fun h => ?_)
          · walk_at "go"
            have ef : (List.map (fun (j : Nat) => today + 1 + (j : Int)) [i]).filter (fun d => decide (d % 7 = wd)) = [today + 1 + (i : Int)] := List.filter_cons_of_pos (by exact decide_eq_true h)
            rw [ef]
            refine ⟨_, hDi, ?_, fun b o hb => ?_, ?_⟩
            · have := sizeBig
              have := List.length_filter_le (fun d => decide (d % 7 = wd)) ((List.range i).map fun (j : Nat) => today + 1 + (j : Int))
              rw [List.length_map, List.length_range] at this
              rw [List.length_map]
              omega
            · rw [upd_ne (ne_of_none hb hD)]; exact s9 b o hb
            · rw [upd_same, List.map_append]; rfl
          · have ef : (List.map (fun (j : Nat) => today + 1 + (j : Int)) [i]).filter (fun d => decide (d % 7 = wd)) = [] := List.filter_cons_of_neg (by rw [decide_eq_false h]; decide)
            rw [ef, List.append_nil]
            exact ⟨s9, hDi⟩
        rintro H9 ⟨s9, hD9⟩
        rw [Wd.one7 _ wd d0 d1] at hD9
        walk_at "go"
        refine ⟨_, _, rfl, ?_⟩
        refine ⟨_, _, _, _, _, _, _, _, _, _, _, _, _, rfl, I.same s9, s9 _ _ hw, s9 _ _ hm, fun _ => ⟨L, [Wd.NEXT, v], _, rfl, rfl, s9 _ _ hws, ?_, .day (today + 1 + (wd - (today + 1)) % 7) ?_ rfl⟩⟩
        · refine ⟨by simp, by show 2 ≤ 7; decide, ?_⟩
          have hall : ∀ v ∈ Wd.WD, ∀ z ∈ [Wd.NEXT, v], 32 ∉ z ∧ z.length ≤ 20 := by decide
          exact hall v hv
        · have := Wd.good1 (today := today) hv
          rw [iv] at this
          rw [show today + 1 + (wd - (today + 1)) % 7 = Wd.nextw today wd by unfold Wd.nextw; omega]
          exact this
      · walk_at "go"
        exact ⟨_, _, _, _, _, _, _, _, _, _, _, _, _, rfl, I, hw, hm, fun h2 => dn (by omega)⟩
    clear dn
    clear I hw hm
    rintro σ' H7 ⟨x7, x8, x9, x10, x11, x12, x13, x14, x15, x16, x17, x18, x19, rfl, I, hw, hm, dn⟩
    refine ⟨St b t c ns Lw Lm today way wd 3, ?_, ?_⟩
    · walk_at "go"
      rw [dec_int]
      refine iteK (fun h => ?_) (fun h => ?_)
      · walk_at "go"
        refine g_ixL (SqL.of hw) av ?_
        walk_at "go"
        refine ⟨by show 2 ≤ sizeLine; decide, fun L hL => ?_⟩
        have sm := same_new (o := .lst (sv [Wd.LAST, v])) hL
        replace I := I.same sm
        replace hw := sm _ _ hw
        replace hm := sm _ _ hm
        have hws : upd H7 L (.lst (sv [Wd.LAST, v])) L = some (.lst (sv [Wd.LAST, v])) := upd_same
        have hL7 : H7 = H7 := rfl
        change Tp t c ns (upd H7 L (.lst (sv [Wd.LAST, v]))) at I
        show tCons _ _ _ (upd H7 L (.lst (sv [Wd.LAST, v]))) _
        generalize upd H7 L (.lst (sv [Wd.LAST, v])) = H8 at I hw hm hws
        clear sm hL
        walk_at "go"
        refine ⟨today - 7, today, rfl, by omega, fun D hD => ?_⟩
        rw [show (today - (today - 7)).toNat = 7 by omega]
        refine lc_range (fun i H' => Same H8 H' ∧ H' D = some (.lst ((((List.range i).map fun (j : Nat) => today - 7 + j).filter (fun d => decide (d % 7 = wd))).map V.int))) ⟨same_new hD, upd_same⟩ ?_ ?_
        · rintro i H9 hi ⟨s9, hDi⟩
          walk_at "go"
          refine ⟨rfl, ?_⟩
          walk_at "go"
          refine ⟨_, 7, rfl, by decide, by decide, ?_⟩
          walk_at "go"
          rw [dec_int, List.range_succ, List.map_append, List.filter_append]
          refine iteK (fun h => ?_) (fun h => ?_)
          · walk_at "go"
            have ef : (List.map (fun (j : Nat) => today - 7 + (j : Int)) [i]).filter (fun d => decide (d % 7 = wd)) = [today - 7 + (i : Int)] := List.filter_cons_of_pos (by exact decide_eq_true h)
            rw [ef]
            refine ⟨_, hDi, ?_, fun b o hb => ?_, ?_⟩
            · have := sizeBig
              have := List.length_filter_le (fun d => decide (d % 7 = wd)) ((List.range i).map fun (j : Nat) => today - 7 + (j : Int))
              rw [List.length_map, List.length_range] at this
              rw [List.length_map]
              omega
            · rw [upd_ne (ne_of_none hb hD)]; exact s9 b o hb
            · rw [upd_same, List.map_append]; rfl
          · have ef : (List.map (fun (j : Nat) => today - 7 + (j : Int)) [i]).filter (fun d => decide (d % 7 = wd)) = [] := List.filter_cons_of_neg (by rw [decide_eq_false h]; decide)
            rw [ef, List.append_nil]
            exact ⟨s9, hDi⟩
        rintro H9 ⟨s9, hD9⟩
        rw [Wd.one7 _ wd d0 d1] at hD9
        walk_at "go"
        refine ⟨_, _, rfl, ?_⟩
        refine ⟨_, _, _, _, _, _, _, _, _, _, _, _, _, rfl, I.same s9, s9 _ _ hw, s9 _ _ hm, fun _ => ⟨L, [Wd.LAST, v], _, rfl, rfl, s9 _ _ hws, ?_, .day (today - 7 + (wd - (today - 7)) % 7) ?_ rfl⟩⟩
        · refine ⟨by simp, by show 2 ≤ 7; decide, ?_⟩
          have hall : ∀ v ∈ Wd.WD, ∀ z ∈ [Wd.LAST, v], 32 ∉ z ∧ z.length ≤ 20 := by decide
          exact hall v hv
        · have := Wd.good2 (today := today) hv
          rw [iv] at this
          rw [show today - 7 + (wd - (today - 7)) % 7 = Wd.lastw today wd by unfold Wd.lastw; omega]
          exact this
      · walk_at "go"
        exact ⟨_, _, _, _, _, _, _, _, _, _, _, _, _, rfl, I, hw, hm, fun h2 => dn (by omega)⟩
    clear dn
    clear I hw hm
    rintro σ' H7 ⟨x7, x8, x9, x10, x11, x12, x13, x14, x15, x16, x17, x18, x19, rfl, I, hw, hm, dn⟩
    refine ⟨St b t c ns Lw Lm today way wd 4, ?_, ?_⟩
    · walk_at "go"
      rw [dec_int]
      refine iteK (fun h => ?_) (fun h => ?_)
      · walk_at "go"
        refine g_ixL (SqL.of hw) av ?_
        walk_at "go"
        refine ⟨by show 1 ≤ sizeLine; decide, fun L hL => ?_⟩
        have sm := same_new (o := .lst (sv [v])) hL
        replace I := I.same sm
        replace hw := sm _ _ hw
        replace hm := sm _ _ hm
        have hws : upd H7 L (.lst (sv [v])) L = some (.lst (sv [v])) := upd_same
        have hL7 : H7 = H7 := rfl
        change Tp t c ns (upd H7 L (.lst (sv [v]))) at I
        show tCons _ _ _ (upd H7 L (.lst (sv [v]))) _
        generalize upd H7 L (.lst (sv [v])) = H8 at I hw hm hws
        clear sm hL
        walk_at "go"
        refine ⟨today, today + 7, rfl, by omega, fun D hD => ?_⟩
        rw [show (today + 7 - (today)).toNat = 7 by omega]
        refine lc_range (fun i H' => Same H8 H' ∧ H' D = some (.lst ((((List.range i).map fun (j : Nat) => today + j).filter (fun d => decide (d % 7 = wd))).map V.int))) ⟨same_new hD, upd_same⟩ ?_ ?_
        · rintro i H9 hi ⟨s9, hDi⟩
          walk_at "go"
          refine ⟨rfl, ?_⟩
          walk_at "go"
          refine ⟨_, 7, rfl, by decide, by decide, ?_⟩
          walk_at "go"
          rw [dec_int, List.range_succ, List.map_append, List.filter_append]
          refine iteK (fun h => ?_) (fun h => ?_)
          · walk_at "go"
            have ef : (List.map (fun (j : Nat) => today + (j : Int)) [i]).filter (fun d => decide (d % 7 = wd)) = [today + (i : Int)] := List.filter_cons_of_pos (by exact decide_eq_true h)
            rw [ef]
            refine ⟨_, hDi, ?_, fun b o hb => ?_, ?_⟩
            · have := sizeBig
              have := List.length_filter_le (fun d => decide (d % 7 = wd)) ((List.range i).map fun (j : Nat) => today + (j : Int))
              rw [List.length_map, List.length_range] at this
              rw [List.length_map]
              omega
            · rw [upd_ne (ne_of_none hb hD)]; exact s9 b o hb
            · rw [upd_same, List.map_append]; rfl
          · have ef : (List.map (fun (j : Nat) => today + (j : Int)) [i]).filter (fun d => decide (d % 7 = wd)) = [] := List.filter_cons_of_neg (by rw [decide_eq_false h]; decide)
            rw [ef, List.append_nil]
            exact ⟨s9, hDi⟩
        rintro H9 ⟨s9, hD9⟩
        rw [Wd.one7 _ wd d0 d1] at hD9
        walk_at "go"
        refine ⟨_, _, rfl, ?_⟩
        refine ⟨_, _, _, _, _, _, _, _, _, _, _, _, _, rfl, I.same s9, s9 _ _ hw, s9 _ _ hm, fun _ => ⟨L, [v], _, rfl, rfl, s9 _ _ hws, ?_, .day (today + (wd - (today)) % 7) ?_ rfl⟩⟩
        · refine ⟨by simp, by show 1 ≤ 7; decide, ?_⟩
          have hall : ∀ v ∈ Wd.WD, ∀ z ∈ [v], 32 ∉ z ∧ z.length ≤ 20 := by decide
          exact hall v hv
        · have := Wd.good3 (today := today) hv
          rw [iv] at this
          rw [show today + (wd - (today)) % 7 = today + (wd - today % 7) % 7 by omega]
          exact this
      · walk_at "go"
        exact ⟨_, _, _, _, _, _, _, _, _, _, _, _, _, rfl, I, hw, hm, fun h2 => dn (by omega)⟩
    clear dn
    clear I hw hm
    rintro σ' H7 ⟨x7, x8, x9, x10, x11, x12, x13, x14, x15, x16, x17, x18, x19, rfl, I, hw, hm, dn⟩
    refine ⟨St b t c ns Lw Lm today way wd 6, ?_, ?_⟩
    · walk_at "go"
      refine nwL (ys := [.int 4, .int 5]) rfl (by show 2 ≤ 1000000; decide) fun L45 H8 _ sm h45 => ?_
      replace I := I.same sm
      replace hw := sm _ _ hw
      replace hm := sm _ _ hm
      refine ⟨L45, _, rfl, .inl (SqL.of h45), rfl, rfl, _, rfl, ?_⟩
      have e45 : inV (.int way) [.int 4, .int 5] = decide (way = 4 ∨ way = 5) := by
        show ((4 : Int) == way || ((5 : Int) == way || false)) = _
        by_cases h4 : way = 4
        · subst h4; rfl
        by_cases h5 : way = 5
        · subst h5; rfl
        have h4' : ¬ (4 : Int) = way := fun z => h4 z.symm
        have h5' : ¬ (5 : Int) = way := fun z => h5 z.symm
        simp [h4, h5, h4', h5']
      show if inV (.int way) [.int 4, .int 5] = true then _ else _
      rw [e45]
      clear e45
      refine iteK (fun h => ?_) (fun h => ?_)
      · walk_at "go"
        refine I.draw (by decide) (by decide) fun n H9 n0 n1 I2 rel => ?_
        replace hw := rel _ _ (I.ne hw fun _ _ => ne_sv) hw
        replace hm := rel _ _ (I.ne hm fun _ _ => ne_sv) hm
        replace I := I2
        clear I2 rel
        obtain ⟨n, rfl⟩ := Int.eq_ofNat_of_zero_le n0
        walk_at "go"
        refine nwL (ys := sv Wd.UN) rfl (by show 4 ≤ 1000000; decide) fun Lu H10 _ sm Luh => ?_
        replace I := I.same sm
        replace hw := sm _ _ hw
        replace hm := sm _ _ hm
        clear sm
        walk_at "go"
        refine I.draw (by decide) (by decide) fun k H11 k0 k1 I2 rel => ?_
        replace hw := rel _ _ (I.ne hw fun _ _ => ne_sv) hw
        replace hm := rel _ _ (I.ne hm fun _ _ => ne_sv) hm
        replace Luh := rel _ _ (I.ne Luh fun _ _ => ne_sv) Luh
        replace I := I2
        clear I2 rel
        obtain ⟨u, hu, iu, au⟩ := at_idx (es := Wd.UN) (by decide) k0 (by show k < 4; omega)
        refine g_ixL (SqL.of Luh) au ?_
        have hun : ∀ u ∈ Wd.UN, 32 ∉ u ∧ u.length ≤ 20 := by decide
        have hu2 := hun u hu
        have hnn := num_word (n := n) (by omega)
        walk_at "go"
        refine g_strI (by omega) ?_
        rw [num_S]
        walk_at "go"
        refine nwL (ys := sv [Wd.IN, TL.numL n, u]) rfl (by show 3 ≤ 1000000; decide) fun Lx H12 _ sm Lxh => ?_
        replace I := I.same sm
        replace hw := sm _ _ hw
        replace hm := sm _ _ hm
        clear sm
        walk_at "go"
        refine ⟨today, _, u, rfl, hu, fun H13 sm => ?_⟩
        replace I := I.same sm
        replace hw := sm _ _ hw
        replace hm := sm _ _ hm
        replace Lxh := sm _ _ Lxh
        clear sm
        walk_at "go"
        refine ⟨_, _, rfl, ?_⟩
        walk_at "go"
        rw [dec_int]
        refine iteK (fun h5 => ?_) (fun h5 => ?_)
        · walk_at "go"
          refine g_strI (by omega) ?_
          rw [num_S]
          walk_at "go"
          refine nwL (ys := sv [TL.numL n, u, Wd.AGO]) rfl (by show 3 ≤ 1000000; decide) fun Ly H14 _ sm Lyh => ?_
          replace I := I.same sm
          replace hw := sm _ _ hw
          replace hm := sm _ _ hm
          clear sm
          walk_at "go"
          refine ⟨today, _, u, rfl, hu, fun H15 sm => ?_⟩
          walk_at "go"
          refine ⟨_, _, rfl, ?_⟩
          refine ⟨_, _, _, _, _, _, _, _, _, _, _, _, _, rfl, I.same sm, sm _ _ hw, sm _ _ hm, fun _ => ⟨Ly, [TL.numL n, u, Wd.AGO], _, rfl, rfl, sm _ _ Lyh, ?_, .day _ ?_ rfl⟩⟩
          · refine ⟨by simp, by show 3 ≤ 7; decide, ?_⟩
            exact all3 hnn hu2 (by decide)
          · have := Wd.good5 (today := today) (n := n) (by omega) hu
            rw [show (0 : Int) - (n : Int) = -(n : Int) by omega]
            exact this
        · walk_at "go"
          refine ⟨_, _, _, _, _, _, _, _, _, _, _, _, _, rfl, I, hw, hm, fun _ => ⟨Lx, [Wd.IN, TL.numL n, u], _, rfl, rfl, Lxh, ?_, .day _ ?_ rfl⟩⟩
          · refine ⟨by simp, by show 3 ≤ 7; decide, ?_⟩
            exact all3 (by decide) hnn hu2
          · exact Wd.good4 (by omega) hu
      · walk_at "go"
        refine ⟨_, _, _, _, _, _, _, _, _, _, _, _, _, rfl, I, hw, hm, fun h2 => ?_⟩
        obtain ⟨Wa, ws, v, e1, e2, e3, e4, e5⟩ := dn (by omega)
        refine ⟨Wa, ws, v, e1, e2, sm _ _ e3, e4, ?_⟩
        cases e5 with
        | day d h e => exact .day d h e
        | no p h e hp => exact .no p h e (sm _ _ hp)
    clear dn
    clear I hw hm
    rintro σ' H7 ⟨x7, x8, x9, x10, x11, x12, x13, x14, x15, x16, x17, x18, x19, rfl, I, hw, hm, dn⟩
    refine ⟨St b t c ns Lw Lm today way wd 7, ?_, ?_⟩
    · walk_at "go"
      rw [dec_int]
      refine iteK (fun h => ?_) (fun h => ?_)
      · walk_at "go"
        refine nwL (ys := sv Wd.FIVE) rfl (by show 6 ≤ 1000000; decide) fun L6 H8 _ sm L6h => ?_
        replace I := I.same sm
        replace hw := sm _ _ hw
        replace hm := sm _ _ hm
        clear sm
        walk_at "go"
        refine I.draw (by decide) (by decide) fun pk H9 k0 k1 I2 rel => ?_
        replace hw := rel _ _ (I.ne hw fun _ _ => ne_sv) hw
        replace hm := rel _ _ (I.ne hm fun _ _ => ne_sv) hm
        replace L6h := rel _ _ (I.ne L6h fun _ _ => ne_sv) L6h
        replace I := I2
        clear I2 rel
        obtain ⟨pl, hpl, ipl, apl⟩ := at_idx (es := Wd.FIVE) (by decide) k0 (by show pk < 6; omega)
        refine g_ixL (SqL.of L6h) apl ?_
        clear L6h ipl apl k0 k1
        walk_at "go"
        refine nwL (ys := sv [Wd.DAY]) rfl (by show 1 ≤ 1000000; decide) fun L1 H10 _ sm L1h => ?_
        replace I := I.same sm
        replace hw := sm _ _ hw
        replace hm := sm _ _ hm
        clear sm
        refine g_cat (ys := sv (Wd.WD ++ [Wd.DAY])) hw L1h rfl (by show 8 ≤ 1000000; decide) fun L8 H11 _ sm L8h => ?_
        replace I := I.same sm
        replace hw := sm _ _ hw
        replace hm := sm _ _ hm
        clear sm
        walk_at "go"
        refine I.draw (by decide) (by decide) fun wk H12 k0 k1 I2 rel => ?_
        replace hw := rel _ _ (I.ne hw fun _ _ => ne_sv) hw
        replace hm := rel _ _ (I.ne hm fun _ _ => ne_sv) hm
        replace L8h := rel _ _ (I.ne L8h fun _ _ => ne_sv) L8h
        replace I := I2
        clear I2 rel
        obtain ⟨wo, hwo, iwo, awo⟩ := at_idx (es := Wd.WD ++ [Wd.DAY]) (by decide) k0 (by show wk < 8; omega)
        refine g_ixL (SqL.of L8h) awo ?_
        clear L8h iwo awo k0 k1
        walk_at "go"
        refine I.draw (by decide) (by decide) fun mk H13 k0 k1 I2 rel => ?_
        replace hw := rel _ _ (I.ne hw fun _ _ => ne_sv) hw
        replace hm := rel _ _ (I.ne hm fun _ _ => ne_sv) hm
        replace I := I2
        clear I2 rel
        obtain ⟨mo, hmo, imo, amo⟩ := at_idx (es := Wd.MO) (by decide) k0 (by show mk < 12; omega)
        walk_at "go"
        refine g_ixL (SqL.of hm) amo ?_
        walk_at "go"
        refine nwL (ys := sv [pl, wo, Wd.OF, mo]) rfl (by show 4 ≤ 1000000; decide) fun Lx H14 _ sm Lxh => ?_
        replace I := I.same sm
        replace hw := sm _ _ hw
        replace hm := sm _ _ hm
        clear sm
        walk_at "go"
        refine ⟨today, rfl, fun mm r H15 sm hmm hr => ?_⟩
        replace I := I.same sm
        replace hw := sm _ _ hw
        replace hm := sm _ _ hm
        replace Lxh := sm _ _ Lxh
        clear sm
        have emm := hmm.eq
        subst emm
        refine g_ixL (n := ((0 : Nat) : Int)) (SqL.of hr) (atI_nat rfl) ?_
        walk_at "go"
        refine ⟨fun σ' H' => ∃ (x7 x9 x10 x11 x16 x17 x18 x19 : Option V) (Wa : Addr) (ws : List Wd.W) (m2 : Int),
          σ' = [some (.ref b), some (.ref t), some (.ref Lw), some (.ref Lm), some (.int today), some (.int way), some (.int wd), x7, some (.ref Wa), x9, x10, x11, some (.str (S pl)), some (.str (S wo)), some (.int mk), some (.int m2), x16, x17, x18, x19] ∧
          Tp t c ns H' ∧ H' Lw = some (.lst (sv Wd.WD)) ∧ H' Lm = some (.lst (sv Wd.MO)) ∧ H' Wa = some (.lst (sv ws)) ∧ Wok ws ∧ (∀ d, Wd.inm m2 pl wo = some d → Wd.Good today ws d) ∧ (Wd.inm m2 pl wo = none → Wd.readw today ws = .error 1), ?_, ?_⟩
        · have h5 : ∀ z ∈ Wd.FIVE, 32 ∉ z ∧ z.length ≤ 20 := by decide
          have h8 : ∀ z ∈ Wd.WD ++ [Wd.DAY], 32 ∉ z ∧ z.length ≤ 20 := by decide
          have h12 : ∀ z ∈ Wd.MO, 32 ∉ z ∧ z.length ≤ 20 := by decide
          have hp2 := h5 _ hpl
          have hw2 := h8 _ hwo
          have hm2 := h12 _ hmo
          clear h5 h8 h12
          walk_at "go"
          refine I.draw (by decide) (by decide) fun z H16 z0 z1 I2 rel => ?_
          replace hw := rel _ _ (I.ne hw fun _ _ => ne_sv) hw
          replace hm := rel _ _ (I.ne hm fun _ _ => ne_sv) hm
          replace Lxh := rel _ _ (I.ne Lxh fun _ _ => ne_sv) Lxh
          replace I := I2
          clear I2 rel
          walk_at "go"
          rw [dec_int]
          refine iteK (fun hz => ?_) (fun hz => ?_)
          · walk_at "go"
            refine I.draw (by decide) (by decide) fun y H17 y0 y1 I2 rel => ?_
            replace hw := rel _ _ (I.ne hw fun _ _ => ne_sv) hw
            replace hm := rel _ _ (I.ne hm fun _ _ => ne_sv) hm
            replace Lxh := rel _ _ (I.ne Lxh fun _ _ => ne_sv) Lxh
            replace I := I2
            clear I2 rel
            obtain ⟨y, rfl⟩ := Int.eq_ofNat_of_zero_le y0
            have hyn := num_word (n := y + 1) (by omega)
            have ey : (1 : Int) + (y : Int) = ((y + 1 : Nat) : Int) := by omega
            walk_at "go"
            rw [ey]
            refine g_strI (by omega) ?_
            rw [num_S]
            walk_at "go"
            refine nwL (ys := sv [TL.numL (y + 1)]) rfl (by show 1 ≤ 1000000; decide) fun L2 H18 _ sm L2h => ?_
            replace I := I.same sm
            replace hw := sm _ _ hw
            replace hm := sm _ _ hm
            replace Lxh := sm _ _ Lxh
            clear sm
            refine g_cat (ys := sv [pl, wo, Wd.OF, mo, TL.numL (y + 1)]) Lxh L2h rfl (by show 5 ≤ 1000000; decide) fun L3 H19 _ sm L3h => ?_
            replace I := I.same sm
            replace hw := sm _ _ hw
            replace hm := sm _ _ hm
            clear sm
            walk_at "go"
            have hg := Wd.good6b (today := today) (y := y + 1) hpl hwo hmo (by omega) (by omega)
            rw [imo] at hg
            refine ⟨_, _, _, _, _, _, _, _, L3, [pl, wo, Wd.OF, mo, TL.numL (y + 1)], 12 * (((y + 1 : Nat) : Int) - 1) + mk, rfl, I, hw, hm, L3h, ⟨by simp, by show 5 ≤ 7; decide, ?_⟩, hg.1, hg.2⟩
            exact all5 hp2 hw2 (by decide) hm2 hyn
          · walk_at "go"
            have hmr := Dg.month_range (Civ.mOf_is today) (by omega) (by omega)
            refine ⟨Civ.mOf today, Civ.mOf today + 12, rfl, by omega, fun D hD => ?_⟩
            rw [show (Civ.mOf today + 12 - Civ.mOf today).toNat = 12 by omega]
            refine lc_range (fun i H' => Same H16 H' ∧ H' D = some (.lst ((((List.range i).map fun (j : Nat) => Civ.mOf today + j).filter (fun d => decide (d % 12 = mk))).map V.int))) ⟨same_new hD, upd_same⟩ ?_ ?_
            · rintro i H9 hi ⟨s9, hDi⟩
              walk_at "go"
              refine ⟨rfl, ?_⟩
              walk_at "go"
              refine ⟨_, 12, rfl, by decide, by decide, ?_⟩
              walk_at "go"
              rw [dec_int, List.range_succ, List.map_append, List.filter_append]
              refine iteK (fun h => ?_) (fun h => ?_)
              · walk_at "go"
                have ef : (List.map (fun (j : Nat) => Civ.mOf today + (j : Int)) [i]).filter (fun d => decide (d % 12 = mk)) = [Civ.mOf today + (i : Int)] := List.filter_cons_of_pos (by exact decide_eq_true h)
                rw [ef]
                refine ⟨_, hDi, ?_, fun b o hb => ?_, ?_⟩
                · have := sizeBig
                  have := List.length_filter_le (fun d => decide (d % 12 = mk)) ((List.range i).map fun (j : Nat) => Civ.mOf today + (j : Int))
                  rw [List.length_map, List.length_range] at this
                  rw [List.length_map]
                  omega
                · rw [upd_ne (ne_of_none hb hD)]; exact s9 b o hb
                · rw [upd_same, List.map_append]; rfl
              · have ef : (List.map (fun (j : Nat) => Civ.mOf today + (j : Int)) [i]).filter (fun d => decide (d % 12 = mk)) = [] := List.filter_cons_of_neg (by rw [decide_eq_false h]; decide)
                rw [ef, List.append_nil]
                exact ⟨s9, hDi⟩
            rintro H17 ⟨sm, hD9⟩
            rw [Wd.one12 _ mk k0 k1] at hD9
            replace I := I.same sm
            replace hw := sm _ _ hw
            replace hm := sm _ _ hm
            replace Lxh := sm _ _ Lxh
            clear sm
            walk_at "go"
            have hg := Wd.good6a (today := today) hpl hwo hmo
            rw [imo] at hg
            refine ⟨_, _, _, _, _, _, _, _, Lx, [pl, wo, Wd.OF, mo], _, rfl, I, hw, hm, Lxh, ⟨by simp, by show 4 ≤ 7; decide, ?_⟩, hg.1, hg.2⟩
            exact all4 hp2 hw2 (by decide) hm2
        clear I hw hm Lxh
        rintro σ' H16 ⟨x7, x9, x10, x11, x16, x17, x18, x19, Wa, ws, m2, rfl, I, hw, hm, hWa, wok, g1, g2⟩
        walk_at "go"
        refine ⟨m2, pl, wo, Lw, rfl, hpl, hwo, hw, fun H17 sm => ?_⟩
        replace I := I.same sm
        replace hw := sm _ _ hw
        replace hm := sm _ _ hm
        replace hWa := sm _ _ hWa
        clear sm
        walk_at "go"
        cases em : Wd.inm m2 pl wo with
        | some d =>
          refine ite_n rfl ?_
          walk_at "go"
          exact ⟨_, _, _, _, _, _, _, _, _, _, _, _, _, rfl, I, hw, hm, fun _ => ⟨Wa, ws, _, rfl, rfl, hWa, wok, .day d (g1 d em) rfl⟩⟩
        | none =>
          refine ite_y rfl ?_
          walk_at "go"
          refine nwT (ys := [.int 1, .int 1]) rfl (by show 2 ≤ 1000000; decide) fun p H18 _ sm hp => ?_
          replace I := I.same sm
          replace hw := sm _ _ hw
          replace hm := sm _ _ hm
          replace hWa := sm _ _ hWa
          clear sm
          walk_at "go"
          exact ⟨_, _, _, _, _, _, _, _, _, _, _, _, _, rfl, I, hw, hm, fun _ => ⟨Wa, ws, _, rfl, rfl, hWa, wok, .no p (g2 em) rfl hp⟩⟩
      · walk_at "go"
        exact ⟨_, _, _, _, _, _, _, _, _, _, _, _, _, rfl, I, hw, hm, fun h2 => dn (by omega)⟩
    clear dn
    clear I hw hm
    rintro σ' H7 ⟨x7, x8, x9, x10, x11, x12, x13, x14, x15, x16, x17, x18, x19, rfl, I, hw, hm, dn⟩
    refine ⟨St b t c ns Lw Lm today way wd 8, ?_, ?_⟩
    · walk_at "go"
      rw [dec_int]
      refine iteK (fun h => ?_) (fun h => ?_)
      · walk_at "go"
        refine I.draw (by decide) (by decide) fun d H8 e0 e1 I2 rel => ?_
        replace hw := rel _ _ (I.ne hw fun _ _ => ne_sv) hw
        replace hm := rel _ _ (I.ne hm fun _ _ => ne_sv) hm
        replace I := I2
        clear I2 rel
        have e1 : d < 1000000 := e1
        walk_at "go"
        refine ⟨d, rfl, e0, fun m H9 sm hmd => ?_⟩
        replace I := I.same sm
        replace hw := sm _ _ hw
        replace hm := sm _ _ hm
        clear sm
        walk_at "go"
        refine nwL (ys := sv [Dg.dw d m]) rfl (by show 1 ≤ 1000000; decide) fun Lx H10 _ sm Lxh => ?_
        replace I := I.same sm
        replace hw := sm _ _ hw
        replace hm := sm _ _ hm
        clear sm
        walk_at "go"
        refine ⟨_, _, _, _, _, _, _, _, _, _, _, _, _, rfl, I, hw, hm, fun _ => ⟨Lx, [Dg.dw d m], _, rfl, rfl, Lxh, ⟨by simp, by show 1 ≤ 7; decide, fun y hy => ?_⟩, .day d (Wd.good7 hmd e0 (by omega)) rfl⟩⟩
        have := List.mem_singleton.mp hy
        subst this
        rw [Dg.dw_len]
        exact ⟨Dg.dw_no32 d m, by decide⟩
      · walk_at "go"
        exact ⟨_, _, _, _, _, _, _, _, _, _, _, _, _, rfl, I, hw, hm, fun h2 => dn (by omega)⟩
    clear dn
    clear I hw hm
    rintro σ' H7 ⟨x7, x8, x9, x10, x11, x12, x13, x14, x15, x16, x17, x18, x19, rfl, I, hw, hm, dn⟩
    obtain ⟨Wa, ws, v, rfl, rfl, hWa, wok, du⟩ := dn w1
    clear hw hm
    have dp : ∀ {H : Hp} {r : Addr} {e : Int}, H r = some (.tup [.int 1, .int e]) → Dp K H (.ref r) (.tuple [.int 1, .int e]) := fun h => .tup (SqT.of h) (.cons (.int 1) (.cons (.int _) .nil))
    walk_at "go"
    refine ⟨⟨_, rfl⟩, ?_⟩
    walk_at "go"
    refine ⟨S [32], Wa, ws.map S, rfl, rfl, join1 hWa, join2 wok.two, ?_⟩
    rw [join_txt]
    walk_at "go"
    refine told_ok wok.two fun H8 sm => ⟨fun d hd => ?_, fun e r he hr => ?_⟩
    · replace I := I.same sm
      replace hWa := sm _ _ hWa
      cases du with
      | no p h e hp => rw [h] at hd; cases hd
      | day d2 g e =>
        subst e
        have := g.ok.symm.trans hd
        cases this
        clear hd
        walk_at "go"
        refine ⟨_, _, rfl, .int d, ?_⟩
        walk_at "go"
        refine iteF ?_
        walk_at "go"
        refine nwT (ys := [.int 1, .int 1]) rfl (by show 2 ≤ 1000000; decide) fun p H9 _ sm hp => ?_
        replace I := I.same sm
        replace hWa := sm _ _ hWa
        clear sm
        refine ⟨.int d, .tuple [.int 1, .int 1], .int d, dp hp, rfl, rfl, ?_⟩
        refine ⟨false, rfl, iteF ?_⟩
        walk_at "go"
        clear hp
        have w5 := wok.2.1
        have w4 : 0 < ws.length := List.length_pos_iff.mpr wok.1
        refine I.draw (by rw [List.length_map]; omega) (by rw [List.length_map]; omega) fun at_ H10 a0 a1 I2 rel => ?_
        replace hWa := rel _ _ (I.ne hWa fun _ _ => ne_sv) hWa
        replace I := I2
        clear I2 rel
        rw [List.length_map] at a1
        obtain ⟨j, rfl⟩ := Int.eq_ofNat_of_zero_le a0
        have hj : j < ws.length := by omega
        clear a0 a1
        walk_at "go"
        refine nwL (ys := sv Wd.WRONG) rfl (by show 4 ≤ 1000000; decide) fun L4 H11 _ sm L4h => ?_
        replace I := I.same sm
        replace hWa := sm _ _ hWa
        clear sm
        walk_at "go"
        refine I.draw (by decide) (by decide) fun xk H12 k0 k1 I2 rel => ?_
        replace hWa := rel _ _ (I.ne hWa fun _ _ => ne_sv) hWa
        replace L4h := rel _ _ (I.ne L4h fun _ _ => ne_sv) L4h
        replace I := I2
        clear I2 rel
        obtain ⟨x, hx, _, ax⟩ := at_idx (es := Wd.WRONG) (by decide) k0 (by show xk < 4; omega)
        refine g_ixL (SqL.of L4h) ax ?_
        clear L4h ax k0 k1
        obtain ⟨_, _, _, _, _, _, _, _, _, _, x32, x3⟩ := Wd.wrong_facts x hx
        have bad := g.bad j hj x hx
        have more := g.more
        walk_at "go"
        refine ⟨⟨_, rfl⟩, ?_⟩
        walk_at "go"
        refine g_slL (ys := sv (ws.take j)) (SqL.of hWa) (by rw [cutV_to (by rw [List.length_map]; omega), sv_take]) fun p1 H13 _ sm p1h => ?_
        replace I := I.same sm
        replace hWa := sm _ _ hWa
        clear sm
        walk_at "go"
        refine nwL (ys := sv [x]) rfl (by show 1 ≤ 1000000; decide) fun p2 H14 _ sm p2h => ?_
        replace p1h := sm _ _ p1h
        replace I := I.same sm
        replace hWa := sm _ _ hWa
        clear sm
        refine g_cat (ys := sv (ws.take j ++ [x])) p1h p2h (sv_app _ _) (by rw [List.length_map, List.length_append, List.length_take, List.length_singleton]; omega) fun p3 H15 _ sm p3h => ?_
        replace I := I.same sm
        replace hWa := sm _ _ hWa
        clear sm
        walk_at "go"
        refine g_slL (ys := sv (ws.drop (j + 1))) (SqL.of hWa) (by rw [show ((j : Nat) : Int) + 1 = ((j + 1 : Nat) : Int) by omega, cutV_from (by rw [List.length_map]; omega), sv_drop]) fun p4 H16 _ sm p4h => ?_
        replace p3h := sm _ _ p3h
        replace I := I.same sm
        replace hWa := sm _ _ hWa
        clear sm
        have es : ws.take j ++ [x] ++ ws.drop (j + 1) = ws.set j x := by
          rw [List.set_eq_take_append_cons_drop, if_pos hj, List.append_assoc]; rfl
        refine g_cat (ys := sv (ws.set j x)) p3h p4h (by rw [sv_app, es]) (by rw [List.length_map, List.length_set]; omega) fun p5 H17 _ sm p5h => ?_
        replace I := I.same sm
        replace hWa := sm _ _ hWa
        clear sm
        have wok2 : Wok2 (ws.set j x) := by
          refine ⟨fun z => ?_, by rw [List.length_set]; omega, fun z hz => ?_⟩
          · have := congrArg List.length z
            rw [List.length_set] at this
            exact absurd this (by show ¬ ws.length = 0; omega)
          · rcases List.mem_or_eq_of_mem_set hz with hz | rfl
            · exact wok.2.2 z hz
            · exact ⟨x32, by omega⟩
        refine ⟨S [32], p5, (ws.set j x).map S, rfl, rfl, join1 p5h, join2 wok2, ?_⟩
        rw [join_txt]
        walk_at "go"
        refine told_ok wok2 fun H18 sm => ⟨fun d hd => (by rw [bad] at hd; cases hd), fun e r he hr => ?_⟩
        rw [bad] at he
        cases he
        replace I := I.same sm
        replace hWa := sm _ _ hWa
        clear sm
        walk_at "go"
        refine nwT (ys := [.int 1, .int j]) rfl (by show 2 ≤ 1000000; decide) fun p6 H19 _ sm p6h => ?_
        replace hr := sm _ _ hr
        replace I := I.same sm
        replace hWa := sm _ _ hWa
        clear sm
        refine ne_same (dp hr) (dp p6h) rfl ?_
        walk_at "go"
        refine iteF ?_
        walk_at "go"
        refine ⟨⟨_, rfl⟩, ?_⟩
        walk_at "go"
        refine nwL (ys := sv [Wd.XX]) rfl (by show 1 ≤ 1000000; decide) fun p7 H20 _ sm p7h => ?_
        replace I := I.same sm
        replace hWa := sm _ _ hWa
        clear sm
        refine g_cat (ys := sv (ws ++ [Wd.XX])) hWa p7h (sv_app _ _) (by rw [List.length_map, List.length_append, List.length_singleton]; omega) fun p8 H21 _ sm p8h => ?_
        replace I := I.same sm
        replace hWa := sm _ _ hWa
        clear sm
        have wok3 : Wok2 (ws ++ [Wd.XX]) := by
          refine ⟨by simp, ?_, fun z hz => ?_⟩
          · rw [List.length_append, List.length_singleton]; omega
          · rcases List.mem_append.mp hz with hz | hz
            · exact wok.2.2 z hz
            · rw [List.mem_singleton.mp hz]; decide
        refine ⟨S [32], p8, (ws ++ [Wd.XX]).map S, rfl, rfl, join1 p8h, join2 wok3, ?_⟩
        rw [join_txt]
        walk_at "go"
        refine told_ok wok3 fun H22 sm => ⟨fun d hd => (by rw [more] at hd; cases hd), fun e r he hr => ?_⟩
        rw [more] at he
        cases he
        replace I := I.same sm
        replace hWa := sm _ _ hWa
        clear sm
        walk_at "go"
        rw [List.length_map]
        refine nwT (ys := [.int 1, .int ws.length]) rfl (by show 2 ≤ 1000000; decide) fun p9 H23 _ sm p9h => ?_
        replace hr := sm _ _ hr
        refine eq_same (dp hr) (dp p9h) rfl ?_
        exact q _
    · cases du with
      | day d2 g e2 => rw [g.ok] at he; cases he
      | no p h e2 hp =>
        subst e2
        have := h.symm.trans he
        cases this
        replace hp := sm _ _ hp
        walk_at "go"
        refine ⟨_, _, rfl, .tup hr hp (dp hr) (dp hp) rfl, ?_⟩
        walk_at "go"
        refine iteF ?_
        walk_at "go"
        refine nwT (ys := [.int 1, .int 1]) rfl (by show 2 ≤ 1000000; decide) fun p2 H9 _ sm2 hp2 => ?_
        refine eq_same (dp (sm2 _ _ hp)) (dp hp2) rfl ?_
        walk_at "go"
        refine iteT ?_
        walk_at "go"
        exact q _
end
theorem all_mk {l : PySem.W.OpenLaw} {w : World} {K : PySem.W.Frag} {h : Heap} {mg : Str → Option Value} {fa : Addr} (X : K.In h) (G : h.Ns mainGlobals mg) (hfa : mg "law" = some (.ref fa))
    {f_BadText_init : Addr} {oc_BadText_init : Value} {od_BadText_init an_BadText_init : Option Addr} {sl_BadText_init : Array (Option Value)} {kV_BadText_init dc_BadText_init pm_BadText_init cd_BadText_init ct_BadText_init : Value}
    {f_is_leap : Addr} {oc_is_leap : Value} {od_is_leap an_is_leap : Option Addr} {sl_is_leap : Array (Option Value)} {kV_is_leap dc_is_leap pm_is_leap cd_is_leap ct_is_leap : Value}
    {f_year_of_month : Addr} {oc_year_of_month : Value} {od_year_of_month an_year_of_month : Option Addr} {sl_year_of_month : Array (Option Value)} {kV_year_of_month dc_year_of_month pm_year_of_month cd_year_of_month ct_year_of_month : Value}
    {f_month_length : Addr} {oc_month_length : Value} {od_month_length an_month_length : Option Addr} {sl_month_length : Array (Option Value)} {kV_month_length dc_month_length pm_month_length cd_month_length ct_month_length : Value}
    {f_first_day : Addr} {oc_first_day : Value} {od_first_day an_first_day : Option Addr} {sl_first_day : Array (Option Value)} {kV_first_day dc_first_day pm_first_day cd_first_day ct_first_day : Value}
    {f_month_of : Addr} {oc_month_of : Value} {od_month_of an_month_of : Option Addr} {sl_month_of : Array (Option Value)} {kV_month_of dc_month_of pm_month_of cd_month_of ct_month_of : Value}
    {f_day_of : Addr} {oc_day_of : Value} {od_day_of an_day_of : Option Addr} {sl_day_of : Array (Option Value)} {kV_day_of dc_day_of pm_day_of cd_day_of ct_day_of : Value}
    {f_weekday_of : Addr} {oc_weekday_of : Value} {od_weekday_of an_weekday_of : Option Addr} {sl_weekday_of : Array (Option Value)} {kV_weekday_of dc_weekday_of pm_weekday_of cd_weekday_of ct_weekday_of : Value}
    {f_nth_weekday : Addr} {oc_nth_weekday : Value} {od_nth_weekday an_nth_weekday : Option Addr} {sl_nth_weekday : Array (Option Value)} {kV_nth_weekday dc_nth_weekday pm_nth_weekday cd_nth_weekday ct_nth_weekday : Value}
    {f_add_months : Addr} {oc_add_months : Value} {od_add_months an_add_months : Option Addr} {sl_add_months : Array (Option Value)} {kV_add_months dc_add_months pm_add_months cd_add_months ct_add_months : Value}
    {f_all_digits : Addr} {oc_all_digits : Value} {od_all_digits an_all_digits : Option Addr} {sl_all_digits : Array (Option Value)} {kV_all_digits dc_all_digits pm_all_digits cd_all_digits ct_all_digits : Value}
    {f_read_day_word : Addr} {oc_read_day_word : Value} {od_read_day_word an_read_day_word : Option Addr} {sl_read_day_word : Array (Option Value)} {kV_read_day_word dc_read_day_word pm_read_day_word cd_read_day_word ct_read_day_word : Value}
    {f_read_integer : Addr} {oc_read_integer : Value} {od_read_integer an_read_integer : Option Addr} {sl_read_integer : Array (Option Value)} {kV_read_integer dc_read_integer pm_read_integer cd_read_integer ct_read_integer : Value}
    {f_Line_init : Addr} {oc_Line_init : Value} {od_Line_init an_Line_init : Option Addr} {sl_Line_init : Array (Option Value)} {kV_Line_init dc_Line_init pm_Line_init cd_Line_init ct_Line_init : Value}
    {f_Line_upcoming : Addr} {oc_Line_upcoming : Value} {od_Line_upcoming an_Line_upcoming : Option Addr} {sl_Line_upcoming : Array (Option Value)} {kV_Line_upcoming dc_Line_upcoming pm_Line_upcoming cd_Line_upcoming ct_Line_upcoming : Value}
    {f_Line_finish : Addr} {oc_Line_finish : Value} {od_Line_finish an_Line_finish : Option Addr} {sl_Line_finish : Array (Option Value)} {kV_Line_finish dc_Line_finish pm_Line_finish cd_Line_finish ct_Line_finish : Value}
    {f_Line_take : Addr} {oc_Line_take : Value} {od_Line_take an_Line_take : Option Addr} {sl_Line_take : Array (Option Value)} {kV_Line_take dc_Line_take pm_Line_take cd_Line_take ct_Line_take : Value}
    {f_Line_take_one_of : Addr} {oc_Line_take_one_of : Value} {od_Line_take_one_of an_Line_take_one_of : Option Addr} {sl_Line_take_one_of : Array (Option Value)} {kV_Line_take_one_of dc_Line_take_one_of pm_Line_take_one_of cd_Line_take_one_of ct_Line_take_one_of : Value}
    {f_Line_take_integer : Addr} {oc_Line_take_integer : Value} {od_Line_take_integer an_Line_take_integer : Option Addr} {sl_Line_take_integer : Array (Option Value)} {kV_Line_take_integer dc_Line_take_integer pm_Line_take_integer cd_Line_take_integer ct_Line_take_integer : Value}
    {f_later_by : Addr} {oc_later_by : Value} {od_later_by an_later_by : Option Addr} {sl_later_by : Array (Option Value)} {kV_later_by dc_later_by pm_later_by cd_later_by ct_later_by : Value}
    {f_next_weekday : Addr} {oc_next_weekday : Value} {od_next_weekday an_next_weekday : Option Addr} {sl_next_weekday : Array (Option Value)} {kV_next_weekday dc_next_weekday pm_next_weekday cd_next_weekday ct_next_weekday : Value}
    {f_last_weekday : Addr} {oc_last_weekday : Value} {od_last_weekday an_last_weekday : Option Addr} {sl_last_weekday : Array (Option Value)} {kV_last_weekday dc_last_weekday pm_last_weekday cd_last_weekday ct_last_weekday : Value}
    {f_take_month : Addr} {oc_take_month : Value} {od_take_month an_take_month : Option Addr} {sl_take_month : Array (Option Value)} {kV_take_month dc_take_month pm_take_month cd_take_month ct_take_month : Value}
    {f_take_in_month : Addr} {oc_take_in_month : Value} {od_take_in_month an_take_in_month : Option Addr} {sl_take_in_month : Array (Option Value)} {kV_take_in_month dc_take_in_month pm_take_in_month cd_take_in_month ct_take_in_month : Value}
    {f_take_when : Addr} {oc_take_when : Value} {od_take_when an_take_when : Option Addr} {sl_take_when : Array (Option Value)} {kV_take_when dc_take_when pm_take_when cd_take_when ct_take_when : Value}
    {f_read_when : Addr} {oc_read_when : Value} {od_read_when an_read_when : Option Addr} {sl_read_when : Array (Option Value)} {kV_read_when dc_read_when pm_read_when cd_read_when ct_read_when : Value}
    {f_law_is : Addr} {oc_law_is : Value} {od_law_is an_law_is : Option Addr} {sl_law_is : Array (Option Value)} {kV_law_is dc_law_is pm_law_is cd_law_is ct_law_is : Value}
    {f_law_draw : Addr} {oc_law_draw : Value} {od_law_draw an_law_draw : Option Addr} {sl_law_draw : Array (Option Value)} {kV_law_draw dc_law_draw pm_law_draw cd_law_draw ct_law_draw : Value}
    {f_law_tape : Addr} {oc_law_tape : Value} {od_law_tape an_law_tape : Option Addr} {sl_law_tape : Array (Option Value)} {kV_law_tape dc_law_tape pm_law_tape cd_law_tape ct_law_tape : Value}
    {f_law_mod : Addr} {oc_law_mod : Value} {od_law_mod an_law_mod : Option Addr} {sl_law_mod : Array (Option Value)} {kV_law_mod dc_law_mod pm_law_mod cd_law_mod ct_law_mod : Value}
    {f_law_leap : Addr} {oc_law_leap : Value} {od_law_leap an_law_leap : Option Addr} {sl_law_leap : Array (Option Value)} {kV_law_leap dc_law_leap pm_law_leap cd_law_leap ct_law_leap : Value}
    {f_law_length : Addr} {oc_law_length : Value} {od_law_length an_law_length : Option Addr} {sl_law_length : Array (Option Value)} {kV_law_length dc_law_length pm_law_length cd_law_length ct_law_length : Value}
    {f_law_year_first : Addr} {oc_law_year_first : Value} {od_law_year_first an_law_year_first : Option Addr} {sl_law_year_first : Array (Option Value)} {kV_law_year_first dc_law_year_first pm_law_year_first cd_law_year_first ct_law_year_first : Value}
    {f_law_month_first : Addr} {oc_law_month_first : Value} {od_law_month_first an_law_month_first : Option Addr} {sl_law_month_first : Array (Option Value)} {kV_law_month_first dc_law_month_first pm_law_month_first cd_law_month_first ct_law_month_first : Value}
    {f_law_month_at : Addr} {oc_law_month_at : Value} {od_law_month_at an_law_month_at : Option Addr} {sl_law_month_at : Array (Option Value)} {kV_law_month_at dc_law_month_at pm_law_month_at cd_law_month_at ct_law_month_at : Value}
    {f_law_digits2 : Addr} {oc_law_digits2 : Value} {od_law_digits2 an_law_digits2 : Option Addr} {sl_law_digits2 : Array (Option Value)} {kV_law_digits2 dc_law_digits2 pm_law_digits2 cd_law_digits2 ct_law_digits2 : Value}
    {f_law_day_text : Addr} {oc_law_day_text : Value} {od_law_day_text an_law_day_text : Option Addr} {sl_law_day_text : Array (Option Value)} {kV_law_day_text dc_law_day_text pm_law_day_text cd_law_day_text ct_law_day_text : Value}
    {f_law_told : Addr} {oc_law_told : Value} {od_law_told an_law_told : Option Addr} {sl_law_told : Array (Option Value)} {kV_law_told dc_law_told pm_law_told cd_law_told ct_law_told : Value}
    {f_law_later : Addr} {oc_law_later : Value} {od_law_later an_law_later : Option Addr} {sl_law_later : Array (Option Value)} {kV_law_later dc_law_later pm_law_later cd_law_later ct_law_later : Value}
    {f_law_by : Addr} {oc_law_by : Value} {od_law_by an_law_by : Option Addr} {sl_law_by : Array (Option Value)} {kV_law_by dc_law_by pm_law_by cd_law_by ct_law_by : Value}
    {f_law_in_month : Addr} {oc_law_in_month : Value} {od_law_in_month an_law_in_month : Option Addr} {sl_law_in_month : Array (Option Value)} {kV_law_in_month dc_law_in_month pm_law_in_month cd_law_in_month ct_law_in_month : Value}
    {f_law : Addr} {oc_law : Value} {od_law an_law : Option Addr} {sl_law : Array (Option Value)} {kV_law dc_law pm_law cd_law ct_law : Value}
    {C_Line : Addr}
    {C_BadText : Addr}
    {nm_BadText q_BadText : Str} {N_BadText : Addr} {bs_BadText : List Value} {sn_BadText : List Str} {sub_BadText : List Value} {ab_BadText : Bool} {col_BadText : Option Bool} {dd_BadText : Option Addr} {m0_BadText m1_BadText m2_BadText m3_BadText m5_BadText : Option Value}
    {C_BadDate : Addr}
    {C_DaysError : Addr} {M_DaysError : Value}
    {A_LENGTHS : Addr} {o_LENGTHS : Obj}
    {A_BEFORE : Addr} {o_BEFORE : Obj}
    {tk_CYCLE_MONTHS : Tok}
    {tk_CYCLE_DAYS : Tok}
    {tk_DIGITS_MOST : Tok}
    {A_WEEKDAYS : Addr} {o_WEEKDAYS : Obj}
    {A_MONTHS : Addr} {o_MONTHS : Obj}
    {tk_COUNT_MOST : Tok}
    {tk_DIGITS_dates : Tok}
    {tk_DIGITS_line : Tok}
    {A_PLACES : Addr} {o_PLACES : Obj}
    {A_UNITS : Addr} {o_UNITS : Obj}
    (a_BadText_init : PySem.W.findIn K (.ref C_BadText) "__init__" = some (some (.ref f_BadText_init)))
    (l_BadText_init : K.lookup f_BadText_init = some ⟨oc_BadText_init, od_BadText_init, .func (PySem.W.fnOf "__init__" "BadText.__init__" (defArgs s_BadText_init) (defBody s_BadText_init) (defScope s_BadText_init) .none kV_BadText_init dc_BadText_init pm_BadText_init an_BadText_init cd_BadText_init ct_BadText_init), sl_BadText_init⟩)
    (c_BadText_init : PySem.W.codeIn K cd_BadText_init "BadText.__init__" = true)
    (k_BadText_init : PySem.W.keepIn K (.ref f_BadText_init) = true)
    (i_BadText_init : PySem.W.isFn K (.ref f_BadText_init) = true)
    (a_is_leap : PySem.W.nsIn K mainGlobals "is_leap" = some (some (.ref f_is_leap)))
    (l_is_leap : K.lookup f_is_leap = some ⟨oc_is_leap, od_is_leap, .func (PySem.W.fnOf "is_leap" "is_leap" (defArgs s_is_leap) (defBody s_is_leap) (defScope s_is_leap) .none kV_is_leap dc_is_leap pm_is_leap an_is_leap cd_is_leap ct_is_leap), sl_is_leap⟩)
    (c_is_leap : PySem.W.codeIn K cd_is_leap "is_leap" = true)
    (k_is_leap : PySem.W.keepIn K (.ref f_is_leap) = true)
    (a_year_of_month : PySem.W.nsIn K mainGlobals "year_of_month" = some (some (.ref f_year_of_month)))
    (l_year_of_month : K.lookup f_year_of_month = some ⟨oc_year_of_month, od_year_of_month, .func (PySem.W.fnOf "year_of_month" "year_of_month" (defArgs s_year_of_month) (defBody s_year_of_month) (defScope s_year_of_month) .none kV_year_of_month dc_year_of_month pm_year_of_month an_year_of_month cd_year_of_month ct_year_of_month), sl_year_of_month⟩)
    (c_year_of_month : PySem.W.codeIn K cd_year_of_month "year_of_month" = true)
    (k_year_of_month : PySem.W.keepIn K (.ref f_year_of_month) = true)
    (a_month_length : PySem.W.nsIn K mainGlobals "month_length" = some (some (.ref f_month_length)))
    (l_month_length : K.lookup f_month_length = some ⟨oc_month_length, od_month_length, .func (PySem.W.fnOf "month_length" "month_length" (defArgs s_month_length) (defBody s_month_length) (defScope s_month_length) .none kV_month_length dc_month_length pm_month_length an_month_length cd_month_length ct_month_length), sl_month_length⟩)
    (c_month_length : PySem.W.codeIn K cd_month_length "month_length" = true)
    (k_month_length : PySem.W.keepIn K (.ref f_month_length) = true)
    (a_first_day : PySem.W.nsIn K mainGlobals "first_day" = some (some (.ref f_first_day)))
    (l_first_day : K.lookup f_first_day = some ⟨oc_first_day, od_first_day, .func (PySem.W.fnOf "first_day" "first_day" (defArgs s_first_day) (defBody s_first_day) (defScope s_first_day) .none kV_first_day dc_first_day pm_first_day an_first_day cd_first_day ct_first_day), sl_first_day⟩)
    (c_first_day : PySem.W.codeIn K cd_first_day "first_day" = true)
    (k_first_day : PySem.W.keepIn K (.ref f_first_day) = true)
    (a_month_of : PySem.W.nsIn K mainGlobals "month_of" = some (some (.ref f_month_of)))
    (l_month_of : K.lookup f_month_of = some ⟨oc_month_of, od_month_of, .func (PySem.W.fnOf "month_of" "month_of" (defArgs s_month_of) (defBody s_month_of) (defScope s_month_of) .none kV_month_of dc_month_of pm_month_of an_month_of cd_month_of ct_month_of), sl_month_of⟩)
    (c_month_of : PySem.W.codeIn K cd_month_of "month_of" = true)
    (k_month_of : PySem.W.keepIn K (.ref f_month_of) = true)
    (a_day_of : PySem.W.nsIn K mainGlobals "day_of" = some (some (.ref f_day_of)))
    (l_day_of : K.lookup f_day_of = some ⟨oc_day_of, od_day_of, .func (PySem.W.fnOf "day_of" "day_of" (defArgs s_day_of) (defBody s_day_of) (defScope s_day_of) .none kV_day_of dc_day_of pm_day_of an_day_of cd_day_of ct_day_of), sl_day_of⟩)
    (c_day_of : PySem.W.codeIn K cd_day_of "day_of" = true)
    (k_day_of : PySem.W.keepIn K (.ref f_day_of) = true)
    (a_weekday_of : PySem.W.nsIn K mainGlobals "weekday_of" = some (some (.ref f_weekday_of)))
    (l_weekday_of : K.lookup f_weekday_of = some ⟨oc_weekday_of, od_weekday_of, .func (PySem.W.fnOf "weekday_of" "weekday_of" (defArgs s_weekday_of) (defBody s_weekday_of) (defScope s_weekday_of) .none kV_weekday_of dc_weekday_of pm_weekday_of an_weekday_of cd_weekday_of ct_weekday_of), sl_weekday_of⟩)
    (c_weekday_of : PySem.W.codeIn K cd_weekday_of "weekday_of" = true)
    (k_weekday_of : PySem.W.keepIn K (.ref f_weekday_of) = true)
    (a_nth_weekday : PySem.W.nsIn K mainGlobals "nth_weekday" = some (some (.ref f_nth_weekday)))
    (l_nth_weekday : K.lookup f_nth_weekday = some ⟨oc_nth_weekday, od_nth_weekday, .func (PySem.W.fnOf "nth_weekday" "nth_weekday" (defArgs s_nth_weekday) (defBody s_nth_weekday) (defScope s_nth_weekday) .none kV_nth_weekday dc_nth_weekday pm_nth_weekday an_nth_weekday cd_nth_weekday ct_nth_weekday), sl_nth_weekday⟩)
    (c_nth_weekday : PySem.W.codeIn K cd_nth_weekday "nth_weekday" = true)
    (k_nth_weekday : PySem.W.keepIn K (.ref f_nth_weekday) = true)
    (a_add_months : PySem.W.nsIn K mainGlobals "add_months" = some (some (.ref f_add_months)))
    (l_add_months : K.lookup f_add_months = some ⟨oc_add_months, od_add_months, .func (PySem.W.fnOf "add_months" "add_months" (defArgs s_add_months) (defBody s_add_months) (defScope s_add_months) .none kV_add_months dc_add_months pm_add_months an_add_months cd_add_months ct_add_months), sl_add_months⟩)
    (c_add_months : PySem.W.codeIn K cd_add_months "add_months" = true)
    (k_add_months : PySem.W.keepIn K (.ref f_add_months) = true)
    (a_all_digits : PySem.W.nsIn K mainGlobals "all_digits" = some (some (.ref f_all_digits)))
    (l_all_digits : K.lookup f_all_digits = some ⟨oc_all_digits, od_all_digits, .func (PySem.W.fnOf "all_digits" "all_digits" (defArgs s_all_digits) (defBody s_all_digits) (defScope s_all_digits) .none kV_all_digits dc_all_digits pm_all_digits an_all_digits cd_all_digits ct_all_digits), sl_all_digits⟩)
    (c_all_digits : PySem.W.codeIn K cd_all_digits "all_digits" = true)
    (k_all_digits : PySem.W.keepIn K (.ref f_all_digits) = true)
    (a_read_day_word : PySem.W.nsIn K mainGlobals "read_day_word" = some (some (.ref f_read_day_word)))
    (l_read_day_word : K.lookup f_read_day_word = some ⟨oc_read_day_word, od_read_day_word, .func (PySem.W.fnOf "read_day_word" "read_day_word" (defArgs s_read_day_word) (defBody s_read_day_word) (defScope s_read_day_word) .none kV_read_day_word dc_read_day_word pm_read_day_word an_read_day_word cd_read_day_word ct_read_day_word), sl_read_day_word⟩)
    (c_read_day_word : PySem.W.codeIn K cd_read_day_word "read_day_word" = true)
    (k_read_day_word : PySem.W.keepIn K (.ref f_read_day_word) = true)
    (a_read_integer : PySem.W.nsIn K mainGlobals "read_integer" = some (some (.ref f_read_integer)))
    (l_read_integer : K.lookup f_read_integer = some ⟨oc_read_integer, od_read_integer, .func (PySem.W.fnOf "read_integer" "read_integer" (defArgs s_read_integer) (defBody s_read_integer) (defScope s_read_integer) .none kV_read_integer dc_read_integer pm_read_integer an_read_integer cd_read_integer ct_read_integer), sl_read_integer⟩)
    (c_read_integer : PySem.W.codeIn K cd_read_integer "read_integer" = true)
    (k_read_integer : PySem.W.keepIn K (.ref f_read_integer) = true)
    (a_Line_init : PySem.W.findIn K (.ref C_Line) "__init__" = some (some (.ref f_Line_init)))
    (l_Line_init : K.lookup f_Line_init = some ⟨oc_Line_init, od_Line_init, .func (PySem.W.fnOf "__init__" "Line.__init__" (defArgs s_Line_init) (defBody s_Line_init) (defScope s_Line_init) .none kV_Line_init dc_Line_init pm_Line_init an_Line_init cd_Line_init ct_Line_init), sl_Line_init⟩)
    (c_Line_init : PySem.W.codeIn K cd_Line_init "Line.__init__" = true)
    (k_Line_init : PySem.W.keepIn K (.ref f_Line_init) = true)
    (i_Line_init : PySem.W.isFn K (.ref f_Line_init) = true)
    (a_Line_upcoming : PySem.W.findIn K (.ref C_Line) "upcoming" = some (some (.ref f_Line_upcoming)))
    (l_Line_upcoming : K.lookup f_Line_upcoming = some ⟨oc_Line_upcoming, od_Line_upcoming, .func (PySem.W.fnOf "upcoming" "Line.upcoming" (defArgs s_Line_upcoming) (defBody s_Line_upcoming) (defScope s_Line_upcoming) .none kV_Line_upcoming dc_Line_upcoming pm_Line_upcoming an_Line_upcoming cd_Line_upcoming ct_Line_upcoming), sl_Line_upcoming⟩)
    (c_Line_upcoming : PySem.W.codeIn K cd_Line_upcoming "Line.upcoming" = true)
    (k_Line_upcoming : PySem.W.keepIn K (.ref f_Line_upcoming) = true)
    (i_Line_upcoming : PySem.W.isFn K (.ref f_Line_upcoming) = true)
    (a_Line_finish : PySem.W.findIn K (.ref C_Line) "finish" = some (some (.ref f_Line_finish)))
    (l_Line_finish : K.lookup f_Line_finish = some ⟨oc_Line_finish, od_Line_finish, .func (PySem.W.fnOf "finish" "Line.finish" (defArgs s_Line_finish) (defBody s_Line_finish) (defScope s_Line_finish) .none kV_Line_finish dc_Line_finish pm_Line_finish an_Line_finish cd_Line_finish ct_Line_finish), sl_Line_finish⟩)
    (c_Line_finish : PySem.W.codeIn K cd_Line_finish "Line.finish" = true)
    (k_Line_finish : PySem.W.keepIn K (.ref f_Line_finish) = true)
    (i_Line_finish : PySem.W.isFn K (.ref f_Line_finish) = true)
    (a_Line_take : PySem.W.findIn K (.ref C_Line) "take" = some (some (.ref f_Line_take)))
    (l_Line_take : K.lookup f_Line_take = some ⟨oc_Line_take, od_Line_take, .func (PySem.W.fnOf "take" "Line.take" (defArgs s_Line_take) (defBody s_Line_take) (defScope s_Line_take) .none kV_Line_take dc_Line_take pm_Line_take an_Line_take cd_Line_take ct_Line_take), sl_Line_take⟩)
    (c_Line_take : PySem.W.codeIn K cd_Line_take "Line.take" = true)
    (k_Line_take : PySem.W.keepIn K (.ref f_Line_take) = true)
    (i_Line_take : PySem.W.isFn K (.ref f_Line_take) = true)
    (a_Line_take_one_of : PySem.W.findIn K (.ref C_Line) "take_one_of" = some (some (.ref f_Line_take_one_of)))
    (l_Line_take_one_of : K.lookup f_Line_take_one_of = some ⟨oc_Line_take_one_of, od_Line_take_one_of, .func (PySem.W.fnOf "take_one_of" "Line.take_one_of" (defArgs s_Line_take_one_of) (defBody s_Line_take_one_of) (defScope s_Line_take_one_of) .none kV_Line_take_one_of dc_Line_take_one_of pm_Line_take_one_of an_Line_take_one_of cd_Line_take_one_of ct_Line_take_one_of), sl_Line_take_one_of⟩)
    (c_Line_take_one_of : PySem.W.codeIn K cd_Line_take_one_of "Line.take_one_of" = true)
    (k_Line_take_one_of : PySem.W.keepIn K (.ref f_Line_take_one_of) = true)
    (i_Line_take_one_of : PySem.W.isFn K (.ref f_Line_take_one_of) = true)
    (a_Line_take_integer : PySem.W.findIn K (.ref C_Line) "take_integer" = some (some (.ref f_Line_take_integer)))
    (l_Line_take_integer : K.lookup f_Line_take_integer = some ⟨oc_Line_take_integer, od_Line_take_integer, .func (PySem.W.fnOf "take_integer" "Line.take_integer" (defArgs s_Line_take_integer) (defBody s_Line_take_integer) (defScope s_Line_take_integer) .none kV_Line_take_integer dc_Line_take_integer pm_Line_take_integer an_Line_take_integer cd_Line_take_integer ct_Line_take_integer), sl_Line_take_integer⟩)
    (c_Line_take_integer : PySem.W.codeIn K cd_Line_take_integer "Line.take_integer" = true)
    (k_Line_take_integer : PySem.W.keepIn K (.ref f_Line_take_integer) = true)
    (i_Line_take_integer : PySem.W.isFn K (.ref f_Line_take_integer) = true)
    (a_later_by : PySem.W.nsIn K mainGlobals "later_by" = some (some (.ref f_later_by)))
    (l_later_by : K.lookup f_later_by = some ⟨oc_later_by, od_later_by, .func (PySem.W.fnOf "later_by" "later_by" (defArgs s_later_by) (defBody s_later_by) (defScope s_later_by) .none kV_later_by dc_later_by pm_later_by an_later_by cd_later_by ct_later_by), sl_later_by⟩)
    (c_later_by : PySem.W.codeIn K cd_later_by "later_by" = true)
    (k_later_by : PySem.W.keepIn K (.ref f_later_by) = true)
    (a_next_weekday : PySem.W.nsIn K mainGlobals "next_weekday" = some (some (.ref f_next_weekday)))
    (l_next_weekday : K.lookup f_next_weekday = some ⟨oc_next_weekday, od_next_weekday, .func (PySem.W.fnOf "next_weekday" "next_weekday" (defArgs s_next_weekday) (defBody s_next_weekday) (defScope s_next_weekday) .none kV_next_weekday dc_next_weekday pm_next_weekday an_next_weekday cd_next_weekday ct_next_weekday), sl_next_weekday⟩)
    (c_next_weekday : PySem.W.codeIn K cd_next_weekday "next_weekday" = true)
    (k_next_weekday : PySem.W.keepIn K (.ref f_next_weekday) = true)
    (a_last_weekday : PySem.W.nsIn K mainGlobals "last_weekday" = some (some (.ref f_last_weekday)))
    (l_last_weekday : K.lookup f_last_weekday = some ⟨oc_last_weekday, od_last_weekday, .func (PySem.W.fnOf "last_weekday" "last_weekday" (defArgs s_last_weekday) (defBody s_last_weekday) (defScope s_last_weekday) .none kV_last_weekday dc_last_weekday pm_last_weekday an_last_weekday cd_last_weekday ct_last_weekday), sl_last_weekday⟩)
    (c_last_weekday : PySem.W.codeIn K cd_last_weekday "last_weekday" = true)
    (k_last_weekday : PySem.W.keepIn K (.ref f_last_weekday) = true)
    (a_take_month : PySem.W.nsIn K mainGlobals "take_month" = some (some (.ref f_take_month)))
    (l_take_month : K.lookup f_take_month = some ⟨oc_take_month, od_take_month, .func (PySem.W.fnOf "take_month" "take_month" (defArgs s_take_month) (defBody s_take_month) (defScope s_take_month) .none kV_take_month dc_take_month pm_take_month an_take_month cd_take_month ct_take_month), sl_take_month⟩)
    (c_take_month : PySem.W.codeIn K cd_take_month "take_month" = true)
    (k_take_month : PySem.W.keepIn K (.ref f_take_month) = true)
    (a_take_in_month : PySem.W.nsIn K mainGlobals "take_in_month" = some (some (.ref f_take_in_month)))
    (l_take_in_month : K.lookup f_take_in_month = some ⟨oc_take_in_month, od_take_in_month, .func (PySem.W.fnOf "take_in_month" "take_in_month" (defArgs s_take_in_month) (defBody s_take_in_month) (defScope s_take_in_month) .none kV_take_in_month dc_take_in_month pm_take_in_month an_take_in_month cd_take_in_month ct_take_in_month), sl_take_in_month⟩)
    (c_take_in_month : PySem.W.codeIn K cd_take_in_month "take_in_month" = true)
    (k_take_in_month : PySem.W.keepIn K (.ref f_take_in_month) = true)
    (a_take_when : PySem.W.nsIn K mainGlobals "take_when" = some (some (.ref f_take_when)))
    (l_take_when : K.lookup f_take_when = some ⟨oc_take_when, od_take_when, .func (PySem.W.fnOf "take_when" "take_when" (defArgs s_take_when) (defBody s_take_when) (defScope s_take_when) .none kV_take_when dc_take_when pm_take_when an_take_when cd_take_when ct_take_when), sl_take_when⟩)
    (c_take_when : PySem.W.codeIn K cd_take_when "take_when" = true)
    (k_take_when : PySem.W.keepIn K (.ref f_take_when) = true)
    (a_read_when : PySem.W.nsIn K mainGlobals "read_when" = some (some (.ref f_read_when)))
    (l_read_when : K.lookup f_read_when = some ⟨oc_read_when, od_read_when, .func (PySem.W.fnOf "read_when" "read_when" (defArgs s_read_when) (defBody s_read_when) (defScope s_read_when) .none kV_read_when dc_read_when pm_read_when an_read_when cd_read_when ct_read_when), sl_read_when⟩)
    (c_read_when : PySem.W.codeIn K cd_read_when "read_when" = true)
    (k_read_when : PySem.W.keepIn K (.ref f_read_when) = true)
    (a_law_is : PySem.W.nsIn K mainGlobals "_law_is" = some (some (.ref f_law_is)))
    (l_law_is : K.lookup f_law_is = some ⟨oc_law_is, od_law_is, .func (PySem.W.fnOf "_law_is" "_law_is" (defArgs s_law_is) (defBody s_law_is) (defScope s_law_is) .none kV_law_is dc_law_is pm_law_is an_law_is cd_law_is ct_law_is), sl_law_is⟩)
    (c_law_is : PySem.W.codeIn K cd_law_is "_law_is" = true)
    (k_law_is : PySem.W.keepIn K (.ref f_law_is) = true)
    (a_law_draw : PySem.W.nsIn K mainGlobals "_law_draw" = some (some (.ref f_law_draw)))
    (l_law_draw : K.lookup f_law_draw = some ⟨oc_law_draw, od_law_draw, .func (PySem.W.fnOf "_law_draw" "_law_draw" (defArgs s_law_draw) (defBody s_law_draw) (defScope s_law_draw) .none kV_law_draw dc_law_draw pm_law_draw an_law_draw cd_law_draw ct_law_draw), sl_law_draw⟩)
    (c_law_draw : PySem.W.codeIn K cd_law_draw "_law_draw" = true)
    (k_law_draw : PySem.W.keepIn K (.ref f_law_draw) = true)
    (a_law_tape : PySem.W.nsIn K mainGlobals "_law_tape" = some (some (.ref f_law_tape)))
    (l_law_tape : K.lookup f_law_tape = some ⟨oc_law_tape, od_law_tape, .func (PySem.W.fnOf "_law_tape" "_law_tape" (defArgs s_law_tape) (defBody s_law_tape) (defScope s_law_tape) .none kV_law_tape dc_law_tape pm_law_tape an_law_tape cd_law_tape ct_law_tape), sl_law_tape⟩)
    (c_law_tape : PySem.W.codeIn K cd_law_tape "_law_tape" = true)
    (k_law_tape : PySem.W.keepIn K (.ref f_law_tape) = true)
    (a_law_mod : PySem.W.nsIn K mainGlobals "_law_mod" = some (some (.ref f_law_mod)))
    (l_law_mod : K.lookup f_law_mod = some ⟨oc_law_mod, od_law_mod, .func (PySem.W.fnOf "_law_mod" "_law_mod" (defArgs s_law_mod) (defBody s_law_mod) (defScope s_law_mod) .none kV_law_mod dc_law_mod pm_law_mod an_law_mod cd_law_mod ct_law_mod), sl_law_mod⟩)
    (c_law_mod : PySem.W.codeIn K cd_law_mod "_law_mod" = true)
    (k_law_mod : PySem.W.keepIn K (.ref f_law_mod) = true)
    (a_law_leap : PySem.W.nsIn K mainGlobals "_law_leap" = some (some (.ref f_law_leap)))
    (l_law_leap : K.lookup f_law_leap = some ⟨oc_law_leap, od_law_leap, .func (PySem.W.fnOf "_law_leap" "_law_leap" (defArgs s_law_leap) (defBody s_law_leap) (defScope s_law_leap) .none kV_law_leap dc_law_leap pm_law_leap an_law_leap cd_law_leap ct_law_leap), sl_law_leap⟩)
    (c_law_leap : PySem.W.codeIn K cd_law_leap "_law_leap" = true)
    (k_law_leap : PySem.W.keepIn K (.ref f_law_leap) = true)
    (a_law_length : PySem.W.nsIn K mainGlobals "_law_length" = some (some (.ref f_law_length)))
    (l_law_length : K.lookup f_law_length = some ⟨oc_law_length, od_law_length, .func (PySem.W.fnOf "_law_length" "_law_length" (defArgs s_law_length) (defBody s_law_length) (defScope s_law_length) .none kV_law_length dc_law_length pm_law_length an_law_length cd_law_length ct_law_length), sl_law_length⟩)
    (c_law_length : PySem.W.codeIn K cd_law_length "_law_length" = true)
    (k_law_length : PySem.W.keepIn K (.ref f_law_length) = true)
    (a_law_year_first : PySem.W.nsIn K mainGlobals "_law_year_first" = some (some (.ref f_law_year_first)))
    (l_law_year_first : K.lookup f_law_year_first = some ⟨oc_law_year_first, od_law_year_first, .func (PySem.W.fnOf "_law_year_first" "_law_year_first" (defArgs s_law_year_first) (defBody s_law_year_first) (defScope s_law_year_first) .none kV_law_year_first dc_law_year_first pm_law_year_first an_law_year_first cd_law_year_first ct_law_year_first), sl_law_year_first⟩)
    (c_law_year_first : PySem.W.codeIn K cd_law_year_first "_law_year_first" = true)
    (k_law_year_first : PySem.W.keepIn K (.ref f_law_year_first) = true)
    (a_law_month_first : PySem.W.nsIn K mainGlobals "_law_month_first" = some (some (.ref f_law_month_first)))
    (l_law_month_first : K.lookup f_law_month_first = some ⟨oc_law_month_first, od_law_month_first, .func (PySem.W.fnOf "_law_month_first" "_law_month_first" (defArgs s_law_month_first) (defBody s_law_month_first) (defScope s_law_month_first) .none kV_law_month_first dc_law_month_first pm_law_month_first an_law_month_first cd_law_month_first ct_law_month_first), sl_law_month_first⟩)
    (c_law_month_first : PySem.W.codeIn K cd_law_month_first "_law_month_first" = true)
    (k_law_month_first : PySem.W.keepIn K (.ref f_law_month_first) = true)
    (a_law_month_at : PySem.W.nsIn K mainGlobals "_law_month_at" = some (some (.ref f_law_month_at)))
    (l_law_month_at : K.lookup f_law_month_at = some ⟨oc_law_month_at, od_law_month_at, .func (PySem.W.fnOf "_law_month_at" "_law_month_at" (defArgs s_law_month_at) (defBody s_law_month_at) (defScope s_law_month_at) .none kV_law_month_at dc_law_month_at pm_law_month_at an_law_month_at cd_law_month_at ct_law_month_at), sl_law_month_at⟩)
    (c_law_month_at : PySem.W.codeIn K cd_law_month_at "_law_month_at" = true)
    (k_law_month_at : PySem.W.keepIn K (.ref f_law_month_at) = true)
    (a_law_digits2 : PySem.W.nsIn K mainGlobals "_law_digits2" = some (some (.ref f_law_digits2)))
    (l_law_digits2 : K.lookup f_law_digits2 = some ⟨oc_law_digits2, od_law_digits2, .func (PySem.W.fnOf "_law_digits2" "_law_digits2" (defArgs s_law_digits2) (defBody s_law_digits2) (defScope s_law_digits2) .none kV_law_digits2 dc_law_digits2 pm_law_digits2 an_law_digits2 cd_law_digits2 ct_law_digits2), sl_law_digits2⟩)
    (c_law_digits2 : PySem.W.codeIn K cd_law_digits2 "_law_digits2" = true)
    (k_law_digits2 : PySem.W.keepIn K (.ref f_law_digits2) = true)
    (a_law_day_text : PySem.W.nsIn K mainGlobals "_law_day_text" = some (some (.ref f_law_day_text)))
    (l_law_day_text : K.lookup f_law_day_text = some ⟨oc_law_day_text, od_law_day_text, .func (PySem.W.fnOf "_law_day_text" "_law_day_text" (defArgs s_law_day_text) (defBody s_law_day_text) (defScope s_law_day_text) .none kV_law_day_text dc_law_day_text pm_law_day_text an_law_day_text cd_law_day_text ct_law_day_text), sl_law_day_text⟩)
    (c_law_day_text : PySem.W.codeIn K cd_law_day_text "_law_day_text" = true)
    (k_law_day_text : PySem.W.keepIn K (.ref f_law_day_text) = true)
    (a_law_told : PySem.W.nsIn K mainGlobals "_law_told" = some (some (.ref f_law_told)))
    (l_law_told : K.lookup f_law_told = some ⟨oc_law_told, od_law_told, .func (PySem.W.fnOf "_law_told" "_law_told" (defArgs s_law_told) (defBody s_law_told) (defScope s_law_told) .none kV_law_told dc_law_told pm_law_told an_law_told cd_law_told ct_law_told), sl_law_told⟩)
    (c_law_told : PySem.W.codeIn K cd_law_told "_law_told" = true)
    (k_law_told : PySem.W.keepIn K (.ref f_law_told) = true)
    (a_law_later : PySem.W.nsIn K mainGlobals "_law_later" = some (some (.ref f_law_later)))
    (l_law_later : K.lookup f_law_later = some ⟨oc_law_later, od_law_later, .func (PySem.W.fnOf "_law_later" "_law_later" (defArgs s_law_later) (defBody s_law_later) (defScope s_law_later) .none kV_law_later dc_law_later pm_law_later an_law_later cd_law_later ct_law_later), sl_law_later⟩)
    (c_law_later : PySem.W.codeIn K cd_law_later "_law_later" = true)
    (k_law_later : PySem.W.keepIn K (.ref f_law_later) = true)
    (a_law_by : PySem.W.nsIn K mainGlobals "_law_by" = some (some (.ref f_law_by)))
    (l_law_by : K.lookup f_law_by = some ⟨oc_law_by, od_law_by, .func (PySem.W.fnOf "_law_by" "_law_by" (defArgs s_law_by) (defBody s_law_by) (defScope s_law_by) .none kV_law_by dc_law_by pm_law_by an_law_by cd_law_by ct_law_by), sl_law_by⟩)
    (c_law_by : PySem.W.codeIn K cd_law_by "_law_by" = true)
    (k_law_by : PySem.W.keepIn K (.ref f_law_by) = true)
    (a_law_in_month : PySem.W.nsIn K mainGlobals "_law_in_month" = some (some (.ref f_law_in_month)))
    (l_law_in_month : K.lookup f_law_in_month = some ⟨oc_law_in_month, od_law_in_month, .func (PySem.W.fnOf "_law_in_month" "_law_in_month" (defArgs s_law_in_month) (defBody s_law_in_month) (defScope s_law_in_month) .none kV_law_in_month dc_law_in_month pm_law_in_month an_law_in_month cd_law_in_month ct_law_in_month), sl_law_in_month⟩)
    (c_law_in_month : PySem.W.codeIn K cd_law_in_month "_law_in_month" = true)
    (k_law_in_month : PySem.W.keepIn K (.ref f_law_in_month) = true)
    (a_law : PySem.W.nsIn K mainGlobals "law" = some (some (.ref f_law)))
    (l_law : K.lookup f_law = some ⟨oc_law, od_law, .func (PySem.W.fnOf "law" "law" (defArgs s_law) (defBody s_law) (defScope s_law) .none kV_law dc_law pm_law an_law cd_law ct_law), sl_law⟩)
    (c_law : PySem.W.codeIn K cd_law "law" = true)
    (k_law : PySem.W.keepIn K (.ref f_law) = true)
    (aC_Line : PySem.W.nsIn K mainGlobals "Line" = some (some (.ref C_Line)))
    (pg_Line : PySem.W.plainGet K C_Line Str.empty = true)
    (hd_Line : PySem.W.hasDictIn K C_Line = true)
    (po_Line : PySem.W.plainOver K C_Line = true)
    (sa_Line : PySem.W.findIn K (.ref C_Line) "__setattr__" = some (some (.builtin "object.__setattr__")))
    (mk_Line : PySem.W.makesIn K C_Line = true)
    (kc_Line : PySem.W.keepIn K (.ref C_Line) = true)
    (n_Line_words : PySem.W.findIn K (.ref C_Line) "words" = some none)
    (n_Line_line : PySem.W.findIn K (.ref C_Line) "line" = some none)
    (n_Line_place : PySem.W.findIn K (.ref C_Line) "place" = some none)
    (aC_BadText : PySem.W.nsIn K mainGlobals "BadText" = some (some (.ref C_BadText)))
    (r_BadText : PySem.W.subIn K (.ref C_BadText) (.type "BaseException") = some true)
    (t_BadText : PySem.W.typeIn K (.ref C_BadText) = some (.type "type"))
    (k_BadText : PySem.W.keepIn K (.ref C_BadText) = true)
    (ic_BadText : PySem.W.isClsIn K C_BadText = true)
    (xL_BadText : K.lookup C_BadText = some (excClassObj nm_BadText q_BadText C_BadText N_BadText bs_BadText [.ref C_DaysError, .type "ValueError", .type "Exception", .type "BaseException", .type "object"] true sn_BadText sub_BadText ab_BadText col_BadText dd_BadText m0_BadText m1_BadText m2_BadText m3_BadText m5_BadText "ValueError.__new__"))
    (sa_BadText : PySem.W.findIn K (.ref C_BadText) "__setattr__" = some (some (.builtin "object.__setattr__")))
    (ga_BadText : PySem.W.findIn K (.ref C_BadText) "__getattribute__" = some (some (.builtin "BaseException.__getattribute__")))
    (gg_BadText : PySem.W.findIn K (.ref C_BadText) "__getattr__" = some none)
    (hd_BadText : PySem.W.hasDictIn K C_BadText = true)
    (tf_BadText : PySem.W.typeIn K (.ref f_BadText_init) = some (.type "function"))
    (n_BadText_line : PySem.W.findIn K (.ref C_BadText) "line" = some none)
    (n_BadText_word : PySem.W.findIn K (.ref C_BadText) "word" = some none)
    (aC_BadDate : PySem.W.nsIn K mainGlobals "BadDate" = some (some (.ref C_BadDate)))
    (r_BadDate : PySem.W.subIn K (.ref C_BadDate) (.type "BaseException") = some true)
    (t_BadDate : PySem.W.typeIn K (.ref C_BadDate) = some (.type "type"))
    (k_BadDate : PySem.W.keepIn K (.ref C_BadDate) = true)
    (ic_BadDate : PySem.W.isClsIn K C_BadDate = true)
    (xI_BadDate : PySem.W.excIn K C_BadDate [.type "ValueError", .type "Exception", .type "BaseException", .type "object"] "ValueError.__new__" = true)
    (s_BadText_BadText : PySem.W.subIn K (.ref C_BadText) (.ref C_BadText) = some true)
    (s_BadDate_BadDate : PySem.W.subIn K (.ref C_BadDate) (.ref C_BadDate) = some true)
    (aC_DaysError : PySem.W.nsIn K mainGlobals "DaysError" = some (some (.ref C_DaysError)))
    (ty_DaysError : PySem.W.typeIn K (.ref C_DaysError) = some M_DaysError)
    (rd_DaysError : PySem.W.readsIn K C_DaysError M_DaysError = true)
    (gs_DaysError : PySem.W.specialIn K (.ref C_DaysError) "__getattribute__" = some (some (.builtin "type.__getattribute__")))
    (fc_DaysError : PySem.W.findCls K (.ref C_DaysError) M_DaysError "__init__" = some (.val (.builtin "ValueError.__init__")))
    (z_len : PySem.W.nsIn K mainGlobals "len" = some none)
    (z_int : PySem.W.nsIn K mainGlobals "int" = some none)
    (z_str : PySem.W.nsIn K mainGlobals "str" = some none)
    (z_list : PySem.W.nsIn K mainGlobals "list" = some none)
    (z_range : PySem.W.nsIn K mainGlobals "range" = some none)
    (z_divmod : PySem.W.nsIn K mainGlobals "divmod" = some none)
    (z_all : PySem.W.nsIn K mainGlobals "all" = some none)
    (z_min : PySem.W.nsIn K mainGlobals "min" = some none)
    (z_isinstance : PySem.W.nsIn K mainGlobals "isinstance" = some none)
    (z_bool : PySem.W.nsIn K mainGlobals "bool" = some none)
    (z_tuple : PySem.W.nsIn K mainGlobals "tuple" = some none)
    (g_LENGTHS : PySem.W.nsIn K mainGlobals "LENGTHS" = some (some (.ref A_LENGTHS)))
    (h_LENGTHS : K.lookup A_LENGTHS = some o_LENGTHS)
    (hs_LENGTHS : absT o_LENGTHS = some ([31, 28, 31, 30, 31, 30, 31, 31, 30, 31, 30, 31].map V.int))
    (ht_LENGTHS : o_LENGTHS.cls = .type "tuple")
    (hu_LENGTHS : o_LENGTHS.dict = none)
    (g_BEFORE : PySem.W.nsIn K mainGlobals "BEFORE" = some (some (.ref A_BEFORE)))
    (h_BEFORE : K.lookup A_BEFORE = some o_BEFORE)
    (hs_BEFORE : absT o_BEFORE = some ([0, 31, 59, 90, 120, 151, 181, 212, 243, 273, 304, 334].map V.int))
    (ht_BEFORE : o_BEFORE.cls = .type "tuple")
    (hu_BEFORE : o_BEFORE.dict = none)
    (g_CYCLE_MONTHS : PySem.W.nsIn K mainGlobals "CYCLE_MONTHS" = some (some (.int 4800 tk_CYCLE_MONTHS)))
    (g_CYCLE_DAYS : PySem.W.nsIn K mainGlobals "CYCLE_DAYS" = some (some (.int 146097 tk_CYCLE_DAYS)))
    (g_DIGITS_MOST : PySem.W.nsIn K mainGlobals "DIGITS_MOST" = some (some (.int 18 tk_DIGITS_MOST)))
    (g_WEEKDAYS : PySem.W.nsIn K mainGlobals "WEEKDAYS" = some (some (.ref A_WEEKDAYS)))
    (h_WEEKDAYS : K.lookup A_WEEKDAYS = some o_WEEKDAYS)
    (hs_WEEKDAYS : absT o_WEEKDAYS = some (Wd.WD.map fun z => V.str (S z)))
    (ht_WEEKDAYS : o_WEEKDAYS.cls = .type "tuple")
    (hu_WEEKDAYS : o_WEEKDAYS.dict = none)
    (g_MONTHS : PySem.W.nsIn K mainGlobals "MONTHS" = some (some (.ref A_MONTHS)))
    (h_MONTHS : K.lookup A_MONTHS = some o_MONTHS)
    (hs_MONTHS : absT o_MONTHS = some (Wd.MO.map fun z => V.str (S z)))
    (ht_MONTHS : o_MONTHS.cls = .type "tuple")
    (hu_MONTHS : o_MONTHS.dict = none)
    (g_COUNT_MOST : PySem.W.nsIn K mainGlobals "COUNT_MOST" = some (some (.int 100000 tk_COUNT_MOST)))
    (g_DIGITS_dates : PySem.W.nsIn K mainGlobals "DIGITS_dates" = some (some (.str "0123456789" tk_DIGITS_dates)))
    (g_DIGITS_line : PySem.W.nsIn K mainGlobals "DIGITS_line" = some (some (.str "0123456789" tk_DIGITS_line)))
    (g_PLACES : PySem.W.nsIn K mainGlobals "PLACES" = some (some (.ref A_PLACES)))
    (h_PLACES : K.lookup A_PLACES = some o_PLACES)
    (hs_PLACES : absT o_PLACES = some (Wd.PL.map fun z => V.str (S z)))
    (ht_PLACES : o_PLACES.cls = .type "tuple")
    (hu_PLACES : o_PLACES.dict = none)
    (g_UNITS : PySem.W.nsIn K mainGlobals "UNITS" = some (some (.ref A_UNITS)))
    (h_UNITS : K.lookup A_UNITS = some o_UNITS)
    (hs_UNITS : absT o_UNITS = some (Wd.UN.map fun z => V.str (S z)))
    (ht_UNITS : o_UNITS.cls = .type "tuple")
    (hu_UNITS : o_UNITS.dict = none) :
    ∃ fd : FuncData, (∀ (s : Shared) (v : Value), BindsTo s fd ⟨[v], []⟩ [("script", v)]) ∧ ∀ base : Heap, K.In base → base.Ns mainGlobals mg → FnOk l.prog w K mg base CX0 14 fa fd ["script"] (sp_law K) := by
  have e := hfa.symm.trans (PySem.W.mg_of X G a_law)
  cases e
  have T : Txt K mg { f_BadText_init := f_BadText_init, d_BadText_init := (PySem.W.fnOf "__init__" "BadText.__init__" (defArgs s_BadText_init) (defBody s_BadText_init) (defScope s_BadText_init) .none kV_BadText_init dc_BadText_init pm_BadText_init an_BadText_init cd_BadText_init ct_BadText_init), f_is_leap := f_is_leap, d_is_leap := (PySem.W.fnOf "is_leap" "is_leap" (defArgs s_is_leap) (defBody s_is_leap) (defScope s_is_leap) .none kV_is_leap dc_is_leap pm_is_leap an_is_leap cd_is_leap ct_is_leap), f_year_of_month := f_year_of_month, d_year_of_month := (PySem.W.fnOf "year_of_month" "year_of_month" (defArgs s_year_of_month) (defBody s_year_of_month) (defScope s_year_of_month) .none kV_year_of_month dc_year_of_month pm_year_of_month an_year_of_month cd_year_of_month ct_year_of_month), f_month_length := f_month_length, d_month_length := (PySem.W.fnOf "month_length" "month_length" (defArgs s_month_length) (defBody s_month_length) (defScope s_month_length) .none kV_month_length dc_month_length pm_month_length an_month_length cd_month_length ct_month_length), f_first_day := f_first_day, d_first_day := (PySem.W.fnOf "first_day" "first_day" (defArgs s_first_day) (defBody s_first_day) (defScope s_first_day) .none kV_first_day dc_first_day pm_first_day an_first_day cd_first_day ct_first_day), f_month_of := f_month_of, d_month_of := (PySem.W.fnOf "month_of" "month_of" (defArgs s_month_of) (defBody s_month_of) (defScope s_month_of) .none kV_month_of dc_month_of pm_month_of an_month_of cd_month_of ct_month_of), f_day_of := f_day_of, d_day_of := (PySem.W.fnOf "day_of" "day_of" (defArgs s_day_of) (defBody s_day_of) (defScope s_day_of) .none kV_day_of dc_day_of pm_day_of an_day_of cd_day_of ct_day_of), f_weekday_of := f_weekday_of, d_weekday_of := (PySem.W.fnOf "weekday_of" "weekday_of" (defArgs s_weekday_of) (defBody s_weekday_of) (defScope s_weekday_of) .none kV_weekday_of dc_weekday_of pm_weekday_of an_weekday_of cd_weekday_of ct_weekday_of), f_nth_weekday := f_nth_weekday, d_nth_weekday := (PySem.W.fnOf "nth_weekday" "nth_weekday" (defArgs s_nth_weekday) (defBody s_nth_weekday) (defScope s_nth_weekday) .none kV_nth_weekday dc_nth_weekday pm_nth_weekday an_nth_weekday cd_nth_weekday ct_nth_weekday), f_add_months := f_add_months, d_add_months := (PySem.W.fnOf "add_months" "add_months" (defArgs s_add_months) (defBody s_add_months) (defScope s_add_months) .none kV_add_months dc_add_months pm_add_months an_add_months cd_add_months ct_add_months), f_all_digits := f_all_digits, d_all_digits := (PySem.W.fnOf "all_digits" "all_digits" (defArgs s_all_digits) (defBody s_all_digits) (defScope s_all_digits) .none kV_all_digits dc_all_digits pm_all_digits an_all_digits cd_all_digits ct_all_digits), f_read_day_word := f_read_day_word, d_read_day_word := (PySem.W.fnOf "read_day_word" "read_day_word" (defArgs s_read_day_word) (defBody s_read_day_word) (defScope s_read_day_word) .none kV_read_day_word dc_read_day_word pm_read_day_word an_read_day_word cd_read_day_word ct_read_day_word), f_read_integer := f_read_integer, d_read_integer := (PySem.W.fnOf "read_integer" "read_integer" (defArgs s_read_integer) (defBody s_read_integer) (defScope s_read_integer) .none kV_read_integer dc_read_integer pm_read_integer an_read_integer cd_read_integer ct_read_integer), f_Line_init := f_Line_init, d_Line_init := (PySem.W.fnOf "__init__" "Line.__init__" (defArgs s_Line_init) (defBody s_Line_init) (defScope s_Line_init) .none kV_Line_init dc_Line_init pm_Line_init an_Line_init cd_Line_init ct_Line_init), f_Line_upcoming := f_Line_upcoming, d_Line_upcoming := (PySem.W.fnOf "upcoming" "Line.upcoming" (defArgs s_Line_upcoming) (defBody s_Line_upcoming) (defScope s_Line_upcoming) .none kV_Line_upcoming dc_Line_upcoming pm_Line_upcoming an_Line_upcoming cd_Line_upcoming ct_Line_upcoming), f_Line_finish := f_Line_finish, d_Line_finish := (PySem.W.fnOf "finish" "Line.finish" (defArgs s_Line_finish) (defBody s_Line_finish) (defScope s_Line_finish) .none kV_Line_finish dc_Line_finish pm_Line_finish an_Line_finish cd_Line_finish ct_Line_finish), f_Line_take := f_Line_take, d_Line_take := (PySem.W.fnOf "take" "Line.take" (defArgs s_Line_take) (defBody s_Line_take) (defScope s_Line_take) .none kV_Line_take dc_Line_take pm_Line_take an_Line_take cd_Line_take ct_Line_take), f_Line_take_one_of := f_Line_take_one_of, d_Line_take_one_of := (PySem.W.fnOf "take_one_of" "Line.take_one_of" (defArgs s_Line_take_one_of) (defBody s_Line_take_one_of) (defScope s_Line_take_one_of) .none kV_Line_take_one_of dc_Line_take_one_of pm_Line_take_one_of an_Line_take_one_of cd_Line_take_one_of ct_Line_take_one_of), f_Line_take_integer := f_Line_take_integer, d_Line_take_integer := (PySem.W.fnOf "take_integer" "Line.take_integer" (defArgs s_Line_take_integer) (defBody s_Line_take_integer) (defScope s_Line_take_integer) .none kV_Line_take_integer dc_Line_take_integer pm_Line_take_integer an_Line_take_integer cd_Line_take_integer ct_Line_take_integer), f_later_by := f_later_by, d_later_by := (PySem.W.fnOf "later_by" "later_by" (defArgs s_later_by) (defBody s_later_by) (defScope s_later_by) .none kV_later_by dc_later_by pm_later_by an_later_by cd_later_by ct_later_by), f_next_weekday := f_next_weekday, d_next_weekday := (PySem.W.fnOf "next_weekday" "next_weekday" (defArgs s_next_weekday) (defBody s_next_weekday) (defScope s_next_weekday) .none kV_next_weekday dc_next_weekday pm_next_weekday an_next_weekday cd_next_weekday ct_next_weekday), f_last_weekday := f_last_weekday, d_last_weekday := (PySem.W.fnOf "last_weekday" "last_weekday" (defArgs s_last_weekday) (defBody s_last_weekday) (defScope s_last_weekday) .none kV_last_weekday dc_last_weekday pm_last_weekday an_last_weekday cd_last_weekday ct_last_weekday), f_take_month := f_take_month, d_take_month := (PySem.W.fnOf "take_month" "take_month" (defArgs s_take_month) (defBody s_take_month) (defScope s_take_month) .none kV_take_month dc_take_month pm_take_month an_take_month cd_take_month ct_take_month), f_take_in_month := f_take_in_month, d_take_in_month := (PySem.W.fnOf "take_in_month" "take_in_month" (defArgs s_take_in_month) (defBody s_take_in_month) (defScope s_take_in_month) .none kV_take_in_month dc_take_in_month pm_take_in_month an_take_in_month cd_take_in_month ct_take_in_month), f_take_when := f_take_when, d_take_when := (PySem.W.fnOf "take_when" "take_when" (defArgs s_take_when) (defBody s_take_when) (defScope s_take_when) .none kV_take_when dc_take_when pm_take_when an_take_when cd_take_when ct_take_when), f_read_when := f_read_when, d_read_when := (PySem.W.fnOf "read_when" "read_when" (defArgs s_read_when) (defBody s_read_when) (defScope s_read_when) .none kV_read_when dc_read_when pm_read_when an_read_when cd_read_when ct_read_when), f_law_is := f_law_is, d_law_is := (PySem.W.fnOf "_law_is" "_law_is" (defArgs s_law_is) (defBody s_law_is) (defScope s_law_is) .none kV_law_is dc_law_is pm_law_is an_law_is cd_law_is ct_law_is), f_law_draw := f_law_draw, d_law_draw := (PySem.W.fnOf "_law_draw" "_law_draw" (defArgs s_law_draw) (defBody s_law_draw) (defScope s_law_draw) .none kV_law_draw dc_law_draw pm_law_draw an_law_draw cd_law_draw ct_law_draw), f_law_tape := f_law_tape, d_law_tape := (PySem.W.fnOf "_law_tape" "_law_tape" (defArgs s_law_tape) (defBody s_law_tape) (defScope s_law_tape) .none kV_law_tape dc_law_tape pm_law_tape an_law_tape cd_law_tape ct_law_tape), f_law_mod := f_law_mod, d_law_mod := (PySem.W.fnOf "_law_mod" "_law_mod" (defArgs s_law_mod) (defBody s_law_mod) (defScope s_law_mod) .none kV_law_mod dc_law_mod pm_law_mod an_law_mod cd_law_mod ct_law_mod), f_law_leap := f_law_leap, d_law_leap := (PySem.W.fnOf "_law_leap" "_law_leap" (defArgs s_law_leap) (defBody s_law_leap) (defScope s_law_leap) .none kV_law_leap dc_law_leap pm_law_leap an_law_leap cd_law_leap ct_law_leap), f_law_length := f_law_length, d_law_length := (PySem.W.fnOf "_law_length" "_law_length" (defArgs s_law_length) (defBody s_law_length) (defScope s_law_length) .none kV_law_length dc_law_length pm_law_length an_law_length cd_law_length ct_law_length), f_law_year_first := f_law_year_first, d_law_year_first := (PySem.W.fnOf "_law_year_first" "_law_year_first" (defArgs s_law_year_first) (defBody s_law_year_first) (defScope s_law_year_first) .none kV_law_year_first dc_law_year_first pm_law_year_first an_law_year_first cd_law_year_first ct_law_year_first), f_law_month_first := f_law_month_first, d_law_month_first := (PySem.W.fnOf "_law_month_first" "_law_month_first" (defArgs s_law_month_first) (defBody s_law_month_first) (defScope s_law_month_first) .none kV_law_month_first dc_law_month_first pm_law_month_first an_law_month_first cd_law_month_first ct_law_month_first), f_law_month_at := f_law_month_at, d_law_month_at := (PySem.W.fnOf "_law_month_at" "_law_month_at" (defArgs s_law_month_at) (defBody s_law_month_at) (defScope s_law_month_at) .none kV_law_month_at dc_law_month_at pm_law_month_at an_law_month_at cd_law_month_at ct_law_month_at), f_law_digits2 := f_law_digits2, d_law_digits2 := (PySem.W.fnOf "_law_digits2" "_law_digits2" (defArgs s_law_digits2) (defBody s_law_digits2) (defScope s_law_digits2) .none kV_law_digits2 dc_law_digits2 pm_law_digits2 an_law_digits2 cd_law_digits2 ct_law_digits2), f_law_day_text := f_law_day_text, d_law_day_text := (PySem.W.fnOf "_law_day_text" "_law_day_text" (defArgs s_law_day_text) (defBody s_law_day_text) (defScope s_law_day_text) .none kV_law_day_text dc_law_day_text pm_law_day_text an_law_day_text cd_law_day_text ct_law_day_text), f_law_told := f_law_told, d_law_told := (PySem.W.fnOf "_law_told" "_law_told" (defArgs s_law_told) (defBody s_law_told) (defScope s_law_told) .none kV_law_told dc_law_told pm_law_told an_law_told cd_law_told ct_law_told), f_law_later := f_law_later, d_law_later := (PySem.W.fnOf "_law_later" "_law_later" (defArgs s_law_later) (defBody s_law_later) (defScope s_law_later) .none kV_law_later dc_law_later pm_law_later an_law_later cd_law_later ct_law_later), f_law_by := f_law_by, d_law_by := (PySem.W.fnOf "_law_by" "_law_by" (defArgs s_law_by) (defBody s_law_by) (defScope s_law_by) .none kV_law_by dc_law_by pm_law_by an_law_by cd_law_by ct_law_by), f_law_in_month := f_law_in_month, d_law_in_month := (PySem.W.fnOf "_law_in_month" "_law_in_month" (defArgs s_law_in_month) (defBody s_law_in_month) (defScope s_law_in_month) .none kV_law_in_month dc_law_in_month pm_law_in_month an_law_in_month cd_law_in_month ct_law_in_month), f_law := fa, d_law := (PySem.W.fnOf "law" "law" (defArgs s_law) (defBody s_law) (defScope s_law) .none kV_law dc_law pm_law an_law cd_law ct_law), C_Line := C_Line, C_BadText := C_BadText, C_BadDate := C_BadDate, C_DaysError := C_DaysError, A_LENGTHS := A_LENGTHS, A_BEFORE := A_BEFORE, A_WEEKDAYS := A_WEEKDAYS, A_MONTHS := A_MONTHS, A_PLACES := A_PLACES, A_UNITS := A_UNITS, M_DaysError := M_DaysError } := {
    F_BadText_init := fun_mk (st := s_BadText_init) l_BadText_init c_BadText_init k_BadText_init
    b_BadText_init := (fun_mk (st := s_BadText_init) l_BadText_init c_BadText_init k_BadText_init).binds (ps := ["self", "line", "word"]) fun _ _ _ _ _ _ us hl => match us, hl with | [_, _, _], _ => rfl
    F_is_leap := fun_mk (st := s_is_leap) l_is_leap c_is_leap k_is_leap
    b_is_leap := (fun_mk (st := s_is_leap) l_is_leap c_is_leap k_is_leap).binds (ps := ["year"]) fun _ _ _ _ _ _ us hl => match us, hl with | [_], _ => rfl
    g_is_leap := PySem.W.mg_of X G a_is_leap
    F_year_of_month := fun_mk (st := s_year_of_month) l_year_of_month c_year_of_month k_year_of_month
    b_year_of_month := (fun_mk (st := s_year_of_month) l_year_of_month c_year_of_month k_year_of_month).binds (ps := ["m"]) fun _ _ _ _ _ _ us hl => match us, hl with | [_], _ => rfl
    g_year_of_month := PySem.W.mg_of X G a_year_of_month
    F_month_length := fun_mk (st := s_month_length) l_month_length c_month_length k_month_length
    b_month_length := (fun_mk (st := s_month_length) l_month_length c_month_length k_month_length).binds (ps := ["m"]) fun _ _ _ _ _ _ us hl => match us, hl with | [_], _ => rfl
    g_month_length := PySem.W.mg_of X G a_month_length
    F_first_day := fun_mk (st := s_first_day) l_first_day c_first_day k_first_day
    b_first_day := (fun_mk (st := s_first_day) l_first_day c_first_day k_first_day).binds (ps := ["m"]) fun _ _ _ _ _ _ us hl => match us, hl with | [_], _ => rfl
    g_first_day := PySem.W.mg_of X G a_first_day
    F_month_of := fun_mk (st := s_month_of) l_month_of c_month_of k_month_of
    b_month_of := (fun_mk (st := s_month_of) l_month_of c_month_of k_month_of).binds (ps := ["day"]) fun _ _ _ _ _ _ us hl => match us, hl with | [_], _ => rfl
    g_month_of := PySem.W.mg_of X G a_month_of
    F_day_of := fun_mk (st := s_day_of) l_day_of c_day_of k_day_of
    b_day_of := (fun_mk (st := s_day_of) l_day_of c_day_of k_day_of).binds (ps := ["year", "month", "date"]) fun _ _ _ _ _ _ us hl => match us, hl with | [_, _, _], _ => rfl
    g_day_of := PySem.W.mg_of X G a_day_of
    F_weekday_of := fun_mk (st := s_weekday_of) l_weekday_of c_weekday_of k_weekday_of
    b_weekday_of := (fun_mk (st := s_weekday_of) l_weekday_of c_weekday_of k_weekday_of).binds (ps := ["day"]) fun _ _ _ _ _ _ us hl => match us, hl with | [_], _ => rfl
    g_weekday_of := PySem.W.mg_of X G a_weekday_of
    F_nth_weekday := fun_mk (st := s_nth_weekday) l_nth_weekday c_nth_weekday k_nth_weekday
    b_nth_weekday := (fun_mk (st := s_nth_weekday) l_nth_weekday c_nth_weekday k_nth_weekday).binds (ps := ["m", "k", "weekday"]) fun _ _ _ _ _ _ us hl => match us, hl with | [_, _, _], _ => rfl
    g_nth_weekday := PySem.W.mg_of X G a_nth_weekday
    F_add_months := fun_mk (st := s_add_months) l_add_months c_add_months k_add_months
    b_add_months := (fun_mk (st := s_add_months) l_add_months c_add_months k_add_months).binds (ps := ["day", "k"]) fun _ _ _ _ _ _ us hl => match us, hl with | [_, _], _ => rfl
    g_add_months := PySem.W.mg_of X G a_add_months
    F_all_digits := fun_mk (st := s_all_digits) l_all_digits c_all_digits k_all_digits
    b_all_digits := (fun_mk (st := s_all_digits) l_all_digits c_all_digits k_all_digits).binds (ps := ["word"]) fun _ _ _ _ _ _ us hl => match us, hl with | [_], _ => rfl
    g_all_digits := PySem.W.mg_of X G a_all_digits
    F_read_day_word := fun_mk (st := s_read_day_word) l_read_day_word c_read_day_word k_read_day_word
    b_read_day_word := (fun_mk (st := s_read_day_word) l_read_day_word c_read_day_word k_read_day_word).binds (ps := ["word"]) fun _ _ _ _ _ _ us hl => match us, hl with | [_], _ => rfl
    g_read_day_word := PySem.W.mg_of X G a_read_day_word
    F_read_integer := fun_mk (st := s_read_integer) l_read_integer c_read_integer k_read_integer
    b_read_integer := (fun_mk (st := s_read_integer) l_read_integer c_read_integer k_read_integer).binds (ps := ["word"]) fun _ _ _ _ _ _ us hl => match us, hl with | [_], _ => rfl
    g_read_integer := PySem.W.mg_of X G a_read_integer
    F_Line_init := fun_mk (st := s_Line_init) l_Line_init c_Line_init k_Line_init
    b_Line_init := (fun_mk (st := s_Line_init) l_Line_init c_Line_init k_Line_init).binds (ps := ["self", "text", "line"]) fun _ _ _ _ _ _ us hl => match us, hl with | [_, _, _], _ => rfl
    M_Line := ⟨mk_Line, a_Line_init, i_Line_init, kc_Line⟩
    F_Line_upcoming := fun_mk (st := s_Line_upcoming) l_Line_upcoming c_Line_upcoming k_Line_upcoming
    b_Line_upcoming := (fun_mk (st := s_Line_upcoming) l_Line_upcoming c_Line_upcoming k_Line_upcoming).binds (ps := ["self"]) fun _ _ _ _ _ _ us hl => match us, hl with | [_], _ => rfl
    m_Line_upcoming := ⟨a_Line_upcoming, i_Line_upcoming, k_Line_upcoming⟩
    F_Line_finish := fun_mk (st := s_Line_finish) l_Line_finish c_Line_finish k_Line_finish
    b_Line_finish := (fun_mk (st := s_Line_finish) l_Line_finish c_Line_finish k_Line_finish).binds (ps := ["self"]) fun _ _ _ _ _ _ us hl => match us, hl with | [_], _ => rfl
    m_Line_finish := ⟨a_Line_finish, i_Line_finish, k_Line_finish⟩
    F_Line_take := fun_mk (st := s_Line_take) l_Line_take c_Line_take k_Line_take
    b_Line_take := (fun_mk (st := s_Line_take) l_Line_take c_Line_take k_Line_take).binds (ps := ["self"]) fun _ _ _ _ _ _ us hl => match us, hl with | [_], _ => rfl
    m_Line_take := ⟨a_Line_take, i_Line_take, k_Line_take⟩
    F_Line_take_one_of := fun_mk (st := s_Line_take_one_of) l_Line_take_one_of c_Line_take_one_of k_Line_take_one_of
    b_Line_take_one_of := (fun_mk (st := s_Line_take_one_of) l_Line_take_one_of c_Line_take_one_of k_Line_take_one_of).binds (ps := ["self", "expected"]) fun _ _ _ _ _ _ us hl => match us, hl with | [_, _], _ => rfl
    m_Line_take_one_of := ⟨a_Line_take_one_of, i_Line_take_one_of, k_Line_take_one_of⟩
    F_Line_take_integer := fun_mk (st := s_Line_take_integer) l_Line_take_integer c_Line_take_integer k_Line_take_integer
    b_Line_take_integer := (fun_mk (st := s_Line_take_integer) l_Line_take_integer c_Line_take_integer k_Line_take_integer).binds (ps := ["self", "least", "most"]) fun _ _ _ _ _ _ us hl => match us, hl with | [_, _, _], _ => rfl
    m_Line_take_integer := ⟨a_Line_take_integer, i_Line_take_integer, k_Line_take_integer⟩
    F_later_by := fun_mk (st := s_later_by) l_later_by c_later_by k_later_by
    b_later_by := (fun_mk (st := s_later_by) l_later_by c_later_by k_later_by).binds (ps := ["day", "n", "unit"]) fun _ _ _ _ _ _ us hl => match us, hl with | [_, _, _], _ => rfl
    g_later_by := PySem.W.mg_of X G a_later_by
    F_next_weekday := fun_mk (st := s_next_weekday) l_next_weekday c_next_weekday k_next_weekday
    b_next_weekday := (fun_mk (st := s_next_weekday) l_next_weekday c_next_weekday k_next_weekday).binds (ps := ["day", "weekday"]) fun _ _ _ _ _ _ us hl => match us, hl with | [_, _], _ => rfl
    g_next_weekday := PySem.W.mg_of X G a_next_weekday
    F_last_weekday := fun_mk (st := s_last_weekday) l_last_weekday c_last_weekday k_last_weekday
    b_last_weekday := (fun_mk (st := s_last_weekday) l_last_weekday c_last_weekday k_last_weekday).binds (ps := ["day", "weekday"]) fun _ _ _ _ _ _ us hl => match us, hl with | [_, _], _ => rfl
    g_last_weekday := PySem.W.mg_of X G a_last_weekday
    F_take_month := fun_mk (st := s_take_month) l_take_month c_take_month k_take_month
    b_take_month := (fun_mk (st := s_take_month) l_take_month c_take_month k_take_month).binds (ps := ["line", "today"]) fun _ _ _ _ _ _ us hl => match us, hl with | [_, _], _ => rfl
    g_take_month := PySem.W.mg_of X G a_take_month
    F_take_in_month := fun_mk (st := s_take_in_month) l_take_in_month c_take_in_month k_take_in_month
    b_take_in_month := (fun_mk (st := s_take_in_month) l_take_in_month c_take_in_month k_take_in_month).binds (ps := ["line", "today", "k"]) fun _ _ _ _ _ _ us hl => match us, hl with | [_, _, _], _ => rfl
    g_take_in_month := PySem.W.mg_of X G a_take_in_month
    F_take_when := fun_mk (st := s_take_when) l_take_when c_take_when k_take_when
    b_take_when := (fun_mk (st := s_take_when) l_take_when c_take_when k_take_when).binds (ps := ["line", "today"]) fun _ _ _ _ _ _ us hl => match us, hl with | [_, _], _ => rfl
    g_take_when := PySem.W.mg_of X G a_take_when
    F_read_when := fun_mk (st := s_read_when) l_read_when c_read_when k_read_when
    b_read_when := (fun_mk (st := s_read_when) l_read_when c_read_when k_read_when).binds (ps := ["text", "today"]) fun _ _ _ _ _ _ us hl => match us, hl with | [_, _], _ => rfl
    g_read_when := PySem.W.mg_of X G a_read_when
    F_law_is := fun_mk (st := s_law_is) l_law_is c_law_is k_law_is
    b_law_is := (fun_mk (st := s_law_is) l_law_is c_law_is k_law_is).binds (ps := ["told", "due"]) fun _ _ _ _ _ _ us hl => match us, hl with | [_, _], _ => rfl
    g_law_is := PySem.W.mg_of X G a_law_is
    F_law_draw := fun_mk (st := s_law_draw) l_law_draw c_law_draw k_law_draw
    b_law_draw := (fun_mk (st := s_law_draw) l_law_draw c_law_draw k_law_draw).binds (ps := ["tape", "many"]) fun _ _ _ _ _ _ us hl => match us, hl with | [_, _], _ => rfl
    g_law_draw := PySem.W.mg_of X G a_law_draw
    F_law_tape := fun_mk (st := s_law_tape) l_law_tape c_law_tape k_law_tape
    b_law_tape := (fun_mk (st := s_law_tape) l_law_tape c_law_tape k_law_tape).binds (ps := ["script"]) fun _ _ _ _ _ _ us hl => match us, hl with | [_], _ => rfl
    g_law_tape := PySem.W.mg_of X G a_law_tape
    F_law_mod := fun_mk (st := s_law_mod) l_law_mod c_law_mod k_law_mod
    b_law_mod := (fun_mk (st := s_law_mod) l_law_mod c_law_mod k_law_mod).binds (ps := ["a", "n"]) fun _ _ _ _ _ _ us hl => match us, hl with | [_, _], _ => rfl
    g_law_mod := PySem.W.mg_of X G a_law_mod
    F_law_leap := fun_mk (st := s_law_leap) l_law_leap c_law_leap k_law_leap
    b_law_leap := (fun_mk (st := s_law_leap) l_law_leap c_law_leap k_law_leap).binds (ps := ["calendar", "y"]) fun _ _ _ _ _ _ us hl => match us, hl with | [_, _], _ => rfl
    g_law_leap := PySem.W.mg_of X G a_law_leap
    F_law_length := fun_mk (st := s_law_length) l_law_length c_law_length k_law_length
    b_law_length := (fun_mk (st := s_law_length) l_law_length c_law_length k_law_length).binds (ps := ["calendar", "m"]) fun _ _ _ _ _ _ us hl => match us, hl with | [_, _], _ => rfl
    g_law_length := PySem.W.mg_of X G a_law_length
    F_law_year_first := fun_mk (st := s_law_year_first) l_law_year_first c_law_year_first k_law_year_first
    b_law_year_first := (fun_mk (st := s_law_year_first) l_law_year_first c_law_year_first k_law_year_first).binds (ps := ["calendar", "y"]) fun _ _ _ _ _ _ us hl => match us, hl with | [_, _], _ => rfl
    g_law_year_first := PySem.W.mg_of X G a_law_year_first
    F_law_month_first := fun_mk (st := s_law_month_first) l_law_month_first c_law_month_first k_law_month_first
    b_law_month_first := (fun_mk (st := s_law_month_first) l_law_month_first c_law_month_first k_law_month_first).binds (ps := ["calendar", "m"]) fun _ _ _ _ _ _ us hl => match us, hl with | [_, _], _ => rfl
    g_law_month_first := PySem.W.mg_of X G a_law_month_first
    F_law_month_at := fun_mk (st := s_law_month_at) l_law_month_at c_law_month_at k_law_month_at
    b_law_month_at := (fun_mk (st := s_law_month_at) l_law_month_at c_law_month_at k_law_month_at).binds (ps := ["calendar", "day"]) fun _ _ _ _ _ _ us hl => match us, hl with | [_, _], _ => rfl
    g_law_month_at := PySem.W.mg_of X G a_law_month_at
    F_law_digits2 := fun_mk (st := s_law_digits2) l_law_digits2 c_law_digits2 k_law_digits2
    b_law_digits2 := (fun_mk (st := s_law_digits2) l_law_digits2 c_law_digits2 k_law_digits2).binds (ps := ["n", "many"]) fun _ _ _ _ _ _ us hl => match us, hl with | [_, _], _ => rfl
    g_law_digits2 := PySem.W.mg_of X G a_law_digits2
    F_law_day_text := fun_mk (st := s_law_day_text) l_law_day_text c_law_day_text k_law_day_text
    b_law_day_text := (fun_mk (st := s_law_day_text) l_law_day_text c_law_day_text k_law_day_text).binds (ps := ["day"]) fun _ _ _ _ _ _ us hl => match us, hl with | [_], _ => rfl
    g_law_day_text := PySem.W.mg_of X G a_law_day_text
    F_law_told := fun_mk (st := s_law_told) l_law_told c_law_told k_law_told
    b_law_told := (fun_mk (st := s_law_told) l_law_told c_law_told k_law_told).binds (ps := ["text", "today"]) fun _ _ _ _ _ _ us hl => match us, hl with | [_, _], _ => rfl
    g_law_told := PySem.W.mg_of X G a_law_told
    F_law_later := fun_mk (st := s_law_later) l_law_later c_law_later k_law_later
    b_law_later := (fun_mk (st := s_law_later) l_law_later c_law_later k_law_later).binds (ps := ["day", "k"]) fun _ _ _ _ _ _ us hl => match us, hl with | [_, _], _ => rfl
    g_law_later := PySem.W.mg_of X G a_law_later
    F_law_by := fun_mk (st := s_law_by) l_law_by c_law_by k_law_by
    b_law_by := (fun_mk (st := s_law_by) l_law_by c_law_by k_law_by).binds (ps := ["today", "n", "unit"]) fun _ _ _ _ _ _ us hl => match us, hl with | [_, _, _], _ => rfl
    g_law_by := PySem.W.mg_of X G a_law_by
    F_law_in_month := fun_mk (st := s_law_in_month) l_law_in_month c_law_in_month k_law_in_month
    b_law_in_month := (fun_mk (st := s_law_in_month) l_law_in_month c_law_in_month k_law_in_month).binds (ps := ["m", "place", "word", "weekdays"]) fun _ _ _ _ _ _ us hl => match us, hl with | [_, _, _, _], _ => rfl
    g_law_in_month := PySem.W.mg_of X G a_law_in_month
    F_law := fun_mk (st := s_law) l_law c_law k_law
    b_law := (fun_mk (st := s_law) l_law c_law k_law).binds (ps := ["script"]) fun _ _ _ _ _ _ us hl => match us, hl with | [_], _ => rfl
    g_law := PySem.W.mg_of X G a_law
    c_Line := ⟨pg_Line, hd_Line, po_Line, sa_Line⟩
    g_Line := PySem.W.mg_of X G aC_Line
    n_Line_words := n_Line_words
    n_Line_line := n_Line_line
    n_Line_place := n_Line_place
    r_BadText := r_BadText
    t_BadText := t_BadText
    k_BadText := k_BadText
    g_BadText := PySem.W.mg_of X G aC_BadText
    x_BadText := ⟨⟨nm_BadText, q_BadText, N_BadText, bs_BadText, _, sn_BadText, sub_BadText, ab_BadText, col_BadText, dd_BadText, m0_BadText, m1_BadText, m2_BadText, m3_BadText, m5_BadText, xL_BadText, rfl⟩, sa_BadText, r_BadText, t_BadText, k_BadText⟩
    y_BadText := ⟨ga_BadText, gg_BadText, r_BadText, hd_BadText⟩
    i_BadText := a_BadText_init
    u_BadText := tf_BadText
    n_BadText_line := n_BadText_line
    n_BadText_word := n_BadText_word
    r_BadDate := r_BadDate
    t_BadDate := t_BadDate
    k_BadDate := k_BadDate
    g_BadDate := PySem.W.mg_of X G aC_BadDate
    x_BadDate := xI_BadDate
    e_BadText_BadText := exm_sub r_BadText ic_BadText t_BadText s_BadText_BadText
    e_BadDate_BadDate := exm_sub r_BadDate ic_BadDate t_BadDate s_BadDate_BadDate
    g_DaysError := PySem.W.mg_of X G aC_DaysError
    B_DaysError := ⟨rd_DaysError, gs_DaysError, fc_DaysError⟩
    z_len := PySem.W.mg_none_of X G z_len
    z_int := PySem.W.mg_none_of X G z_int
    z_str := PySem.W.mg_none_of X G z_str
    z_list := PySem.W.mg_none_of X G z_list
    z_range := PySem.W.mg_none_of X G z_range
    z_divmod := PySem.W.mg_none_of X G z_divmod
    z_all := PySem.W.mg_none_of X G z_all
    z_min := PySem.W.mg_none_of X G z_min
    z_isinstance := PySem.W.mg_none_of X G z_isinstance
    z_bool := PySem.W.mg_none_of X G z_bool
    z_tuple := PySem.W.mg_none_of X G z_tuple
    g_LENGTHS := PySem.W.mg_of X G g_LENGTHS
    h_LENGTHS := fun H => sqT_of h_LENGTHS hs_LENGTHS
    k_LENGTHS := ⟨_, h_LENGTHS, ht_LENGTHS, hu_LENGTHS⟩
    g_BEFORE := PySem.W.mg_of X G g_BEFORE
    h_BEFORE := fun H => sqT_of h_BEFORE hs_BEFORE
    k_BEFORE := ⟨_, h_BEFORE, ht_BEFORE, hu_BEFORE⟩
    g_CYCLE_MONTHS := ⟨_, PySem.W.mg_of X G g_CYCLE_MONTHS, _, rfl⟩
    g_CYCLE_DAYS := ⟨_, PySem.W.mg_of X G g_CYCLE_DAYS, _, rfl⟩
    g_DIGITS_MOST := ⟨_, PySem.W.mg_of X G g_DIGITS_MOST, _, rfl⟩
    g_WEEKDAYS := PySem.W.mg_of X G g_WEEKDAYS
    h_WEEKDAYS := fun H => sqT_of h_WEEKDAYS hs_WEEKDAYS
    k_WEEKDAYS := ⟨_, h_WEEKDAYS, ht_WEEKDAYS, hu_WEEKDAYS⟩
    g_MONTHS := PySem.W.mg_of X G g_MONTHS
    h_MONTHS := fun H => sqT_of h_MONTHS hs_MONTHS
    k_MONTHS := ⟨_, h_MONTHS, ht_MONTHS, hu_MONTHS⟩
    g_COUNT_MOST := ⟨_, PySem.W.mg_of X G g_COUNT_MOST, _, rfl⟩
    g_DIGITS_dates := ⟨_, PySem.W.mg_of X G g_DIGITS_dates, _, rfl⟩
    g_DIGITS_line := ⟨_, PySem.W.mg_of X G g_DIGITS_line, _, rfl⟩
    g_PLACES := PySem.W.mg_of X G g_PLACES
    h_PLACES := fun H => sqT_of h_PLACES hs_PLACES
    k_PLACES := ⟨_, h_PLACES, ht_PLACES, hu_PLACES⟩
    g_UNITS := PySem.W.mg_of X G g_UNITS
    h_UNITS := fun H => sqT_of h_UNITS hs_UNITS
    k_UNITS := ⟨_, h_UNITS, ht_UNITS, hu_UNITS⟩ }
  exact ⟨_, fun s v => .of_eq rfl, fun base _ _ => ok_law T⟩

end Q
open PySem PySem.W PyProof.Rows in
set_option maxRecDepth 100000 in
set_option maxHeartbeats 0 in
theorem PySem.Challenge.cw_everdays_k82_days_told_from_today_holds : PySem.Challenge.rw_everdays_k82_days_told_from_today.Holds := by
  w_on; o_law; k_head; (case hw => w_witness2)
  k_fill
  refine L2.walk_of (l := PySem.Challenge.rw_everdays_k82_days_told_from_today) (n := 63) (k := 14) (x := "script") (CX := fun _ => L2.CX0) (sp := fun w => Q.sp_law _) rfl (by decide) rfl ⟨rfl, by decide, by decide⟩ (fun w h Y => PySem.W.kIn_of Y) ?F (fun _ _ a ns hl _ hS => ⟨a, ns, rfl, hS, hl, fun _ => rfl⟩) (fun _ _ _ _ _ h => h)
  case F =>
    intro w mg fa h KX G hmg
    refine' Q.all_mk KX G hmg ?a_BadText_init ?l_BadText_init ?c_BadText_init ?k_BadText_init ?i_BadText_init ?a_is_leap ?l_is_leap ?c_is_leap ?k_is_leap ?a_year_of_month ?l_year_of_month ?c_year_of_month ?k_year_of_month ?a_month_length ?l_month_length ?c_month_length ?k_month_length ?a_first_day ?l_first_day ?c_first_day ?k_first_day ?a_month_of ?l_month_of ?c_month_of ?k_month_of ?a_day_of ?l_day_of ?c_day_of ?k_day_of ?a_weekday_of ?l_weekday_of ?c_weekday_of ?k_weekday_of ?a_nth_weekday ?l_nth_weekday ?c_nth_weekday ?k_nth_weekday ?a_add_months ?l_add_months ?c_add_months ?k_add_months ?a_all_digits ?l_all_digits ?c_all_digits ?k_all_digits ?a_read_day_word ?l_read_day_word ?c_read_day_word ?k_read_day_word ?a_read_integer ?l_read_integer ?c_read_integer ?k_read_integer ?a_Line_init ?l_Line_init ?c_Line_init ?k_Line_init ?i_Line_init ?a_Line_upcoming ?l_Line_upcoming ?c_Line_upcoming ?k_Line_upcoming ?i_Line_upcoming ?a_Line_finish ?l_Line_finish ?c_Line_finish ?k_Line_finish ?i_Line_finish ?a_Line_take ?l_Line_take ?c_Line_take ?k_Line_take ?i_Line_take ?a_Line_take_one_of ?l_Line_take_one_of ?c_Line_take_one_of ?k_Line_take_one_of ?i_Line_take_one_of ?a_Line_take_integer ?l_Line_take_integer ?c_Line_take_integer ?k_Line_take_integer ?i_Line_take_integer ?a_later_by ?l_later_by ?c_later_by ?k_later_by ?a_next_weekday ?l_next_weekday ?c_next_weekday ?k_next_weekday ?a_last_weekday ?l_last_weekday ?c_last_weekday ?k_last_weekday ?a_take_month ?l_take_month ?c_take_month ?k_take_month ?a_take_in_month ?l_take_in_month ?c_take_in_month ?k_take_in_month ?a_take_when ?l_take_when ?c_take_when ?k_take_when ?a_read_when ?l_read_when ?c_read_when ?k_read_when ?a_law_is ?l_law_is ?c_law_is ?k_law_is ?a_law_draw ?l_law_draw ?c_law_draw ?k_law_draw ?a_law_tape ?l_law_tape ?c_law_tape ?k_law_tape ?a_law_mod ?l_law_mod ?c_law_mod ?k_law_mod ?a_law_leap ?l_law_leap ?c_law_leap ?k_law_leap ?a_law_length ?l_law_length ?c_law_length ?k_law_length ?a_law_year_first ?l_law_year_first ?c_law_year_first ?k_law_year_first ?a_law_month_first ?l_law_month_first ?c_law_month_first ?k_law_month_first ?a_law_month_at ?l_law_month_at ?c_law_month_at ?k_law_month_at ?a_law_digits2 ?l_law_digits2 ?c_law_digits2 ?k_law_digits2 ?a_law_day_text ?l_law_day_text ?c_law_day_text ?k_law_day_text ?a_law_told ?l_law_told ?c_law_told ?k_law_told ?a_law_later ?l_law_later ?c_law_later ?k_law_later ?a_law_by ?l_law_by ?c_law_by ?k_law_by ?a_law_in_month ?l_law_in_month ?c_law_in_month ?k_law_in_month ?a_law ?l_law ?c_law ?k_law ?aC_Line ?pg_Line ?hd_Line ?po_Line ?sa_Line ?mk_Line ?kc_Line ?n_Line_words ?n_Line_line ?n_Line_place ?aC_BadText ?r_BadText ?t_BadText ?k_BadText ?ic_BadText ?xL_BadText ?sa_BadText ?ga_BadText ?gg_BadText ?hd_BadText ?tf_BadText ?n_BadText_line ?n_BadText_word ?aC_BadDate ?r_BadDate ?t_BadDate ?k_BadDate ?ic_BadDate ?xI_BadDate ?s_BadText_BadText ?s_BadDate_BadDate ?aC_DaysError ?ty_DaysError ?rd_DaysError ?gs_DaysError ?fc_DaysError ?z_len ?z_int ?z_str ?z_list ?z_range ?z_divmod ?z_all ?z_min ?z_isinstance ?z_bool ?z_tuple ?g_LENGTHS ?h_LENGTHS ?hs_LENGTHS ?ht_LENGTHS ?hu_LENGTHS ?g_BEFORE ?h_BEFORE ?hs_BEFORE ?ht_BEFORE ?hu_BEFORE ?g_CYCLE_MONTHS ?g_CYCLE_DAYS ?g_DIGITS_MOST ?g_WEEKDAYS ?h_WEEKDAYS ?hs_WEEKDAYS ?ht_WEEKDAYS ?hu_WEEKDAYS ?g_MONTHS ?h_MONTHS ?hs_MONTHS ?ht_MONTHS ?hu_MONTHS ?g_COUNT_MOST ?g_DIGITS_dates ?g_DIGITS_line ?g_PLACES ?h_PLACES ?hs_PLACES ?ht_PLACES ?hu_PLACES ?g_UNITS ?h_UNITS ?hs_UNITS ?ht_UNITS ?hu_UNITS
    (case aC_Line => k_is)
    (case aC_BadText => k_is)
    (case aC_BadDate => k_is)
    (case aC_DaysError => k_is)
    (case ty_DaysError => k_is)
    (case a_BadText_init => k_is)
    (case l_BadText_init => k_is)
    (case c_BadText_init => k_is)
    (case k_BadText_init => k_is)
    (case i_BadText_init => k_is)
    (case a_is_leap => k_is)
    (case l_is_leap => k_is)
    (case c_is_leap => k_is)
    (case k_is_leap => k_is)
    (case a_year_of_month => k_is)
    (case l_year_of_month => k_is)
    (case c_year_of_month => k_is)
    (case k_year_of_month => k_is)
    (case a_month_length => k_is)
    (case l_month_length => k_is)
    (case c_month_length => k_is)
    (case k_month_length => k_is)
    (case a_first_day => k_is)
    (case l_first_day => k_is)
    (case c_first_day => k_is)
    (case k_first_day => k_is)
    (case a_month_of => k_is)
    (case l_month_of => k_is)
    (case c_month_of => k_is)
    (case k_month_of => k_is)
    (case a_day_of => k_is)
    (case l_day_of => k_is)
    (case c_day_of => k_is)
    (case k_day_of => k_is)
    (case a_weekday_of => k_is)
    (case l_weekday_of => k_is)
    (case c_weekday_of => k_is)
    (case k_weekday_of => k_is)
    (case a_nth_weekday => k_is)
    (case l_nth_weekday => k_is)
    (case c_nth_weekday => k_is)
    (case k_nth_weekday => k_is)
    (case a_add_months => k_is)
    (case l_add_months => k_is)
    (case c_add_months => k_is)
    (case k_add_months => k_is)
    (case a_all_digits => k_is)
    (case l_all_digits => k_is)
    (case c_all_digits => k_is)
    (case k_all_digits => k_is)
    (case a_read_day_word => k_is)
    (case l_read_day_word => k_is)
    (case c_read_day_word => k_is)
    (case k_read_day_word => k_is)
    (case a_read_integer => k_is)
    (case l_read_integer => k_is)
    (case c_read_integer => k_is)
    (case k_read_integer => k_is)
    (case a_Line_init => k_is)
    (case l_Line_init => k_is)
    (case c_Line_init => k_is)
    (case k_Line_init => k_is)
    (case i_Line_init => k_is)
    (case a_Line_upcoming => k_is)
    (case l_Line_upcoming => k_is)
    (case c_Line_upcoming => k_is)
    (case k_Line_upcoming => k_is)
    (case i_Line_upcoming => k_is)
    (case a_Line_finish => k_is)
    (case l_Line_finish => k_is)
    (case c_Line_finish => k_is)
    (case k_Line_finish => k_is)
    (case i_Line_finish => k_is)
    (case a_Line_take => k_is)
    (case l_Line_take => k_is)
    (case c_Line_take => k_is)
    (case k_Line_take => k_is)
    (case i_Line_take => k_is)
    (case a_Line_take_one_of => k_is)
    (case l_Line_take_one_of => k_is)
    (case c_Line_take_one_of => k_is)
    (case k_Line_take_one_of => k_is)
    (case i_Line_take_one_of => k_is)
    (case a_Line_take_integer => k_is)
    (case l_Line_take_integer => k_is)
    (case c_Line_take_integer => k_is)
    (case k_Line_take_integer => k_is)
    (case i_Line_take_integer => k_is)
    (case a_later_by => k_is)
    (case l_later_by => k_is)
    (case c_later_by => k_is)
    (case k_later_by => k_is)
    (case a_next_weekday => k_is)
    (case l_next_weekday => k_is)
    (case c_next_weekday => k_is)
    (case k_next_weekday => k_is)
    (case a_last_weekday => k_is)
    (case l_last_weekday => k_is)
    (case c_last_weekday => k_is)
    (case k_last_weekday => k_is)
    (case a_take_month => k_is)
    (case l_take_month => k_is)
    (case c_take_month => k_is)
    (case k_take_month => k_is)
    (case a_take_in_month => k_is)
    (case l_take_in_month => k_is)
    (case c_take_in_month => k_is)
    (case k_take_in_month => k_is)
    (case a_take_when => k_is)
    (case l_take_when => k_is)
    (case c_take_when => k_is)
    (case k_take_when => k_is)
    (case a_read_when => k_is)
    (case l_read_when => k_is)
    (case c_read_when => k_is)
    (case k_read_when => k_is)
    (case a_law_is => k_is)
    (case l_law_is => k_is)
    (case c_law_is => k_is)
    (case k_law_is => k_is)
    (case a_law_draw => k_is)
    (case l_law_draw => k_is)
    (case c_law_draw => k_is)
    (case k_law_draw => k_is)
    (case a_law_tape => k_is)
    (case l_law_tape => k_is)
    (case c_law_tape => k_is)
    (case k_law_tape => k_is)
    (case a_law_mod => k_is)
    (case l_law_mod => k_is)
    (case c_law_mod => k_is)
    (case k_law_mod => k_is)
    (case a_law_leap => k_is)
    (case l_law_leap => k_is)
    (case c_law_leap => k_is)
    (case k_law_leap => k_is)
    (case a_law_length => k_is)
    (case l_law_length => k_is)
    (case c_law_length => k_is)
    (case k_law_length => k_is)
    (case a_law_year_first => k_is)
    (case l_law_year_first => k_is)
    (case c_law_year_first => k_is)
    (case k_law_year_first => k_is)
    (case a_law_month_first => k_is)
    (case l_law_month_first => k_is)
    (case c_law_month_first => k_is)
    (case k_law_month_first => k_is)
    (case a_law_month_at => k_is)
    (case l_law_month_at => k_is)
    (case c_law_month_at => k_is)
    (case k_law_month_at => k_is)
    (case a_law_digits2 => k_is)
    (case l_law_digits2 => k_is)
    (case c_law_digits2 => k_is)
    (case k_law_digits2 => k_is)
    (case a_law_day_text => k_is)
    (case l_law_day_text => k_is)
    (case c_law_day_text => k_is)
    (case k_law_day_text => k_is)
    (case a_law_told => k_is)
    (case l_law_told => k_is)
    (case c_law_told => k_is)
    (case k_law_told => k_is)
    (case a_law_later => k_is)
    (case l_law_later => k_is)
    (case c_law_later => k_is)
    (case k_law_later => k_is)
    (case a_law_by => k_is)
    (case l_law_by => k_is)
    (case c_law_by => k_is)
    (case k_law_by => k_is)
    (case a_law_in_month => k_is)
    (case l_law_in_month => k_is)
    (case c_law_in_month => k_is)
    (case k_law_in_month => k_is)
    (case a_law => k_is)
    (case l_law => k_is)
    (case c_law => k_is)
    (case k_law => k_is)
    (case pg_Line => k_is)
    (case hd_Line => k_is)
    (case po_Line => k_is)
    (case sa_Line => k_is)
    (case mk_Line => k_is)
    (case kc_Line => k_is)
    (case n_Line_words => k_is)
    (case n_Line_line => k_is)
    (case n_Line_place => k_is)
    (case r_BadText => k_is)
    (case t_BadText => k_is)
    (case k_BadText => k_is)
    (case ic_BadText => k_is)
    (case xL_BadText => k_is)
    (case sa_BadText => k_is)
    (case ga_BadText => k_is)
    (case gg_BadText => k_is)
    (case hd_BadText => k_is)
    (case tf_BadText => k_is)
    (case n_BadText_line => k_is)
    (case n_BadText_word => k_is)
    (case r_BadDate => k_is)
    (case t_BadDate => k_is)
    (case k_BadDate => k_is)
    (case ic_BadDate => k_is)
    (case xI_BadDate => k_exc)
    (case s_BadText_BadText => first | rfl | k_is)
    (case s_BadDate_BadDate => first | rfl | k_is)
    (case rd_DaysError => k_is)
    (case gs_DaysError => k_is)
    (case fc_DaysError => k_is)
    (case z_len => k_is)
    (case z_int => k_is)
    (case z_str => k_is)
    (case z_list => k_is)
    (case z_range => k_is)
    (case z_divmod => k_is)
    (case z_all => k_is)
    (case z_min => k_is)
    (case z_isinstance => k_is)
    (case z_bool => k_is)
    (case z_tuple => k_is)
    (case g_LENGTHS => k_is)
    (case h_LENGTHS => k_is)
    (case hs_LENGTHS => first | rfl | decide +kernel | k_is)
    (case ht_LENGTHS => rfl)
    (case hu_LENGTHS => rfl)
    (case g_BEFORE => k_is)
    (case h_BEFORE => k_is)
    (case hs_BEFORE => first | rfl | decide +kernel | k_is)
    (case ht_BEFORE => rfl)
    (case hu_BEFORE => rfl)
    (case g_CYCLE_MONTHS => k_is)
    (case g_CYCLE_DAYS => k_is)
    (case g_DIGITS_MOST => k_is)
    (case g_WEEKDAYS => k_is)
    (case h_WEEKDAYS => k_is)
    (case hs_WEEKDAYS => first | rfl | decide +kernel | k_is)
    (case ht_WEEKDAYS => rfl)
    (case hu_WEEKDAYS => rfl)
    (case g_MONTHS => k_is)
    (case h_MONTHS => k_is)
    (case hs_MONTHS => first | rfl | decide +kernel | k_is)
    (case ht_MONTHS => rfl)
    (case hu_MONTHS => rfl)
    (case g_COUNT_MOST => k_is)
    (case g_DIGITS_dates => k_is)
    (case g_DIGITS_line => k_is)
    (case g_PLACES => k_is)
    (case h_PLACES => k_is)
    (case hs_PLACES => first | rfl | decide +kernel | k_is)
    (case ht_PLACES => rfl)
    (case hu_PLACES => rfl)
    (case g_UNITS => k_is)
    (case h_UNITS => k_is)
    (case hs_UNITS => first | rfl | decide +kernel | k_is)
    (case ht_UNITS => rfl)
    (case hu_UNITS => rfl)

