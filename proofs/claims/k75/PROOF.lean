import PyProof.Rows.All
import Wide.All
import OpenK.AllK
import Wide.FinOn
import HandS.ForMost
import HandS.Style
import HandS.ExcOwn
import HandS.Exc
import HandS.TryMany
import HandS.ExcInit
import HandS.ExcField
import HandS.WordsExc
import HandS.Conv
import HandS.Codes
import HandS.FStr
import HandS.TryOnly
import HandS.Walk
import HandS.Iter
import HandS.Text
import PySem.Challenge.RW_everdays_k75_words_of_days_and_minutes
set_option Elab.async false
set_option linter.all false
set_option maxRecDepth 100000
set_option maxHeartbeats 4000000
namespace Q
open PySem PySem.Spec PyProof.Rows L2
theorem op_fdivE {X : Cx} : OpR X (binaryOp .FloorDiv) (rI CDiv fun i j => .int (i / j)) := op_fdiv
theorem op_modE {X : Cx} : OpR X (binaryOp .Mod) (rI (fun _ j => 0 < j) fun i j => .int (i % j)) := op_mod
theorem cmul_r {i j : Int} (h1 : -(2 ^ 64) < j) (h2 : j < 2 ^ 64) : CMul i j := .inr ⟨h1, h2⟩
theorem cmul_l {i j : Int} (h1 : -(2 ^ 64) < i) (h2 : i < 2 ^ 64) : CMul i j := .inl ⟨h1, h2⟩
theorem iteK {c A B : Prop} {inst : Decidable c} (h1 : c → A) (h2 : ¬ c → B) : if decide c = true then A else B := by
  by_cases h : c
  · rw [if_pos (decide_eq_true h)]; exact h1 h
  · rw [if_neg (by simpa using h)]; exact h2 h
theorem ite_y {c : Bool} {A B : Prop} (hc : c = true) (h : A) : if c = true then A else B := by
  rw [if_pos hc]; exact h
theorem ite_n {c : Bool} {A B : Prop} (hc : c = false) (h : B) : if c = true then A else B := by
  rw [if_neg (by rw [hc]; decide)]; exact h
end Q
namespace Q
open PySem PySem.Spec PyProof.Rows L2
section
variable {K : PySem.W.Frag} {σ : L2.St} {H H' : Hp} {i j : Nat} {v x y z : V} {Q : VK} {R : Bool → Hp → Prop} {ta tb te : TE} {D : Ends} {t u : TS} {p : Addr} {xs : List V}
theorem red {σ' : L2.St} (e : σ = σ') (h : t D σ' H) : t D σ H := e ▸ h
theorem g_var (h : σ[i]? = some (some v)) (q : Q v H) : tVar i σ H Q := ⟨v, h, q⟩
theorem g_c (q : Q v H) : tC v σ H Q := q
theorem g_op {r : R2} (q : ta σ H fun x H1 => tb σ H1 fun y H2 => r x y H2 Q) : tOp r ta tb σ H Q := q
theorem g_un {r : V → Hp → VK → Prop} (q : ta σ H fun x H1 => r x H1 Q) : tUn r ta σ H Q := q
theorem g_tt (q : te σ H fun x H' => ∃ k, x = .bl k ∧ R k H') : tTest te σ H R := q
theorem g_tB (q : te σ H fun x H' => ∃ k, x = .bl k ∧ R k H') : tB te σ H R := q
theorem g_ifs {c : TT} (q : c σ H fun b H1 => if b = true then t D σ H1 else u D σ H1) : tIfS c t u D σ H := q
theorem g_seq (q : t { D with nx := u D } σ H) : tSeq t u D σ H := q
theorem g_next (q : D.nx σ H) : tNext D σ H := q
theorem g_asg {g : TG} (q : te σ H fun x H1 => g x σ H1 D.nx) : tAsg te g D σ H := q
theorem g_name {R : L2.St → Hp → Prop} (q : R (σ.set i (some v)) H) : gName i v σ H R := q
theorem g_ret (q : te σ H D.rt) : tRet te D σ H := q
theorem g_drop (q : te σ H fun _ H1 => D.nx σ H1) : tDrop te D σ H := q
theorem g_nil {R : List V → Hp → Prop} (q : R [] H) : tNil σ H R := q
theorem g_cons {tr : TA} {R : List V → Hp → Prop} (q : te σ H fun x H1 => tr σ H1 fun xs H2 => R (x :: xs) H2) : tCons te tr σ H R := q
theorem g_cb {r : List V → Hp → VK → Prop} {ta : TA} (q : ta σ H fun vs H1 => r vs H1 Q) : tCB r ta σ H Q := q
theorem g_sub {to ti : TE} {ts : TSet} {R : L2.St → Hp → Prop} (q : to σ H fun o H1 => ti σ H1 fun i H2 => ts o i v H2 fun H3 => R σ H3) : gSub to ti ts v σ H R := q
theorem g_call {sp : Sp} {dvs : List V} {E : XK} {ta : TA} (q : ta σ H fun vs H1 => sp (vs ++ dvs) H1 Q E) : tCall sp dvs E ta σ H Q := q
theorem g_if {c : TT} (q : c σ H fun b H1 => if b = true then ta σ H1 Q else tb σ H1 Q) : tIf c ta tb σ H Q := q
theorem g_and {c d : TT} (q : c σ H fun b H1 => if b = true then d σ H1 R else R false H1) : tAnd c d σ H R := q
theorem g_or {c d : TT} (q : c σ H fun b H1 => if b = true then R true H1 else d σ H1 R) : tOr c d σ H R := q
theorem g_not {c : TT} (q : c σ H fun b H1 => R (!b) H1) : tNot c σ H R := q
theorem g_tup {ta : TA} (q : ta σ H fun xs H1 => xs.length ≤ sizeLine ∧ ∀ p, H1 p = none → Q (.ref p) (upd H1 p (.tup xs))) : tTup ta σ H Q := q
theorem g_lst {ta : TA} (q : ta σ H fun xs H1 => xs.length ≤ sizeLine ∧ ∀ p, H1 p = none → Q (.ref p) (upd H1 p (.lst xs))) : tLst ta σ H Q := q
theorem g_vei {ta : TA} (q : ta σ H fun vs H1 => ∃ (a C : Addr) (ws : List V), vs = .ref a :: ws ∧ ws.length ≤ 1000 ∧ OexC K C ∧ H1 a = some (exo a C none) ∧ Q .non H1) : tVeI K ta σ H Q := q
theorem g_jc {t : TE} {ts : List TE} {acc : Str} {R : Str → Hp → Prop} (q : t σ H fun x H1 => ∃ y : Str, x = .str y ∧ (acc ++ y).length ≤ sizeLine ∧ tJs ts (acc ++ y) σ H1 R) : tJs (t :: ts) acc σ H R := q
theorem g_jn {acc : Str} {R : Str → Hp → Prop} (q : R acc H) : tJs [] acc σ H R := q
theorem g_fmt (q : te σ H fun x H1 => (∃ y : Str, x = .str y ∧ y.length ≤ sizeLine ∧ Q (.str y) H1) ∨ ∃ i : Int, x = .int i ∧ i.natAbs.log2 < 1920 ∧ Q (.str (toString i)) H1) : tFmt te σ H Q := q
theorem g_ost {f : Str} {to : TE} (q : te σ H fun y H1 => to σ H1 fun x H2 => ∃ a C : Addr, x = .ref a ∧ OexC K C ∧ PySem.W.findIn K (.ref C) f = some none ∧
  ((H2 a = some (exo a C none) ∧ ∀ dx, H2 dx = none → dx ≠ a → D.nx σ (upd (upd H2 dx (exd dx [(f, y)])) a (exo a C (some dx)))) ∨
    ∃ (dx : Addr) (fs : List (Str × V)), H2 a = some (exo a C (some dx)) ∧ H2 dx = some (exd dx fs) ∧ fs.length ≤ 900 ∧ D.nx σ (upd H2 dx (exd dx ((f, y) :: fs))))) : tOst K f to te D σ H := q
theorem g_mko {C : Addr} {sp : Sp} {dvs : List V} {ta : TA} {R : XK} (q : ta σ H fun vs H1 => vs.length ≤ 1000 ∧ ∀ a, H1 a = none → sp (.ref a :: (vs ++ dvs)) (upd H1 a (exo a C none))
  (fun v H2 => v = .non ∧ ∃ (d : Addr) (fs : List (Str × V)), H2 a = some (exo a C (some d)) ∧ H2 d = some (exd d fs) ∧ H1 d = none ∧ R (.ref C) (some d) (upd (del H2 a) d (.xd fs))) (fun _ _ _ => False)) : tMkO C sp dvs ta σ H R := q
theorem g_fld {f : Str} (q : ta σ H fun x H1 => ∃ a C dx fs v, x = .ref a ∧ H1 a = some (.ins C dx fs) ∧ Cls K C ∧ NoAttr K C f ∧ fs.lookup f = some v ∧ Q v H1) : tFld K ta f σ H Q := q
theorem g_sfld {f : Str} {tv : TE} (q : tv σ H fun y H1 => ta σ H1 fun x H2 => ∃ a C dx fs, x = .ref a ∧ H2 a = some (.ins C dx fs) ∧ Cls K C ∧ NoAttr K C f ∧ fs.length < 1000 ∧ D.nx σ (upd H2 a (.ins C dx (putF f y fs)))) : sFld K ta tv f D σ H := q
theorem g_meth {C : Addr} {m : Str} {sp : Sp} {dvs : List V} {E : XK} {tr : TA} (q : ta σ H fun x H1 => ∃ a dx fs, x = .ref a ∧ H1 a = some (.ins C dx fs) ∧ fs.lookup m = none ∧ tr σ H1 fun vs H2 => sp (x :: (vs ++ dvs)) H2 Q E) : tMeth C m sp dvs E ta tr σ H Q := q
theorem g_make {C : Addr} {sp : Sp} {dvs : List V} {E : XK} {tr : TA} (q : tr σ H fun vs H1 => ∀ x dx, H1 x = none → H1 dx = none → dx ≠ x → sp (.ref x :: (vs ++ dvs)) (upd (upd H1 dx (.own x)) x (.ins C dx [])) (fun v H2 => v = .non ∧ Q (.ref x) H2) E) : tMake C sp dvs E tr σ H Q := q
theorem g_ofld {f : Str} {C dx : Addr} {fs : List (Str × V)} (h : H p = some (.ins C dx fs)) (c : Cls K C) (n : NoAttr K C f) (l : fs.lookup f = some v) {R : V → Prop} (q : R v) : ∃ a C dx fs v, V.ref p = .ref a ∧ H a = some (.ins C dx fs) ∧ Cls K C ∧ NoAttr K C f ∧ fs.lookup f = some v ∧ R v := ⟨p, C, dx, fs, v, rfl, h, c, n, l, q⟩
theorem g_omet {m : Str} {C dx : Addr} {fs : List (Str × V)} (h : H p = some (.ins C dx fs)) (l : fs.lookup m = none) {R : Prop} (q : R) : ∃ a dx fs, V.ref p = .ref a ∧ H a = some (.ins C dx fs) ∧ fs.lookup m = none ∧ R := ⟨p, dx, fs, rfl, h, l, q⟩
theorem g_dget {td ty : TE} (q : td σ H fun x H1 => ty σ H1 fun y H2 => ∃ a v, x = .ref a ∧ DGet H2 a y (some v) ∧ Q v H2) : tDGet td ty σ H Q := q
theorem g_din {td ty : TE} (q : ty σ H fun y H1 => td σ H1 fun x H2 => ∃ a o, x = .ref a ∧ DGet H2 a y o ∧ Q (.bl o.isSome) H2) : tDIn ty td σ H Q := q
theorem g_dni {td ty : TE} (q : ty σ H fun y H1 => td σ H1 fun x H2 => ∃ a o, x = .ref a ∧ DGet H2 a y o ∧ Q (.bl (!o.isSome)) H2) : tDNotIn ty td σ H Q := q
theorem g_dput {td ty tv : TE} (q : tv σ H fun v H1 => td σ H1 fun x H2 => ty σ H2 fun y H3 => ∃ a H4, x = .ref a ∧ DPut H3 a y v H4 ∧ D.nx σ H4) : sDPut td ty tv D σ H := q
theorem g_dg1 {td ty : TE} (q : td σ H fun x H1 => ∃ a, x = .ref a ∧ IsD H1 a ∧ ty σ H1 fun y H2 => ∃ o, DGet H2 a y o ∧ Q (o.getD .non) H2) : tDGet1 td ty σ H Q := q
theorem g_dg2 {td ty tx : TE} (q : td σ H fun x H1 => ∃ a, x = .ref a ∧ IsD H1 a ∧ ty σ H1 fun y H2 => tx σ H2 fun z H3 => ∃ o, DGet H3 a y o ∧ Q (o.getD z) H3) : tDGet2 td ty tx σ H Q := q
theorem g_or2 {c d : TE} (q : c σ H fun x H1 => ∃ k, x = .bl k ∧ if k = true then Q (.bl true) H1 else d σ H1 Q) : tOrV c d σ H Q := q
theorem g_an2 {c d : TE} (q : c σ H fun x H1 => ∃ k, x = .bl k ∧ if k = true then d σ H1 Q else Q (.bl false) H1) : tAndV c d σ H Q := q
theorem g_no2 {c : TE} (q : c σ H fun x H1 => ∃ k, x = .bl k ∧ Q (.bl (!k)) H1) : tNotV c σ H Q := q
theorem g_I0 {g : Int → Int → V} {m n : Int} (q : Q (g m n) H) : rI0 g (.int m) (.int n) H Q := ⟨m, n, rfl, rfl, q⟩
theorem g_I {C : Int → Int → Prop} {g : Int → Int → V} {m n : Int} (c : C m n) (q : Q (g m n) H) : rI C g (.int m) (.int n) H Q := ⟨m, n, rfl, rfl, c, q⟩
theorem g_U {g : Int → V} {m : Int} (q : Q (g m) H) : rU g (.int m) H Q := ⟨m, rfl, q⟩
theorem g_eq (c : scal x y = true) (q : Q (.bl (decide (x = y))) H) : rEq x y H Q := ⟨c, q⟩
theorem g_ne (c : scal x y = true) (q : Q (.bl (!decide (x = y))) H) : rNe x y H Q := ⟨c, q⟩
theorem g_ixL {n : Int} (h : SqL K H p xs) (a : atI xs n = some v) (q : Q v H) : rIxL K (.ref p) (.int n) H Q := ⟨p, xs, n, v, rfl, rfl, h, a, q⟩
theorem g_ixT {n : Int} (h : SqT K H p xs) (a : atI xs n = some v) (q : Q v H) : rIxT K (.ref p) (.int n) H Q := ⟨p, xs, n, v, rfl, rfl, h, a, q⟩
theorem g_setL {n : Int} (h : H p = some (.lst xs)) (a : ixN xs.length n = some j) {Q : Hp → Prop} (q : Q (upd H p (.lst (xs.set j v)))) : rSetL (.ref p) (.int n) v H Q := ⟨p, xs, n, j, rfl, rfl, h, a, q⟩
theorem g_test {b : Bool} {R : Bool → Prop} (q : R b) : (∃ k, V.bl b = .bl k ∧ R k) := ⟨b, rfl, q⟩
theorem g_int1 {n : Int} {R : Int → Prop} {S : Bool → Prop} (q : R n) : (∃ i, [V.int n] = [V.int i] ∧ R i) ∨ (∃ k, [V.int n] = [V.bl k] ∧ S k) := .inl ⟨n, rfl, q⟩
theorem g_bl1 {b : Bool} {R : Int → Prop} {S : Bool → Prop} (q : S b) : (∃ i, [V.bl b] = [V.int i] ∧ R i) ∨ (∃ k, [V.bl b] = [V.bl k] ∧ S k) := .inr ⟨b, rfl, q⟩
theorem g_lenL {R : List V → Prop} (h : SqL K H p xs) (q : R xs) : ∃ p' ys, [V.ref p] = [V.ref p'] ∧ (SqL K H p' ys ∨ SqT K H p' ys) ∧ R ys := ⟨p, xs, rfl, .inl h, q⟩
theorem g_lenT {R : List V → Prop} (h : SqT K H p xs) (q : R xs) : ∃ p' ys, [V.ref p] = [V.ref p'] ∧ (SqL K H p' ys ∨ SqT K H p' ys) ∧ R ys := ⟨p, xs, rfl, .inr h, q⟩
end
section
variable {K : PySem.W.Frag} {σ : L2.St} {H : Hp} {te : TE} {ta : TA} {wi : TI} {g : TG} {gs : TGs} {tt : TT} {tb t : TS} {D : Ends} {Q : VK} {R : It → Hp → Prop} {v : V}
theorem g_itup (q : te σ H fun x H1 => ∃ a, x = .ref a ∧ (∃ xs, SqT K H1 a xs) ∧ R (Itt K a) H1) : iTup K te σ H R := q
theorem g_ilist (q : te σ H fun x H1 => ∃ a, x = .ref a ∧ (∃ xs, SqL K H1 a xs) ∧ R (Itl K a) H1) : iList K te σ H R := q
theorem g_ikeys (q : te σ H fun x H1 => ∃ d o, x = .ref d ∧ ((∃ kvs, H1 d = some (.frz o (.dK kvs)) ∧ R (Itk d o kvs) H1) ∨ ∃ kvs, H1 d = some (.frz o (.dT kvs)) ∧ R (Itkt d o kvs) H1)) : iKeys te σ H R := q
theorem g_irng1 (q : ta σ H fun vs H1 => ∃ j : Int, vs = [.int j] ∧ -(2 ^ 62) ≤ j ∧ j < 2 ^ 62 ∧ R (Itr 0 j.toNat) H1) : iRng1 ta σ H R := q
theorem g_irng2 (q : ta σ H fun vs H1 => ∃ i j : Int, vs = [.int i, .int j] ∧ (-(2 ^ 62) ≤ i ∧ i < 2 ^ 62 ∧ -(2 ^ 62) ≤ j ∧ j < 2 ^ 62) ∧ R (Itr i (j - i).toNat) H1) : iRng2 ta σ H R := q
theorem g_for (q : wi σ H fun J H1 => ∃ W : Nat → Nat → L2.St → Hp → Prop, (∃ m, W 0 m σ H1) ∧ ∀ i m σ H, W i m σ H →
  (J.stop i H ∧ D.nx σ H) ∨ (J.go i H ∧ ∃ N : L2.St → Hp → Prop, (∀ σ' H', N σ' H' → ∃ m', m' < m ∧ W (i + 1) m' σ' H') ∧ ∀ x H', J.yld i H x H' → g x σ H' fun σ2 H2 => tb { D with nx := N, ct := N, bk := D.nx } σ2 H2)) : tFor wi g tb D σ H := q
theorem g_lc {vs : List Nat} (q : wi σ H fun J H1 => ∀ D, H1 D = none → ∃ W : Nat → Nat → Hp → Prop, (∃ m, W 0 m (upd H1 D (.lst []))) ∧ ∀ i m H, W i m H →
  (J.stop i H ∧ Q (.ref D) H) ∨ (J.go i H ∧ ∃ Nx : Hp → Prop, (∀ H', Nx H' → ∃ m', m' < m ∧ W (i + 1) m' H') ∧ ∀ x H', J.yld i H x H' → g x (wipe σ vs) H' fun σ2 H2 => wipe σ2 vs = wipe σ vs ∧ tt σ2 H2 fun b H3 =>
    if b = true then te σ2 H3 fun y H4 => ∃ acc, H4 D = some (.lst acc) ∧ acc.length < sizeLine ∧ Nx (upd H4 D (.lst (acc ++ [y]))) else Nx H3)) : tLc wi g tt te vs σ H Q := q
theorem g_lock (q : ∃ d u, H d = some u ∧ Mut (some u) ∧ ∀ od, t ⟨fun σ' H' => H' d = some (.frz od u) ∧ D.nx σ' (upd H' d u), fun v H' => H' d = some (.frz od u) ∧ D.rt v (upd H' d u), fun σ' H' => H' d = some (.frz od u) ∧ D.bk σ' (upd H' d u), fun σ' H' => H' d = some (.frz od u) ∧ D.ct σ' (upd H' d u)⟩ σ (upd H d (.frz od u))) : tLock t D σ H := q
theorem g_gtup {n : Nat} {R : L2.St → Hp → Prop} (q : ∃ a xs, v = .ref a ∧ SqT K H a xs ∧ xs.length = n ∧ gs xs σ H R) : gTup K n gs v σ H R := q
theorem g_gcons {vs : List V} {R : L2.St → Hp → Prop} (q : g v σ H fun σ' H' => gs vs σ' H' R) : gCons g gs (v :: vs) σ H R := ⟨v, vs, rfl, q⟩
theorem g_gnil {R : L2.St → Hp → Prop} (q : R σ H) : gNil [] σ H R := ⟨rfl, q⟩
theorem g_sl {r : V → Option Int → Option Int → Hp → VK → Prop} {tl th : TO} (q : te σ H fun x H1 => tl σ H1 fun l H2 => th σ H2 fun u H3 => r x l u H3 Q) : tSl r te tl th σ H Q := q
theorem g_npart {R : Option Int → Hp → Prop} (q : R none H) : tNoPart σ H R := q
theorem g_part {R : Option Int → Hp → Prop} (q : te σ H fun x H1 => ∃ i, x = .int i ∧ R (some i) H1) : tPart te σ H R := q
theorem g_dnt (q : ∀ p, H p = none → Q (.ref p) (upd H p (.dT []))) : tDNewT σ H Q := q
theorem g_dnk (q : ∀ p, H p = none → Q (.ref p) (upd H p (.dK []))) : tDNewK σ H Q := q
theorem g_yes {R : Bool → Hp → Prop} (q : R true H) : tYes σ H R := q
theorem g_par {i j : Nat} (q : ta σ H fun vs H1 => ∃ v w, vs = [v, w] ∧ D.nx ((σ.set i (some v)).set j (some w)) H1) : tPar i j ta D σ H := q
theorem g_par3 {i j l : Nat} (q : ta σ H fun vs H1 => ∃ u v w, vs = [u, v, w] ∧ D.nx (((σ.set i (some u)).set j (some v)).set l (some w)) H1) : tPar3 i j l ta D σ H := q
theorem g_calls {sp : Sp} {E : L2.St → XK} (q : ta σ H fun vs H1 => sp vs H1 Q (E σ)) : tCallS sp E ta σ H Q := q
end
end Q
namespace Q
open PySem PySem.Spec PyProof.Rows L2
/-- what the written part says of a class of the program whose __init__ is ValueError's own, read off the class: D.__init__ -/
structure BaseInit (K : PySem.W.Frag) (D : Addr) (mc : Value) : Prop where
  rd : PySem.W.readsIn K D mc = true
  ga : PySem.W.specialIn K (.ref D) "__getattribute__" = some (some (.builtin "type.__getattribute__"))
  at_ : PySem.W.findCls K (.ref D) mc "__init__" = some (.val (.builtin "ValueError.__init__"))
/-- D.__init__(self, ..), D a class of the program: the same as ValueError.__init__ -/
theorem pe_deinit {X : Cx} {e : Expr} {es : List Expr} {ta : TA} {x : Str} {D : Addr} {mc : Value} {p1 p2 pos : PySem.Pos} {pl : Sem Bool} (hg : Gl X x) (hm : X.mg x = some (.ref D)) (B : BaseInit X.K D mc) (ha : PA X (e :: es) ta)
    (hdb : (x == ("__debug__" : Str)) = false := by decide)
    (hc : eval (.Call (.Attribute (.Name x p1) "__init__" p2) (e :: es) [] pos) X.env = (do
      let ov ← eval (.Name x p1) X.env
      standAt p2.atName
      let (f, first) ← holding [ov] (getMethod ov "__init__" pl)
      callWith pos f first (backTo pos (starEach (e :: es) X.env)) (backToKw pos (keywordEach [] X.env))) := by rfl)
    (he : starEach (e :: es) X.env = (false, eval e X.env) :: starEach es X.env := by rfl) (hpl : (backTo pos (starEach es X.env)).any (·.1) = false := by rfl) :
    PE X (.Call (.Attribute (.Name x p1) "__init__" p2) (e :: es) [] pos) (tVeI X.K ta) := by
  refine ⟨fun pins s σ H Q I h => ?_⟩
  refine PySem.W.methodCall_KW (ld_glob I hg hm ?_ hdb) hc
  refine PySem.W.method_cls I.kIn B.ga (PySem.W.cls_value I.kIn B.rd B.at_ (by decide +kernel) ?_)
  show wpAny _ _ (callWith pos (Value.builtin "ValueError.__init__") [] (backTo pos (starEach (e :: es) X.env)) []) _ _ _
  have I0 : Inv X pins σ H { s with toks := s.toks + 1 } := I.tok _
  refine PyProof.Rows.callWith_method1 (thn (ha.run pos pins _ σ H _ I0 h) fun us s1 hv => ?_) he hpl
  obtain ⟨vs, H1, I1, r1, a, C, ws, ev, hl, T, ea, q⟩ := hv
  subst ev
  cases r1 with
  | @cons _ u0 _ ur ra rw' =>
    obtain rfl : u0 = Value.ref a := ra
    have hlen : ur.length ≤ sizeLine := by
      rw [← Paired.length rw', sizeLine_eq]; omega
    exact oinit_ok T I1 ea hlen fun s' J => ⟨.non, H1, J, rfl, q⟩
end Q
namespace Q
open PySem PySem.Spec PyProof.Rows L2
/-- X(), an own exception class without own __init__ -/
theorem pmk_own0 {X : Cx} {C : Addr} {bmB : List Value} {B newId initId : String} {x : Str} {p pos : PySem.Pos} (F : ExcBaseFacts B newId initId bmB) (q : PySem.W.excIn X.K C bmB newId = true) (gC : X.mg x = some (.ref C))
    (kC : PySem.W.keepIn X.K (.ref C) = true) (r : Raises X (.ref C)) (hg : Gl X x) (hdb : (x == ("__debug__" : Str)) = false := by decide) : PMk X (.Call (.Name x p) [] [] pos) (fun _ H Q => Q (.ref C) none H) := by
  intro pins s σ H Q I h
  refine wpAny_Call_Name_kw (ld_glob I hg gC ?_ hdb)
  refine PySem.W.callWith_K0 I.kIn kC ?_
  obtain ⟨bm, N, nm, qn, bs, hdct, sn, sub, ab, col, dd, k0, k1, k2, k3, k5, mN, hC, hN, hni, T⟩ := exc_obj I.kIn q
  exact wpAny_call_exc_subT F T hC hN hni (fun h' e hm => mk_of I hm r h (I.hok.gone hm.new)) (Nat.zero_le _)
end Q
namespace Q
/-- does «except D» take an error of the class C -/
theorem exm_sub {K : PySem.W.Frag} {C D : PySem.Addr} {b : Bool} (h1 : PySem.W.subIn K (.ref D) (.type "BaseException") = some true) (h2 : PySem.W.isClsIn K D = true) (h3 : PySem.W.typeIn K (.ref D) = some (.type "type")) (h4 : PySem.W.subIn K (.ref C) (.ref D) = some b) :
    PySem.W.exmOne K (.ref C) (.ref D) = some b := by
  have e1 : (PySem.W.subIn K (.ref D) (.type "BaseException") == some true) = true := by rw [h1]; rfl
  have e2 : ((PySem.W.clsIn K D).isSome && PySem.W.typeIn K (.ref D) == some (.type "type")) = true := by
    have h2' : (PySem.W.clsIn K D).isSome = true := h2
    rw [h2', h3]; rfl
  show (if (PySem.W.subIn K (.ref D) (.type "BaseException") == some true) = true then (if ((PySem.W.clsIn K D).isSome && PySem.W.typeIn K (.ref D) == some (.type "type")) = true then PySem.W.subIn K (.ref C) (.ref D) else none) else none) = some b
  rw [if_pos e1, if_pos e2]
  exact h4
end Q
namespace Q
open PySem PySem.Spec PyProof.Rows L2
/-- o.m(e, ..) where what is raised is wished for at the caller's slots -/
def tMethX (C : Addr) (m : Str) (sp : Sp) (E : L2.St → XK) (ta : TE) (t : TA) : TE := fun σ H Q => ta σ H fun x H1 => ∃ a dx fs, x = .ref a ∧ H1 a = some (.ins C dx fs) ∧ fs.lookup m = none ∧ t σ H1 fun vs H2 => sp (x :: vs) H2 Q (E σ)
theorem g_methx {C : Addr} {m : Str} {sp : Sp} {E : L2.St → XK} {ta : TE} {t : TA} {σ : L2.St} {H : Hp} {Q : VK} (q : ta σ H fun x H1 => ∃ a dx fs, x = .ref a ∧ H1 a = some (.ins C dx fs) ∧ fs.lookup m = none ∧ t σ H1 fun vs H2 => sp (x :: vs) H2 Q (E σ)) : tMethX C m sp E ta t σ H Q := q
theorem pe_methX {X : Cx} {CX : CXT} {k : Nat} {f C : Addr} {fd : FuncData} {ps : List Str} {sp : Sp} {E : L2.St → XK} {m : Str} {apos pos : PySem.Pos} {e o : Expr} {es : List Expr} {ta : TE} {t : TA} {pl : Sem Bool} (he : PE X o ta) (c : Cls X.K C) (hm : Meth X.K C m f)
    (F : FnOk X.prog X.w X.K X.mg X.base CX k f fd ps sp) (hr : Room k X.A) (hb : Binds X.K fd ps []) (hx : ∀ σ, PassesAt CX X σ (E σ)) (ha : PA X (e :: es) t)
    (hst : starEach (e :: es) X.env = (false, eval e X.env) :: starEach es X.env := by rfl) (hpl : (backTo pos (starEach es X.env)).any (·.1) = false := by rfl)
    (ht : eval (.Call (.Attribute o m apos) (e :: es) [] pos) X.env = (do
      let ov ← eval o X.env
      standAt apos.atName
      let (f, first) ← holding [ov] (getMethod ov m pl)
      callWith pos f first (backTo pos (starEach (e :: es) X.env)) (backToKw pos (keywordEach [] X.env))) := by rfl) :
    PE X (.Call (.Attribute o m apos) (e :: es) [] pos) (tMethX C m sp E ta t) := by
  refine ⟨fun pins s σ H Q I h => PySem.W.methodCall_KW (pl := pl) (thn (he.run pins s σ H _ I h) fun u s1 hv => ?_) ht⟩
  obtain ⟨x, H1, I1, rx, a, dx, fs, rfl, ea, l, q⟩ := hv
  obtain rfl : u = Value.ref a := rx
  refine getmeth_ok I1 ea c hm l (PySem.W.callWith_K (first := [.ref a]) (h₀ := X.base) I.ok.mod.kin hm.kp (thn (ha.run pos pins s1 σ H1 _ I1 q) fun us s2 hv => ?_) hst hpl)
  obtain ⟨vs, H2, I2, r, q2⟩ := hv
  exact ⟨I2.kIn, run_fnS (us := .ref a :: us) (vs := .ref a :: vs) F hr hb (hx σ) I2 (.cons rfl r) q2⟩
theorem pe_meth0X {X : Cx} {CX : CXT} {k : Nat} {f C : Addr} {fd : FuncData} {ps : List Str} {sp : Sp} {E : L2.St → XK} {m : Str} {apos pos : PySem.Pos} {o : Expr} {ta : TE} {pl : Sem Bool} (he : PE X o ta) (c : Cls X.K C) (hm : Meth X.K C m f)
    (F : FnOk X.prog X.w X.K X.mg X.base CX k f fd ps sp) (hr : Room k X.A) (hb : Binds X.K fd ps []) (hx : ∀ σ, PassesAt CX X σ (E σ))
    (ht : eval (.Call (.Attribute o m apos) [] [] pos) X.env = (do
      let ov ← eval o X.env
      standAt apos.atName
      let (f, first) ← holding [ov] (getMethod ov m pl)
      callWith pos f first (backTo pos (starEach [] X.env)) (backToKw pos (keywordEach [] X.env))) := by rfl) :
    PE X (.Call (.Attribute o m apos) [] [] pos) (tMethX C m sp E ta tNil) := by
  refine ⟨fun pins s σ H Q I h => PySem.W.methodCall_KW (pl := pl) (thn (he.run pins s σ H _ I h) fun u s1 hv => ?_) ht⟩
  obtain ⟨x, H1, I1, rx, a, dx, fs, rfl, ea, l, q⟩ := hv
  obtain rfl : u = Value.ref a := rx
  exact getmeth_ok I1 ea c hm l (PySem.W.callWith_K0 (first := [.ref a]) I1.kIn hm.kp (run_fnS (us := [.ref a]) (vs := [.ref a]) F hr hb (hx σ) I1 (.cons rfl .nil) q))
end Q
/-! several except clauses, some of them with a name -/
namespace Q
open PySem PySem.Spec PyProof.Rows L2
abbrev Suite := Addr → Value → Option Addr → TS
/-- the ends and the slots of a clause: slot i (if any) is the clause's own name -/
def cEnds (D : Ends) : Option Nat → Ends
  | none => D
  | some i => { nx := fun σ' H' => D.nx (σ'.set i none) H', rt := D.rt, bk := fun σ' H' => D.bk (σ'.set i none) H', ct := fun σ' H' => D.ct (σ'.set i none) H' }
def cSlot (σ : L2.St) (a : Addr) : Option Nat → L2.St
  | none => σ
  | some i => σ.set i (some (.ref a))
def wCl (K : PySem.W.Frag) (Wout : WX) (D : Ends) : List (Value × Option Nat × Suite) → WX
  | [] => Wout
  | (c, o, ts) :: r => fun cls d σ H => ∃ b, PySem.W.exmOne K cls c = some b ∧ (b = true → ∀ a, H a = none → ts a cls d (cEnds D o) (cSlot σ a o) H) ∧ (b = false → wCl K Wout D r cls d σ H)
inductive ClOk (X : Cx) : List ExceptHandler → List (Value × Option Nat × Suite) → Prop
  | nil : ClOk X [] []
  | bare {x : Str} {c : Value} {ts : Suite} {b₀ : Stmt} {su : List Stmt} {np p' : PySem.Pos} {hds : List ExceptHandler} {l : List (Value × Option Nat × Suite)} (hc : Names X x c)
      (hsu : ∀ (a : Addr) (oe : Obj) (cls : Value) (d : Option Addr) (pn : List (Addr × Obj)), Zc cls d oe → (∃ vs, oe.data = .fields vs) → PSs (X.suite a ((a, oe) :: pn)) (b₀ :: su) (ts a cls d)) (r : ClOk X hds l) :
      ClOk X (.ExceptHandler (some (.Name x np)) none (b₀ :: su) p' :: hds) ((c, none, ts) :: l)
  | named {x n : Str} {c : Value} {i : Nat} {ts : Suite} {b₀ : Stmt} {su : List Stmt} {np p' : PySem.Pos} {hds : List ExceptHandler} {l : List (Value × Option Nat × Suite)} (hc : Names X x c) (hi : X.N[i]? = some n) (hln : X.env.kindOf n = some .local)
      (hsu : ∀ (a : Addr) (oe : Obj) (cls : Value) (d : Option Addr) (pn : List (Addr × Obj)), Zc cls d oe → (∃ vs, oe.data = .fields vs) → PSs (X.suite a ((a, oe) :: pn)) (b₀ :: su) (ts a cls d)) (r : ClOk X hds l) :
      ClOk X (.ExceptHandler (some (.Name x np)) (some n) (b₀ :: su) p' :: hds) ((c, some i, ts) :: l)
section
variable {X : Cx} {pins : List (Addr × Obj)} {D : Ends} {Wout : WX} {a : Addr} {B : Heap} {sI s' : Shared} {σ' : L2.St} {H' : Hp} {cls : Value} {d : Option Addr} {h3 : Heap}
/-- the exception on the ground of the try: what is known of it -/
structure Grd (X : Cx) (pins : List (Addr × Obj)) (a : Addr) (B : Heap) (sI s' : Shared) (σ' : L2.St) (H' : Hp) (cls : Value) (d : Option Addr) (h3 : Heap) : Prop where
  J : Inv X pins σ' H' sI
  nb : ∀ b o, sI.heap.get? b = some o → b ∉ frs X.stack → B.get? b = some o
  up : sI.heap.UpToSlots h3
  fl : HandSPX.FlyingZ B (X.env :: X.outer) a (Zc cls d) h3
  na : H' a = none
  os : s'.os = sI.os
  ag : AllBare s'.gens
theorem Grd.inv (g : Grd X pins a B sI s' σ' H' cls d h3) : Inv X pins σ' H' { s' with heap := h3 } := g.J.landed (s' := { s' with heap := h3 }) g.nb g.fl.1 g.up g.os g.ag
theorem Grd.away (g : Grd X pins a B sI s' σ' H' cls d h3) (hf : X.env.frame = some X.env.locals) : a ≠ X.env.locals ∧ a ∉ X.fs := by
  obtain ⟨oe, vs, he, _, hd⟩ := g.fl.there
  have key : a ∉ frs (X.env :: X.outer) := fun hm => by
    obtain ⟨_, o', e', hnf⟩ := g.fl.2.2.1.mem hm
    rw [he] at e'; cases e'
    exact hnf _ hd
  refine ⟨fun z => key (List.mem_filterMap.mpr ⟨X.env, List.mem_cons_self, by rw [hf, z]⟩), fun hm => ?_⟩
  obtain ⟨e, he, q⟩ := List.mem_filterMap.mp hm
  exact key (List.mem_filterMap.mpr ⟨e, List.mem_cons_of_mem _ he, q⟩)
/-- the clauses, one after the other, over an exception on the ground -/
theorem clauses {hds : List ExceptHandler} {l : List (Value × Option Nat × Suite)} (hs : X.stack = X.env :: X.outer) (hf : X.env.frame = some X.env.locals) (hN : X.N.Nodup) (tk : Takes X Wout) (ok : ClOk X hds l) :
    Grd X pins a B sI s' σ' H' cls d h3 → wCl X.K Wout D l cls d σ' H' → wpAny (model X.prog X.w) X.A (handleBy (.ref a) X.env hds) (SP X pins D) X.xe { s' with heap := h3 } := by
  induction ok with
  | nil =>
    intro g w
    refine wpAny_handleBy_nil ?_
    obtain ⟨_, _, _, oe, vs, T, _, _, he, _, hd, h1, _⟩ := id g.fl
    unfold PySem.passOn
    refine wpAny_bind (wpAny_field he hd h1 ?_)
    have no : ¬ ((Value.ref T == Value.none) = true) := by simp
    rw [if_neg no]
    have out : wpAny (model X.prog X.w) X.A (setFlight (.ref a) X.env.frame) (fun _ s4 => wpAny (model X.prog X.w) X.A (throw (.ref a) : Sem Flow) (SP X pins D) X.xe s4) X.xe { s' with heap := h3 } := by
      rw [hf]
      refine HandSPX.setFlight_upZ g.fl fun h4 held up4 => wpAny_throw (tk _ _ ?_)
      refine ⟨a, B, sI, pins, σ', H', cls, d, rfl, g.J, g.nb, g.up.trans up4, .inr (.inr ?_), g.na, g.os, g.ag, w⟩
      rw [hs]; exact held
    first
      | exact wpAny_bind (wpAny_pure (wpAny_bind out))
      | exact wpAny_bind out
  | @bare x c ts b₀ su np p' hds l hc hsu r ih =>
    intro g w
    obtain ⟨b, hb, hy, hn⟩ := w
    obtain ⟨nL, nF⟩ := g.away hf
    obtain ⟨oe, vs, he, hz, hd⟩ := g.fl.there
    have S := g.inv.suite he hd g.na nL nF
    have LM := PySem.W.exm_one (M := model X.prog X.w) (g.inv.kIn) (fun A Q E s k q => wpAny_typeOf_ref (k _ _ he) (by rw [hz.1]; exact q)) hb
    refine wpAny_handleBy_cons (codeAny_handlers_test ?_) (by intro q; cases q)
    have rd : ∀ {Q : Value → Shared → Prop} {E : Value → Shared → Prop}, Q c { s' with heap := h3 } → wpAny (model X.prog X.w) (X.A.mark (some (.ref a))) (eval (.Name x np) X.env) Q E { s' with heap := h3 } := fun {Q E} q => by
      obtain ⟨hg, hdb, hm | ⟨hm, hv, hnn⟩⟩ := hc
      · exact ld_glob (X := X.suite a ((a, oe) :: (X.pn ++ pins))) S hg hm q hdb
      · exact ld_blt (X := X.suite a ((a, oe) :: (X.pn ++ pins))) S hg hm hv q hnn hdb
    refine rd (LM.here ?_)
    cases b with
    | false => exact ih g (hn rfl)
    | true =>
      refine codeAny_handlers_suite (HandSPX.lands_againZ g.fl fun h4 fl4 up4 => ?_)
      have J4 : Inv X pins σ' H' { s' with heap := h4 } := g.J.landed (s' := { s' with heap := h4 }) g.nb fl4.1 (g.up.trans up4) g.os g.ag
      obtain ⟨oe4, vs4, he4, hz4, hd4⟩ := fl4.there
      refine wpAny_mono ((hsu a oe4 cls d (X.pn ++ pins) hz4 ⟨_, hd4⟩).run [] _ _ H' _ (J4.suite he4 hd4 g.na nL nF) (hy rfl a g.na)) (fun f s6 hsp => ?_) (fun _ _ z => False.elim z)
      have ok := g.J.ok
      cases f with
      | next => obtain ⟨σ6, H6, S6, q6⟩ := hsp; exact ⟨_, _, S6.unsuite ok, q6⟩
      | brk => obtain ⟨σ6, H6, S6, q6⟩ := hsp; exact ⟨_, _, S6.unsuite ok, q6⟩
      | cont => obtain ⟨σ6, H6, S6, q6⟩ := hsp; exact ⟨_, _, S6.unsuite ok, q6⟩
      | ret u => obtain ⟨v6, σ6, H6, S6, r6, q6⟩ := hsp; exact ⟨_, _, _, S6.unsuite ok, r6, q6⟩
  | @named x n c i ts b₀ su np p' hds l hc hi hln hsu r ih =>
    intro g w
    obtain ⟨b, hb, hy, hn⟩ := w
    obtain ⟨nL, nF⟩ := g.away hf
    obtain ⟨oe, vs, he, hz, hd⟩ := g.fl.there
    have S := g.inv.suite he hd g.na nL nF
    have LM := PySem.W.exm_one (M := model X.prog X.w) (g.inv.kIn) (fun A Q E s k q => wpAny_typeOf_ref (k _ _ he) (by rw [hz.1]; exact q)) hb
    refine wpAny_handleBy_cons (codeAny_handlers_test ?_) (by intro q; cases q)
    have rd : ∀ {Q : Value → Shared → Prop} {E : Value → Shared → Prop}, Q c { s' with heap := h3 } → wpAny (model X.prog X.w) (X.A.mark (some (.ref a))) (eval (.Name x np) X.env) Q E { s' with heap := h3 } := fun {Q E} q => by
      obtain ⟨hg, hdb, hm | ⟨hm, hv, hnn⟩⟩ := hc
      · exact ld_glob (X := X.suite a ((a, oe) :: (X.pn ++ pins))) S hg hm q hdb
      · exact ld_blt (X := X.suite a ((a, oe) :: (X.pn ++ pins))) S hg hm hv q hnn hdb
    refine rd (LM.here ?_)
    cases b with
    | false => exact ih g (hn rfl)
    | true =>
      refine codeAny_handlers_suite_as (HandSPX.lands_againZ g.fl fun h4 fl4 up4 => ?_)
      have J4 : Inv X pins σ' H' { s' with heap := h4 } := g.J.landed (s' := { s' with heap := h4 }) g.nb fl4.1 (g.up.trans up4) g.os g.ag
      obtain ⟨oe4, vs4, he4, hz4, hd4⟩ := fl4.there
      have S4 := J4.suite he4 hd4 g.na nL nF
      refine store_ok (X := X.suite a ((a, oe4) :: (X.pn ++ pins))) (v := .ref a) S4 hN hi (.inl hln) rfl (fun s5 S5 => ?_) (.inr hln)
      refine wpAny_mono ((hsu a oe4 cls d (X.pn ++ pins) hz4 ⟨_, hd4⟩).run [] s5 _ H' _ S5 (hy rfl a g.na)) (fun f s6 hsp => ?_) (fun _ _ z => False.elim z)
      have ok := g.J.ok
      have out : ∀ {σ6 : L2.St} {H6 : Hp} {Q : Shared → Prop}, Inv (X.suite a ((a, oe4) :: (X.pn ++ pins))) [] σ6 H6 s6 → (∀ s7, Inv X pins (σ6.set i none) H6 s7 → Q s7) →
          wpAny (model X.prog X.w) X.A (do bindName X.env n .none; unbindBehindTheSuite X.env n p') (fun _ s7 => Q s7) X.xe s6 := fun {σ6 H6 Q} S6 hq => gone_ok (S6.unsuite ok) hN hi hln hq
      cases f with
      | next => obtain ⟨σ6, H6, S6, q6⟩ := hsp; exact out S6 fun s7 J7 => ⟨_, _, J7, q6⟩
      | brk => obtain ⟨σ6, H6, S6, q6⟩ := hsp; exact out S6 fun s7 J7 => ⟨_, _, J7, q6⟩
      | cont => obtain ⟨σ6, H6, S6, q6⟩ := hsp; exact out S6 fun s7 J7 => ⟨_, _, J7, q6⟩
      | ret u => obtain ⟨v6, σ6, H6, S6, r6, q6⟩ := hsp; exact out S6 fun s7 J7 => ⟨_, _, _, J7, r6, q6⟩
/-- try: body, any clauses -/
theorem ps_try_cl {body : List Stmt} {h₀ : ExceptHandler} {hds : List ExceptHandler} {l : List (Value × Option Nat × Suite)} {pos : PySem.Pos} {tb : WX → TS} (hs : X.stack = X.env :: X.outer) (hf : X.env.frame = some X.env.locals) (hN : X.N.Nodup) (tk : Takes X Wout)
    (hb : ∀ (W : WX) (pn : List (Addr × Obj)) (xe : Value → Shared → Prop), Takes (X.tr pn xe) W → PassesOwn (model X.prog X.w) X.A X.env xe → PSs (X.tr pn xe) body (tb W))
    (hh : ClOk X (h₀ :: hds) l) : PS X (.Try body (h₀ :: hds) [] [] pos) (fun D σ H => tb (wCl X.K Wout D l) D σ H) := by
  refine ⟨fun pins s σ H D I h => ?_⟩
  have ok := I.ok
  have hfr : X.A.frames = some (X.env :: X.outer) := by rw [ok.frames, hs]
  refine wpAny_Try_except (wpAny_mono ((hb (wCl X.K Wout D l) (X.pn ++ pins) (fun e s₁ => wpAny (model X.prog X.w) X.A (noteFrame e X.env) (fun _ s₂ => wpAny (model X.prog X.w) X.A (setFlight e none) (fun _ s₃ =>
    wpAny (model X.prog X.w) X.A (handleBy e X.env (h₀ :: hds)) (SP X pins D) X.xe s₃) X.xe s₂) X.xe s₁) (fun u s' xx => ?_) PassesOwn.looking).run [] s σ H D (I.toTry _) h) (fun f s1 hsp => ?_) (fun e s1 he => he))
  · obtain ⟨a, B, sI, pins', σ', H', cls, d, rfl, J', nb, up, sky, na, os, ag, w⟩ := xx
    have sky' : Sky B (X.env :: X.outer) a (Zc cls d) X.env.locals s'.heap := by rw [← hs]; exact sky
    show wpAny (model X.prog X.w) X.A (noteFrame (.ref a) X.env) _ _ _
    exact Sky.land Zc.steady hfr hf sky' fun h3 fl3 up3 => clauses hs hf hN tk hh ⟨J'.ofTry ok, nb, up.trans up3, fl3, na, os, ag⟩ w
  · cases f with
    | next => obtain ⟨σ', H', J', q⟩ := hsp; exact wpAny_execs_nil ⟨σ', H', J'.ofTry ok, q⟩
    | brk => obtain ⟨σ', H', J', q⟩ := hsp; exact ⟨σ', H', J'.ofTry ok, q⟩
    | cont => obtain ⟨σ', H', J', q⟩ := hsp; exact ⟨σ', H', J'.ofTry ok, q⟩
    | ret u => obtain ⟨v, σ', H', J', r, q⟩ := hsp; exact ⟨v, σ', H', J'.ofTry ok, r, q⟩
end
end Q
/-! texts as lists of code points; more stepping lemmas -/
namespace Q
open PySem PySem.Spec PyProof.Rows L2 SX
theorem sizeBig : 1000000 ≤ sizeLine := by decide
theorem rep_flat (z : List Nat) : ∀ n : Nat, (List.replicate n z.toArray).foldl (· ++ ·) #[] = ((List.replicate n z).flatten).toArray := by
  have key : ∀ (n : Nat) (acc : List Nat), (List.replicate n z.toArray).foldl (· ++ ·) acc.toArray = (acc ++ (List.replicate n z).flatten).toArray := by
    intro n
    induction n with
    | zero => intro acc; simp
    | succ n ih =>
      intro acc
      rw [List.replicate_succ, List.foldl_cons, show acc.toArray ++ z.toArray = (acc ++ z).toArray by simp, ih, List.replicate_succ, List.flatten_cons, List.append_assoc]
  intro n
  have := key n []
  rw [List.nil_append] at this
  exact this
def rMulS : R2 := fun x y H Q => ∃ (z : List Nat) (n : Int), x = .str (S z) ∧ y = .int n ∧ -1000 ≤ n ∧ n ≤ 1000 ∧ z.length ≤ 1000 ∧ Q (.str (S (List.replicate n.toNat z).flatten)) H
theorem mul_S {z : List Nat} {n : Int} : Txt.mul (S z) n = S (List.replicate n.toNat z).flatten := by
  unfold Txt.mul
  by_cases h : n < 1
  · rw [if_pos h]
    have e : n.toNat = 0 := by omega
    rw [e]; rfl
  · rw [if_neg h]
    by_cases h2 : (n == 1 || (S z).length == 0) = true
    · rw [if_pos h2]
      rw [Bool.or_eq_true, beq_iff_eq, beq_iff_eq] at h2
      rcases h2 with h2 | h2
      · subst h2; show S z = S (List.replicate 1 z).flatten; simp
      · rw [S_len] at h2
        have e : z = [] := List.length_eq_zero_iff.mp h2
        subst e
        congr 1
        have : (List.replicate n.toNat ([] : List Nat)).flatten = [] := by simp
        rw [this]
    · rw [if_neg h2]
      show (⟨(List.replicate n.toNat z.toArray).foldl (· ++ ·) #[]⟩ : Str) = _
      rw [rep_flat]
theorem op_mul_str {X : Cx} : OpR X (binaryOp .Mult) rMulS := by
  intro pins s σ H x y v u Q I rx ry h
  obtain ⟨z, n, rfl, rfl, h1, h2, h3, q⟩ := h
  obtain ⟨t, rfl⟩ := rx
  obtain ⟨t', rfl⟩ := ry
  refine PySem.SB.mul ⟨?_, fun g1 _ => ?_, fun g1 _ => ?_⟩ fun t2 k => ?_
  · have e1 : decide (n < -(2 ^ 63 : Int)) = false := decide_eq_false (by omega)
    have e2 : decide (n ≥ 2 ^ 63) = false := decide_eq_false (by omega)
    rw [e1, e2]; rfl
  · rw [S_len]
    have : (2 ^ 63 - 1 : Int) / 1000 ≤ (2 ^ 63 - 1) / n := by
      apply Int.le_ediv_of_mul_le (by omega)
      calc (2 ^ 63 - 1 : Int) / 1000 * n ≤ (2 ^ 63 - 1 : Int) / 1000 * 1000 := Int.mul_le_mul_of_nonneg_left h2 (by decide)
        _ ≤ 2 ^ 63 - 1 := by decide
    omega
  · rw [S_len]
    have : z.length * n.toNat ≤ 1000 * 1000 := Nat.mul_le_mul h3 (by omega)
    generalize z.length * n.toNat = w at this
    have := sizeBig
    exact decide_eq_false (show ¬ w > sizeLine by omega)
  · rw [mul_S]
    exact ⟨.str _, H, I.tok _, ⟨_, rfl⟩, q⟩
/-- a written tuple's values -/
def absL : List Value → Option (List V)
  | [] => some []
  | v :: r => (absV v).bind fun x => (absL r).map (x :: ·)
theorem relV_of {u : Value} {x : V} (h : absV u = some x) : RelV x u := by
  cases u <;> first
    | (cases h; rfl)
    | (cases h; exact ⟨_, rfl⟩)
    | (cases h; done)
theorem absL_ok : ∀ {us : List Value} {xs : List V}, absL us = some xs → Vals xs us
  | [], xs, h => by cases h; exact .nil
  | v :: r, xs, h => by
    unfold absL at h
    cases e : absV v with
    | none => rw [e] at h; cases h
    | some x =>
      rw [e] at h
      cases e2 : absL r with
      | none => rw [e2] at h; cases h
      | some ys => rw [e2] at h; cases h; exact .cons (relV_of e) (absL_ok e2)
def absT (o : Obj) : Option (List V) := match o.cls, o.data with
  | .type n, .seq its _ => if n = "tuple" ∧ its.size ≤ sizeLine then absL its.toList else none
  | _, _ => none
theorem sqT_of {K : PySem.W.Frag} {A : Addr} {o : Obj} {xs : List V} {H : Hp} (h : K.lookup A = some o) (hs : absT o = some xs) : SqT K H A xs := by
  unfold absT at hs
  split at hs
  · next n its k e1 e2 =>
    split at hs
    · next c => exact .inr ⟨o, its, k, h, by rw [e1, c.1], e2, c.2, absL_ok hs⟩
    · cases hs
  · cases hs
/-- a statement that is never run -/
theorem ps_never {X : Cx} {st : Stmt} : PS X st (fun _ _ _ => False) := ⟨fun _ _ _ _ _ _ h => h.elim⟩
/-- a cut of a list, as a slice does it -/
def cutL (l : List Nat) (lo hi : Option Int) : List Nat := (l.drop (HT.sIx l.length 0 lo)).take (HT.sIx l.length l.length hi - HT.sIx l.length 0 lo)
theorem cutS_S (l : List Nat) (lo hi : Option Int) : cutS (S l) lo hi = S (cutL l lo hi) := by
  unfold cutS cutL
  rw [S_len]
theorem cutL_len (l : List Nat) (lo hi : Option Int) : (cutL l lo hi).length ≤ l.length := by
  unfold cutL
  rw [List.length_take, List.length_drop]
  omega
theorem cutL_to {l : List Nat} {n : Nat} (h : n ≤ l.length) : cutL l none (some (n : Int)) = l.take n := by
  unfold cutL
  rw [HT.sIx_none, HT.sIx_nat, List.drop_zero, Nat.sub_zero, Nat.min_eq_left h]
theorem cutL_from {l : List Nat} {n : Nat} (h : n ≤ l.length) : cutL l (some (n : Int)) none = l.drop n := by
  unfold cutL
  rw [HT.sIx_none, HT.sIx_nat, Nat.min_eq_left h]
  exact List.take_of_length_le (by rw [List.length_drop]; exact Nat.le_refl _)
theorem cutL_mid {l : List Nat} {i j : Nat} (h1 : i ≤ j) (h : j ≤ l.length) : cutL l (some (i : Int)) (some (j : Int)) = (l.drop i).take (j - i) := by
  unfold cutL
  rw [HT.sIx_nat, HT.sIx_nat, Nat.min_eq_left h, Nat.min_eq_left (by omega)]
section
variable {K : PySem.W.Frag} {σ : L2.St} {H : Hp} {te : TE} {ta tb tc : TE} {tas : TA} {g : TG} {gs : TGs} {D : Ends} {Q : VK} {R : It → Hp → Prop} {v x : V} {i : Nat}
theorem g_mulS {z : List Nat} {n : Int} (c : -1000 ≤ n ∧ n ≤ 1000 ∧ z.length ≤ 1000) (q : Q (.str (S (List.replicate n.toNat z).flatten)) H) : rMulS (.str (S z)) (.int n) H Q := ⟨z, n, rfl, rfl, c.1, c.2.1, c.2.2, q⟩
theorem g_catS {a b : List Nat} {R : Str → Str → Prop} (c : a.length + b.length ≤ 1000000) (q : R (S a) (S b)) : ∃ i j, V.str (S a) = .str i ∧ V.str (S b) = .str j ∧ i.length + j.length ≤ sizeLine ∧ R i j :=
  ⟨S a, S b, rfl, rfl, by rw [S_len, S_len]; exact Nat.le_trans c sizeBig, q⟩
theorem g_ixS {l : List Nat} {n : Int} {c : Nat} (hl : l.length ≤ 1000000) (a : atI l n = some c) (q : Q (.str (S [c])) H) : rIxS (.str (S l)) (.int n) H Q := ⟨S l, n, c, rfl, rfl, by rw [S_len]; exact Nat.le_trans hl sizeBig, a, q⟩
theorem g_slS {l : List Nat} {lo hi : Option Int} (hl : l.length ≤ 1000000) (q : Q (.str (S (cutL l lo hi))) H) : rSlS (.str (S l)) lo hi H Q := ⟨S l, rfl, by rw [S_len]; exact Nat.le_trans hl sizeBig, by rw [cutS_S]; exact q⟩
theorem g_lenS {l : List Nat} {R : Str → Prop} (hl : l.length ≤ 1000000) (q : R (S l)) : ∃ z, [V.str (S l)] = [V.str z] ∧ z.length ≤ sizeLine ∧ R z := ⟨S l, rfl, by rw [S_len]; exact Nat.le_trans hl sizeBig, q⟩
theorem g_exi {n : Int} {R : Int → Prop} (q : R n) : ∃ i, V.int n = .int i ∧ R i := ⟨n, rfl, q⟩
theorem g_istr (q : te σ H fun v H1 => ∃ x, v = .str x ∧ R (Its x) H1) : iStr te σ H R := q
theorem g_glst {n : Nat} {R : L2.St → Hp → Prop} (q : ∃ a xs, v = .ref a ∧ SqL K H a xs ∧ xs.length = n ∧ gs xs σ H R) : gLst K n gs v σ H R := q
theorem g_aug {ti : TIp} (h : σ[i]? = some (some x)) (q : te σ H fun y H1 => ti x y H1 fun z H2 => D.nx (σ.set i (some z)) H2) : tAug i te ti D σ H := ⟨x, h, q⟩
theorem g_chain {r r' : R2} (q : ta σ H fun x H1 => tb σ H1 fun y H2 => r x y H2 fun z H3 => ∃ k, z = .bl k ∧ (if k = true then tc σ H3 fun w' H4 => r' y w' H4 Q else Q (.bl false) H3)) : tChain r r' ta tb tc σ H Q := q
theorem g_isN {P : Prop} (q : P) : V.non = .non ∧ P := ⟨rfl, q⟩
theorem log_ok {n : Int} (c : n.natAbs < 10 ^ 60) : n.natAbs.log2 < 1920 := by
  by_cases h : n.natAbs = 0
  · rw [h]; decide
  · exact Nat.lt_trans ((Nat.log2_lt h).mpr (Nat.lt_trans c (by decide : 10 ^ 60 < 2 ^ 200))) (by decide)
theorem g_strI {n : Int} {R : Int → Prop} (c : n.natAbs < 10 ^ 60) (q : R n) : ∃ i : Int, [V.int n] = [V.int i] ∧ i.natAbs.log2 < 1920 ∧ R i := ⟨n, rfl, log_ok c, q⟩
theorem iteNK {c A B : Prop} {inst : Decidable c} (h1 : ¬ c → A) (h2 : c → B) : if (!decide c) = true then A else B := by
  by_cases h : c
  · rw [decide_eq_true h, if_neg (by decide)]; exact h2 h
  · rw [decide_eq_false h, if_pos (by decide)]; exact h1 h
theorem g_inS {c : Nat} {z : Str} {R : Nat → Str → Prop} (q : R c z) : ∃ (c' : Nat) (z' : Str), V.str (S [c]) = .str ⟨#[c']⟩ ∧ V.str z = .str z' ∧ R c' z' := ⟨c, z, rfl, rfl, q⟩
theorem g_ipI {f : Int → Int → Int} {m n : Int} (q : Q (.int (f m n)) H) : ipI f (.int m) (.int n) H Q := ⟨m, n, rfl, rfl, q⟩
end
end Q

namespace Q
open PySem PySem.Spec PyProof.Rows L2
section
variable {K : PySem.W.Frag} {σ : L2.St} {H : Hp} {te to : TE} {t : TA} {Q : VK}
theorem g_bm {T : String} {r : V → List V → Hp → VK → Prop} (q : to σ H fun x H1 => tyV K T x H1 ∧ t σ H1 fun xs H2 => r x xs H2 Q) : tBM K T r to t σ H Q := q
theorem g_bm0 {T : String} {r : V → List V → Hp → VK → Prop} (q : to σ H fun x H1 => tyV K T x H1 ∧ r x [] H1 Q) : tBM0 K T r to σ H Q := q
end
end Q
/-! the civil calendar, in plain -/
namespace Civ
def isLeap (y : Int) : Bool := decide (y % 4 = 0) && (!decide (y % 100 = 0) || decide (y % 400 = 0))
def LEN : List Int := [31, 28, 31, 30, 31, 30, 31, 31, 30, 31, 30, 31]
def BEF : List Int := [0, 31, 59, 90, 120, 151, 181, 212, 243, 273, 304, 334]
def lenT (k : Int) : Int := LEN.getD k.toNat 0
def bef (k : Int) : Int := BEF.getD k.toNat 0
def lp (y : Int) : Int := if isLeap y = true then 1 else 0
def len (m : Int) : Int := lenT (m % 12) + if m % 12 = 1 then lp (m / 12 + 1) else 0
def yd (p : Int) : Int := 365 * p + p / 4 - p / 100 + p / 400
def fd (m : Int) : Int := yd (m / 12) + bef (m % 12) + if 1 < m % 12 then lp (m / 12 + 1) else 0
theorem lp_eq (y : Int) : (y % 4 = 0 ∧ (y % 100 ≠ 0 ∨ y % 400 = 0) ∧ lp y = 1) ∨ (¬ (y % 4 = 0 ∧ (y % 100 ≠ 0 ∨ y % 400 = 0)) ∧ lp y = 0) := by
  by_cases h : isLeap y = true
  · left
    have e : lp y = 1 := if_pos h
    unfold isLeap at h
    rw [Bool.and_eq_true, decide_eq_true_eq, Bool.or_eq_true, Bool.not_eq_true', decide_eq_false_iff_not, decide_eq_true_eq] at h
    exact ⟨h.1, h.2, e⟩
  · right
    have e : lp y = 0 := if_neg h
    refine ⟨fun k => h ?_, e⟩
    unfold isLeap
    rw [Bool.and_eq_true, decide_eq_true_eq, Bool.or_eq_true, Bool.not_eq_true', decide_eq_false_iff_not, decide_eq_true_eq]
    exact k
theorem yd_succ (p : Int) : yd (p + 1) = yd p + 365 + lp (p + 1) := by
  unfold yd
  rcases lp_eq (p + 1) with ⟨h1, h2, e⟩ | ⟨h, e⟩ <;> rw [e] <;> omega
theorem mod12 (m : Int) : m % 12 = 0 ∨ m % 12 = 1 ∨ m % 12 = 2 ∨ m % 12 = 3 ∨ m % 12 = 4 ∨ m % 12 = 5 ∨ m % 12 = 6 ∨ m % 12 = 7 ∨ m % 12 = 8 ∨ m % 12 = 9 ∨ m % 12 = 10 ∨ m % 12 = 11 := by omega
theorem lp01 (y : Int) : 0 ≤ lp y ∧ lp y ≤ 1 := by
  unfold lp; split <;> omega
theorem fd_succ (m : Int) : fd (m + 1) = fd m + len m := by
  have q := mod12 m
  have ys := yd_succ (m / 12)
  unfold fd len
  rcases q with h | h | h | h | h | h | h | h | h | h | h | h
  all_goals first
    | (have e1 : (m + 1) / 12 = m / 12 := by omega
       have e2 : (m + 1) % 12 = m % 12 + 1 := by omega
       rw [e1, e2, h]
       simp only [bef, lenT, BEF, LEN]
       simp
       try omega)
    | (have e1 : (m + 1) / 12 = m / 12 + 1 := by omega
       have e2 : (m + 1) % 12 = 0 := by omega
       rw [e1, e2, h, ys]
       simp only [bef, lenT, BEF, LEN]
       simp
       try omega)
theorem len_le (m : Int) : 28 ≤ len m ∧ len m ≤ 31 := by
  have q := mod12 m
  have l := lp01 (m / 12 + 1)
  unfold len
  rcases q with h | h | h | h | h | h | h | h | h | h | h | h <;> rw [h] <;> simp only [lenT, LEN] <;> simp <;> omega
theorem fd_add (m : Int) : ∀ n : Nat, fd m + 28 * n ≤ fd (m + n)
  | 0 => by simp
  | n + 1 => by
    have h1 := fd_add m n
    have h2 := fd_succ (m + n)
    have h3 := len_le (m + n)
    have e : m + ((n + 1 : Nat) : Int) = m + n + 1 := by omega
    rw [e, h2]
    omega
theorem fd_lt {m k : Int} (h : m < k) : fd m + 28 ≤ fd k := by
  have := fd_add m (k - m).toNat
  have e : m + ((k - m).toNat : Int) = k := by omega
  rw [e] at this
  omega
theorem fd_le {m k : Int} (h : m ≤ k) : fd m ≤ fd k := by
  rcases Int.lt_or_eq_of_le h with h | h
  · have := fd_lt h; omega
  · rw [h]; omega
/-- the month of a day -/
def IsM (d m : Int) : Prop := fd m ≤ d ∧ d < fd (m + 1)
theorem IsM.uniq {d m k : Int} (h : IsM d m) (g : IsM d k) : m = k := by
  rcases Int.lt_trichotomy m k with l | l | l
  · have := fd_le (show m + 1 ≤ k by omega)
    have h2 := h.2; have g1 := g.1; omega
  · exact l
  · have := fd_le (show k + 1 ≤ m by omega)
    have h2 := g.2; have g1 := h.1; omega
theorem fd_year (p : Int) : fd (12 * p) = yd p := by
  unfold fd
  have e1 : 12 * p / 12 = p := by omega
  have e2 : 12 * p % 12 = 0 := by omega
  rw [e1, e2]
  simp [bef, BEF]
theorem yd_cycle (p c : Int) : yd (p + 400 * c) = yd p + 146097 * c := by
  unfold yd; omega
theorem lp_cycle (y c : Int) : lp (y + 400 * c) = lp y := by
  rcases lp_eq (y + 400 * c) with ⟨h1, h2, e⟩ | ⟨h, e⟩ <;> rcases lp_eq y with ⟨g1, g2, f⟩ | ⟨g, f⟩ <;> rw [e, f] <;> omega
theorem fd_cycle (m c : Int) : fd (m + 4800 * c) = fd m + 146097 * c := by
  unfold fd
  have e1 : (m + 4800 * c) / 12 = m / 12 + 400 * c := by omega
  have e2 : (m + 4800 * c) % 12 = m % 12 := by omega
  have e3 : m / 12 + 400 * c + 1 = m / 12 + 1 + 400 * c := by omega
  rw [e1, e2, yd_cycle, e3, lp_cycle]
  omega
theorem IsM.cycle {d m c : Int} (h : IsM d m) : IsM (d + 146097 * c) (m + 4800 * c) := by
  have e : m + 4800 * c + 1 = m + 1 + 4800 * c := by omega
  unfold IsM
  rw [e, fd_cycle, fd_cycle]
  have h1 := h.1; have h2 := h.2
  omega
/-- a year of the cycle by days, from below -/
theorem yd_mono {p q : Int} (h : p ≤ q) : yd p ≤ yd q := by
  rw [← fd_year, ← fd_year]; exact fd_le (by omega)
/-- day of (year, month, date) -/
def dayOf (y mo d : Int) : Option Int := if (1 ≤ mo ∧ mo ≤ 12) ∧ (1 ≤ d ∧ d ≤ len (12 * (y - 1) + mo - 1)) then some (fd (12 * (y - 1) + mo - 1) + d - 1) else none
theorem dayOf_isM {y mo d k : Int} (h : dayOf y mo d = some k) : IsM k (12 * (y - 1) + mo - 1) ∧ 1 ≤ mo ∧ mo ≤ 12 ∧ d = k - fd (12 * (y - 1) + mo - 1) + 1 := by
  unfold dayOf at h
  split at h
  · next c =>
    cases h
    refine ⟨⟨by omega, ?_⟩, c.1.1, c.1.2, by omega⟩
    rw [fd_succ]
    omega
  · cases h
theorem dayOf_of {d m : Int} (h : IsM d m) : dayOf (m / 12 + 1) (m % 12 + 1) (d - fd m + 1) = some d := by
  have e : 12 * (m / 12 + 1 - 1) + (m % 12 + 1) - 1 = m := by omega
  unfold dayOf
  rw [e]
  have h1 := h.1; have h2 := h.2
  rw [fd_succ] at h2
  rw [if_pos ⟨by omega, by omega⟩]
  congr 1
  omega
end Civ
/-! digits, words of days and of minutes, in plain -/
namespace Dg
open PySem PySem.NumText
theorem val_snoc (l : List Nat) (c : Nat) : digitsVal (l ++ [c]) = digitsVal l * 10 + (c - 48) := by
  unfold digitsVal; rw [List.foldl_append]; rfl
theorem val_cons0 (l : List Nat) : digitsVal (48 :: l) = digitsVal l := rfl
theorem val_rep (l : List Nat) : ∀ j : Nat, digitsVal (List.replicate j 48 ++ l) = digitsVal l
  | 0 => rfl
  | j + 1 => by rw [List.replicate_succ, List.cons_append, val_cons0, val_rep l j]
def dg (n : Nat) : Nat → List Nat
  | 0 => []
  | k + 1 => (48 + n / 10 ^ k % 10) :: dg n k
theorem dg_len (n : Nat) : ∀ k, (dg n k).length = k
  | 0 => rfl
  | k + 1 => by show (dg n k).length + 1 = k + 1; rw [dg_len n k]
theorem dg_dig (n : Nat) : ∀ k, ∀ c ∈ dg n k, 48 ≤ c ∧ c ≤ 57
  | 0, c, h => nomatch h
  | k + 1, c, h => by
    rcases List.mem_cons.mp h with e | h
    · have : n / 10 ^ k % 10 < 10 := Nat.mod_lt _ (by decide)
      omega
    · exact dg_dig n k c h
theorem dg_snoc (n : Nat) : ∀ k, dg n (k + 1) = dg (n / 10) k ++ [48 + n % 10]
  | 0 => by show [48 + n / 10 ^ 0 % 10] = _; rw [Nat.pow_zero, Nat.div_one]; rfl
  | k + 1 => by
    show (48 + n / 10 ^ (k + 1) % 10) :: dg n (k + 1) = (48 + n / 10 / 10 ^ k % 10) :: dg (n / 10) k ++ [48 + n % 10]
    rw [dg_snoc n k, Nat.div_div_eq_div_mul, Nat.pow_succ, Nat.mul_comm (10 ^ k) 10, List.cons_append]
theorem dg_val : ∀ (k n : Nat), digitsVal (dg n k) = n % 10 ^ k
  | 0, n => by rw [Nat.pow_zero, Nat.mod_one]; rfl
  | k + 1, n => by
    rw [dg_snoc, val_snoc, dg_val k (n / 10), Nat.pow_succ, Nat.mul_comm (10 ^ k) 10, Nat.mod_mul]
    have : n % 10 < 10 := Nat.mod_lt _ (by decide)
    omega
theorem snoc_ind {α : Type} {P : List α → Prop} (h0 : P []) (h1 : ∀ l c, P l → P (l ++ [c])) (l : List α) : P l := by
  have : ∀ (n : Nat) (l : List α), l.length = n → P l := by
    intro n
    induction n with
    | zero => intro l h; rw [List.length_eq_zero_iff.mp h]; exact h0
    | succ n ih =>
      intro l h
      have hne : l ≠ [] := fun e => by rw [e] at h; cases h
      rw [← List.dropLast_concat_getLast hne]
      exact h1 _ _ (ih _ (by rw [List.length_dropLast, h]; rfl))
  exact this _ l rfl
theorem dg_of_val (l : List Nat) : (∀ c ∈ l, 48 ≤ c ∧ c ≤ 57) → dg (digitsVal l) l.length = l := by
  refine snoc_ind (P := fun l => (∀ c ∈ l, 48 ≤ c ∧ c ≤ 57) → dg (digitsVal l) l.length = l) (fun _ => rfl) (fun l c ih h => ?_) l
  have hc := h c (List.mem_append_right _ List.mem_cons_self)
  have hl := ih fun d hd => h d (List.mem_append_left _ hd)
  rw [List.length_append, List.length_singleton, val_snoc, dg_snoc]
  have e1 : (digitsVal l * 10 + (c - 48)) / 10 = digitsVal l := by omega
  have e2 : 48 + (digitsVal l * 10 + (c - 48)) % 10 = c := by omega
  rw [e1, e2, hl]
theorem val_lt (l : List Nat) (h : ∀ c ∈ l, 48 ≤ c ∧ c ≤ 57) : digitsVal l < 10 ^ l.length := by
  have e := dg_val l.length (digitsVal l)
  rw [dg_of_val l h] at e
  rw [e]
  exact Nat.mod_lt _ (Nat.pow_pos (by decide))
theorem dg_inj {k m n : Nat} (hm : m < 10 ^ k) (hn : n < 10 ^ k) (h : dg m k = dg n k) : m = n := by
  have := congrArg digitsVal h
  rw [dg_val, dg_val, Nat.mod_eq_of_lt hm, Nat.mod_eq_of_lt hn] at this
  exact this
theorem pad {n k : Nat} (hk : 0 < k) (h : n < 10 ^ k) : List.replicate (k - (TL.numL n).length) 48 ++ TL.numL n = dg n k := by
  have hl := TL.numL_len hk h
  have hd : ∀ c ∈ List.replicate (k - (TL.numL n).length) 48 ++ TL.numL n, 48 ≤ c ∧ c ≤ 57 := fun c hc => by
    rcases List.mem_append.mp hc with q | q
    · rw [List.eq_of_mem_replicate q]; decide
    · exact TL.numL_digits n c q
  have e := dg_of_val _ hd
  rw [val_rep, TL.numL_val, List.length_append, List.length_replicate] at e
  have e2 : k - (TL.numL n).length + (TL.numL n).length = k := by omega
  rw [e2] at e
  exact e.symm
/-! ### words of days -/
def isDig (l : List Nat) : Bool := !l.isEmpty && l.all (fun c => decide (48 ≤ c) && decide (c ≤ 57))
theorem isDig_iff {l : List Nat} : isDig l = true ↔ l ≠ [] ∧ ∀ c ∈ l, 48 ≤ c ∧ c ≤ 57 := by
  unfold isDig
  rw [Bool.and_eq_true, List.all_eq_true]
  constructor
  · rintro ⟨h1, h2⟩
    refine ⟨(fun e => by rw [e] at h1; cases h1), fun c hc => ?_⟩
    have := h2 c hc
    rw [Bool.and_eq_true, decide_eq_true_eq, decide_eq_true_eq] at this
    exact this
  · rintro ⟨h1, h2⟩
    constructor
    · cases l with
      | nil => exact absurd rfl h1
      | cons a l => rfl
    · intro c hc
      rw [Bool.and_eq_true, decide_eq_true_eq, decide_eq_true_eq]
      exact h2 c hc
def dw (d m : Int) : List Nat := dg (m / 12 + 1).toNat 4 ++ 45 :: (dg (m % 12 + 1).toNat 2 ++ 45 :: dg (d - Civ.fd m + 1).toNat 2)
def form (w : List Nat) : Bool := decide (w.length = 10) && (decide (w.getD 4 0 = 45) && decide (w.getD 7 0 = 45)) && (isDig (w.take 4) && (isDig ((w.drop 5).take 2) && isDig (w.drop 8)))
def rday (w : List Nat) : Option Int := Civ.dayOf (digitsVal (w.take 4) : Nat) (digitsVal ((w.drop 5).take 2) : Nat) (digitsVal (w.drop 8) : Nat)
def rdw (w : List Nat) : Option Int := if form w = true then (rday w).bind fun d => if 0 ≤ d then some d else none else none
theorem dw_len (d m : Int) : (dw d m).length = 10 := by
  unfold dw
  rw [List.length_append, List.length_cons, List.length_append, List.length_cons, dg_len, dg_len, dg_len]
theorem fd_top : Civ.fd 119988 = 3652059 := by decide
theorem fd_zero : Civ.fd 0 = 0 := by decide
theorem month_range {d m : Int} (h : Civ.IsM d m) (h0 : 0 ≤ d) (h1 : d < 3652059) : 0 ≤ m ∧ m < 119988 := by
  constructor
  · apply Classical.byContradiction
    intro g
    have := Civ.fd_le (show m + 1 ≤ 0 by omega)
    rw [fd_zero] at this
    have := h.2
    omega
  · apply Classical.byContradiction
    intro g
    have := Civ.fd_le (show 119988 ≤ m by omega)
    rw [fd_top] at this
    have := h.1
    omega
theorem split10 {w : List Nat} (h : w.length = 10) : w = w.take 4 ++ w.getD 4 0 :: ((w.drop 5).take 2 ++ w.getD 7 0 :: w.drop 8) := by
  match w, h with
  | [a, b, c, d, e, f, g, i, j, k], _ => rfl
theorem dw_parts (d m : Int) : (dw d m).take 4 = dg (m / 12 + 1).toNat 4 ∧ (dw d m).getD 4 0 = 45 ∧ ((dw d m).drop 5).take 2 = dg (m % 12 + 1).toNat 2 ∧ (dw d m).getD 7 0 = 45 ∧ (dw d m).drop 8 = dg (d - Civ.fd m + 1).toNat 2 := by
  unfold dw
  have h4 := dg_len (m / 12 + 1).toNat 4
  have h2 := dg_len (m % 12 + 1).toNat 2
  have h3 := dg_len (d - Civ.fd m + 1).toNat 2
  generalize dg (m / 12 + 1).toNat 4 = a at h4
  generalize dg (m % 12 + 1).toNat 2 = b at h2
  generalize dg (d - Civ.fd m + 1).toNat 2 = c at h3
  match a, h4, b, h2, c, h3 with
  | [a, b, c, d], _, [e, f], _, [g, i], _ => exact ⟨rfl, rfl, rfl, rfl, rfl⟩
theorem isDig_dg (n k : Nat) : isDig (dg n (k + 1)) = true := isDig_iff.mpr ⟨(fun h => nomatch h), dg_dig n (k + 1)⟩
theorem day_date {d m : Int} (h : Civ.IsM d m) : 1 ≤ d - Civ.fd m + 1 ∧ d - Civ.fd m + 1 ≤ 31 := by
  have h1 := h.1
  have h2 := h.2
  rw [Civ.fd_succ] at h2
  have := Civ.len_le m
  omega
theorem rdw_dw {d m : Int} (h : Civ.IsM d m) (h0 : 0 ≤ d) (h1 : d < 3652059) : rdw (dw d m) = some d := by
  obtain ⟨p1, p2, p3, p4, p5⟩ := dw_parts d m
  have hm := month_range h h0 h1
  have hd := day_date h
  unfold rdw form rday
  rw [p1, p2, p3, p4, p5, dw_len, isDig_dg, isDig_dg, isDig_dg, dg_val, dg_val, dg_val]
  rw [if_pos (by decide)]
  rw [Nat.mod_eq_of_lt (by omega : (m / 12 + 1).toNat < 10 ^ 4), Nat.mod_eq_of_lt (by omega : (m % 12 + 1).toNat < 10 ^ 2), Nat.mod_eq_of_lt (by omega : (d - Civ.fd m + 1).toNat < 10 ^ 2)]
  rw [Int.toNat_of_nonneg (by omega), Int.toNat_of_nonneg (by omega), Int.toNat_of_nonneg (by omega), Civ.dayOf_of h]
  show (if 0 ≤ d then some d else none) = some d
  rw [if_pos h0]
theorem form_of {w : List Nat} (h : form w = true) : w.length = 10 ∧ w.getD 4 0 = 45 ∧ w.getD 7 0 = 45 ∧ isDig (w.take 4) = true ∧ isDig ((w.drop 5).take 2) = true ∧ isDig (w.drop 8) = true := by
  unfold form at h
  rw [Bool.and_eq_true, Bool.and_eq_true, Bool.and_eq_true, Bool.and_eq_true, Bool.and_eq_true, decide_eq_true_eq, decide_eq_true_eq, decide_eq_true_eq] at h
  exact ⟨h.1.1, h.1.2.1, h.1.2.2, h.2.1, h.2.2.1, h.2.2.2⟩
theorem dw_rdw {w : List Nat} {d : Int} (h : rdw w = some d) : 0 ≤ d ∧ d < 3652059 ∧ ∀ m, Civ.IsM d m → dw d m = w := by
  unfold rdw at h
  split at h
  · next f =>
    obtain ⟨f1, f2, f3, f4, f5, f6⟩ := form_of f
    cases e : rday w with
    | none => rw [e] at h; cases h
    | some k =>
      rw [e] at h
      have h' : (if 0 ≤ k then some k else none) = some d := h
      split at h'
      · next k0 =>
        have hk : k = d := Option.some.inj h'
        subst hk
        unfold rday at e
        obtain ⟨i1, i2, i3, i4⟩ := Civ.dayOf_isM e
        have l4 : (w.take 4).length = 4 := by rw [List.length_take, f1]; rfl
        have l2 : ((w.drop 5).take 2).length = 2 := by rw [List.length_take, List.length_drop, f1]; rfl
        have l3 : (w.drop 8).length = 2 := by rw [List.length_drop, f1]
        have b4 := val_lt _ (isDig_iff.mp f4).2
        have b2 := val_lt _ (isDig_iff.mp f5).2
        have b3 := val_lt _ (isDig_iff.mp f6).2
        have w4 := dg_of_val _ (isDig_iff.mp f4).2
        have w2 := dg_of_val _ (isDig_iff.mp f5).2
        have w3 := dg_of_val _ (isDig_iff.mp f6).2
        rw [l4] at b4 w4
        rw [l2] at b2 w2
        rw [l3] at b3 w3
        have sp := split10 f1
        rw [f2, f3] at sp
        generalize digitsVal (w.take 4) = y at *
        generalize digitsVal ((w.drop 5).take 2) = mo at *
        generalize digitsVal (w.drop 8) = da at *
        refine ⟨k0, ?_, fun m hm => ?_⟩
        · have := Civ.fd_le (show 12 * ((y : Int) - 1) + mo - 1 + 1 ≤ 119988 by omega)
          rw [fd_top] at this
          have := i1.2
          omega
        · have em := Civ.IsM.uniq hm i1
          subst em
          have e1 : ((12 * ((y : Int) - 1) + mo - 1) / 12 + 1).toNat = y := by omega
          have e2 : ((12 * ((y : Int) - 1) + mo - 1) % 12 + 1).toNat = mo := by omega
          have e3 : (k - Civ.fd (12 * ((y : Int) - 1) + mo - 1) + 1).toNat = da := by omega
          unfold dw
          rw [e1, e2, e3, w4, w2, w3]
          exact sp.symm
      · cases h'
  · cases h
/-! ### words of minutes -/
def mw (k : Int) : List Nat := dg (k / 60).toNat 2 ++ 46 :: dg (k % 60).toNat 2
def mform (w : List Nat) : Bool := decide (w.length = 5) && decide (w.getD 2 0 = 46) && (isDig (w.take 2) && isDig (w.drop 3))
def rmw (w : List Nat) : Option Int := if mform w = true then (if (24 < digitsVal (w.take 2) ∨ 59 < digitsVal (w.drop 3)) ∨ (digitsVal (w.take 2) = 24 ∧ 0 < digitsVal (w.drop 3)) then none else some (60 * (digitsVal (w.take 2) : Nat) + (digitsVal (w.drop 3) : Nat))) else none
theorem mw_len (k : Int) : (mw k).length = 5 := by
  unfold mw
  rw [List.length_append, List.length_cons, dg_len, dg_len]
theorem mw_parts (k : Int) : (mw k).take 2 = dg (k / 60).toNat 2 ∧ (mw k).getD 2 0 = 46 ∧ (mw k).drop 3 = dg (k % 60).toNat 2 := by
  unfold mw
  have h4 := dg_len (k / 60).toNat 2
  have h2 := dg_len (k % 60).toNat 2
  generalize dg (k / 60).toNat 2 = a at h4
  generalize dg (k % 60).toNat 2 = b at h2
  match a, h4, b, h2 with
  | [a, b], _, [e, f], _ => exact ⟨rfl, rfl, rfl⟩
theorem rmw_mw {k : Int} (h0 : 0 ≤ k) (h1 : k ≤ 1440) : rmw (mw k) = some k := by
  obtain ⟨p1, p2, p3⟩ := mw_parts k
  unfold rmw mform
  rw [p1, p2, p3, mw_len, isDig_dg, isDig_dg, dg_val, dg_val]
  rw [if_pos (by decide)]
  rw [Nat.mod_eq_of_lt (by omega : (k / 60).toNat < 10 ^ 2), Nat.mod_eq_of_lt (by omega : (k % 60).toNat < 10 ^ 2)]
  rw [if_neg (by omega)]
  congr 1
  omega
theorem split5 {w : List Nat} (h : w.length = 5) : w = w.take 2 ++ w.getD 2 0 :: w.drop 3 := by
  match w, h with
  | [a, b, c, d, e], _ => rfl
theorem mw_rmw {w : List Nat} {k : Int} (h : rmw w = some k) : 0 ≤ k ∧ k ≤ 1440 ∧ mw k = w := by
  unfold rmw at h
  split at h
  · next f =>
    unfold mform at f
    rw [Bool.and_eq_true, Bool.and_eq_true, Bool.and_eq_true, decide_eq_true_eq, decide_eq_true_eq] at f
    obtain ⟨⟨f1, f2⟩, f3, f4⟩ := f
    split at h
    · cases h
    · next c =>
      have l2 : (w.take 2).length = 2 := by rw [List.length_take, f1]; rfl
      have l3 : (w.drop 3).length = 2 := by rw [List.length_drop, f1]
      have w2 := dg_of_val _ (isDig_iff.mp f3).2
      have w3 := dg_of_val _ (isDig_iff.mp f4).2
      rw [l2] at w2
      rw [l3] at w3
      have sp := split5 f1
      rw [f2] at sp
      generalize digitsVal (w.take 2) = y at *
      generalize digitsVal (w.drop 3) = mo at *
      cases h
      refine ⟨by omega, by omega, ?_⟩
      have e1 : ((60 * (y : Int) + mo) / 60).toNat = y := by omega
      have e2 : ((60 * (y : Int) + mo) % 60).toNat = mo := by omega
      unfold mw
      rw [e1, e2, w2, w3]
      exact sp.symm
  · cases h
end Dg
namespace Q
open PySem PySem.Spec PyProof.Rows L2 SX
/-! own words: ne (two addresses differ), hp (what stands at an address), sd (a side), go (a reading, straight on) -/
local macro_rules | `(tactic| walk_at "ne") => `(tactic| first
  | assumption
  | (refine Ne.symm ?_; assumption)
  | (refine (fun h2 => ne_of_none (by assumption) h2) ?_; assumption)
  | (refine Ne.symm ((fun h2 => ne_of_none (by assumption) h2) ?_); assumption))
local macro_rules | `(tactic| walk_at "hp") => `(tactic| first
  | with_reducible assumption
  | with_reducible exact upd_same
  | ((with_reducible refine' (upd_ne ?k1).trans ?k2); (case k1 => walk_at "ne"); (case k2 => walk_at "hp")))
local macro_rules | `(tactic| walk_at "sq") => `(tactic| first
  | with_reducible assumption
  | ((with_reducible refine' SqL.of ?k1); (case k1 => walk_at "hp"))
  | ((with_reducible refine' SqT.of ?k1); (case k1 => walk_at "hp")))
local macro_rules | `(tactic| walk_at "sd") => `(tactic| first
  | with_reducible rfl
  | with_reducible assumption
  | omega
  | decide
  | (refine cmul_r ?_ ?_ <;> decide)
  | (refine cmul_l ?_ ?_ <;> decide)
  | exact ⟨by decide, by decide, by decide⟩
  | exact ⟨by omega, by omega⟩)
local macro_rules | `(tactic| walk_at "go1") => `(tactic| first
  | ((with_reducible refine' g_var ?k1 ?k2); (case k1 => rfl))
  | (with_reducible refine g_c ?_)
  | (with_reducible refine g_op ?_)
  | (with_reducible refine g_un ?_)
  | (with_reducible refine g_tt ?_)
  | (with_reducible refine g_tB ?_)
  | (with_reducible refine g_ifs ?_)
  | (with_reducible refine g_seq ?_)
  | (with_reducible refine g_next ?_)
  | (with_reducible refine g_asg ?_)
  | (with_reducible refine g_name ?_)
  | (with_reducible refine g_ret ?_)
  | (with_reducible refine g_drop ?_)
  | (with_reducible refine g_nil ?_)
  | (with_reducible refine g_cons ?_)
  | (with_reducible refine g_cb ?_)
  | (with_reducible refine g_sub ?_)
  | (with_reducible refine g_call ?_)
  | (with_reducible refine g_if ?_)
  | (with_reducible refine g_and ?_)
  | (with_reducible refine g_or ?_)
  | (with_reducible refine g_not ?_)
  | (with_reducible refine g_tup ?_)
  | (with_reducible refine g_lst ?_)
  | (with_reducible refine g_vei ?_)
  | (with_reducible refine g_jc ?_)
  | (with_reducible refine g_jn ?_)
  | (with_reducible refine g_fmt ?_)
  | (with_reducible refine g_ost ?_)
  | (with_reducible refine g_mko ?_)
  | (with_reducible refine g_fld ?_)
  | (with_reducible refine g_sfld ?_)
  | (with_reducible refine g_meth ?_)
  | (with_reducible refine g_make ?_)
  | (with_reducible refine g_dget ?_)
  | (with_reducible refine g_din ?_)
  | (with_reducible refine g_dni ?_)
  | (with_reducible refine g_dput ?_)
  | (with_reducible refine g_dg1 ?_)
  | (with_reducible refine g_dg2 ?_)
  | (with_reducible refine g_or2 ?_)
  | (with_reducible refine g_an2 ?_)
  | (with_reducible refine g_no2 ?_)
  | (with_reducible refine g_itup ?_)
  | (with_reducible refine g_ilist ?_)
  | (with_reducible refine g_ikeys ?_)
  | (with_reducible refine g_irng1 ?_)
  | (with_reducible refine g_irng2 ?_)
  | (with_reducible refine g_for ?_)
  | (with_reducible refine g_lc ?_)
  | (with_reducible refine g_lock ?_)
  | (with_reducible refine g_gtup ?_)
  | (with_reducible refine g_gcons ?_)
  | (with_reducible refine g_gnil ?_)
  | (with_reducible refine g_par ?_)
  | (with_reducible refine g_par3 ?_)
  | (with_reducible refine g_calls ?_)
  | (with_reducible refine g_dct ?_)
  | (with_reducible refine g_methx ?_)
  | (with_reducible refine g_yes ?_)
  | (with_reducible refine g_sl ?_)
  | (with_reducible refine g_npart ?_)
  | (with_reducible refine g_part ?_)
  | (with_reducible refine g_dnt ?_)
  | (with_reducible refine g_dnk ?_)
  | (with_reducible refine g_istr ?_)
  | (with_reducible refine g_exi ?_)
  | (with_reducible refine g_glst ?_)
  | (with_reducible refine g_chain ?_)
  | (with_reducible refine g_isN ?_)
  | (with_reducible refine g_ipI ?_)
  | (with_reducible refine g_inS ?_)
  | (with_reducible refine g_bm ?_)
  | (with_reducible refine g_bm0 ?_)
  | ((with_reducible refine' g_aug ?k1 ?k2); (case k1 => rfl))
  | (with_reducible refine g_I0 ?_)
  | ((with_reducible refine g_I ?_ ?_); (walk_at "sd"))
  | (with_reducible refine g_U ?_)
  | ((with_reducible refine g_eq ?_ ?_); rfl)
  | ((with_reducible refine g_ne ?_ ?_); rfl)
  | ((with_reducible refine' g_ixL ?k1 ?k2 ?k3); (case k1 => walk_at "sq"); (case k2 => rfl))
  | ((with_reducible refine' g_ixT ?k1 ?k2 ?k3); (case k1 => walk_at "sq"); (case k2 => rfl))
  | ((with_reducible refine' g_setL ?k1 ?k2 ?k3); (case k1 => walk_at "hp"); (case k2 => rfl))
  | (with_reducible refine g_test ?_)
  | (with_reducible refine g_int1 ?_)
  | (with_reducible refine g_bl1 ?_)
  | ((with_reducible refine' g_lenL ?k1 ?k2); (case k1 => walk_at "sq"))
  | ((with_reducible refine' g_lenT ?k1 ?k2); (case k1 => walk_at "sq"))
)
local macro_rules | `(tactic| walk_at "go") => `(tactic| repeat (first | (walk_at "go1") | (dsimp only; (walk_at "go1"))))
def topS (i : Nat) : Stmt := PySem.Challenge.pw_everdays_k75_words_of_days_and_minutes.main.body.getD i (.Pass ⟨0, 0, 0, 0⟩)
abbrev s_BadText_init : Stmt := (inClass (topS 3) 0)
theorem sc_BadText_init : FnScope ["self", "line", "word"] ["self", "line", "word"] (defScope s_BadText_init) := ⟨rfl, rfl, rfl, by decide +kernel, rfl, by decide +kernel, by decide +kernel⟩
abbrev s_is_leap : Stmt := (topS 9)
theorem sc_is_leap : FnScope ["year"] ["year"] (defScope s_is_leap) := ⟨rfl, rfl, rfl, by decide +kernel, rfl, by decide +kernel, by decide +kernel⟩
abbrev s_year_of_month : Stmt := (topS 10)
theorem sc_year_of_month : FnScope ["m"] ["m"] (defScope s_year_of_month) := ⟨rfl, rfl, rfl, by decide +kernel, rfl, by decide +kernel, by decide +kernel⟩
abbrev s_month_length : Stmt := (topS 11)
theorem sc_month_length : FnScope ["m"] ["m"] (defScope s_month_length) := ⟨rfl, rfl, rfl, by decide +kernel, rfl, by decide +kernel, by decide +kernel⟩
abbrev s_first_day : Stmt := (topS 12)
theorem sc_first_day : FnScope ["m", "past", "days"] ["m"] (defScope s_first_day) := ⟨rfl, rfl, rfl, by decide +kernel, rfl, by decide +kernel, by decide +kernel⟩
abbrev s_month_of : Stmt := (topS 13)
theorem sc_month_of : FnScope ["day", "cycles", "rest", "past", "place"] ["day"] (defScope s_month_of) := ⟨rfl, rfl, rfl, by decide +kernel, rfl, by decide +kernel, by decide +kernel⟩
abbrev s_day_of : Stmt := (topS 14)
theorem sc_day_of : FnScope ["year", "month", "date", "m"] ["year", "month", "date"] (defScope s_day_of) := ⟨rfl, rfl, rfl, by decide +kernel, rfl, by decide +kernel, by decide +kernel⟩
abbrev s_date_of : Stmt := (topS 15)
theorem sc_date_of : FnScope ["day", "m"] ["day"] (defScope s_date_of) := ⟨rfl, rfl, rfl, by decide +kernel, rfl, by decide +kernel, by decide +kernel⟩
abbrev s_padded : Stmt := (topS 19)
theorem sc_padded : FnScope ["n", "many"] ["n", "many"] (defScope s_padded) := ⟨rfl, rfl, rfl, by decide +kernel, rfl, by decide +kernel, by decide +kernel⟩
abbrev s_day_text : Stmt := (topS 20)
theorem sc_day_text : FnScope ["day", "year", "month", "date"] ["day"] (defScope s_day_text) := ⟨rfl, rfl, rfl, by decide +kernel, rfl, by decide +kernel, by decide +kernel⟩
abbrev s_all_digits : Stmt := (topS 21)
theorem sc_all_digits : FnScope ["word", "sign"] ["word"] (defScope s_all_digits) := ⟨rfl, rfl, rfl, by decide +kernel, rfl, by decide +kernel, by decide +kernel⟩
abbrev s_read_day_word : Stmt := (topS 22)
theorem sc_read_day_word : FnScope ["word", "parts", "day", "part"] ["word"] (defScope s_read_day_word) := ⟨rfl, rfl, rfl, by decide +kernel, rfl, by decide +kernel, by decide +kernel⟩
abbrev s_minute_text : Stmt := (topS 23)
theorem sc_minute_text : FnScope ["minute"] ["minute"] (defScope s_minute_text) := ⟨rfl, rfl, rfl, by decide +kernel, rfl, by decide +kernel, by decide +kernel⟩
abbrev s_read_minute_word : Stmt := (topS 24)
theorem sc_read_minute_word : FnScope ["word", "hours", "minutes"] ["word"] (defScope s_read_minute_word) := ⟨rfl, rfl, rfl, by decide +kernel, rfl, by decide +kernel, by decide +kernel⟩
abbrev s_read_day : Stmt := (topS 25)
theorem sc_read_day : FnScope ["text", "day"] ["text"] (defScope s_read_day) := ⟨rfl, rfl, rfl, by decide +kernel, rfl, by decide +kernel, by decide +kernel⟩
abbrev s_law_draw : Stmt := (topS 27)
theorem sc_law_draw : FnScope ["tape", "many", "cells", "k", "cell", "digit"] ["tape", "many"] (defScope s_law_draw) := ⟨rfl, rfl, rfl, by decide +kernel, rfl, by decide +kernel, by decide +kernel⟩
abbrev s_law_tape : Stmt := (topS 28)
theorem sc_law_tape : FnScope ["script"] ["script"] (defScope s_law_tape) := ⟨rfl, rfl, rfl, by decide +kernel, rfl, by decide +kernel, by decide +kernel⟩
abbrev s_law_mod : Stmt := (topS 29)
theorem sc_law_mod : FnScope ["a", "n"] ["a", "n"] (defScope s_law_mod) := ⟨rfl, rfl, rfl, by decide +kernel, rfl, by decide +kernel, by decide +kernel⟩
abbrev s_law_leap : Stmt := (topS 30)
theorem sc_law_leap : FnScope ["calendar", "y"] ["calendar", "y"] (defScope s_law_leap) := ⟨rfl, rfl, rfl, by decide +kernel, rfl, by decide +kernel, by decide +kernel⟩
abbrev s_law_length : Stmt := (topS 31)
theorem sc_law_length : FnScope ["calendar", "m", "month", "long"] ["calendar", "m"] (defScope s_law_length) := ⟨rfl, rfl, rfl, by decide +kernel, rfl, by decide +kernel, by decide +kernel⟩
abbrev s_law_year_first : Stmt := (topS 32)
theorem sc_law_year_first : FnScope ["calendar", "y", "years", "days", "begin", "plain", "cycles", "found", "k"] ["calendar", "y"] (defScope s_law_year_first) := ⟨rfl, rfl, rfl, by decide +kernel, rfl, by decide +kernel, by decide +kernel⟩
abbrev s_law_month_at : Stmt := (topS 33)
theorem sc_law_month_at : FnScope ["calendar", "day", "year", "y", "k", "m", "first", "length"] ["calendar", "day"] (defScope s_law_month_at) := ⟨rfl, rfl, rfl, by decide +kernel, rfl, by decide +kernel, by decide +kernel⟩
abbrev s_law_digits : Stmt := (topS 34)
theorem sc_law_digits : FnScope ["n", "many", "text", "k"] ["n", "many"] (defScope s_law_digits) := ⟨rfl, rfl, rfl, by decide +kernel, rfl, by decide +kernel, by decide +kernel⟩
abbrev s_law_day_word : Stmt := (topS 35)
theorem sc_law_day_word : FnScope ["day", "m", "first"] ["day"] (defScope s_law_day_word) := ⟨rfl, rfl, rfl, by decide +kernel, rfl, by decide +kernel, by decide +kernel⟩
abbrev s_law_changed : Stmt := (topS 36)
theorem sc_law_changed : FnScope ["tape", "word", "at", "sign"] ["tape", "word"] (defScope s_law_changed) := ⟨rfl, rfl, rfl, by decide +kernel, rfl, by decide +kernel, by decide +kernel⟩
abbrev s_law_refused : Stmt := (topS 37)
theorem sc_law_refused : FnScope ["day"] ["day"] (defScope s_law_refused) := ⟨rfl, rfl, rfl, by decide +kernel, rfl, by decide +kernel, by decide +kernel⟩
abbrev s_law_place : Stmt := (topS 38)
theorem sc_law_place : FnScope ["text", "e"] ["text"] (defScope s_law_place) := ⟨rfl, rfl, rfl, by decide +kernel, rfl, by decide +kernel, by decide +kernel⟩
abbrev s_law : Stmt := (topS 39)
theorem sc_law : FnScope ["script", "tape", "day", "word", "other", "found", "minute", "words", "n", "m"] ["script"] (defScope s_law) := ⟨rfl, rfl, rfl, by decide +kernel, rfl, by decide +kernel, by decide +kernel⟩
structure Adr where
  f_BadText_init : Addr
  d_BadText_init : FuncData
  f_is_leap : Addr
  d_is_leap : FuncData
  f_year_of_month : Addr
  d_year_of_month : FuncData
  f_month_length : Addr
  d_month_length : FuncData
  f_first_day : Addr
  d_first_day : FuncData
  f_month_of : Addr
  d_month_of : FuncData
  f_day_of : Addr
  d_day_of : FuncData
  f_date_of : Addr
  d_date_of : FuncData
  f_padded : Addr
  d_padded : FuncData
  f_day_text : Addr
  d_day_text : FuncData
  f_all_digits : Addr
  d_all_digits : FuncData
  f_read_day_word : Addr
  d_read_day_word : FuncData
  f_minute_text : Addr
  d_minute_text : FuncData
  f_read_minute_word : Addr
  d_read_minute_word : FuncData
  f_read_day : Addr
  d_read_day : FuncData
  f_law_draw : Addr
  d_law_draw : FuncData
  f_law_tape : Addr
  d_law_tape : FuncData
  f_law_mod : Addr
  d_law_mod : FuncData
  f_law_leap : Addr
  d_law_leap : FuncData
  f_law_length : Addr
  d_law_length : FuncData
  f_law_year_first : Addr
  d_law_year_first : FuncData
  f_law_month_at : Addr
  d_law_month_at : FuncData
  f_law_digits : Addr
  d_law_digits : FuncData
  f_law_day_word : Addr
  d_law_day_word : FuncData
  f_law_changed : Addr
  d_law_changed : FuncData
  f_law_refused : Addr
  d_law_refused : FuncData
  f_law_place : Addr
  d_law_place : FuncData
  f_law : Addr
  d_law : FuncData
  C_BadText : Addr
  C_BadDate : Addr
  C_DaysError : Addr
  A_LENGTHS : Addr
  A_BEFORE : Addr
  M_DaysError : Value
structure Txt (K : PySem.W.Frag) (mg : Str → Option Value) (a : Adr) : Prop where
  F_BadText_init : Fun K "__init__" "BadText.__init__" s_BadText_init a.f_BadText_init a.d_BadText_init
  b_BadText_init : Binds K a.d_BadText_init ["self", "line", "word"] []
  F_is_leap : Fun K "is_leap" "is_leap" s_is_leap a.f_is_leap a.d_is_leap
  b_is_leap : Binds K a.d_is_leap ["year"] []
  g_is_leap : mg "is_leap" = some (.ref a.f_is_leap)
  F_year_of_month : Fun K "year_of_month" "year_of_month" s_year_of_month a.f_year_of_month a.d_year_of_month
  b_year_of_month : Binds K a.d_year_of_month ["m"] []
  g_year_of_month : mg "year_of_month" = some (.ref a.f_year_of_month)
  F_month_length : Fun K "month_length" "month_length" s_month_length a.f_month_length a.d_month_length
  b_month_length : Binds K a.d_month_length ["m"] []
  g_month_length : mg "month_length" = some (.ref a.f_month_length)
  F_first_day : Fun K "first_day" "first_day" s_first_day a.f_first_day a.d_first_day
  b_first_day : Binds K a.d_first_day ["m"] []
  g_first_day : mg "first_day" = some (.ref a.f_first_day)
  F_month_of : Fun K "month_of" "month_of" s_month_of a.f_month_of a.d_month_of
  b_month_of : Binds K a.d_month_of ["day"] []
  g_month_of : mg "month_of" = some (.ref a.f_month_of)
  F_day_of : Fun K "day_of" "day_of" s_day_of a.f_day_of a.d_day_of
  b_day_of : Binds K a.d_day_of ["year", "month", "date"] []
  g_day_of : mg "day_of" = some (.ref a.f_day_of)
  F_date_of : Fun K "date_of" "date_of" s_date_of a.f_date_of a.d_date_of
  b_date_of : Binds K a.d_date_of ["day"] []
  g_date_of : mg "date_of" = some (.ref a.f_date_of)
  F_padded : Fun K "padded" "padded" s_padded a.f_padded a.d_padded
  b_padded : Binds K a.d_padded ["n", "many"] []
  g_padded : mg "padded" = some (.ref a.f_padded)
  F_day_text : Fun K "day_text" "day_text" s_day_text a.f_day_text a.d_day_text
  b_day_text : Binds K a.d_day_text ["day"] []
  g_day_text : mg "day_text" = some (.ref a.f_day_text)
  F_all_digits : Fun K "all_digits" "all_digits" s_all_digits a.f_all_digits a.d_all_digits
  b_all_digits : Binds K a.d_all_digits ["word"] []
  g_all_digits : mg "all_digits" = some (.ref a.f_all_digits)
  F_read_day_word : Fun K "read_day_word" "read_day_word" s_read_day_word a.f_read_day_word a.d_read_day_word
  b_read_day_word : Binds K a.d_read_day_word ["word"] []
  g_read_day_word : mg "read_day_word" = some (.ref a.f_read_day_word)
  F_minute_text : Fun K "minute_text" "minute_text" s_minute_text a.f_minute_text a.d_minute_text
  b_minute_text : Binds K a.d_minute_text ["minute"] []
  g_minute_text : mg "minute_text" = some (.ref a.f_minute_text)
  F_read_minute_word : Fun K "read_minute_word" "read_minute_word" s_read_minute_word a.f_read_minute_word a.d_read_minute_word
  b_read_minute_word : Binds K a.d_read_minute_word ["word"] []
  g_read_minute_word : mg "read_minute_word" = some (.ref a.f_read_minute_word)
  F_read_day : Fun K "read_day" "read_day" s_read_day a.f_read_day a.d_read_day
  b_read_day : Binds K a.d_read_day ["text"] []
  g_read_day : mg "read_day" = some (.ref a.f_read_day)
  F_law_draw : Fun K "_law_draw" "_law_draw" s_law_draw a.f_law_draw a.d_law_draw
  b_law_draw : Binds K a.d_law_draw ["tape", "many"] []
  g_law_draw : mg "_law_draw" = some (.ref a.f_law_draw)
  F_law_tape : Fun K "_law_tape" "_law_tape" s_law_tape a.f_law_tape a.d_law_tape
  b_law_tape : Binds K a.d_law_tape ["script"] []
  g_law_tape : mg "_law_tape" = some (.ref a.f_law_tape)
  F_law_mod : Fun K "_law_mod" "_law_mod" s_law_mod a.f_law_mod a.d_law_mod
  b_law_mod : Binds K a.d_law_mod ["a", "n"] []
  g_law_mod : mg "_law_mod" = some (.ref a.f_law_mod)
  F_law_leap : Fun K "_law_leap" "_law_leap" s_law_leap a.f_law_leap a.d_law_leap
  b_law_leap : Binds K a.d_law_leap ["calendar", "y"] []
  g_law_leap : mg "_law_leap" = some (.ref a.f_law_leap)
  F_law_length : Fun K "_law_length" "_law_length" s_law_length a.f_law_length a.d_law_length
  b_law_length : Binds K a.d_law_length ["calendar", "m"] []
  g_law_length : mg "_law_length" = some (.ref a.f_law_length)
  F_law_year_first : Fun K "_law_year_first" "_law_year_first" s_law_year_first a.f_law_year_first a.d_law_year_first
  b_law_year_first : Binds K a.d_law_year_first ["calendar", "y"] []
  g_law_year_first : mg "_law_year_first" = some (.ref a.f_law_year_first)
  F_law_month_at : Fun K "_law_month_at" "_law_month_at" s_law_month_at a.f_law_month_at a.d_law_month_at
  b_law_month_at : Binds K a.d_law_month_at ["calendar", "day"] []
  g_law_month_at : mg "_law_month_at" = some (.ref a.f_law_month_at)
  F_law_digits : Fun K "_law_digits" "_law_digits" s_law_digits a.f_law_digits a.d_law_digits
  b_law_digits : Binds K a.d_law_digits ["n", "many"] []
  g_law_digits : mg "_law_digits" = some (.ref a.f_law_digits)
  F_law_day_word : Fun K "_law_day_word" "_law_day_word" s_law_day_word a.f_law_day_word a.d_law_day_word
  b_law_day_word : Binds K a.d_law_day_word ["day"] []
  g_law_day_word : mg "_law_day_word" = some (.ref a.f_law_day_word)
  F_law_changed : Fun K "_law_changed" "_law_changed" s_law_changed a.f_law_changed a.d_law_changed
  b_law_changed : Binds K a.d_law_changed ["tape", "word"] []
  g_law_changed : mg "_law_changed" = some (.ref a.f_law_changed)
  F_law_refused : Fun K "_law_refused" "_law_refused" s_law_refused a.f_law_refused a.d_law_refused
  b_law_refused : Binds K a.d_law_refused ["day"] []
  g_law_refused : mg "_law_refused" = some (.ref a.f_law_refused)
  F_law_place : Fun K "_law_place" "_law_place" s_law_place a.f_law_place a.d_law_place
  b_law_place : Binds K a.d_law_place ["text"] []
  g_law_place : mg "_law_place" = some (.ref a.f_law_place)
  F_law : Fun K "law" "law" s_law a.f_law a.d_law
  b_law : Binds K a.d_law ["script"] []
  g_law : mg "law" = some (.ref a.f_law)
  g_BadText : mg "BadText" = some (.ref a.C_BadText)
  r_BadText : PySem.W.subIn K (.ref a.C_BadText) (.type "BaseException") = some true
  t_BadText : PySem.W.typeIn K (.ref a.C_BadText) = some (.type "type")
  k_BadText : PySem.W.keepIn K (.ref a.C_BadText) = true
  x_BadText : OexC K a.C_BadText
  y_BadText : XfC K a.C_BadText
  i_BadText : PySem.W.findIn K (.ref a.C_BadText) "__init__" = some (some (.ref a.f_BadText_init))
  u_BadText : PySem.W.typeIn K (.ref a.f_BadText_init) = some (.type "function")
  n_BadText_line : PySem.W.findIn K (.ref a.C_BadText) "line" = some none
  n_BadText_word : PySem.W.findIn K (.ref a.C_BadText) "word" = some none
  g_BadDate : mg "BadDate" = some (.ref a.C_BadDate)
  r_BadDate : PySem.W.subIn K (.ref a.C_BadDate) (.type "BaseException") = some true
  t_BadDate : PySem.W.typeIn K (.ref a.C_BadDate) = some (.type "type")
  k_BadDate : PySem.W.keepIn K (.ref a.C_BadDate) = true
  x_BadDate : PySem.W.excIn K a.C_BadDate [.type "ValueError", .type "Exception", .type "BaseException", .type "object"] "ValueError.__new__" = true
  e_BadText_BadText : PySem.W.exmOne K (.ref a.C_BadText) (.ref a.C_BadText) = some true
  e_BadDate_BadDate : PySem.W.exmOne K (.ref a.C_BadDate) (.ref a.C_BadDate) = some true
  g_DaysError : mg "DaysError" = some (.ref a.C_DaysError)
  B_DaysError : BaseInit K a.C_DaysError a.M_DaysError
  z_len : mg "len" = none
  z_int : mg "int" = none
  z_str : mg "str" = none
  z_list : mg "list" = none
  z_range : mg "range" = none
  z_divmod : mg "divmod" = none
  z_all : mg "all" = none
  g_LENGTHS : mg "LENGTHS" = some (.ref a.A_LENGTHS)
  h_LENGTHS : ∀ H, SqT K H a.A_LENGTHS ([31, 28, 31, 30, 31, 30, 31, 31, 30, 31, 30, 31].map V.int)
  g_BEFORE : mg "BEFORE" = some (.ref a.A_BEFORE)
  h_BEFORE : ∀ H, SqT K H a.A_BEFORE ([0, 31, 59, 90, 120, 151, 181, 212, 243, 273, 304, 334].map V.int)
  g_CYCLE_MONTHS : ∃ u, mg "CYCLE_MONTHS" = some u ∧ RelV (.int 4800) u
  g_CYCLE_DAYS : ∃ u, mg "CYCLE_DAYS" = some u ∧ RelV (.int 146097) u
  g_YEAR_MOST : ∃ u, mg "YEAR_MOST" = some u ∧ RelV (.int 9999) u
  g_DIGITS : ∃ u, mg "DIGITS" = some u ∧ RelV (.str "0123456789") u
section
variable {P : Program} {w : World} {K : PySem.W.Frag} {mg : Str → Option Value} {base : Heap} {a : Adr}
theorem two_le : 2 ≤ sizeLine := by decide
theorem same_new {H : Hp} {p : Addr} {o : HO} (h : H p = none) : Same H (upd H p o) := fun b x e => by
  rw [upd_ne (ne_of_none e h)]; exact e
/-- the tape: its cells, its place, what is left -/
abbrev tp (c : Addr) (k r : Int) : HO := .lst [.ref c, .int k, .int r]
def sp_law_draw (K : PySem.W.Frag) : Sp := fun vs H Q _ => ∃ (t c : Addr) (m k r : Int) (ns : List Int), vs = [.ref t, .int m] ∧ 0 < m ∧ m < 1073741824 ∧ H t = some (tp c k r) ∧ H c = some (.lst (ns.map V.int)) ∧ 0 ≤ k ∧ 0 ≤ r ∧
  ∀ (d k' r' : Int), 0 ≤ d → d < m → 0 ≤ k' → 0 ≤ r' → Q (.int d) (upd H t (tp c k' r'))
theorem ok_law_draw (T : Txt K mg a) : FnOk P w K mg base CX0 1 a.f_law_draw a.d_law_draw ["tape", "many"] (sp_law_draw K) := by
  refine T.F_law_draw.ok sc_law_draw (fun vs H Q E h => ?_) (fun cdv A outer s H vs Q E hr h => ?_)
  · obtain ⟨t, c, m, k, r, ns, rfl, _⟩ := h
    rfl
  · obtain ⟨t, c, m, k, r, ns, rfl, m0, m1, ht, hc, k0, r0, q⟩ := h
    refine ⟨_, (C8.pss_cut (ps_if (pt_cmpR op_lt (pe_ix ix_list (pv 0) pe_int (fun _ _ => rfl)) (pv 1) (nomark _))
       (pss_cons (ps_set (i := 2) sc_law_draw.nd rfl (.inl rfl) (pe_ix ix_list (pv 0) pe_int (fun _ _ => rfl)))
       (pss_cons (ps_set (i := 3) sc_law_draw.nd rfl (.inl rfl) (pe_ix ix_list (pv 0) pe_int (fun _ _ => rfl)))
       (pss_cons (ps_set (i := 4) sc_law_draw.nd rfl (.inl rfl) pe_int)
       (C8.pss_cut (ps_if (pt_cmpR op_lt (pv 3) (pe_callB call_len_seq (by rfl) T.z_len (by decide +kernel) (pa_cons (pv 2) pa_nil)) (nomark _))
       (pss_one (ps_set (i := 4) sc_law_draw.nd rfl (.inl rfl) (pe_ix ix_list (pv 2) (pv 3) (fun _ _ => rfl))))
       pss_nil)
       (C8.pss_cut (ps_if (pt_cmpR op_lt (pv 4) pe_int (nomark _))
       (pss_one (ps_set (i := 4) sc_law_draw.nd rfl (.inl rfl) (pe_op op_sub (pe_op op_mul (pe_un un_neg pe_int) (pv 4)) pe_int)))
       pss_nil)
       (C8.pss_cut (ps_if (pt_cmpR op_lt (pv 4) (pe_op op_pow pe_int pe_int) (nomark _))
       (pss_cons (ps_set (i := 4) sc_law_draw.nd rfl (.inl rfl) (pe_op op_modE (pe_callTy call_int1 (by rfl) T.z_int (by decide +kernel) (pa_cons (pe_op op_add (pe_op op_add (pe_op op_mul (pv 4) pe_int) (pe_op op_mul (pv 3) pe_int)) pe_int) pa_nil)) pe_int))
       (pss_one (ps_set (i := 4) sc_law_draw.nd rfl (.inl rfl) (pe_op op_modE (pe_callTy call_int1 (by rfl) T.z_int (by decide +kernel) (pa_cons (pe_op op_add (pe_op op_add (pe_op op_mul (pv 4) pe_int) (pe_op op_mul (pv 3) pe_int)) pe_int) pa_nil)) pe_int))))
       pss_nil)
       (pss_cons (ps_asg (pe_op op_add (pv 3) pe_int) (pg_sub (pv 0) pe_int set_list))
       (pss_one (ps_asg (pv 4) (pg_sub (pv 0) pe_int set_list))))))))))
       pss_nil)
       (pss_cons (ps_set (i := 5) sc_law_draw.nd rfl (.inl rfl) (pe_op op_modE (pe_callTy call_int1 (by rfl) T.z_int (by decide +kernel) (pa_cons (pe_ix ix_list (pv 0) pe_int (fun _ _ => rfl)) pa_nil)) (pv 1)))
       (pss_cons (ps_asg (pe_op op_fdivE (pe_ix ix_list (pv 0) pe_int (fun _ _ => rfl)) (pv 1)) (pg_sub (pv 0) pe_int set_list))
       (pss_one (ps_ret (pv 5)))))), ?_⟩
    refine red (σ' := [some (.ref t), some (.int m), none, none, none, none]) rfl ?_
    dsimp only [cxOf]
    have htc : c ≠ t := ne_of hc ht (by intro z; unfold tp at z; cases ns <;> simp at z)
    refine ⟨fun σ' H' => ∃ (k' r' : Int) (x2 x3 x4 x5 : Option V), 0 ≤ k' ∧ 0 ≤ r' ∧ σ' = [some (.ref t), some (.int m), x2, x3, x4, x5] ∧ H' = upd H t (tp c k' r'), ?_, ?_⟩
    · walk_at "go"
      refine iteK (fun h1 => ?_) (fun h1 => ?_)
      · walk_at "go"
        refine ⟨fun σ' H' => ∃ z : Int, σ' = [some (.ref t), some (.int m), some (.ref c), some (.int k), some (.int z), none] ∧ H = H', ?_, ?_⟩
        · walk_at "go"
          refine iteK (fun h2 => ?_) (fun h2 => ?_)
          · walk_at "go"
            rw [List.length_map] at h2
            obtain ⟨j, rfl⟩ := Int.eq_ofNat_of_zero_le k0
            have hj : j < ns.length := by omega
            refine g_ixL (v := .int ns[j]) (SqL.of hc) (atI_nat (by rw [List.getElem?_map, List.getElem?_eq_getElem hj]; rfl)) ?_
            walk_at "go"
            exact ⟨_, rfl, rfl⟩
          · walk_at "go"
            exact ⟨_, rfl, rfl⟩
        · rintro σ' H' ⟨z, rfl, rfl⟩
          refine ⟨fun σ' H' => ∃ z : Int, 0 ≤ z ∧ σ' = [some (.ref t), some (.int m), some (.ref c), some (.int k), some (.int z), none] ∧ H = H', ?_, ?_⟩
          · walk_at "go"
            refine iteK (fun h2 => ?_) (fun h2 => ?_)
            · walk_at "go"
              exact ⟨_, by omega, rfl, rfl⟩
            · walk_at "go"
              exact ⟨_, by omega, rfl, rfl⟩
          · rintro σ' H' ⟨z, z0, rfl, rfl⟩
            refine ⟨fun σ' H' => ∃ z : Int, 0 ≤ z ∧ σ' = [some (.ref t), some (.int m), some (.ref c), some (.int k), some (.int z), none] ∧ H = H', ?_, ?_⟩
            · walk_at "go"
              refine iteK (fun h2 => ?_) (fun h2 => ?_)
              · walk_at "go"
                exact ⟨_, by omega, rfl, rfl⟩
              · walk_at "go"
                exact ⟨_, by omega, rfl, rfl⟩
            · rintro σ' H' ⟨z, z0, rfl, rfl⟩
              walk_at "go"
              exact ⟨k + 1, z, _, _, _, _, by omega, z0, rfl, by rw [upd_upd]; rfl⟩
      · walk_at "go"
        exact ⟨k, r, _, _, _, _, k0, r0, rfl, by funext b; unfold upd; split <;> simp_all⟩
    · rintro σ' H' ⟨k', r', x2, x3, x4, x5, k0', r0', rfl, rfl⟩
      walk_at "go"
      rw [upd_upd]
      exact q _ _ _ (Int.emod_nonneg _ (by omega)) (Int.emod_lt_of_pos _ m0) k0' (Int.ediv_nonneg r0' (by omega))
def sp_law_tape (K : PySem.W.Frag) : Sp := fun vs H Q _ => ∃ (b : Addr) (xs : List V), vs = [.ref b] ∧ SqL K H b xs ∧ xs.length < 100 ∧
  ∀ t c, H c = none → H t = none → c ≠ t → Q (.ref t) (upd (upd H c (.lst xs)) t (tp c 0 0))
theorem ok_law_tape (T : Txt K mg a) : FnOk P w K mg base CX0 1 a.f_law_tape a.d_law_tape ["script"] (sp_law_tape K) := by
  refine T.F_law_tape.ok sc_law_tape (fun vs H Q E h => ?_) (fun cdv A outer s H vs Q E hr h => ?_)
  · obtain ⟨b, xs, rfl, _⟩ := h
    rfl
  · obtain ⟨b, xs, rfl, hb, hl, q⟩ := h
    refine ⟨_, (pss_one (ps_ret (pe_lst (pa_cons (pe_callTy call_list_of (by rfl) T.z_list (by decide +kernel) (pa_cons (pv 0) pa_nil)) (pa_cons pe_int (pa_cons pe_int pa_nil)))))), ?_⟩
    refine red (σ' := [some (.ref b)]) rfl ?_
    dsimp only [cxOf]
    walk_at "go"
    intro c hc
    walk_at "go"
    refine ⟨by show 3 ≤ sizeLine; decide, fun t ht => ?_⟩
    have ct : c ≠ t := fun e => by rw [← e, upd_same] at ht; cases ht
    rw [upd_ne ct.symm] at ht
    exact q t c hc ht ct
end
section
variable {P : Program} {w : World} {K : PySem.W.Frag} {mg : Str → Option Value} {base : Heap} {a : Adr}
theorem i_if {c : Prop} [Decidable c] {A B : Prop} (h1 : c → A) (h2 : ¬ c → B) : if c then A else B := by
  by_cases h : c
  · rw [if_pos h]; exact h1 h
  · rw [if_neg h]; exact h2 h
/-- a test told by a Bool -/
theorem iteB {b : Bool} {A B : Prop} (h1 : b = true → A) (h2 : b = false → B) : if b = true then A else B := by
  cases b with
  | true => exact h1 rfl
  | false => exact h2 rfl
def sp_is_leap : Sp := fun vs H Q _ => ∃ y : Int, vs = [.int y] ∧ Q (.bl (Civ.isLeap y)) H
theorem dec_int (i j : Int) : decide (V.int i = V.int j) = decide (i = j) := by
  by_cases h : i = j
  · subst h; simp
  · have : ¬ V.int i = V.int j := fun z => h (by cases z; rfl)
    rw [decide_eq_false this, decide_eq_false h]
theorem ok_is_leap (T : Txt K mg a) : FnOk P w K mg base CX0 1 a.f_is_leap a.d_is_leap ["year"] sp_is_leap := by
  refine T.F_is_leap.ok sc_is_leap (fun vs H Q E h => ?_) (fun cdv A outer s H vs Q E hr h => ?_)
  · obtain ⟨y, rfl, _⟩ := h
    rfl
  · obtain ⟨y, rfl, q⟩ := h
    refine ⟨_, (pss_one (ps_ret (pe_and (pe_cmpR op_eq (pe_op op_modE (pv 0) pe_int) pe_int (nomark _)) (pe_one (pe_or (pe_cmpR op_ne (pe_op op_modE (pv 0) pe_int) pe_int (nomark _)) (pe_one (pe_cmpR op_eq (pe_op op_modE (pv 0) pe_int) pe_int (nomark _)))))))), ?_⟩
    refine red (σ' := [some (.int y)]) rfl ?_
    try dsimp only [cxOf]
    have e : Civ.isLeap y = (decide (y % 4 = 0) && (!decide (y % 100 = 0) || decide (y % 400 = 0))) := rfl
    walk_at "go"
    rw [dec_int]
    refine iteB (fun h1 => ?_) (fun h1 => ?_)
    · walk_at "go"
      rw [dec_int]
      refine iteB (fun h2 => ?_) (fun h2 => ?_)
      · rw [e, h1, h2] at q; exact q
      · walk_at "go"
        rw [dec_int]
        rw [e, h1, h2] at q; exact q
    · rw [e, h1] at q; exact q
def sp_year_of_month : Sp := fun vs H Q _ => ∃ m : Int, vs = [.int m] ∧ Q (.int (m / 12 + 1)) H
theorem ok_year_of_month (T : Txt K mg a) : FnOk P w K mg base CX0 1 a.f_year_of_month a.d_year_of_month ["m"] sp_year_of_month := by
  refine T.F_year_of_month.ok sc_year_of_month (fun vs H Q E h => ?_) (fun cdv A outer s H vs Q E hr h => ?_)
  · obtain ⟨y, rfl, _⟩ := h
    rfl
  · obtain ⟨y, rfl, q⟩ := h
    refine ⟨_, (pss_one (ps_ret (pe_op op_add (pe_op op_fdivE (pv 0) pe_int) pe_int))), ?_⟩
    refine red (σ' := [some (.int y)]) rfl ?_
    try dsimp only [cxOf]
    walk_at "go"
    exact q
theorem at12 {xs : List Int} (hx : xs.length = 12) (m : Int) : atI (xs.map V.int) (m % 12) = some (.int (xs.getD (m % 12).toNat 0)) := by
  obtain ⟨k, hk⟩ := Int.eq_ofNat_of_zero_le (show 0 ≤ m % 12 by omega)
  rw [hk, Int.toNat_natCast]
  have l : k < xs.length := by omega
  refine atI_nat ?_
  rw [List.getElem?_map, List.getElem?_eq_getElem l, List.getD_eq_getElem?_getD, List.getElem?_eq_getElem l]
  rfl
def sp_month_length : Sp := fun vs H Q _ => ∃ m : Int, vs = [.int m] ∧ Q (.int (Civ.len m)) H
theorem ok_month_length (T : Txt K mg a) : FnOk P w K mg base CX0 2 a.f_month_length a.d_month_length ["m"] sp_month_length := by
  refine T.F_month_length.ok sc_month_length (fun vs H Q E h => ?_) (fun cdv A outer s H vs Q E hr h => ?_)
  · obtain ⟨y, rfl, _⟩ := h
    rfl
  · obtain ⟨m, rfl, q⟩ := h
    refine ⟨_, (pss_cons (ps_if (PW.pt (pw_and (pt_cmpR op_eq (pe_op op_modE (pv 0) pe_int) pe_int (nomark _)) (pw_and1 (pt_val (pe_call (ok_is_leap T) (hr.mono (by decide)) (by rfl) T.g_is_leap T.F_is_leap.kp T.b_is_leap .nil pass0 (pa_cons (pe_call (ok_year_of_month T) (hr.mono (by decide)) (by rfl) T.g_year_of_month T.F_year_of_month.kp T.b_year_of_month .nil pass0 (pa_cons (pv 0) pa_nil)) pa_nil))))))
       (pss_one (ps_ret pe_int))
       pss_nil)
       (pss_one (ps_ret (pe_ix ix_tup (pe_glob (v := .ref a.A_LENGTHS) (by rfl) T.g_LENGTHS rfl) (pe_op op_modE (pv 0) pe_int) (fun _ _ => rfl))))), ?_⟩
    refine red (σ' := [some (.int m)]) rfl ?_
    try dsimp only [cxOf]
    have fin : ∀ {Q : VK}, ¬ (m % 12 = 1 ∧ Civ.isLeap (m / 12 + 1) = true) → Q (.int (Civ.len m)) H → rIxT K (.ref a.A_LENGTHS) (.int (m % 12)) H Q := fun {Q} hn q => by
      refine g_ixT (T.h_LENGTHS H) (at12 rfl m) ?_
      have e : Civ.len m = Civ.LEN.getD (m % 12).toNat 0 := by
        unfold Civ.len Civ.lp
        by_cases h1 : m % 12 = 1
        · rw [if_pos h1, if_neg (fun h2 => hn ⟨h1, h2⟩)]; show _ + 0 = _; rw [Int.add_zero]; rfl
        · rw [if_neg h1]; show _ + 0 = _; rw [Int.add_zero]; rfl
      rw [e] at q
      exact q
    walk_at "go"
    rw [dec_int]
    refine iteB (fun h1 => ?_) (fun h1 => ?_)
    · have h1 := of_decide_eq_true h1
      walk_at "go"
      refine ⟨m, rfl, ?_⟩
      walk_at "go"
      refine ⟨_, rfl, ?_⟩
      walk_at "go"
      refine iteB (fun h2 => ?_) (fun h2 => ?_)
      · have e : Civ.len m = 29 := by
          unfold Civ.len Civ.lp
          rw [if_pos h1, if_pos h2, h1]; rfl
        rw [e] at q
        walk_at "go"
        exact q
      · walk_at "go"
        exact fin (fun z => by rw [z.2] at h2; cases h2) q
    · have h1 := of_decide_eq_false h1
      refine iteF ?_
      walk_at "go"
      exact fin (fun z => h1 z.1) q
def sp_first_day : Sp := fun vs H Q _ => ∃ m : Int, vs = [.int m] ∧ Q (.int (Civ.fd m)) H
theorem ok_first_day (T : Txt K mg a) : FnOk P w K mg base CX0 2 a.f_first_day a.d_first_day ["m"] sp_first_day := by
  refine T.F_first_day.ok sc_first_day (fun vs H Q E h => ?_) (fun cdv A outer s H vs Q E hr h => ?_)
  · obtain ⟨y, rfl, _⟩ := h
    rfl
  · obtain ⟨m, rfl, q⟩ := h
    refine ⟨_, (pss_cons (ps_set (i := 1) sc_first_day.nd rfl (.inl rfl) (pe_op op_fdivE (pv 0) pe_int))
       (pss_cons (ps_set (i := 2) sc_first_day.nd rfl (.inl rfl) (pe_op op_add (pe_op op_sub (pe_op op_add (pe_op op_mul pe_int (pv 1)) (pe_op op_fdivE (pv 1) pe_int)) (pe_op op_fdivE (pv 1) pe_int)) (pe_op op_fdivE (pv 1) pe_int)))
       (pss_cons (ps_aug (i := 2) sc_first_day.nd rfl (.inl rfl) (pe_ix ix_tup (pe_glob (v := .ref a.A_BEFORE) (by rfl) T.g_BEFORE rfl) (pe_op op_modE (pv 0) pe_int) (fun _ _ => rfl)) ip_add)
       (C8.pss_cut (ps_if (PW.pt (pw_and (pt_cmpR op_gt (pe_op op_modE (pv 0) pe_int) pe_int (nomark _)) (pw_and1 (pt_val (pe_call (ok_is_leap T) (hr.mono (by decide)) (by rfl) T.g_is_leap T.F_is_leap.kp T.b_is_leap .nil pass0 (pa_cons (pe_op op_add (pv 1) pe_int) pa_nil))))))
       (pss_one (ps_aug (i := 2) sc_first_day.nd rfl (.inl rfl) pe_int ip_add))
       pss_nil)
       (pss_one (ps_ret (pv 2))))))), ?_⟩
    refine red (σ' := [some (.int m), none, none]) rfl ?_
    try dsimp only [cxOf]
    walk_at "go"
    refine g_ixT (T.h_BEFORE H) (at12 rfl m) ?_
    walk_at "go"
    refine ⟨fun σ' H' => ∃ z : Int, z = Civ.fd m ∧ σ' = [some (.int m), some (.int (m / 12)), some (.int z)] ∧ H = H', ?_, ?_⟩
    · walk_at "go"
      refine iteK (fun h1 => ?_) (fun h1 => ?_)
      · walk_at "go"
        refine ⟨_, rfl, ?_⟩
        walk_at "go"
        refine iteB (fun h2 => ?_) (fun h2 => ?_)
        · walk_at "go"
          refine ⟨_, ?_, rfl, rfl⟩
          show _ = Civ.yd (m / 12) + Civ.bef (m % 12) + if 1 < m % 12 then Civ.lp (m / 12 + 1) else 0
          rw [if_pos (by omega)]
          unfold Civ.lp
          rw [if_pos h2]
          rfl
        · walk_at "go"
          refine ⟨_, ?_, rfl, rfl⟩
          show _ = Civ.yd (m / 12) + Civ.bef (m % 12) + if 1 < m % 12 then Civ.lp (m / 12 + 1) else 0
          rw [if_pos (by omega)]
          unfold Civ.lp
          rw [if_neg (by rw [h2]; decide), Int.add_zero]
          rfl
      · refine iteF ?_
        walk_at "go"
        refine ⟨_, ?_, rfl, rfl⟩
        show _ = Civ.yd (m / 12) + Civ.bef (m % 12) + if 1 < m % 12 then Civ.lp (m / 12 + 1) else 0
        rw [if_neg (by omega), Int.add_zero]
        rfl
    · rintro σ' H' ⟨z, rfl, rfl, rfl⟩
      walk_at "go"
      exact q
end
section
variable {P : Program} {w : World} {K : PySem.W.Frag} {mg : Str → Option Value} {base : Heap} {a : Adr}
def sp_month_of : Sp := fun vs H Q _ => ∃ d : Int, vs = [.int d] ∧ ∀ m H', Same H H' → Civ.IsM d m → Q (.int m) H'
theorem ok_month_of (T : Txt K mg a) : FnOk P w K mg base CX0 3 a.f_month_of a.d_month_of ["day"] sp_month_of := by
  refine T.F_month_of.ok sc_month_of (fun vs H Q E h => ?_) (fun cdv A outer s H vs Q E hr h => ?_)
  · obtain ⟨y, rfl, _⟩ := h
    rfl
  · obtain ⟨d, rfl, q⟩ := h
    refine ⟨_, (pss_cons (ps_asg (pe_callB call_divmod (by rfl) T.z_divmod (by decide +kernel) (pa_cons (pv 0) (pa_cons (C8.pe_gc (v := .int 146097) (by rfl) T.g_CYCLE_DAYS) pa_nil))) (pg_tup (by rfl) (pgs_cons (pg_name (i := 1) sc_month_of.nd rfl (.inl rfl)) (pgs_cons (pg_name (i := 2) sc_month_of.nd rfl (.inl rfl)) pgs_nil))))
       (pss_cons (ps_set (i := 3) sc_month_of.nd rfl (.inl rfl) (pe_op op_fdivE (pv 2) pe_int))
       (pss_cons (ps_while PassesOwn.never (pt_cmpR op_le (pe_call (ok_first_day T) (hr.mono (by decide)) (by rfl) T.g_first_day T.F_first_day.kp T.b_first_day .nil pass0 (pa_cons (pe_op op_mul pe_int (pe_op op_add (pv 3) pe_int)) pa_nil)) (pv 2) (nomark _))
       (pss_one (ps_aug (i := 3) sc_month_of.nd rfl (.inl rfl) pe_int ip_add)))
       (pss_cons (ps_set (i := 4) sc_month_of.nd rfl (.inl rfl) pe_int)
       (pss_cons (ps_while PassesOwn.never (PW.pt (pw_and (pt_cmpR op_lt (pv 4) pe_int (nomark _)) (pw_and1 (pt_cmpR op_le (pe_call (ok_first_day T) (hr.mono (by decide)) (by rfl) T.g_first_day T.F_first_day.kp T.b_first_day .nil pass0 (pa_cons (pe_op op_add (pe_op op_add (pe_op op_mul pe_int (pv 3)) (pv 4)) pe_int) pa_nil)) (pv 2) (nomark _)))))
       (pss_one (ps_aug (i := 4) sc_month_of.nd rfl (.inl rfl) pe_int ip_add)))
       (pss_one (ps_ret (pe_op op_add (pe_op op_add (pe_op op_mul (C8.pe_gc (v := .int 4800) (by rfl) T.g_CYCLE_MONTHS) (pv 1)) (pe_op op_mul pe_int (pv 3))) (pv 4))))))))), ?_⟩
    refine red (σ' := [some (.int d), none, none, none, none]) rfl ?_
    try dsimp only [cxOf]
    walk_at "go"
    refine ⟨d, 146097, rfl, ⟨by decide, by decide⟩, fun p hp => ?_⟩
    refine g_gtup ⟨p, [.int (d / 146097), .int (d % 146097)], rfl, SqT.of upd_same, rfl, ?_⟩
    have sm : Same H (upd H p (.tup [.int (d / 146097), .int (d % 146097)])) := same_new hp
    generalize upd H p (.tup [.int (d / 146097), .int (d % 146097)]) = H1 at sm
    have hd : d = d % 146097 + 146097 * (d / 146097) := by omega
    have r0 : 0 ≤ d % 146097 := by omega
    have r1 : d % 146097 < 146097 := by omega
    generalize d % 146097 = r at hd r0 r1
    generalize d / 146097 = c at hd
    walk_at "go"
    refine ⟨fun n σ' H' => ∃ p : Int, σ' = [some (.int d), some (.int c), some (.int r), some (.int p), none] ∧ H' = H1 ∧ 0 ≤ p ∧ Civ.yd p ≤ r ∧ n = (500 - p).toNat, ⟨_, _, rfl, rfl, by omega, ?_, rfl⟩, ?_⟩
    · unfold Civ.yd; omega
    rintro n σ' H' ⟨p, rfl, rfl, p0, hp, rfl⟩
    walk_at "go"
    refine ⟨_, rfl, ?_⟩
    walk_at "go"
    rw [Civ.fd_year]
    refine iteK (fun h1 => ?_) (fun h1 => ?_)
    · refine ⟨fun σ' H2 => σ' = [some (.int d), some (.int c), some (.int r), some (.int (p + 1)), none] ∧ H2 = H', fun σ' H2 h => ⟨(500 - (p + 1)).toNat, ?_, p + 1, h.1, h.2, by omega, h1, rfl⟩, ?_⟩
      · have : p + 1 < 401 := by unfold Civ.yd at h1; omega
        omega
      · walk_at "go"
        exact ⟨rfl, rfl⟩
    · walk_at "go"
      refine ⟨fun n σ' H2 => ∃ k : Int, σ' = [some (.int d), some (.int c), some (.int r), some (.int p), some (.int k)] ∧ H2 = H' ∧ 0 ≤ k ∧ k ≤ 11 ∧ Civ.fd (12 * p + k) ≤ r ∧ n = (11 - k).toNat, ⟨_, _, rfl, rfl, by omega, by omega, ?_, rfl⟩, ?_⟩
      · rw [Int.add_zero, Civ.fd_year]; exact hp
      rintro n σ' H2 ⟨k, rfl, rfl, k0, k11, hk, rfl⟩
      have fin : r < Civ.fd (12 * p + k + 1) → Q (.int (4800 * c + 12 * p + k)) H2 := fun h => by
        have := (Civ.IsM.cycle (c := c) (m := 12 * p + k) (d := r) ⟨hk, h⟩)
        rw [← hd] at this
        have e : 4800 * c + 12 * p + k = 12 * p + k + 4800 * c := by omega
        rw [e]
        exact q _ _ sm this
      walk_at "go"
      refine iteK (fun h2 => ?_) (fun h2 => ?_)
      · walk_at "go"
        refine ⟨_, rfl, ?_⟩
        walk_at "go"
        refine iteK (fun h3 => ?_) (fun h3 => ?_)
        · refine ⟨fun σ' H3 => σ' = [some (.int d), some (.int c), some (.int r), some (.int p), some (.int (k + 1))] ∧ H3 = H2, fun σ' H3 h => ⟨(11 - (k + 1)).toNat, by omega, k + 1, h.1, h.2, by omega, by omega, ?_, rfl⟩, ?_⟩
          · have e : 12 * p + (k + 1) = 12 * p + k + 1 := by omega
            rw [e]; exact h3
          · walk_at "go"
            exact ⟨rfl, rfl⟩
        · walk_at "go"
          exact fin (by omega)
      · refine iteF ?_
        walk_at "go"
        have e : k = 11 := by omega
        refine fin ?_
        have e2 : 12 * p + k + 1 = 12 * (p + 1) := by omega
        rw [e2, Civ.fd_year]
        omega
def sp_date_of : Sp := fun vs H Q _ => ∃ d : Int, vs = [.int d] ∧ ∀ m r H', Same H H' → Civ.IsM d m → H' r = some (.tup [.int (m / 12 + 1), .int (m % 12 + 1), .int (d - Civ.fd m + 1)]) → Q (.ref r) H'
theorem ok_date_of (T : Txt K mg a) : FnOk P w K mg base CX0 4 a.f_date_of a.d_date_of ["day"] sp_date_of := by
  refine T.F_date_of.ok sc_date_of (fun vs H Q E h => ?_) (fun cdv A outer s H vs Q E hr h => ?_)
  · obtain ⟨y, rfl, _⟩ := h
    rfl
  · obtain ⟨d, rfl, q⟩ := h
    refine ⟨_, (pss_cons (ps_set (i := 1) sc_date_of.nd rfl (.inl rfl) (pe_call (ok_month_of T) (hr.mono (by decide)) (by rfl) T.g_month_of T.F_month_of.kp T.b_month_of .nil pass0 (pa_cons (pv 0) pa_nil)))
       (pss_one (ps_ret (pe_tup (pa_cons (pe_call (ok_year_of_month T) (hr.mono (by decide)) (by rfl) T.g_year_of_month T.F_year_of_month.kp T.b_year_of_month .nil pass0 (pa_cons (pv 1) pa_nil)) (pa_cons (pe_op op_add (pe_op op_modE (pv 1) pe_int) pe_int) (pa_cons (pe_op op_add (pe_op op_sub (pv 0) (pe_call (ok_first_day T) (hr.mono (by decide)) (by rfl) T.g_first_day T.F_first_day.kp T.b_first_day .nil pass0 (pa_cons (pv 1) pa_nil))) pe_int) pa_nil))))))), ?_⟩
    refine red (σ' := [some (.int d), none]) rfl ?_
    try dsimp only [cxOf]
    walk_at "go"
    refine ⟨d, rfl, fun m H1 sm hm => ?_⟩
    walk_at "go"
    refine ⟨m, rfl, ?_⟩
    walk_at "go"
    refine ⟨m, rfl, ?_⟩
    walk_at "go"
    refine ⟨by show 3 ≤ sizeLine; decide, fun r hr => ?_⟩
    exact q m r _ (sm.trans (same_new hr)) hm upd_same
end
section
variable {P : Program} {w : World} {K : PySem.W.Frag} {mg : Str → Option Value} {base : Heap} {a : Adr}
def sp_law_mod : Sp := fun vs H Q _ => ∃ i n : Int, vs = [.int i, .int n] ∧ 0 < n ∧ n < 1073741824 ∧ Q (.int (i % n)) H
theorem ok_law_mod (T : Txt K mg a) : FnOk P w K mg base CX0 1 a.f_law_mod a.d_law_mod ["a", "n"] sp_law_mod := by
  refine T.F_law_mod.ok sc_law_mod (fun vs H Q E h => ?_) (fun cdv A outer s H vs Q E hr h => ?_)
  · obtain ⟨i, n, rfl, _⟩ := h
    rfl
  · obtain ⟨i, n, rfl, n0, n1, q⟩ := h
    refine ⟨_, (pss_one (ps_ret (pe_op op_sub (pv 0) (pe_op op_mul (pe_op op_fdivE (pv 0) (pv 1)) (pv 1))))), ?_⟩
    refine red (σ' := [some (.int i), some (.int n)]) rfl ?_
    try dsimp only [cxOf]
    walk_at "go"
    refine g_I (cmul_r (by omega) (by omega)) ?_
    walk_at "go"
    have e : i - i / n * n = i % n := by rw [Int.emod_def, Int.mul_comm]
    show Q (.int (i - i / n * n)) H
    rw [e]
    exact q
def sp_law_leap : Sp := fun vs H Q _ => ∃ y : Int, vs = [.str "civil", .int y] ∧ Q (.bl (Civ.isLeap y)) H
theorem ok_law_leap (T : Txt K mg a) : FnOk P w K mg base CX0 2 a.f_law_leap a.d_law_leap ["calendar", "y"] sp_law_leap := by
  refine T.F_law_leap.ok sc_law_leap (fun vs H Q E h => ?_) (fun cdv A outer s H vs Q E hr h => ?_)
  · obtain ⟨y, rfl, _⟩ := h
    rfl
  · obtain ⟨y, rfl, q⟩ := h
    refine ⟨_, (pss_cons (ps_if (pt_cmpR op_eq (pv 0) pe_str (nomark _))
       (pss_one (ps_ret (pe_cmpR op_eq (pe_call (ok_law_mod T) (hr.mono (by decide)) (by rfl) T.g_law_mod T.F_law_mod.kp T.b_law_mod .nil pass0 (pa_cons (pv 1) (pa_cons pe_int pa_nil))) pe_int (nomark _))))
       pss_nil)
       (pss_cons (ps_if (pt_cmpR op_eq (pv 0) pe_str (nomark _))
       (pss_one (ps_ret (pe_cmpR op_gt (pe_op op_fdivE (pe_op op_add (pe_op op_mul pe_int (pv 1)) pe_int) pe_int) (pe_op op_fdivE (pe_op op_add (pe_op op_mul pe_int (pe_op op_sub (pv 1) pe_int)) pe_int) pe_int) (nomark _))))
       pss_nil)
       (pss_one (ps_ret (pe_and (pe_cmpR op_eq (pe_call (ok_law_mod T) (hr.mono (by decide)) (by rfl) T.g_law_mod T.F_law_mod.kp T.b_law_mod .nil pass0 (pa_cons (pv 1) (pa_cons pe_int pa_nil))) pe_int (nomark _)) (pe_one (pe_or (pe_cmpR op_ne (pe_call (ok_law_mod T) (hr.mono (by decide)) (by rfl) T.g_law_mod T.F_law_mod.kp T.b_law_mod .nil pass0 (pa_cons (pv 1) (pa_cons pe_int pa_nil))) pe_int (nomark _)) (pe_one (pe_cmpR op_eq (pe_call (ok_law_mod T) (hr.mono (by decide)) (by rfl) T.g_law_mod T.F_law_mod.kp T.b_law_mod .nil pass0 (pa_cons (pv 1) (pa_cons pe_int pa_nil))) pe_int (nomark _)))))))))), ?_⟩
    refine red (σ' := [some (.str "civil"), some (.int y)]) rfl ?_
    try dsimp only [cxOf]
    have e : Civ.isLeap y = (decide (y % 4 = 0) && (!decide (y % 100 = 0) || decide (y % 400 = 0))) := rfl
    walk_at "go"
    refine ite_n rfl ?_
    walk_at "go"
    refine ite_n rfl ?_
    walk_at "go"
    refine ⟨y, 4, rfl, by decide, by decide, ?_⟩
    walk_at "go"
    rw [dec_int]
    refine iteB (fun h1 => ?_) (fun h1 => ?_)
    · walk_at "go"
      refine ⟨y, 100, rfl, by decide, by decide, ?_⟩
      walk_at "go"
      rw [dec_int]
      refine iteB (fun h2 => ?_) (fun h2 => ?_)
      · rw [e, h1, h2] at q; exact q
      · walk_at "go"
        refine ⟨y, 400, rfl, by decide, by decide, ?_⟩
        walk_at "go"
        rw [dec_int]
        rw [e, h1, h2] at q; exact q
    · rw [e, h1] at q; exact q
def sp_law_length : Sp := fun vs H Q _ => ∃ m : Int, vs = [.str "civil", .int m] ∧ ∀ H', Same H H' → Q (.int (Civ.len m)) H'
theorem ok_law_length (T : Txt K mg a) : FnOk P w K mg base CX0 3 a.f_law_length a.d_law_length ["calendar", "m"] sp_law_length := by
  refine T.F_law_length.ok sc_law_length (fun vs H Q E h => ?_) (fun cdv A outer s H vs Q E hr h => ?_)
  · obtain ⟨y, rfl, _⟩ := h
    rfl
  · obtain ⟨m, rfl, q⟩ := h
    refine ⟨_, (pss_cons (ps_set (i := 2) sc_law_length.nd rfl (.inl rfl) (pe_call (ok_law_mod T) (hr.mono (by decide)) (by rfl) T.g_law_mod T.F_law_mod.kp T.b_law_mod .nil pass0 (pa_cons (pv 1) (pa_cons pe_int pa_nil))))
       (pss_cons (ps_set (i := 3) sc_law_length.nd rfl (.inl rfl) (pe_call (ok_law_leap T) (hr.mono (by decide)) (by rfl) T.g_law_leap T.F_law_leap.kp T.b_law_leap .nil pass0 (pa_cons (pv 0) (pa_cons (pe_op op_add (pe_op op_fdivE (pv 1) pe_int) pe_int) pa_nil))))
       (pss_cons (ps_if (pt_cmpR op_eq (pv 0) pe_str (nomark _))
       (pss_one (ps_ret (pe_op op_add (pe_ix ix_list (pe_lst (pa_cons pe_int (pa_cons pe_int pa_nil))) (pe_call (ok_law_mod T) (hr.mono (by decide)) (by rfl) T.g_law_mod T.F_law_mod.kp T.b_law_mod .nil pass0 (pa_cons (pv 2) (pa_cons pe_int pa_nil))) (fun _ _ => rfl)) (pe_callTy call_int1 (by rfl) T.z_int (by decide +kernel) (pa_cons (pe_and (pe_cmpR op_eq (pv 2) pe_int (nomark _)) (pe_one (pv 3))) pa_nil)))))
       pss_nil)
       (pss_one (ps_ret (pe_op op_add (pe_ix ix_list (pe_lst (pa_cons pe_int (pa_cons pe_int (pa_cons pe_int (pa_cons pe_int (pa_cons pe_int (pa_cons pe_int (pa_cons pe_int (pa_cons pe_int (pa_cons pe_int (pa_cons pe_int (pa_cons pe_int (pa_cons pe_int pa_nil))))))))))))) (pv 2) (fun _ _ => rfl)) (pe_callTy call_int1 (by rfl) T.z_int (by decide +kernel) (pa_cons (pe_and (pe_cmpR op_eq (pv 2) pe_int (nomark _)) (pe_one (pv 3))) pa_nil)))))))), ?_⟩
    refine red (σ' := [some (.str "civil"), some (.int m), none, none]) rfl ?_
    try dsimp only [cxOf]
    walk_at "go"
    refine ⟨m, 12, rfl, by decide, by decide, ?_⟩
    walk_at "go"
    refine ⟨m / 12 + 1, rfl, ?_⟩
    walk_at "go"
    refine ite_n rfl ?_
    walk_at "go"
    refine ⟨by show 12 ≤ sizeLine; decide, fun l hl => ?_⟩
    walk_at "go"
    refine g_ixL (SqL.of upd_same) (at12 (xs := Civ.LEN) rfl m) ?_
    have sm : Same H (upd H l (.lst (Civ.LEN.map V.int))) := same_new hl
    change tCB _ _ _ (upd H l (.lst (Civ.LEN.map V.int))) _
    generalize upd H l (.lst (Civ.LEN.map V.int)) = H1 at sm
    walk_at "go"
    rw [dec_int]
    have e : Civ.len m = Civ.LEN.getD (m % 12).toNat 0 + if m % 12 = 1 then Civ.lp (m / 12 + 1) else 0 := rfl
    refine iteB (fun h1 => ?_) (fun h1 => ?_)
    · rw [if_pos (of_decide_eq_true h1)] at e
      walk_at "go"
      have := q H1 sm
      rw [e] at this
      exact this
    · rw [if_neg (of_decide_eq_false h1)] at e
      walk_at "go"
      have := q H1 sm
      rw [e] at this
      exact this
def sp_law_year_first : Sp := fun vs H Q _ => ∃ y : Int, vs = [.str "civil", .int y] ∧ ∀ H', Same H H' → Q (.int (Civ.yd (y - 1))) H'
theorem ok_law_year_first (T : Txt K mg a) : FnOk P w K mg base CX0 3 a.f_law_year_first a.d_law_year_first ["calendar", "y"] sp_law_year_first := by
  refine T.F_law_year_first.ok sc_law_year_first (fun vs H Q E h => ?_) (fun cdv A outer s H vs Q E hr h => ?_)
  · obtain ⟨y, rfl, _⟩ := h
    rfl
  · obtain ⟨y, rfl, q⟩ := h
    refine ⟨_, (pss_cons (ps_asg (pe_tup (pa_cons pe_int (pa_cons pe_int (pa_cons pe_int (pa_cons pe_int pa_nil))))) (pg_tup (by rfl) (pgs_cons (pg_name (i := 2) sc_law_year_first.nd rfl (.inl rfl)) (pgs_cons (pg_name (i := 3) sc_law_year_first.nd rfl (.inl rfl)) (pgs_cons (pg_name (i := 4) sc_law_year_first.nd rfl (.inl rfl)) (pgs_cons (pg_name (i := 5) sc_law_year_first.nd rfl (.inl rfl)) pgs_nil))))))
       (C8.pss_cut (ps_if (pt_cmpR op_eq (pv 0) pe_str (nomark _))
       (pss_one ps_never)
       pss_nil)
       (C8.pss_cut (ps_if (pt_cmpR op_eq (pv 0) pe_str (nomark _))
       (pss_one (ps_asg (pe_tup (pa_cons pe_int (pa_cons pe_int (pa_cons pe_int (pa_cons pe_int pa_nil))))) (pg_tup (by rfl) (pgs_cons (pg_name (i := 2) sc_law_year_first.nd rfl (.inl rfl)) (pgs_cons (pg_name (i := 3) sc_law_year_first.nd rfl (.inl rfl)) (pgs_cons (pg_name (i := 4) sc_law_year_first.nd rfl (.inl rfl)) (pgs_cons (pg_name (i := 5) sc_law_year_first.nd rfl (.inl rfl)) pgs_nil)))))))
       pss_nil)
       (pss_cons (ps_set (i := 6) sc_law_year_first.nd rfl (.inl rfl) (pe_op op_fdivE (pe_op op_sub (pv 1) pe_int) (pv 2)))
       (pss_cons (ps_set (i := 7) sc_law_year_first.nd rfl (.inl rfl) (pe_op op_add (pv 4) (pe_op op_mul (pv 3) (pv 6))))
       (pss_cons (ps_for PassesOwn.never rfl (pi_range1 (by rfl) T.z_range (pa_cons (pe_op op_sub (pe_op op_sub (pv 1) pe_int) (pe_op op_mul (pv 2) (pv 6))) pa_nil)) (pg_name (i := 8) sc_law_year_first.nd rfl (.inl rfl))
       (pss_one (ps_set (i := 7) sc_law_year_first.nd rfl (.inl rfl) (pe_op op_add (pe_op op_add (pv 7) (pv 5)) (pe_callTy call_int1 (by rfl) T.z_int (by decide +kernel) (pa_cons (pe_call (ok_law_leap T) (hr.mono (by decide)) (by rfl) T.g_law_leap T.F_law_leap.kp T.b_law_leap .nil pass0 (pa_cons (pv 0) (pa_cons (pe_op op_add (pv 8) pe_int) pa_nil))) pa_nil))))))
       (pss_one (ps_ret (pv 7))))))))), ?_⟩
    refine red (σ' := [some (.str "civil"), some (.int y), none, none, none, none, none, none, none]) rfl ?_
    try dsimp only [cxOf]
    walk_at "go"
    refine ⟨by show 4 ≤ sizeLine; decide, fun l hl => ?_⟩
    refine g_gtup ⟨l, [.int 400, .int 146097, .int 0, .int 365], rfl, SqT.of upd_same, rfl, ?_⟩
    have sm : Same H (upd H l (.tup [.int 400, .int 146097, .int 0, .int 365])) := same_new hl
    generalize upd H l (.tup [.int 400, .int 146097, .int 0, .int 365]) = H1 at sm
    walk_at "go"
    refine ⟨fun σ' H' => σ' = [some (.str "civil"), some (.int y), some (.int 400), some (.int 146097), some (.int 0), some (.int 365), none, none, none] ∧ H' = H1, ?_, ?_⟩
    · walk_at "go"
      refine ite_n rfl ?_
      walk_at "go"
      exact ⟨rfl, rfl⟩
    rintro σ' H' ⟨rfl, rfl⟩
    refine ⟨fun σ' H2 => σ' = [some (.str "civil"), some (.int y), some (.int 400), some (.int 146097), some (.int 0), some (.int 365), none, none, none] ∧ H2 = H', ?_, ?_⟩
    · walk_at "go"
      refine ite_n rfl ?_
      walk_at "go"
      exact ⟨rfl, rfl⟩
    rintro σ' H' ⟨rfl, rfl⟩
    walk_at "go"
    refine ⟨_, rfl, by omega, by omega, ?_⟩
    have hy : y - 1 = (y - 1) % 400 + 400 * ((y - 1) / 400) := by omega
    have e0 : y - 1 - 400 * ((y - 1) / 400) = (y - 1) % 400 := by omega
    rw [e0]
    obtain ⟨n, hn⟩ := Int.eq_ofNat_of_zero_le (show 0 ≤ (y - 1) % 400 by omega)
    rw [hn] at hy ⊢
    rw [Int.toNat_natCast]
    have n4 : n < 400 := by omega
    generalize (y - 1) / 400 = c at hy
    refine for_range (fun i σ' H2 => ∃ y8, σ' = [some (.str "civil"), some (.int y), some (.int 400), some (.int 146097), some (.int 0), some (.int 365), some (.int c), some (.int (0 + 146097 * c + Civ.yd i)), y8] ∧ H2 = H')
      ⟨none, by rw [show Civ.yd ((0 : Nat) : Int) = 0 from rfl, Int.add_zero]; rfl, rfl⟩ ?_ ?_
    · rintro i σ' H2 hi ⟨y8, rfl, rfl⟩
      walk_at "go"
      refine ⟨0 + (i : Int) + 1, rfl, ?_⟩
      walk_at "go"
      refine ⟨some (.int (0 + (i : Int))), ?_, rfl⟩
      have e1 : (0 : Int) + i + 1 = i + 1 := by omega
      have e2 : ((i + 1 : Nat) : Int) = (i : Int) + 1 := by omega
      have e3 : (0 + 146097 * c + Civ.yd i + 365 + if Civ.isLeap (0 + (i : Int) + 1) = true then 1 else 0) = 0 + 146097 * c + Civ.yd ((i + 1 : Nat) : Int) := by
        rw [e1, e2, Civ.yd_succ]
        show _ = 0 + 146097 * c + (Civ.yd i + 365 + if Civ.isLeap ((i : Int) + 1) = true then 1 else 0)
        omega
      rw [← e3]
      rfl
    · rintro σ' H2 ⟨y8, rfl, rfl⟩
      walk_at "go"
      have := q H2 sm
      rw [hy, Civ.yd_cycle] at this
      have e4 : 0 + 146097 * c + Civ.yd n = Civ.yd n + 146097 * c := by omega
      rw [e4]
      exact this
def sp_law_month_at : Sp := fun vs H Q _ => ∃ d : Int, vs = [.str "civil", .int d] ∧ ∀ m r H', Same H H' → Civ.IsM d m → H' r = some (.lst [.int m, .int (Civ.fd m)]) → Q (.ref r) H'
theorem ok_law_month_at (T : Txt K mg a) : FnOk P w K mg base CX0 4 a.f_law_month_at a.d_law_month_at ["calendar", "day"] sp_law_month_at := by
  refine T.F_law_month_at.ok sc_law_month_at (fun vs H Q E h => ?_) (fun cdv A outer s H vs Q E hr h => ?_)
  · obtain ⟨y, rfl, _⟩ := h
    rfl
  · obtain ⟨d, rfl, q⟩ := h
    refine ⟨_, (pss_cons (ps_set (i := 2) sc_law_month_at.nd rfl (.inl rfl) (pe_lst (pa_cons (pe_op op_fdivE (pe_op op_mul (pv 1) pe_int) pe_int) (pa_cons (pe_op op_fdivE (pe_op op_mul (pe_op op_add (pv 1) pe_int) pe_int) pe_int) (pa_cons (pe_op op_fdivE (pe_op op_mul (pe_op op_sub (pv 1) pe_int) pe_int) pe_int) pa_nil)))))
       (pss_cons (ps_set (i := 3) sc_law_month_at.nd rfl (.inl rfl) (pe_ix ix_list (pv 2) (pe_bm PySem.F.plainAttrs_list PySem.F.slot_list_index PySem.F.type_list_index mt_index (pe_lst (pa_cons pe_str (pa_cons pe_str (pa_cons pe_str pa_nil)))) (pa_cons (pv 0) pa_nil)) (fun _ _ => rfl)))
       (pss_cons (ps_for PassesOwn.never rfl (pi_range1 (by rfl) T.z_range (pa_cons pe_int pa_nil)) (pg_name (i := 4) sc_law_month_at.nd rfl (.inl rfl))
       (pss_one (ps_if (pt_cmpR op_le (pe_call (ok_law_year_first T) (hr.mono (by decide)) (by rfl) T.g_law_year_first T.F_law_year_first.kp T.b_law_year_first .nil pass0 (pa_cons (pv 0) (pa_cons (pe_op op_add (pv 3) pe_int) pa_nil))) (pv 1) (nomark _))
       (pss_one (ps_set (i := 3) sc_law_month_at.nd rfl (.inl rfl) (pe_op op_add (pv 3) pe_int)))
       pss_nil)))
       (pss_cons (ps_set (i := 5) sc_law_month_at.nd rfl (.inl rfl) (pe_op op_mul pe_int (pe_op op_sub (pv 3) pe_int)))
       (pss_cons (ps_set (i := 6) sc_law_month_at.nd rfl (.inl rfl) (pe_call (ok_law_year_first T) (hr.mono (by decide)) (by rfl) T.g_law_year_first T.F_law_year_first.kp T.b_law_year_first .nil pass0 (pa_cons (pv 0) (pa_cons (pv 3) pa_nil))))
       (pss_cons (ps_for PassesOwn.never rfl (pi_range1 (by rfl) T.z_range (pa_cons pe_int pa_nil)) (pg_name (i := 4) sc_law_month_at.nd rfl (.inl rfl))
       (pss_cons (ps_set (i := 7) sc_law_month_at.nd rfl (.inl rfl) (pe_call (ok_law_length T) (hr.mono (by decide)) (by rfl) T.g_law_length T.F_law_length.kp T.b_law_length .nil pass0 (pa_cons (pv 0) (pa_cons (pv 5) pa_nil))))
       (pss_one (ps_if (pt_cmpR op_le (pe_op op_add (pv 6) (pv 7)) (pv 1) (nomark _))
       (pss_cons (ps_set (i := 6) sc_law_month_at.nd rfl (.inl rfl) (pe_op op_add (pv 6) (pv 7)))
       (pss_one (ps_set (i := 5) sc_law_month_at.nd rfl (.inl rfl) (pe_op op_add (pv 5) pe_int))))
       pss_nil))))
       (pss_one (ps_ret (pe_lst (pa_cons (pv 5) (pa_cons (pv 6) pa_nil))))))))))), ?_⟩
    refine red (σ' := [some (.str "civil"), some (.int d), none, none, none, none, none, none]) rfl ?_
    try dsimp only [cxOf]
    walk_at "go"
    refine ⟨by show 3 ≤ sizeLine; decide, fun l hl => ?_⟩
    have sm : Same H (upd H l (.lst [.int (d * 400 / 146097), .int ((d + 2) * 4 / 1461), .int ((d - 227014) * 30 / 10631)])) := same_new hl
    have h1 : upd H l (.lst [.int (d * 400 / 146097), .int ((d + 2) * 4 / 1461), .int ((d - 227014) * 30 / 10631)]) l = some (.lst [.int (d * 400 / 146097), .int ((d + 2) * 4 / 1461), .int ((d - 227014) * 30 / 10631)]) := upd_same
    generalize upd H l (.lst [.int (d * 400 / 146097), .int ((d + 2) * 4 / 1461), .int ((d - 227014) * 30 / 10631)]) = H1 at sm h1
    walk_at "go"
    refine ⟨by show 3 ≤ sizeLine; decide, fun l2 hl2 => ?_⟩
    refine ⟨.inl ⟨rfl, _, SqL.of upd_same⟩, ?_⟩
    walk_at "go"
    refine ⟨l2, _, _, 0, _, rfl, rfl, SqL.of upd_same, rfl, rfl, rfl, rfl, fun m z' hm => by omega, ?_⟩
    refine g_ixL (n := ((0 : Nat) : Int)) (SqL.of ((upd_ne (ne_of_none h1 hl2)).trans h1)) (atI_nat rfl) ?_
    replace sm := sm.trans (same_new (o := .lst [.str "civil", .str "julian", .str "moon"]) hl2)
    generalize upd H1 l2 (.lst [.str "civil", .str "julian", .str "moon"]) = H2 at sm
    walk_at "go"
    refine ⟨4, rfl, by decide, by decide, ?_⟩
    have hy0 : 146097 * (d * 400 / 146097) ≤ 400 * d ∧ 400 * d < 146097 * (d * 400 / 146097 + 1) := by omega
    generalize d * 400 / 146097 = y0 at hy0
    refine for_range (fun i σ' H' => ∃ (y : Int) (y4 : Option V), σ' = [some (.str "civil"), some (.int d), some (.ref l), some (.int y), y4, none, none, none] ∧ Same H H' ∧ y0 ≤ y ∧ y ≤ y0 + i ∧ Civ.yd (y - 1) ≤ d ∧ (y = y0 + i ∨ d < Civ.yd y))
      ⟨y0, none, rfl, sm, by omega, by omega, by unfold Civ.yd; omega, .inl (by omega)⟩ ?_ ?_
    · rintro i σ' H3 hi ⟨y, y4, rfl, sm, g1, g2, g3, g4⟩
      walk_at "go"
      refine ⟨y + 1, rfl, fun H4 sm4 => ?_⟩
      walk_at "go"
      have e1 : y + 1 - 1 = y := by omega
      rw [e1]
      refine iteK (fun h => ?_) (fun h => ?_)
      · walk_at "go"
        refine ⟨y + 1, _, rfl, sm.trans sm4, by omega, by omega, by rw [e1]; exact h, ?_⟩
        rcases g4 with g4 | g4
        · left; omega
        · omega
      · walk_at "go"
        exact ⟨y, _, rfl, sm.trans sm4, g1, by omega, g3, .inr (by omega)⟩
    · rintro σ' H3 ⟨y, y4, rfl, sm, g1, g2, g3, g4⟩
      have top : d < Civ.yd y := by
        rcases g4 with g4 | g4
        · have g4 : y = y0 + 4 := g4
          unfold Civ.yd
          omega
        · exact g4
      clear g1 g2 g4 hy0
      walk_at "go"
      refine ⟨y, rfl, fun H4 sm4 => ?_⟩
      walk_at "go"
      refine ⟨11, rfl, by decide, by decide, ?_⟩
      refine for_range (fun i σ' H' => ∃ (m : Int) (y4 y7 : Option V), σ' = [some (.str "civil"), some (.int d), some (.ref l), some (.int y), y4, some (.int m), some (.int (Civ.fd m)), y7] ∧ Same H H' ∧ 12 * (y - 1) ≤ m ∧ m ≤ 12 * (y - 1) + i ∧ Civ.fd m ≤ d ∧ (m = 12 * (y - 1) + i ∨ d < Civ.fd (m + 1)))
        ⟨12 * (y - 1), y4, none, by rw [Civ.fd_year]; rfl, sm.trans sm4, by omega, by omega, by rw [Civ.fd_year]; exact g3, .inl (by omega)⟩ ?_ ?_
      · rintro i σ' H5 hi ⟨m, y4, y7, rfl, sm, g1, g2, g3, g4⟩
        walk_at "go"
        refine ⟨m, rfl, fun H6 sm6 => ?_⟩
        walk_at "go"
        rw [← Civ.fd_succ]
        refine iteK (fun h => ?_) (fun h => ?_)
        · walk_at "go"
          refine ⟨m + 1, _, _, by rw [Civ.fd_succ]; rfl, sm.trans sm6, by omega, by omega, h, ?_⟩
          rcases g4 with g4 | g4
          · left; omega
          · omega
        · walk_at "go"
          exact ⟨m, _, _, rfl, sm.trans sm6, g1, by omega, g3, .inr (by omega)⟩
      · rintro σ' H5 ⟨m, y4, y7, rfl, sm, g1, g2, g3, g4⟩
        walk_at "go"
        refine ⟨two_le, fun r hr => ?_⟩
        refine q m r _ (sm.trans (same_new hr)) ⟨g3, ?_⟩ upd_same
        rcases g4 with g4 | g4
        · have g4 : m = 12 * (y - 1) + 11 := g4
          have e2 : m + 1 = 12 * y := by omega
          rw [e2, Civ.fd_year]
          exact top
        · exact g4
end
section
variable {P : Program} {w : World} {K : PySem.W.Frag} {mg : Str → Option Value} {base : Heap} {a : Adr}
theorem dec_str (x y : List Nat) : decide (V.str (S x) = V.str (S y)) = decide (x = y) := by
  by_cases h : x = y
  · subst h; simp
  · have : ¬ V.str (S x) = V.str (S y) := fun z => h (S_inj (by cases z; rfl))
    rw [decide_eq_false this, decide_eq_false h]
def sp_day_of (a : Adr) : Sp := fun vs H Q E => ∃ y mo d : Int, vs = [.int y, .int mo, .int d] ∧ (Civ.dayOf y mo d = none → E (.ref a.C_BadDate) none H) ∧ ∀ k, Civ.dayOf y mo d = some k → Q (.int k) H
theorem ok_day_of (T : Txt K mg a) : FnOk P w K mg base (L2.CX P w) 3 a.f_day_of a.d_day_of ["year", "month", "date"] (sp_day_of a) := by
  refine T.F_day_of.okX sc_day_of (fun vs H Q E h => ?_) (fun cdv A outer s H vs Q E hr h => ?_)
  · obtain ⟨y, mo, d, rfl, _⟩ := h
    rfl
  · obtain ⟨y, mo, d, rfl, q1, q2⟩ := h
    refine ⟨_, (pss_cons (ps_if (pt_not (pt_chain op_le op_le pe_int (pv 1) pe_int))
       (pss_one (ps_raise rfl (takes_of rfl rfl rfl rfl) (pmk_own0 PySem.F.excBase_ValueError T.x_BadDate T.g_BadDate T.k_BadDate (raises_own T.r_BadDate T.t_BadDate) rfl)))
       pss_nil)
       (pss_cons (ps_set (i := 3) sc_day_of.nd rfl (.inl rfl) (pe_op op_sub (pe_op op_add (pe_op op_mul pe_int (pe_op op_sub (pv 0) pe_int)) (pv 1)) pe_int))
       (pss_cons (ps_if (pt_not (pt_chain op_le op_le pe_int (pv 2) (pe_call (ok_month_length T) (hr.mono (by decide)) (by rfl) T.g_month_length T.F_month_length.kp T.b_month_length .nil pass0 (pa_cons (pv 3) pa_nil))))
       (pss_one (ps_raise rfl (takes_of rfl rfl rfl rfl) (pmk_own0 PySem.F.excBase_ValueError T.x_BadDate T.g_BadDate T.k_BadDate (raises_own T.r_BadDate T.t_BadDate) rfl)))
       pss_nil)
       (pss_one (ps_ret (pe_op op_sub (pe_op op_add (pe_call (ok_first_day T) (hr.mono (by decide)) (by rfl) T.g_first_day T.F_first_day.kp T.b_first_day .nil pass0 (pa_cons (pv 3) pa_nil)) (pv 2)) pe_int)))))), ?_⟩
    refine red (σ' := [some (.int y), some (.int mo), some (.int d), none]) rfl ?_
    try dsimp only [cxOf]
    walk_at "go"
    have no : ∀ {A : Prop}, (Civ.dayOf y mo d = none → A) → ¬ ((1 ≤ mo ∧ mo ≤ 12) ∧ (1 ≤ d ∧ d ≤ Civ.len (12 * (y - 1) + mo - 1))) → A := fun f h => f (by unfold Civ.dayOf; rw [if_neg h])
    refine iteK (fun h1 => ?_) (fun h1 => ?_)
    · walk_at "go"
      refine iteNK (fun h2 => ?_) (fun h2 => ?_)
      · walk_at "go"
        exact no q1 fun z => h2 z.1.2
      · walk_at "go"
        refine iteK (fun h3 => ?_) (fun h3 => ?_)
        · walk_at "go"
          refine ⟨_, rfl, ?_⟩
          walk_at "go"
          refine iteNK (fun h4 => ?_) (fun h4 => ?_)
          · walk_at "go"
            exact no q1 fun z => h4 z.2.2
          · walk_at "go"
            refine ⟨_, rfl, ?_⟩
            walk_at "go"
            refine q2 _ ?_
            unfold Civ.dayOf
            rw [if_pos ⟨⟨h1, h2⟩, h3, h4⟩]
        · walk_at "go"
          refine ite_y rfl ?_
          walk_at "go"
          exact no q1 fun z => h3 z.2.1
    · walk_at "go"
      refine ite_y rfl ?_
      walk_at "go"
      exact no q1 fun z => h1 z.1.1
def pd (n k : Nat) : List Nat := List.replicate (k - (TL.numL n).length) 48 ++ TL.numL n
def sp_padded : Sp := fun vs H Q _ => ∃ n k : Int, vs = [.int n, .int k] ∧ 0 ≤ n ∧ n < 10 ^ 50 ∧ 0 ≤ k ∧ k ≤ 100 ∧ Q (.str (S (pd n.toNat k.toNat))) H
theorem ok_padded (T : Txt K mg a) : FnOk P w K mg base CX0 1 a.f_padded a.d_padded ["n", "many"] sp_padded := by
  refine T.F_padded.ok sc_padded (fun vs H Q E h => ?_) (fun cdv A outer s H vs Q E hr h => ?_)
  · obtain ⟨y, k, rfl, _⟩ := h
    rfl
  · obtain ⟨n, k, rfl, n0, n1, k0, k1, q⟩ := h
    refine ⟨_, (pss_one (ps_ret (pe_op op_add_str (pe_op op_mul_str pe_str (pe_op op_sub (pv 1) (pe_callB call_len_str (by rfl) T.z_len (by decide +kernel) (pa_cons (pe_callTy call_str_int (by rfl) T.z_str (by decide +kernel) (pa_cons (pv 0) pa_nil)) pa_nil)))) (pe_callTy call_str_int (by rfl) T.z_str (by decide +kernel) (pa_cons (pv 0) pa_nil))))), ?_⟩
    refine red (σ' := [some (.int n), some (.int k)]) rfl ?_
    try dsimp only [cxOf]
    obtain ⟨m, rfl⟩ := Int.eq_ofNat_of_zero_le n0
    have hm : m < 10 ^ 50 := by omega
    have hl := TL.numL_len (k := 50) (by decide) hm
    have hb : ((m : Int)).natAbs < 10 ^ 60 := by
      have : (10 : Nat) ^ 50 < 10 ^ 60 := by decide
      rw [Int.natAbs_natCast]
      omega
    walk_at "go"
    refine g_strI hb ?_
    rw [num_S]
    walk_at "go"
    refine g_lenS (by omega) ?_
    rw [S_len]
    walk_at "go"
    refine ⟨[48], _, rfl, rfl, by omega, by omega, by decide, ?_⟩
    walk_at "go"
    refine g_strI hb ?_
    rw [num_S]
    walk_at "go"
    have e : (List.replicate (k - ((TL.numL m).length : Nat)).toNat [48]).flatten ++ TL.numL m = pd ((m : Int)).toNat k.toNat := by
      unfold pd
      rw [Int.toNat_natCast]
      have e1 : (k - ((TL.numL m).length : Nat)).toNat = k.toNat - (TL.numL m).length := by omega
      rw [e1]
      congr 1
      generalize k.toNat - (TL.numL m).length = j
      induction j with
      | zero => rfl
      | succ j ih => rw [List.replicate_succ, List.flatten_cons, ih, List.replicate_succ]; rfl
    refine g_catS ?_ ?_
    · have h2 : (List.replicate (k - ((TL.numL m).length : Nat)).toNat [48]).flatten.length ≤ 100 := by
        rw [List.length_flatten, List.map_replicate, List.sum_replicate_nat]
        show _ * 1 ≤ 100
        omega
      omega
    · rw [S_cat, e]; exact q
def sp_all_digits : Sp := fun vs H Q _ => ∃ l : List Nat, vs = [.str (S l)] ∧ l.length ≤ 100000 ∧ ∀ H', Same H H' → Q (.bl (Dg.isDig l)) H'
theorem in_digits (c : Nat) : decide (c ∈ [48, 49, 50, 51, 52, 53, 54, 55, 56, 57]) = (decide (48 ≤ c) && decide (c ≤ 57)) := by
  by_cases h : 48 ≤ c ∧ c ≤ 57
  · rw [decide_eq_true h.1, decide_eq_true h.2]
    have : c = 48 ∨ c = 49 ∨ c = 50 ∨ c = 51 ∨ c = 52 ∨ c = 53 ∨ c = 54 ∨ c = 55 ∨ c = 56 ∨ c = 57 := by omega
    rcases this with r | r | r | r | r | r | r | r | r | r <;> subst r <;> rfl
  · have h2 : (decide (48 ≤ c) && decide (c ≤ 57)) = false := by
      rw [Bool.and_eq_false_iff, decide_eq_false_iff_not, decide_eq_false_iff_not]
      omega
    rw [h2, decide_eq_false_iff_not]
    intro hm
    simp only [List.mem_cons, List.not_mem_nil, or_false] at hm
    omega
theorem all_id {α : Type} (f : α → Bool) : ∀ l : List α, (l.map f).all id = l.all f
  | [] => rfl
  | x :: l => by rw [List.map_cons, List.all_cons, List.all_cons, all_id f l]; rfl
theorem take_more {α : Type} : ∀ {l : List α} {i : Nat} {x : α}, l[i]? = some x → l.take (i + 1) = l.take i ++ [x]
  | [], i, x, h => by simp at h
  | a :: l, 0, x, h => by cases h; rfl
  | a :: l, i + 1, x, h => by
    show a :: l.take (i + 1) = a :: l.take i ++ [x]
    rw [take_more (l := l) (i := i) (x := x) h]; rfl
theorem ok_all_digits (T : Txt K mg a) : FnOk P w K mg base CX0 1 a.f_all_digits a.d_all_digits ["word"] sp_all_digits := by
  refine T.F_all_digits.ok sc_all_digits (fun vs H Q E h => ?_) (fun cdv A outer s H vs Q E hr h => ?_)
  · obtain ⟨l, rfl, _⟩ := h
    rfl
  · obtain ⟨l, rfl, hl, q⟩ := h
    refine ⟨_, (pss_one (ps_ret (pe_and (pe_cmpR op_ne (pv 0) pe_str (nomark _)) (pe_one (pe_callB (cr_all rfl) (by rfl) T.z_all (by decide +kernel) (pa_cons (pe_lc (own := [("sign", 1)]) (g := (gName 1)) rfl sc_all_digits.nd (pi_str (pv 0)) (blkOk_by (own := [("sign", 1)]) (N := ["word", "sign"]) (sc := defScope s_all_digits) (by decide +kernel)) (fun _ _ _ _ _ => (pg_name (i := 1) sc_all_digits.nd rfl (.inl rfl))) (fun _ _ _ _ _ => pts_nil) (fun _ _ _ _ _ => (pe_cmpR op_in_sign (pv 1) (C8.pe_gc (v := .str "0123456789") (by rfl) T.g_DIGITS) rfl))) pa_nil)))))), ?_⟩
    refine red (σ' := [some (.str (S l)), none]) rfl ?_
    try dsimp only [cxOf]
    walk_at "go"
    have e0 : decide (V.str (S l) = V.str "") = decide (l = []) := dec_str l []
    rw [e0]
    by_cases hn : l = []
    · rw [decide_eq_true hn]
      refine iteF ?_
      rw [hn] at q
      exact q H (Same.refl H)
    · rw [decide_eq_false hn]
      refine iteT ?_
      walk_at "go"
      refine ⟨S l, rfl, fun D hD => ?_⟩
      have hsz : (S l).cps.size = l.length := S_len l
      refine lc_it walk_str (fun i H' => Same H H' ∧ H' D = some (.lst (((l.take i).map fun c => decide (48 ≤ c) && decide (c ≤ 57)).map V.bl))) ⟨same_new hD, upd_same⟩ (fun _ _ _ _ => trivial) ?_ ?_
      · rintro i x H1 H2 hi ⟨sm, hL⟩ ⟨rfl, c, hc, rfl⟩
        have hc' : l[i]? = some c := by simpa using hc
        walk_at "go"
        refine ⟨rfl, ?_⟩
        refine g_yes ?_
        refine iteT ?_
        walk_at "go"
        have e1 : decide (c ∈ (Str.ofString "0123456789").cps.toList) = (decide (48 ≤ c) && decide (c ≤ 57)) := in_digits c
        rw [e1]
        refine ⟨_, hL, ?_, fun b o hb => ?_, ?_⟩
        · have := sizeBig
          rw [List.length_map, List.length_map, List.length_take]
          omega
        · rw [upd_ne (ne_of_none hb hD)]; exact sm b o hb
        · rw [upd_same, take_more hc', List.map_append, List.map_append]; rfl
      · rintro H1 ⟨sm, hL⟩
        rw [hsz, List.take_length] at hL
        walk_at "go"
        refine ⟨D, _, rfl, SqL.of hL, ?_⟩
        rw [all_id]
        have e2 : Dg.isDig l = l.all fun c => decide (48 ≤ c) && decide (c ≤ 57) := by
          unfold Dg.isDig
          cases l with
          | nil => exact absurd rfl hn
          | cons x l => rfl
        rw [← e2]
        exact q H1 sm
end
section
variable {P : Program} {w : World} {K : PySem.W.Frag} {mg : Str → Option Value} {base : Heap} {a : Adr}
theorem lk_hd {f : Str} {v : V} {r : List (Str × V)} : List.lookup f ((f, v) :: r) = some v := by simp [List.lookup]
theorem lk_tl {f g : Str} {v : V} {r : List (Str × V)} (h : ¬ f = g) : List.lookup f ((g, v) :: r) = List.lookup f r := by
  have e : (f == g) = false := by simpa using h
  simp [List.lookup, e]
abbrev bx (l w : Int) : List (Str × V) := [("word", .int w), ("line", .int l)]
theorem bx_word (l w : Int) : List.lookup ("word" : Str) (bx l w) = some (.int w) := lk_hd
theorem bx_line (l w : Int) : List.lookup ("line" : Str) (bx l w) = some (.int l) := by
  rw [lk_tl (by decide +kernel)]; exact lk_hd
def sp_BadText_init (K : PySem.W.Frag) : Sp := fun vs H Q _ => ∃ (x C : Addr) (l w : Int), vs = [.ref x, .int l, .int w] ∧ l.natAbs < 10 ^ 60 ∧ w.natAbs < 10 ^ 60 ∧ OexC K C ∧ PySem.W.findIn K (.ref C) "line" = some none ∧ PySem.W.findIn K (.ref C) "word" = some none ∧ H x = some (exo x C none) ∧
  ∀ d, H d = none → d ≠ x → Q .non (upd (upd (upd H d (exd d [("line", .int l)])) x (exo x C (some d))) d (exd d (bx l w)))
theorem int_text_len {n : Int} (h : n.natAbs < 10 ^ 60) : (Str.ofString (toString n)).length ≤ 70 := by
  obtain ⟨k, hk⟩ | ⟨k, hk⟩ : (∃ k : Nat, n = k) ∨ (∃ k : Nat, n = -((k : Int) + 1)) := by
    rcases Int.lt_or_le n 0 with h0 | h0
    · exact .inr ⟨(-n - 1).toNat, by omega⟩
    · exact .inl ⟨n.toNat, by omega⟩
  · subst hk
    rw [num_S, S_len]
    have := TL.numL_len (k := 60) (n := k) (by decide) (by omega)
    omega
  · subst hk
    have e : (toString (-((k : Int) + 1)) : String) = "-" ++ toString ((k + 1 : Nat) : Int) := by
      have : -((k : Int) + 1) = Int.negSucc k := by omega
      rw [this]; rfl
    rw [e]
    have e2 : Str.ofString ("-" ++ toString ((k + 1 : Nat) : Int)) = S ([45] ++ TL.numL (k + 1)) := by
      rw [← S_cat, ← num_S]
      exact TL.ext_tl (by rw [TL.tl_append]; first | rfl | simp [TL.tl, Str.ofString])
    rw [e2, S_len]
    have := TL.numL_len (k := 60) (n := k + 1) (by decide) (by omega)
    rw [List.length_append]
    show 1 + _ ≤ 70
    omega
theorem ok_BadText_init (T : Txt K mg a) : FnOk P w K mg base CX0 1 a.f_BadText_init a.d_BadText_init ["self", "line", "word"] (sp_BadText_init K) := by
  refine T.F_BadText_init.ok sc_BadText_init (fun vs H Q E h => ?_) (fun cdv A outer s H vs Q E hr h => ?_)
  · obtain ⟨x, C, l, w, rfl, _⟩ := h
    rfl
  · obtain ⟨x, C, l, v, rfl, hl, hw, hC, n1, n2, hx, q⟩ := h
    refine ⟨_, (pss_cons (ps_expr (pe_deinit (by rfl) T.g_DaysError T.B_DaysError (pa_cons (pv 0) (pa_cons (pe_joined (PJ.cons pe_str (PJ.cons (pe_fmt (pv 1)) (PJ.cons pe_str (PJ.cons (pe_fmt (pv 2)) PJ.nil))))) pa_nil))))
       (pss_cons (ps_ost (pv 0) (pv 1))
       (pss_one (ps_ost (pv 0) (pv 2))))), ?_⟩
    refine red (σ' := [some (.ref x), some (.int l), some (.int v)]) rfl ?_
    try dsimp only [cxOf]
    have t1 := int_text_len hl
    have t2 := int_text_len hw
    have e2 : sizeLine = 16777216 := sizeLine_eq
    have c1 : (Str.ofString "line ").length = 5 := by decide +kernel
    have c2 : (Str.ofString ", word ").length = 7 := by decide +kernel
    have c0 : (Str.empty).length = 0 := by decide +kernel
    walk_at "go"
    refine ⟨_, rfl, by rw [strLen_append]; omega, ?_⟩
    walk_at "go"
    refine .inr ⟨l, rfl, log_ok hl, ?_⟩
    refine ⟨_, rfl, by rw [strLen_append, strLen_append]; omega, ?_⟩
    walk_at "go"
    refine ⟨_, rfl, by rw [strLen_append, strLen_append, strLen_append]; omega, ?_⟩
    walk_at "go"
    refine .inr ⟨v, rfl, log_ok hw, ?_⟩
    refine ⟨_, rfl, by rw [strLen_append, strLen_append, strLen_append, strLen_append]; omega, ?_⟩
    walk_at "go"
    refine ⟨x, C, _, rfl, by show 1 ≤ 1000; decide, hC, hx, ?_⟩
    walk_at "go"
    refine ⟨x, C, rfl, hC, n1, .inl ⟨hx, fun d hd hne => ?_⟩⟩
    walk_at "go"
    refine ⟨x, C, rfl, hC, n2, .inr ⟨d, [("line", .int l)], upd_same, (upd_ne hne).trans upd_same, by show 1 ≤ 900; decide, ?_⟩⟩
    exact q d hd hne
/-- an error BadText(l, w) -/
def BadAt (C : Addr) (E : XK) (H : Hp) (l w : Int) : Prop := ∀ d, H d = none → E (.ref C) (some d) (upd H d (.xd (bx l w)))
theorem mk_bad (T : Txt K mg a) {H : Hp} {l v : Int} {R : XK} (hl : l.natAbs < 10 ^ 60) (hv : v.natAbs < 10 ^ 60) (q : BadAt a.C_BadText R H l v) :
    [V.int l, V.int v].length ≤ 1000 ∧ ∀ x, H x = none → sp_BadText_init K (.ref x :: ([V.int l, V.int v] ++ [])) (upd H x (exo x a.C_BadText none))
      (fun v H2 => v = .non ∧ ∃ (d : Addr) (fs : List (Str × V)), H2 x = some (exo x a.C_BadText (some d)) ∧ H2 d = some (exd d fs) ∧ H d = none ∧ R (.ref a.C_BadText) (some d) (upd (del H2 x) d (.xd fs))) (fun _ _ _ => False) := by
  refine ⟨by show 2 ≤ 1000; decide, fun x hx => ⟨x, a.C_BadText, l, v, rfl, hl, hv, T.x_BadText, T.n_BadText_line, T.n_BadText_word, upd_same, fun d hd hne => ⟨rfl, d, bx l v, (upd_ne hne.symm).trans upd_same, upd_same, ?_, ?_⟩⟩⟩
  · rw [upd_ne hne] at hd; exact hd
  · have hd' : H d = none := by rw [upd_ne hne] at hd; exact hd
    have e : upd (del (upd (upd (upd (upd H x (exo x a.C_BadText none)) d (exd d [("line", V.int l)])) x (exo x a.C_BadText (some d))) d (exd d (bx l v))) x) d (.xd (bx l v)) = upd H d (.xd (bx l v)) := by
      funext b
      by_cases h1 : b = d
      · rw [h1, upd_same, upd_same]
      · rw [upd_ne h1, upd_ne h1]
        by_cases h2 : b = x
        · rw [h2, del_same, hx]
        · rw [del_ne h2, upd_ne h1, upd_ne h2, upd_ne h1, upd_ne h2]
    rw [e]
    exact q d hd'
end
section
variable {P : Program} {w : World} {K : PySem.W.Frag} {mg : Str → Option Value} {base : Heap} {a : Adr}
def sp_day_text (a : Adr) : Sp := fun vs H Q E => ∃ d : Int, vs = [.int d] ∧ ∀ m H', Same H H' → Civ.IsM d m → (¬ (1 ≤ m / 12 + 1 ∧ m / 12 + 1 ≤ 9999) → E (.ref a.C_BadDate) none H') ∧ (1 ≤ m / 12 + 1 → m / 12 + 1 ≤ 9999 → Q (.str (S (Dg.dw d m))) H')
theorem ok_day_text (T : Txt K mg a) : FnOk P w K mg base (L2.CX P w) 5 a.f_day_text a.d_day_text ["day"] (sp_day_text a) := by
  refine T.F_day_text.okX sc_day_text (fun vs H Q E h => ?_) (fun cdv A outer s H vs Q E hr h => ?_)
  · obtain ⟨d, rfl, _⟩ := h
    rfl
  · obtain ⟨d, rfl, q⟩ := h
    refine ⟨_, (pss_cons (ps_asg (pe_call (ok_date_of T) (hr.mono (by decide)) (by rfl) T.g_date_of T.F_date_of.kp T.b_date_of .nil pass0 (pa_cons (pv 0) pa_nil)) (pg_tup (by rfl) (pgs_cons (pg_name (i := 1) sc_day_text.nd rfl (.inl rfl)) (pgs_cons (pg_name (i := 2) sc_day_text.nd rfl (.inl rfl)) (pgs_cons (pg_name (i := 3) sc_day_text.nd rfl (.inl rfl)) pgs_nil)))))
       (pss_cons (ps_if (pt_not (pt_chain op_le op_le pe_int (pv 1) (C8.pe_gc (v := .int 9999) (by rfl) T.g_YEAR_MOST)))
       (pss_one (ps_raise rfl (takes_of rfl rfl rfl rfl) (pmk_own0 PySem.F.excBase_ValueError T.x_BadDate T.g_BadDate T.k_BadDate (raises_own T.r_BadDate T.t_BadDate) rfl)))
       pss_nil)
       (pss_one (ps_ret (pe_op op_add_str (pe_op op_add_str (pe_op op_add_str (pe_op op_add_str (pe_call (ok_padded T) (hr.mono (by decide)) (by rfl) T.g_padded T.F_padded.kp T.b_padded .nil pass0 (pa_cons (pv 1) (pa_cons pe_int pa_nil))) pe_str) (pe_call (ok_padded T) (hr.mono (by decide)) (by rfl) T.g_padded T.F_padded.kp T.b_padded .nil pass0 (pa_cons (pv 2) (pa_cons pe_int pa_nil)))) pe_str) (pe_call (ok_padded T) (hr.mono (by decide)) (by rfl) T.g_padded T.F_padded.kp T.b_padded .nil pass0 (pa_cons (pv 3) (pa_cons pe_int pa_nil)))))))), ?_⟩
    refine red (σ' := [some (.int d), none, none, none]) rfl ?_
    try dsimp only [cxOf]
    walk_at "go"
    refine ⟨d, rfl, fun m r H1 sm hm hr => ?_⟩
    refine g_gtup ⟨r, _, rfl, SqT.of hr, rfl, ?_⟩
    obtain ⟨q1, q2⟩ := q m H1 sm hm
    have dd := Dg.day_date hm
    have pp : ∀ {n : Int} {k : Nat}, 0 ≤ n → n < 10 ^ k → 0 < k → pd n.toNat k = Dg.dg n.toNat k := fun {n k} h0 h1 hk => by
      refine Dg.pad hk ?_
      have : ((n.toNat : Nat) : Int) < ((10 ^ k : Nat) : Int) := by
        rw [Int.toNat_of_nonneg h0]
        exact_mod_cast h1
      exact_mod_cast this
    walk_at "go"
    refine iteK (fun h1 => ?_) (fun h1 => ?_)
    · walk_at "go"
      refine iteNK (fun h2 => ?_) (fun h2 => ?_)
      · walk_at "go"
        exact q1 fun z => h2 z.2
      · walk_at "go"
        refine ⟨m / 12 + 1, 4, rfl, by omega, by omega, by decide, by decide, ?_⟩
        rw [show ((4 : Int)).toNat = 4 from rfl, pp (by omega) (by omega) (by decide)]
        walk_at "go"
        refine g_catS (b := [45]) (by rw [Dg.dg_len]; decide) ?_
        rw [S_cat]
        walk_at "go"
        refine ⟨m % 12 + 1, 2, rfl, by omega, by omega, by decide, by decide, ?_⟩
        rw [show ((2 : Int)).toNat = 2 from rfl, pp (by omega) (by omega) (by decide)]
        refine g_catS (by rw [List.length_append, Dg.dg_len, Dg.dg_len]; decide) ?_
        rw [S_cat]
        walk_at "go"
        refine g_catS (b := [45]) (by rw [List.length_append, List.length_append, Dg.dg_len, Dg.dg_len]; decide) ?_
        rw [S_cat]
        walk_at "go"
        refine ⟨d - Civ.fd m + 1, 2, rfl, by omega, by omega, by decide, by decide, ?_⟩
        rw [show ((2 : Int)).toNat = 2 from rfl, pp (by omega) (by omega) (by decide)]
        refine g_catS (by rw [List.length_append, List.length_append, List.length_append, Dg.dg_len, Dg.dg_len, Dg.dg_len]; decide) ?_
        rw [S_cat]
        have e : ((Dg.dg (m / 12 + 1).toNat 4 ++ [45] ++ Dg.dg (m % 12 + 1).toNat 2) ++ [45]) ++ Dg.dg (d - Civ.fd m + 1).toNat 2 = Dg.dw d m := by
          unfold Dg.dw
          simp [List.append_assoc]
        rw [e]
        exact q2 h1 h2
    · walk_at "go"
      refine ite_y rfl ?_
      walk_at "go"
      exact q1 fun z => h1 z.1
def sp_minute_text : Sp := fun vs H Q _ => ∃ k : Int, vs = [.int k] ∧ 0 ≤ k ∧ k < 6000 ∧ Q (.str (S (Dg.mw k))) H
theorem ok_minute_text (T : Txt K mg a) : FnOk P w K mg base CX0 2 a.f_minute_text a.d_minute_text ["minute"] sp_minute_text := by
  refine T.F_minute_text.ok sc_minute_text (fun vs H Q E h => ?_) (fun cdv A outer s H vs Q E hr h => ?_)
  · obtain ⟨d, rfl, _⟩ := h
    rfl
  · obtain ⟨k, rfl, k0, k1, q⟩ := h
    refine ⟨_, (pss_one (ps_ret (pe_op op_add_str (pe_op op_add_str (pe_call (ok_padded T) (hr.mono (by decide)) (by rfl) T.g_padded T.F_padded.kp T.b_padded .nil pass0 (pa_cons (pe_op op_fdivE (pv 0) pe_int) (pa_cons pe_int pa_nil))) pe_str) (pe_call (ok_padded T) (hr.mono (by decide)) (by rfl) T.g_padded T.F_padded.kp T.b_padded .nil pass0 (pa_cons (pe_op op_modE (pv 0) pe_int) (pa_cons pe_int pa_nil)))))), ?_⟩
    refine red (σ' := [some (.int k)]) rfl ?_
    try dsimp only [cxOf]
    walk_at "go"
    refine ⟨k / 60, 2, rfl, by omega, by omega, by decide, by decide, ?_⟩
    rw [show ((2 : Int)).toNat = 2 from rfl, show pd (k / 60).toNat 2 = _ from Dg.pad (by decide) (by omega)]
    walk_at "go"
    refine g_catS (b := [46]) (by rw [Dg.dg_len]; decide) ?_
    rw [S_cat]
    walk_at "go"
    refine ⟨k % 60, 2, rfl, by omega, by omega, by decide, by decide, ?_⟩
    rw [show ((2 : Int)).toNat = 2 from rfl, show pd (k % 60).toNat 2 = _ from Dg.pad (by decide) (by omega)]
    refine g_catS (by rw [List.length_append, Dg.dg_len, Dg.dg_len]; decide) ?_
    rw [S_cat]
    have e : (Dg.dg (k / 60).toNat 2 ++ [46]) ++ Dg.dg (k % 60).toNat 2 = Dg.mw k := by
      unfold Dg.mw
      simp [List.append_assoc]
    rw [e]
    exact q
theorem getD_at {l : List Nat} {n : Nat} (h : n < l.length) : atI l ((n : Nat) : Int) = some (l.getD n 0) := by
  refine atI_nat ?_
  rw [List.getD_eq_getElem?_getD, List.getElem?_eq_getElem h]; rfl
def sp_read_minute_word : Sp := fun vs H Q _ => ∃ l : List Nat, vs = [.str (S l)] ∧ l.length ≤ 1000 ∧ ∀ H', Same H H' → Q (((Dg.rmw l).map V.int).getD .non) H'
theorem ok_read_minute_word (T : Txt K mg a) : FnOk P w K mg base CX0 2 a.f_read_minute_word a.d_read_minute_word ["word"] sp_read_minute_word := by
  refine T.F_read_minute_word.ok sc_read_minute_word (fun vs H Q E h => ?_) (fun cdv A outer s H vs Q E hr h => ?_)
  · obtain ⟨l, rfl, _⟩ := h
    rfl
  · obtain ⟨l, rfl, hl, q⟩ := h
    refine ⟨_, (pss_cons (ps_if (PW.pt (pw_or (pt_cmpR op_ne (pe_callB call_len_str (by rfl) T.z_len (by decide +kernel) (pa_cons (pv 0) pa_nil)) pe_int (nomark _)) (pw_or (pt_cmpR op_ne (pe_ix ix_str (pv 0) pe_int (fun _ _ => rfl)) pe_str (nomark _)) (pw_or (pt_not (pt_val (pe_call (ok_all_digits T) (hr.mono (by decide)) (by rfl) T.g_all_digits T.F_all_digits.kp T.b_all_digits .nil pass0 (pa_cons (pe_slice sl_str (pv 0) po_none (po_some pe_int)) pa_nil)))) (pw_or1 (pt_not (pt_val (pe_call (ok_all_digits T) (hr.mono (by decide)) (by rfl) T.g_all_digits T.F_all_digits.kp T.b_all_digits .nil pass0 (pa_cons (pe_slice sl_str (pv 0) (po_some pe_int) po_none) pa_nil)))))))))
       (pss_one (ps_ret pe_non))
       pss_nil)
       (pss_cons (ps_set (i := 1) sc_read_minute_word.nd rfl (.inl rfl) (pe_callTy call_int_str (by rfl) T.z_int (by decide +kernel) (pa_cons (pe_slice sl_str (pv 0) po_none (po_some pe_int)) pa_nil)))
       (pss_cons (ps_set (i := 2) sc_read_minute_word.nd rfl (.inl rfl) (pe_callTy call_int_str (by rfl) T.z_int (by decide +kernel) (pa_cons (pe_slice sl_str (pv 0) (po_some pe_int) po_none) pa_nil)))
       (pss_cons (ps_if (PW.pt (pw_or (pt_cmpR op_gt (pv 1) pe_int (nomark _)) (pw_or (pt_cmpR op_gt (pv 2) pe_int (nomark _)) (pw_or1 (PW.pt (pw_and (pt_cmpR op_eq (pv 1) pe_int (nomark _)) (pw_and1 (pt_cmpR op_gt (pv 2) pe_int (nomark _)))))))))
       (pss_one (ps_ret pe_non))
       pss_nil)
       (pss_one (ps_ret (pe_op op_add (pe_op op_mul pe_int (pv 1)) (pv 2)))))))), ?_⟩
    refine red (σ' := [some (.str (S l)), none, none]) rfl ?_
    try dsimp only [cxOf]
    have no : ∀ {H'}, Same H H' → Dg.mform l = false → Q .non H' := fun {H'} sm h => by
      have := q H' sm
      unfold Dg.rmw at this
      rw [h] at this
      exact this
    walk_at "go"
    refine g_lenS (by omega) ?_
    rw [S_len]
    walk_at "go"
    rw [dec_int]
    refine iteNK (fun h1 => ?_) (fun h1 => ?_)
    · refine iteT ?_
      walk_at "go"
      refine no (Same.refl H) ?_
      have : ¬ l.length = 5 := fun z => h1 (by omega)
      unfold Dg.mform
      rw [decide_eq_false this]; rfl
    have l5 : l.length = 5 := by omega
    walk_at "go"
    refine g_ixS (n := ((2 : Nat) : Int)) (by omega) (getD_at (by omega)) ?_
    walk_at "go"
    have e0 : decide (V.str (S [l.getD 2 0]) = V.str ".") = decide (l.getD 2 0 = 46) := by
      refine (dec_str [l.getD 2 0] [46]).trans ?_
      simp
    rw [e0]
    refine iteNK (fun h2 => ?_) (fun h2 => ?_)
    · refine iteT ?_
      walk_at "go"
      refine no (Same.refl H) ?_
      unfold Dg.mform
      rw [decide_eq_false h2, Bool.and_false]; rfl
    walk_at "go"
    refine g_slS (by omega) ?_
    rw [show cutL l none (some (2 : Int)) = l.take 2 from cutL_to (n := 2) (by omega)]
    walk_at "go"
    refine ⟨l.take 2, rfl, by rw [List.length_take]; omega, fun H1 sm1 => ?_⟩
    walk_at "go"
    cases h3 : Dg.isDig (l.take 2) with
    | false =>
      refine ite_y rfl ?_
      refine iteT ?_
      walk_at "go"
      refine no sm1 ?_
      unfold Dg.mform
      rw [h3, Bool.false_and, Bool.and_false]
    | true =>
    refine ite_n rfl ?_
    walk_at "go"
    refine g_slS (by omega) ?_
    rw [show cutL l (some (3 : Int)) none = l.drop 3 from cutL_from (n := 3) (by omega)]
    walk_at "go"
    refine ⟨l.drop 3, rfl, by rw [List.length_drop]; omega, fun H2 sm2 => ?_⟩
    walk_at "go"
    cases h4 : Dg.isDig (l.drop 3) with
    | false =>
      refine ite_y rfl ?_
      walk_at "go"
      refine no (sm1.trans sm2) ?_
      unfold Dg.mform
      rw [h4, Bool.and_false, Bool.and_false]
    | true =>
    refine ite_n rfl ?_
    have hf : Dg.mform l = true := by
      unfold Dg.mform
      rw [h3, h4, decide_eq_true l5, decide_eq_true h2]; rfl
    have q' := q H2 (sm1.trans sm2)
    unfold Dg.rmw at q'
    rw [hf, if_pos rfl] at q'
    have i2 : PySem.intText? (S (l.take 2)) = some ((PySem.NumText.digitsVal (l.take 2) : Nat) : Int) := int_S (by unfold Dg.isDig at h3; rw [Bool.and_eq_true] at h3; exact h3.2) (Dg.isDig_iff.mp h3).1 (by rw [List.length_take]; omega)
    have i3 : PySem.intText? (S (l.drop 3)) = some ((PySem.NumText.digitsVal (l.drop 3) : Nat) : Int) := int_S (by unfold Dg.isDig at h4; rw [Bool.and_eq_true] at h4; exact h4.2) (Dg.isDig_iff.mp h4).1 (by rw [List.length_drop]; omega)
    generalize PySem.NumText.digitsVal (l.take 2) = y at q' i2
    generalize PySem.NumText.digitsVal (l.drop 3) = z at q' i3
    walk_at "go"
    refine g_slS (by omega) ?_
    rw [show cutL l none (some (2 : Int)) = l.take 2 from cutL_to (n := 2) (by omega)]
    walk_at "go"
    refine ⟨_, _, rfl, i2, by rw [S_len, List.length_take]; omega, ?_⟩
    walk_at "go"
    refine g_slS (by omega) ?_
    rw [show cutL l (some (3 : Int)) none = l.drop 3 from cutL_from (n := 3) (by omega)]
    walk_at "go"
    refine ⟨_, _, rfl, i3, by rw [S_len, List.length_drop]; omega, ?_⟩
    walk_at "go"
    refine iteK (fun g1 => ?_) (fun g1 => ?_)
    · refine iteT ?_
      walk_at "go"
      rw [if_pos (.inl (.inl (by omega)))] at q'
      exact q'
    walk_at "go"
    refine iteK (fun g2 => ?_) (fun g2 => ?_)
    · refine iteT ?_
      walk_at "go"
      rw [if_pos (.inl (.inr (by omega)))] at q'
      exact q'
    walk_at "go"
    rw [dec_int]
    refine iteK (fun g3 => ?_) (fun g3 => ?_)
    · walk_at "go"
      refine iteK (fun g4 => ?_) (fun g4 => ?_)
      · walk_at "go"
        rw [if_pos (.inr ⟨by omega, by omega⟩)] at q'
        exact q'
      · walk_at "go"
        rw [if_neg (by omega)] at q'
        exact q'
    · refine iteF ?_
      walk_at "go"
      rw [if_neg (by omega)] at q'
      exact q'
end
section
variable {P : Program} {w : World} {K : PySem.W.Frag} {mg : Str → Option Value} {base : Heap} {a : Adr}
def sp_read_day_word : Sp := fun vs H Q _ => ∃ l : List Nat, vs = [.str (S l)] ∧ l.length ≤ 1000 ∧ ∀ H', Same H H' → Q (((Dg.rdw l).map V.int).getD .non) H'
theorem ok_read_day_word (T : Txt K mg a) : FnOk P w K mg base CX0 4 a.f_read_day_word a.d_read_day_word ["word"] sp_read_day_word := by
  refine T.F_read_day_word.ok sc_read_day_word (fun vs H Q E h => ?_) (fun cdv A outer s H vs Q E hr h => ?_)
  · obtain ⟨l, rfl, _⟩ := h
    rfl
  · obtain ⟨l, rfl, hl, q⟩ := h
    refine ⟨_, (pss_cons (ps_if (PW.pt (pw_or (pt_cmpR op_ne (pe_callB call_len_str (by rfl) T.z_len (by decide +kernel) (pa_cons (pv 0) pa_nil)) pe_int (nomark _)) (pw_or (pt_cmpR op_ne (pe_ix ix_str (pv 0) pe_int (fun _ _ => rfl)) pe_str (nomark _)) (pw_or1 (pt_cmpR op_ne (pe_ix ix_str (pv 0) pe_int (fun _ _ => rfl)) pe_str (nomark _))))))
       (pss_one (ps_ret pe_non))
       pss_nil)
       (pss_cons (ps_set (i := 1) sc_read_day_word.nd rfl (.inl rfl) (pe_lst (pa_cons (pe_slice sl_str (pv 0) po_none (po_some pe_int)) (pa_cons (pe_slice sl_str (pv 0) (po_some pe_int) (po_some pe_int)) (pa_cons (pe_slice sl_str (pv 0) (po_some pe_int) po_none) pa_nil)))))
       (pss_cons (ps_if (pt_not (pt_val (pe_callB (cr_all rfl) (by rfl) T.z_all (by decide +kernel) (pa_cons (pe_lc (own := [("part", 3)]) (g := (gName 3)) rfl sc_read_day_word.nd (pi_list (pv 1)) (blkOk_by (own := [("part", 3)]) (N := ["word", "parts", "day", "part"]) (sc := defScope s_read_day_word) (by decide +kernel)) (fun _ _ _ _ _ => (pg_name (i := 3) sc_read_day_word.nd rfl (.inl rfl))) (fun _ _ _ _ _ => pts_nil) (fun _ _ _ _ _ => (pe_call (ok_all_digits T) (hr.mono (by decide)) (by rfl) T.g_all_digits T.F_all_digits.kp T.b_all_digits .nil pass0 (pa_cons (pv 3) pa_nil)))) pa_nil))))
       (pss_one (ps_ret pe_non))
       pss_nil)
       (pss_cons (ps_try_cl rfl rfl sc_read_day_word.nd takes0 (fun W pn xe tk _ => (pss_one (ps_set (i := 2) sc_read_day_word.nd rfl (.inl rfl) (by exact (pe_callS (ok_day_of T) (hr.mono (by decide)) rfl T.g_day_of T.F_day_of.kp T.b_day_of (fun σ => passAt tk σ) (by exact (pa_cons (pe_callTy call_int_str (by rfl) T.z_int (by decide +kernel) (pa_cons (pe_ix (r := rIxL K) ix_list (pv 1) pe_int (fun _ _ => rfl)) pa_nil)) (pa_cons (pe_callTy call_int_str (by rfl) T.z_int (by decide +kernel) (pa_cons (pe_ix (r := rIxL K) ix_list (pv 1) pe_int (fun _ _ => rfl)) pa_nil)) (pa_cons (pe_callTy call_int_str (by rfl) T.z_int (by decide +kernel) (pa_cons (pe_ix (r := rIxL K) ix_list (pv 1) pe_int (fun _ _ => rfl)) pa_nil)) pa_nil))))))))) (ClOk.bare ⟨rfl, by decide, .inl T.g_BadDate⟩ (fun x oe cls d pn hz hf => (pss_one (ps_ret pe_non))) ClOk.nil))
       (pss_one (ps_ret (pe_ifExp (pt_cmpR op_ge (pv 2) pe_int (nomark _)) (pv 2) pe_non))))))), ?_⟩
    refine red (σ' := [some (.str (S l)), none, none, none]) rfl ?_
    try dsimp only [cxOf]
    have no : ∀ {H'}, Same H H' → Dg.form l = false → Q .non H' := fun {H'} sm h => by
      have := q H' sm
      unfold Dg.rdw at this
      rw [h] at this
      exact this
    walk_at "go"
    refine g_lenS (by omega) ?_
    rw [S_len]
    walk_at "go"
    rw [dec_int]
    refine iteNK (fun h1 => ?_) (fun h1 => ?_)
    · refine iteT ?_
      walk_at "go"
      refine no (Same.refl H) ?_
      have : ¬ l.length = 10 := fun z => h1 (by omega)
      unfold Dg.form
      rw [decide_eq_false this]; rfl
    have l10 : l.length = 10 := by omega
    walk_at "go"
    refine g_ixS (n := ((4 : Nat) : Int)) (by omega) (getD_at (by omega)) ?_
    walk_at "go"
    have e0 : decide (V.str (S [l.getD 4 0]) = V.str "-") = decide (l.getD 4 0 = 45) := by
      refine (dec_str [l.getD 4 0] [45]).trans ?_
      simp
    rw [e0]
    refine iteNK (fun h2 => ?_) (fun h2 => ?_)
    · refine iteT ?_
      walk_at "go"
      refine no (Same.refl H) ?_
      unfold Dg.form
      rw [decide_eq_false h2, Bool.false_and, Bool.and_false]; rfl
    walk_at "go"
    refine g_ixS (n := ((7 : Nat) : Int)) (by omega) (getD_at (by omega)) ?_
    walk_at "go"
    have e0 : decide (V.str (S [l.getD 7 0]) = V.str "-") = decide (l.getD 7 0 = 45) := by
      refine (dec_str [l.getD 7 0] [45]).trans ?_
      simp
    rw [e0]
    refine iteNK (fun h3 => ?_) (fun h3 => ?_)
    · walk_at "go"
      refine no (Same.refl H) ?_
      unfold Dg.form
      rw [decide_eq_false h3, Bool.and_false, Bool.and_false]; rfl
    walk_at "go"
    refine g_slS (by omega) ?_
    rw [show cutL l none (some (4 : Int)) = l.take 4 from cutL_to (n := 4) (by omega)]
    walk_at "go"
    refine g_slS (by omega) ?_
    rw [show cutL l (some (5 : Int)) (some (7 : Int)) = (l.drop 5).take 2 from cutL_mid (i := 5) (j := 7) (by omega) (by omega)]
    walk_at "go"
    refine g_slS (by omega) ?_
    rw [show cutL l (some (8 : Int)) none = l.drop 8 from cutL_from (n := 8) (by omega)]
    walk_at "go"
    refine ⟨by show 3 ≤ sizeLine; decide, fun L hL => ?_⟩
    have smL : Same H (upd H L (.lst [.str (S (l.take 4)), .str (S ((l.drop 5).take 2)), .str (S (l.drop 8))])) := same_new hL
    have hLL : upd H L (.lst [.str (S (l.take 4)), .str (S ((l.drop 5).take 2)), .str (S (l.drop 8))]) L = some (.lst ([l.take 4, (l.drop 5).take 2, l.drop 8].map fun x => V.str (S x))) := upd_same
    generalize upd H L (.lst [.str (S (l.take 4)), .str (S ((l.drop 5).take 2)), .str (S (l.drop 8))]) = H1 at smL hLL
    walk_at "go"
    refine ⟨L, rfl, ⟨_, SqL.of hLL⟩, fun D hD => ?_⟩
    refine lc_list (K := K) (a := L) (xs := [l.take 4, (l.drop 5).take 2, l.drop 8].map fun x => V.str (S x)) (fun i H' => Same H1 H' ∧ H' D = some (.lst ((([l.take 4, (l.drop 5).take 2, l.drop 8].take i).map Dg.isDig).map V.bl))) ⟨same_new hD, upd_same⟩ (fun i H' _ h => SqL.of (h.1 _ _ hLL)) ?_ ?_
    · rintro i x H2 hi ⟨sm, hLi⟩
      have hx : ∃ z, [l.take 4, (l.drop 5).take 2, l.drop 8][i]? = some z ∧ x = .str (S z) := by
        rw [List.getElem?_map] at hi
        cases e : [l.take 4, (l.drop 5).take 2, l.drop 8][i]? with
        | none => rw [e] at hi; cases hi
        | some z => rw [e] at hi; exact ⟨z, rfl, (Option.some.inj hi).symm⟩
      obtain ⟨z, hz, rfl⟩ := hx
      have zl : z.length ≤ 1000 := by
        have := List.mem_of_getElem? hz
        simp only [List.mem_cons, List.not_mem_nil, or_false] at this
        rcases this with r | r | r <;> rw [r] <;> simp only [List.length_take, List.length_drop] <;> omega
      walk_at "go"
      refine ⟨rfl, ?_⟩
      refine g_yes ?_
      refine iteT ?_
      walk_at "go"
      refine ⟨z, rfl, by omega, fun H3 sm3 => ?_⟩
      refine ⟨_, sm3 _ _ hLi, ?_, fun b o hb => ?_, ?_⟩
      · have := sizeBig
        rw [List.length_map, List.length_map, List.length_take]
        show min i 3 < sizeLine
        omega
      · rw [upd_ne (ne_of_none hb hD)]; exact sm3 _ _ (sm b o hb)
      · rw [upd_same, take_more hz, List.map_append, List.map_append]; rfl
    rintro H2 ⟨sm2, hD2⟩
    have hD2 : H2 D = some (.lst ([Dg.isDig (l.take 4), Dg.isDig ((l.drop 5).take 2), Dg.isDig (l.drop 8)].map V.bl)) := hD2
    have smA := smL.trans sm2
    have hLL := sm2 _ _ hLL
    walk_at "go"
    refine ⟨D, _, rfl, SqL.of hD2, ?_⟩
    walk_at "go"
    have eA : [Dg.isDig (l.take 4), Dg.isDig ((l.drop 5).take 2), Dg.isDig (l.drop 8)].all id = (Dg.isDig (l.take 4) && (Dg.isDig ((l.drop 5).take 2) && Dg.isDig (l.drop 8))) := by
      simp [List.all_cons]
    rw [eA]
    cases hf : (Dg.isDig (l.take 4) && (Dg.isDig ((l.drop 5).take 2) && Dg.isDig (l.drop 8))) with
    | false =>
      refine ite_y rfl ?_
      walk_at "go"
      refine no smA ?_
      unfold Dg.form
      rw [hf, Bool.and_false]
    | true =>
    refine ite_n rfl ?_
    have hform : Dg.form l = true := by
      unfold Dg.form
      rw [hf, decide_eq_true l10, decide_eq_true h2, decide_eq_true h3]; rfl
    rw [Bool.and_eq_true, Bool.and_eq_true] at hf
    obtain ⟨f1, f2, f3⟩ := hf
    have q' := q H2 smA
    unfold Dg.rdw at q'
    rw [hform, if_pos rfl] at q'
    have iS : ∀ {z : List Nat}, Dg.isDig z = true → z.length ≤ 600 → PySem.intText? (S z) = some ((PySem.NumText.digitsVal z : Nat) : Int) := fun {z} h hz => int_S (by unfold Dg.isDig at h; rw [Bool.and_eq_true] at h; exact h.2) (Dg.isDig_iff.mp h).1 (by omega)
    walk_at "go"
    refine ⟨S (l.take 4), _, rfl, iS f1 (by rw [List.length_take]; omega), by rw [S_len, List.length_take]; omega, ?_⟩
    walk_at "go"
    refine ⟨S ((l.drop 5).take 2), _, rfl, iS f2 (by rw [List.length_take]; omega), by rw [S_len, List.length_take]; omega, ?_⟩
    walk_at "go"
    refine ⟨S (l.drop 8), _, rfl, iS f3 (by rw [List.length_drop]; omega), by rw [S_len, List.length_drop]; omega, ?_⟩
    walk_at "go"
    have er : Dg.rday l = Civ.dayOf (PySem.NumText.digitsVal (l.take 4) : Nat) (PySem.NumText.digitsVal ((l.drop 5).take 2) : Nat) (PySem.NumText.digitsVal (l.drop 8) : Nat) := rfl
    refine ⟨_, _, _, rfl, fun hno => ?_, fun k hk => ?_⟩
    · rw [er, hno] at q'
      refine ⟨true, T.e_BadDate_BadDate, fun _ b hb => ?_, (fun z => nomatch z)⟩
      exact q'
    · rw [er, hk] at q'
      walk_at "go"
      refine iteK (fun g => ?_) (fun g => ?_)
      · walk_at "go"
        rw [show (some k).bind (fun d => if 0 ≤ d then some d else none) = some k from if_pos g] at q'
        exact q'
      · walk_at "go"
        rw [show (some k).bind (fun d => if 0 ≤ d then some d else none) = none from if_neg g] at q'
        exact q'
end
section
variable {P : Program} {w : World} {K : PySem.W.Frag} {mg : Str → Option Value} {base : Heap} {a : Adr}
def sp_read_day (a : Adr) : Sp := fun vs H Q E => ∃ l : List Nat, vs = [.str (S l)] ∧ l.length ≤ 1000 ∧ ∀ H', Same H H' → (Dg.rdw l = none → BadAt a.C_BadText E H' 1 0) ∧ ∀ d, Dg.rdw l = some d → Q (.int d) H'
theorem ok_read_day (T : Txt K mg a) : FnOk P w K mg base (L2.CX P w) 5 a.f_read_day a.d_read_day ["text"] (sp_read_day a) := by
  refine T.F_read_day.okX sc_read_day (fun vs H Q E h => ?_) (fun cdv A outer s H vs Q E hr h => ?_)
  · obtain ⟨l, rfl, _⟩ := h
    rfl
  · obtain ⟨l, rfl, hl, q⟩ := h
    refine ⟨_, (pss_cons (ps_set (i := 1) sc_read_day.nd rfl (.inl rfl) (pe_call (ok_read_day_word T) (hr.mono (by decide)) (by rfl) T.g_read_day_word T.F_read_day_word.kp T.b_read_day_word .nil pass0 (pa_cons (pv 0) pa_nil)))
       (pss_cons (ps_if (pt_cmpR op_isN (pv 1) pe_non (nomark _))
       (pss_one (ps_raise rfl (takes_of rfl rfl rfl rfl) (pmk_oex T.x_BadText T.i_BadText T.u_BadText (ok_BadText_init T) (hr.mono (by decide)) T.b_BadText_init .nil pass0 rfl T.g_BadText (pa_cons pe_int (pa_cons pe_int pa_nil)))))
       pss_nil)
       (pss_one (ps_ret (pv 1))))), ?_⟩
    refine red (σ' := [some (.str (S l)), none]) rfl ?_
    try dsimp only [cxOf]
    walk_at "go"
    refine ⟨l, rfl, hl, fun H1 sm => ?_⟩
    obtain ⟨q1, q2⟩ := q H1 sm
    walk_at "go"
    cases e : Dg.rdw l with
    | none =>
      refine ite_y rfl ?_
      walk_at "go"
      exact mk_bad T (by decide) (by decide) (q1 e)
    | some d =>
      refine ite_n rfl ?_
      walk_at "go"
      exact q2 d e
end
/-! ### the tape -/
def RelT (t : Addr) (H H' : Hp) : Prop := ∀ b o, b ≠ t → H b = some o → H' b = some o
theorem RelT.refl (t : Addr) (H : Hp) : RelT t H H := fun _ _ _ h => h
theorem RelT.of {t : Addr} {H H' : Hp} (h : Same H H') : RelT t H H' := fun b o _ e => h b o e
theorem RelT.trans {t : Addr} {H H1 H2 : Hp} (h : RelT t H H1) (g : RelT t H1 H2) : RelT t H H2 := fun b o n e => g b o n (h b o n e)
def Tp (t c : Addr) (ns : List Int) (H : Hp) : Prop := (∃ k r, 0 ≤ k ∧ 0 ≤ r ∧ H t = some (tp c k r)) ∧ H c = some (.lst (ns.map V.int))
theorem Tp.same {t c : Addr} {ns : List Int} {H H' : Hp} (h : Tp t c ns H) (g : Same H H') : Tp t c ns H' := by
  obtain ⟨⟨k, r, k0, r0, ht⟩, hc⟩ := h
  exact ⟨⟨k, r, k0, r0, g _ _ ht⟩, g _ _ hc⟩
theorem Tp.new {t c : Addr} {ns : List Int} {H : Hp} (h : Tp t c ns H) {p : Addr} {o : HO} (hp : H p = none) : Tp t c ns (upd H p o) := h.same (same_new hp)
theorem ne_ints {c k r} {ns : List Int} : HO.lst (ns.map V.int) ≠ tp c k r := by intro z; unfold tp at z; cases ns <;> simp at z
theorem Tp.draw {K : PySem.W.Frag} {t c : Addr} {ns : List Int} {H : Hp} (I : Tp t c ns H) {n : Int} (n0 : 0 < n) (n1 : n < 1073741824) {Q : VK} {X : XK}
    (q : ∀ d H', 0 ≤ d → d < n → Tp t c ns H' → RelT t H H' → Q (.int d) H') : sp_law_draw K [.ref t, .int n] H Q X := by
  obtain ⟨⟨k, r, k0, r0, ht⟩, hc⟩ := I
  exact ⟨t, c, n, k, r, ns, rfl, n0, n1, ht, hc, k0, r0, fun d k' r' d0 d1 k0' r0' => q d _ d0 d1 ⟨⟨k', r', k0', r0', upd_same⟩, (upd_ne (ne_of hc ht ne_ints)).trans hc⟩ fun b o hb h => (upd_ne hb).trans h⟩
theorem Tp.ne {t c : Addr} {ns : List Int} {H : Hp} (I : Tp t c ns H) {b : Addr} {o : HO} (h : H b = some o) (hn : ∀ k r, o ≠ tp c k r) : b ≠ t := by
  obtain ⟨⟨k, r, _, _, ht⟩, _⟩ := I
  exact ne_of h ht (hn k r)
theorem Tp.ne_none {t c : Addr} {ns : List Int} {H : Hp} (I : Tp t c ns H) {b : Addr} (h : H b = none) : b ≠ t := by
  obtain ⟨⟨k, r, _, _, ht⟩, _⟩ := I
  exact (ne_of_none ht h).symm
theorem Tp.made {t c : Addr} {ns : List Int} {H : Hp} (hc : H c = none) (ht : H t = none) (ct : c ≠ t) : Tp t c ns (upd (upd H c (.lst (ns.map V.int))) t (tp c 0 0)) :=
  ⟨⟨0, 0, by decide, by decide, upd_same⟩, (upd_ne ct).trans upd_same⟩
section
variable {P : Program} {w : World} {K : PySem.W.Frag} {mg : Str → Option Value} {base : Heap} {a : Adr}
theorem dig_at (n : Nat) : atI [48, 49, 50, 51, 52, 53, 54, 55, 56, 57] (((n : Nat) : Int) % 10) = some (48 + n % 10) := by
  have e : ((n : Nat) : Int) % 10 = ((n % 10 : Nat) : Int) := by omega
  rw [e]
  refine atI_nat ?_
  have h : n % 10 < 10 := Nat.mod_lt _ (by decide)
  have : ∀ k < 10, [48, 49, 50, 51, 52, 53, 54, 55, 56, 57][k]? = some (48 + k) := by decide
  exact this _ h
def sp_law_digits : Sp := fun vs H Q _ => ∃ n k : Int, vs = [.int n, .int k] ∧ 0 ≤ n ∧ 0 ≤ k ∧ k ≤ 100 ∧ Q (.str (S (Dg.dg n.toNat k.toNat))) H
theorem ok_law_digits (T : Txt K mg a) : FnOk P w K mg base CX0 2 a.f_law_digits a.d_law_digits ["n", "many"] sp_law_digits := by
  refine T.F_law_digits.ok sc_law_digits (fun vs H Q E h => ?_) (fun cdv A outer s H vs Q E hr h => ?_)
  · obtain ⟨l, k, rfl, _⟩ := h
    rfl
  · obtain ⟨n, k, rfl, n0, k0, k1, q⟩ := h
    refine ⟨_, (pss_cons (ps_set (i := 2) sc_law_digits.nd rfl (.inl rfl) pe_str)
       (pss_cons (ps_for PassesOwn.never rfl (pi_range1 (by rfl) T.z_range (pa_cons (pv 1) pa_nil)) (pg_name (i := 3) sc_law_digits.nd rfl (.inl rfl))
       (pss_cons (ps_set (i := 2) sc_law_digits.nd rfl (.inl rfl) (pe_op op_add_str (pe_ix ix_str pe_str (pe_call (ok_law_mod T) (hr.mono (by decide)) (by rfl) T.g_law_mod T.F_law_mod.kp T.b_law_mod .nil pass0 (pa_cons (pv 0) (pa_cons pe_int pa_nil))) (fun _ _ => rfl)) (pv 2)))
       (pss_one (ps_set (i := 0) sc_law_digits.nd rfl (.inl rfl) (pe_op op_fdivE (pv 0) pe_int)))))
       (pss_one (ps_ret (pv 2))))), ?_⟩
    refine red (σ' := [some (.int n), some (.int k), none, none]) rfl ?_
    try dsimp only [cxOf]
    obtain ⟨m, rfl⟩ := Int.eq_ofNat_of_zero_le n0
    obtain ⟨j, rfl⟩ := Int.eq_ofNat_of_zero_le k0
    walk_at "go"
    refine ⟨_, rfl, by omega, by omega, ?_⟩
    rw [Int.toNat_natCast] at q ⊢
    rw [Int.toNat_natCast] at q
    refine for_range (fun i σ' H' => ∃ y3, σ' = [some (.int ((m / 10 ^ i : Nat) : Int)), some (.int (j : Nat)), some (.str (S (Dg.dg m i))), y3] ∧ H' = H) ⟨none, by rw [Nat.pow_zero, Nat.div_one]; rfl, rfl⟩ ?_ ?_
    · rintro i σ' H' hi ⟨y3, rfl, rfl⟩
      walk_at "go"
      refine ⟨_, 10, rfl, by decide, by decide, ?_⟩
      refine g_ixS (l := [48, 49, 50, 51, 52, 53, 54, 55, 56, 57]) (by decide) (dig_at _) ?_
      walk_at "go"
      refine g_catS (by rw [Dg.dg_len]; show 1 + i ≤ _; omega) ?_
      rw [S_cat]
      walk_at "go"
      refine ⟨some (.int (0 + (i : Int))), ?_, rfl⟩
      have e1 : ((m / 10 ^ i : Nat) : Int) / 10 = ((m / 10 ^ (i + 1) : Nat) : Int) := by
        rw [Nat.pow_succ, ← Nat.div_div_eq_div_mul]; omega
      show [some (V.int (((m / 10 ^ i : Nat) : Int) / 10)), some (V.int (j : Nat)), some (V.str (S ([48 + m / 10 ^ i % 10] ++ Dg.dg m i))), some (V.int (0 + (i : Int)))] = _
      rw [e1]
      rfl
    · rintro σ' H' ⟨y3, rfl, rfl⟩
      walk_at "go"
      exact q
end
section
variable {P : Program} {w : World} {K : PySem.W.Frag} {mg : Str → Option Value} {base : Heap} {a : Adr}
def sp_law_day_word : Sp := fun vs H Q _ => ∃ d : Int, vs = [.int d] ∧ 0 ≤ d ∧ ∀ m H', Same H H' → Civ.IsM d m → Q (.str (S (Dg.dw d m))) H'
theorem month_pos {d m : Int} (h : Civ.IsM d m) (h0 : 0 ≤ d) : 0 ≤ m := by
  apply Classical.byContradiction
  intro g
  have := Civ.fd_le (show m + 1 ≤ 0 by omega)
  rw [Dg.fd_zero] at this
  have := h.2
  omega
theorem ok_law_day_word (T : Txt K mg a) : FnOk P w K mg base CX0 5 a.f_law_day_word a.d_law_day_word ["day"] sp_law_day_word := by
  refine T.F_law_day_word.ok sc_law_day_word (fun vs H Q E h => ?_) (fun cdv A outer s H vs Q E hr h => ?_)
  · obtain ⟨l, rfl, _⟩ := h
    rfl
  · obtain ⟨d, rfl, d0, q⟩ := h
    refine ⟨_, (pss_cons (ps_asg (pe_call (ok_law_month_at T) (hr.mono (by decide)) (by rfl) T.g_law_month_at T.F_law_month_at.kp T.b_law_month_at .nil pass0 (pa_cons pe_str (pa_cons (pv 0) pa_nil))) (pg_lst (by rfl) (pgs_cons (pg_name (i := 1) sc_law_day_word.nd rfl (.inl rfl)) (pgs_cons (pg_name (i := 2) sc_law_day_word.nd rfl (.inl rfl)) pgs_nil))))
       (pss_one (ps_ret (pe_op op_add_str (pe_op op_add_str (pe_op op_add_str (pe_op op_add_str (pe_call (ok_law_digits T) (hr.mono (by decide)) (by rfl) T.g_law_digits T.F_law_digits.kp T.b_law_digits .nil pass0 (pa_cons (pe_op op_add (pe_op op_fdivE (pv 1) pe_int) pe_int) (pa_cons pe_int pa_nil))) pe_str) (pe_call (ok_law_digits T) (hr.mono (by decide)) (by rfl) T.g_law_digits T.F_law_digits.kp T.b_law_digits .nil pass0 (pa_cons (pe_op op_add (pe_call (ok_law_mod T) (hr.mono (by decide)) (by rfl) T.g_law_mod T.F_law_mod.kp T.b_law_mod .nil pass0 (pa_cons (pv 1) (pa_cons pe_int pa_nil))) pe_int) (pa_cons pe_int pa_nil)))) pe_str) (pe_call (ok_law_digits T) (hr.mono (by decide)) (by rfl) T.g_law_digits T.F_law_digits.kp T.b_law_digits .nil pass0 (pa_cons (pe_op op_add (pe_op op_sub (pv 0) (pv 2)) pe_int) (pa_cons pe_int pa_nil))))))), ?_⟩
    refine red (σ' := [some (.int d), none, none]) rfl ?_
    try dsimp only [cxOf]
    walk_at "go"
    refine ⟨d, rfl, fun m r H1 sm hm hr => ?_⟩
    refine g_glst ⟨r, _, rfl, SqL.of hr, rfl, ?_⟩
    have m0 := month_pos hm d0
    have dd := Dg.day_date hm
    walk_at "go"
    refine ⟨_, _, rfl, by omega, by decide, by decide, ?_⟩
    walk_at "go"
    refine g_catS (b := [45]) (by rw [Dg.dg_len]; decide) ?_
    rw [S_cat]
    walk_at "go"
    refine ⟨m, 12, rfl, by decide, by decide, ?_⟩
    walk_at "go"
    refine ⟨_, _, rfl, by omega, by decide, by decide, ?_⟩
    refine g_catS (by rw [List.length_append, Dg.dg_len, Dg.dg_len]; decide) ?_
    rw [S_cat]
    walk_at "go"
    refine g_catS (b := [45]) (by rw [List.length_append, List.length_append, Dg.dg_len, Dg.dg_len]; decide) ?_
    rw [S_cat]
    walk_at "go"
    refine ⟨_, _, rfl, by omega, by decide, by decide, ?_⟩
    refine g_catS (by rw [List.length_append, List.length_append, List.length_append, Dg.dg_len, Dg.dg_len, Dg.dg_len]; decide) ?_
    rw [S_cat]
    have e : ((Dg.dg (m / 12 + 1).toNat 4 ++ [45] ++ Dg.dg (m % 12 + 1).toNat 2) ++ [45]) ++ Dg.dg (d - Civ.fd m + 1).toNat 2 = Dg.dw d m := by
      unfold Dg.dw
      simp [List.append_assoc]
    have := q m H1 sm hm
    rw [← e] at this
    exact this
def sp_law_changed : Sp := fun vs H Q _ => ∃ (t c : Addr) (ns : List Int) (l : List Nat), vs = [.ref t, .str (S l)] ∧ Tp t c ns H ∧ 0 < l.length ∧ l.length ≤ 100 ∧ ∀ l' H', Tp t c ns H' → l'.length ≤ 300 → Q (.str (S l')) H'
theorem ok_law_changed (T : Txt K mg a) : FnOk P w K mg base CX0 2 a.f_law_changed a.d_law_changed ["tape", "word"] sp_law_changed := by
  refine T.F_law_changed.ok sc_law_changed (fun vs H Q E h => ?_) (fun cdv A outer s H vs Q E hr h => ?_)
  · obtain ⟨t, c, ns, l, rfl, _⟩ := h
    rfl
  · obtain ⟨t, c, ns, l, rfl, I, l0, l1, q⟩ := h
    refine ⟨_, (pss_cons (ps_set (i := 2) sc_law_changed.nd rfl (.inl rfl) (pe_call (ok_law_draw T) (hr.mono (by decide)) (by rfl) T.g_law_draw T.F_law_draw.kp T.b_law_draw .nil pass0 (pa_cons (pv 0) (pa_cons (pe_callB call_len_str (by rfl) T.z_len (by decide +kernel) (pa_cons (pv 1) pa_nil)) pa_nil))))
       (pss_cons (ps_set (i := 3) sc_law_changed.nd rfl (.inl rfl) (pe_ix ix_list (pe_lst (pa_cons pe_str (pa_cons pe_str (pa_cons pe_str (pa_cons pe_str (pa_cons pe_str (pa_cons pe_str (pa_cons pe_str (pa_cons pe_str (pa_cons pe_str (pa_cons pe_str pa_nil))))))))))) (pe_call (ok_law_draw T) (hr.mono (by decide)) (by rfl) T.g_law_draw T.F_law_draw.kp T.b_law_draw .nil pass0 (pa_cons (pv 0) (pa_cons pe_int pa_nil))) (fun _ _ => rfl)))
       (pss_one (ps_ret (pe_op op_add_str (pe_op op_add_str (pe_slice sl_str (pv 1) po_none (po_some (pv 2))) (pv 3)) (pe_slice sl_str (pv 1) (po_some (pe_op op_add (pv 2) (pe_call (ok_law_draw T) (hr.mono (by decide)) (by rfl) T.g_law_draw T.F_law_draw.kp T.b_law_draw .nil pass0 (pa_cons (pv 0) (pa_cons pe_int pa_nil))))) po_none)))))), ?_⟩
    refine red (σ' := [some (.ref t), some (.str (S l)), none, none]) rfl ?_
    try dsimp only [cxOf]
    walk_at "go"
    refine g_lenS (by omega) ?_
    rw [S_len]
    walk_at "go"
    refine I.draw (by omega) (by omega) fun d H1 d0 d1 I _ => ?_
    obtain ⟨at_, rfl⟩ := Int.eq_ofNat_of_zero_le d0
    walk_at "go"
    refine ⟨by show 10 ≤ sizeLine; decide, fun L hL => ?_⟩
    walk_at "go"
    have hLL : upd H1 L (.lst [.str "", .str "0", .str "1", .str "2", .str "3", .str "9", .str "-", .str ".", .str " ", .str "x"]) L = some (.lst ([[], [48], [49], [50], [51], [57], [45], [46], [32], [120]].map fun x => V.str (S x))) := upd_same
    have I1 := I.new (o := .lst [.str "", .str "0", .str "1", .str "2", .str "3", .str "9", .str "-", .str ".", .str " ", .str "x"]) hL
    generalize upd H1 L (.lst [.str "", .str "0", .str "1", .str "2", .str "3", .str "9", .str "-", .str ".", .str " ", .str "x"]) = H2 at hLL I1
    refine I1.draw (by decide) (by decide) fun d2 H3 d20 d21 I3 rel => ?_
    obtain ⟨j, rfl⟩ := Int.eq_ofNat_of_zero_le d20
    have hj : ∃ x, [[], [48], [49], [50], [51], [57], [45], [46], [32], [120]][j]? = some x ∧ x.length ≤ 1 := by
      have : ∀ j < 10, ∃ x, [[], [48], [49], [50], [51], [57], [45], [46], [32], [120]][j]? = some x ∧ x.length ≤ 1 := by
        intro j hj
        match j, hj with
        | 0, _ => exact ⟨_, rfl, by decide⟩
        | 1, _ => exact ⟨_, rfl, by decide⟩
        | 2, _ => exact ⟨_, rfl, by decide⟩
        | 3, _ => exact ⟨_, rfl, by decide⟩
        | 4, _ => exact ⟨_, rfl, by decide⟩
        | 5, _ => exact ⟨_, rfl, by decide⟩
        | 6, _ => exact ⟨_, rfl, by decide⟩
        | 7, _ => exact ⟨_, rfl, by decide⟩
        | 8, _ => exact ⟨_, rfl, by decide⟩
        | 9, _ => exact ⟨_, rfl, by decide⟩
      exact this j (by omega)
    obtain ⟨x, hx, xl⟩ := hj
    refine g_ixL (n := ((j : Nat) : Int)) (v := .str (S x)) (SqL.of (rel _ _ (I1.ne hLL (fun k r z => by unfold tp at z; cases z)) hLL)) (atI_nat (by rw [List.getElem?_map, hx]; rfl)) ?_
    walk_at "go"
    refine g_slS (by omega) ?_
    walk_at "go"
    have c1 := cutL_len l none (some ((at_ : Nat) : Int))
    refine g_catS (by omega) ?_
    rw [S_cat]
    walk_at "go"
    refine I3.draw (by decide) (by decide) fun d4 H4 d40 d41 I4 _ => ?_
    walk_at "go"
    refine g_slS (by omega) ?_
    have c2 := cutL_len l (some ((at_ : Nat) + d4 : Int)) none
    refine g_catS (by rw [List.length_append]; omega) ?_
    rw [S_cat]
    exact q _ _ I4 (by rw [List.length_append, List.length_append]; omega)
def sp_law_refused : Sp := fun vs H Q _ => ∃ d : Int, vs = [.int d] ∧ ∀ m H', Same H H' → Civ.IsM d m → Q (.bl (!decide (1 ≤ m / 12 + 1 ∧ m / 12 + 1 ≤ 9999))) H'
theorem ok_law_refused (T : Txt K mg a) : FnOk P w K mg base CX0 6 a.f_law_refused a.d_law_refused ["day"] sp_law_refused := by
  refine T.F_law_refused.ok sc_law_refused (fun vs H Q E h => ?_) (fun cdv A outer s H vs Q E hr h => ?_)
  · obtain ⟨l, rfl, _⟩ := h
    rfl
  · obtain ⟨d, rfl, q⟩ := h
    refine ⟨_, (pss_cons (ps_try_cl rfl rfl sc_law_refused.nd takes0 (fun W pn xe tk _ => (pss_one (ps_expr (by exact (pe_callS (ok_day_text T) (hr.mono (by decide)) rfl T.g_day_text T.F_day_text.kp T.b_day_text (fun σ => passAt tk σ) (by exact (pa_cons (pv 0) pa_nil))))))) (ClOk.bare ⟨rfl, by decide, .inl T.g_BadDate⟩ (fun x oe cls d pn hz hf => (pss_one (ps_ret pe_bl))) ClOk.nil))
       (pss_one (ps_ret pe_bl))), ?_⟩
    refine red (σ' := [some (.int d)]) rfl ?_
    try dsimp only [cxOf]
    walk_at "go"
    refine ⟨d, rfl, fun m H1 sm hm => ⟨fun hn => ?_, fun h1 h2 => ?_⟩⟩
    · refine ⟨true, T.e_BadDate_BadDate, fun _ b hb => ?_, (fun z => nomatch z)⟩
      have := q m H1 sm hm
      rw [decide_eq_false hn] at this
      exact this
    · walk_at "go"
      have := q m H1 sm hm
      rw [decide_eq_true ⟨h1, h2⟩] at this
      exact this
def sp_law_place : Sp := fun vs H Q _ => ∃ l : List Nat, vs = [.str (S l)] ∧ l.length ≤ 1000 ∧ Dg.rdw l = none ∧ ∀ H' r, Same H H' → H' r = some (.tup [.int 1, .int 0]) → Q (.ref r) H'
theorem ok_law_place (T : Txt K mg a) : FnOk P w K mg base CX0 6 a.f_law_place a.d_law_place ["text"] sp_law_place := by
  refine T.F_law_place.ok sc_law_place (fun vs H Q E h => ?_) (fun cdv A outer s H vs Q E hr h => ?_)
  · obtain ⟨l, rfl, _⟩ := h
    rfl
  · obtain ⟨l, rfl, hl, hno, q⟩ := h
    refine ⟨_, (pss_one (ps_try_cl rfl rfl sc_law_place.nd takes0 (fun W pn xe tk _ => (pss_one (ps_ret (by exact (pe_callS (ok_read_day T) (hr.mono (by decide)) rfl T.g_read_day T.F_read_day.kp T.b_read_day (fun σ => passAt tk σ) (by exact (pa_cons (pv 0) pa_nil))))))) (ClOk.named (i := 1) ⟨rfl, by decide, .inl T.g_BadText⟩ rfl rfl (fun x oe cls d pn hz hf => (pss_one (ps_ret (pe_tup (pa_cons (pe_xf T.y_BadText (T.n_BadText_line) hz hf (pv 1)) (pa_cons (pe_xf T.y_BadText (T.n_BadText_word) hz hf (pv 1)) pa_nil)))))) ClOk.nil))), ?_⟩
    refine red (σ' := [some (.str (S l)), none]) rfl ?_
    try dsimp only [cxOf]
    walk_at "go"
    refine ⟨l, rfl, hl, fun H1 sm => ⟨fun _ d hd => ?_, fun d hd => by rw [hno] at hd; cases hd⟩⟩
    refine ⟨true, T.e_BadText_BadText, fun _ b hb => ?_, (fun z => nomatch z)⟩
    refine g_ret (g_tup (g_cons (g_var rfl ⟨rfl, rfl, d, _, .int 1, rfl, upd_same, bx_line 1 0, g_cons (g_var rfl ⟨rfl, rfl, d, _, .int 0, rfl, upd_same, bx_word 1 0, g_nil ⟨two_le, fun r hr => ?_⟩⟩)⟩)))
    exact q _ r ((sm.trans (same_new hd)).trans (same_new hr)) upd_same
end
theorem inV_strs (x : Str) : ∀ ps : List Str, inV (.str x) (ps.map V.str) = decide (x ∈ ps)
  | [] => rfl
  | y :: ps => by
    have ih := inV_strs x ps
    unfold inV at ih ⊢
    rw [List.map_cons, List.any_cons, ih]
    show (y == x || decide (x ∈ ps)) = decide (x ∈ y :: ps)
    by_cases h : y = x
    · subst h; simp
    · have h' : (y == x) = false := by simpa using h
      have h'' : ¬ x = y := fun q => h q.symm
      rw [h', Bool.false_or]
      simp [h'']
theorem flat_strs (ps : List Str) : (ps.map V.str).all flatV = true := by
  rw [List.all_map]; simp [flatV, Function.comp_def]
section
variable {P : Program} {w : World} {K : PySem.W.Frag} {mg : Str → Option Value} {base : Heap} {a : Adr}
/-- the words of all minutes -/
def mws (n : Nat) : List Str := (List.range n).map fun m => S (Dg.mw (m : Nat))
theorem mws_at {n j : Nat} (h : j < n) : (mws n)[j]? = some (S (Dg.mw (j : Nat))) := by
  unfold mws
  rw [List.getElem?_map, List.getElem?_eq_getElem (by rw [List.length_range]; exact h), List.getElem_range]
  rfl
theorem mem_mws {n : Nat} {x : List Nat} (hn : n ≤ 1441) : S x ∈ mws n ↔ ∃ k, Dg.rmw x = some k ∧ k < n := by
  unfold mws
  rw [List.mem_map]
  constructor
  · rintro ⟨j, hj, e⟩
    have hj := List.mem_range.mp hj
    have e := S_inj e
    exact ⟨j, by rw [← e]; exact Dg.rmw_mw (by omega) (by omega), by omega⟩
  · rintro ⟨k, hk, hn⟩
    obtain ⟨k0, k1, e⟩ := Dg.mw_rmw hk
    refine ⟨k.toNat, List.mem_range.mpr (by omega), ?_⟩
    rw [Int.toNat_of_nonneg k0, e]
theorem ne_same {K : PySem.W.Frag} {H : Hp} {x y : V} {d : PyData} {Q : VK} (h1 : Dp K H x d) (h2 : Dp K H y d) (s : SeqAt.shaped d = true) (q : Q (.bl false) H) : rNeD K x y H Q :=
  ⟨d, d, h1, h2, s, s, by rw [SeqAt.eqv_refl d (SeqAt.canLay_of_shaped s)]; exact q⟩
def sp_law (K : PySem.W.Frag) : Sp := fun vs H Q _ => ∃ (a : Addr) (ns : List Int), vs = [.ref a] ∧ SqL K H a (ns.map V.int) ∧ ns.length ≤ 63 ∧ ∀ H', Q (.bl true) H'
theorem isM_neg : Civ.IsM (-1) (-1) := ⟨by decide, by decide⟩
theorem isM_top : Civ.IsM 3652059 119988 := ⟨by decide, by decide⟩
theorem ok_law (T : Txt K mg a) : FnOk P w K mg base CX0 9 a.f_law a.d_law ["script"] (sp_law K) := by
  refine T.F_law.ok sc_law (fun vs H Q E h => ?_) (fun cdv A outer s H vs Q E hr h => ?_)
  · obtain ⟨b, ns, rfl, _⟩ := h
    rfl
  · obtain ⟨b, ns, rfl, hb, hl, q⟩ := h
    refine ⟨_, (pss_cons (ps_set (i := 1) sc_law.nd rfl (.inl rfl) (pe_call (ok_law_tape T) (hr.mono (by decide)) (by rfl) T.g_law_tape T.F_law_tape.kp T.b_law_tape .nil pass0 (pa_cons (pv 0) pa_nil)))
       (pss_cons (ps_set (i := 2) sc_law.nd rfl (.inl rfl) (pe_call (ok_law_draw T) (hr.mono (by decide)) (by rfl) T.g_law_draw T.F_law_draw.kp T.b_law_draw .nil pass0 (pa_cons (pv 1) (pa_cons pe_int pa_nil))))
       (C8.pss_cut (ps_if (pt_cmpR op_eq (pe_call (ok_law_draw T) (hr.mono (by decide)) (by rfl) T.g_law_draw T.F_law_draw.kp T.b_law_draw .nil pass0 (pa_cons (pv 1) (pa_cons pe_int pa_nil))) pe_int (nomark _))
       (pss_one (ps_set (i := 2) sc_law.nd rfl (.inl rfl) (pe_ix ix_list (pe_lst (pa_cons pe_int (pa_cons pe_int (pa_cons pe_int (pa_cons pe_int (pa_cons pe_int pa_nil)))))) (pe_call (ok_law_draw T) (hr.mono (by decide)) (by rfl) T.g_law_draw T.F_law_draw.kp T.b_law_draw .nil pass0 (pa_cons (pv 1) (pa_cons pe_int pa_nil))) (fun _ _ => rfl))))
       pss_nil)
       (pss_cons (ps_set (i := 3) sc_law.nd rfl (.inl rfl) (pe_call (ok_law_day_word T) (hr.mono (by decide)) (by rfl) T.g_law_day_word T.F_law_day_word.kp T.b_law_day_word .nil pass0 (pa_cons (pv 2) pa_nil)))
       (pss_cons (ps_if (PW.pt (pw_or (pt_cmpR op_ne (pe_call (ok_day_text T) (hr.mono (by decide)) (by rfl) T.g_day_text T.F_day_text.kp T.b_day_text .nil passL (pa_cons (pv 2) pa_nil)) (pv 3) (nomark _)) (pw_or (pt_cmpR op_ne (pe_call (ok_read_day_word T) (hr.mono (by decide)) (by rfl) T.g_read_day_word T.F_read_day_word.kp T.b_read_day_word .nil pass0 (pa_cons (pv 3) pa_nil)) (pv 2) (nomark _)) (pw_or1 (pt_cmpR op_ne (pe_call (ok_read_day T) (hr.mono (by decide)) (by rfl) T.g_read_day T.F_read_day.kp T.b_read_day .nil passL (pa_cons (pv 3) pa_nil)) (pv 2) (nomark _))))))
       (pss_one (ps_ret pe_bl))
       pss_nil)
       (pss_cons (ps_set (i := 4) sc_law.nd rfl (.inl rfl) (pe_call (ok_law_changed T) (hr.mono (by decide)) (by rfl) T.g_law_changed T.F_law_changed.kp T.b_law_changed .nil pass0 (pa_cons (pv 1) (pa_cons (pv 3) pa_nil))))
       (pss_cons (ps_set (i := 5) sc_law.nd rfl (.inl rfl) (pe_call (ok_read_day_word T) (hr.mono (by decide)) (by rfl) T.g_read_day_word T.F_read_day_word.kp T.b_read_day_word .nil pass0 (pa_cons (pv 4) pa_nil)))
       (C8.pss_cut (ps_if (PW.pt (pw_and (pt_cmpR op_notN (pv 5) pe_non (nomark _)) (pw_and1 (PW.pt (pw_or (pt_not (pt_chain op_le op_lt pe_int (pv 5) pe_int)) (pw_or1 (pt_cmpR op_ne (pe_call (ok_law_day_word T) (hr.mono (by decide)) (by rfl) T.g_law_day_word T.F_law_day_word.kp T.b_law_day_word .nil pass0 (pa_cons (pv 5) pa_nil)) (pv 4) (nomark _))))))))
       (pss_one (ps_ret pe_bl))
       pss_nil)
       (C8.pss_cut (ps_if (PW.pt (pw_and (pt_cmpR op_isN (pv 5) pe_non (nomark _)) (pw_and1 (pt_cmpR (op_neD (hr.units)) (pe_call (ok_law_place T) (hr.mono (by decide)) (by rfl) T.g_law_place T.F_law_place.kp T.b_law_place .nil pass0 (pa_cons (pv 4) pa_nil)) (pe_tup (pa_cons pe_int (pa_cons pe_int pa_nil))) (nomark _)))))
       (pss_one (ps_ret pe_bl))
       pss_nil)
       (pss_cons (ps_set (i := 6) sc_law.nd rfl (.inl rfl) (pe_call (ok_law_draw T) (hr.mono (by decide)) (by rfl) T.g_law_draw T.F_law_draw.kp T.b_law_draw .nil pass0 (pa_cons (pv 1) (pa_cons pe_int pa_nil))))
       (pss_cons (ps_set (i := 3) sc_law.nd rfl (.inl rfl) (pe_op op_add_str (pe_op op_add_str (pe_call (ok_law_digits T) (hr.mono (by decide)) (by rfl) T.g_law_digits T.F_law_digits.kp T.b_law_digits .nil pass0 (pa_cons (pe_op op_fdivE (pv 6) pe_int) (pa_cons pe_int pa_nil))) pe_str) (pe_call (ok_law_digits T) (hr.mono (by decide)) (by rfl) T.g_law_digits T.F_law_digits.kp T.b_law_digits .nil pass0 (pa_cons (pe_call (ok_law_mod T) (hr.mono (by decide)) (by rfl) T.g_law_mod T.F_law_mod.kp T.b_law_mod .nil pass0 (pa_cons (pv 6) (pa_cons pe_int pa_nil))) (pa_cons pe_int pa_nil)))))
       (pss_cons (ps_if (PW.pt (pw_or (pt_cmpR op_ne (pe_call (ok_minute_text T) (hr.mono (by decide)) (by rfl) T.g_minute_text T.F_minute_text.kp T.b_minute_text .nil pass0 (pa_cons (pv 6) pa_nil)) (pv 3) (nomark _)) (pw_or1 (pt_cmpR op_ne (pe_call (ok_read_minute_word T) (hr.mono (by decide)) (by rfl) T.g_read_minute_word T.F_read_minute_word.kp T.b_read_minute_word .nil pass0 (pa_cons (pv 3) pa_nil)) (pv 6) (nomark _)))))
       (pss_one (ps_ret pe_bl))
       pss_nil)
       (pss_cons (ps_set (i := 4) sc_law.nd rfl (.inl rfl) (pe_call (ok_law_changed T) (hr.mono (by decide)) (by rfl) T.g_law_changed T.F_law_changed.kp T.b_law_changed .nil pass0 (pa_cons (pv 1) (pa_cons (pv 3) pa_nil))))
       (pss_cons (ps_set (i := 5) sc_law.nd rfl (.inl rfl) (pe_call (ok_read_minute_word T) (hr.mono (by decide)) (by rfl) T.g_read_minute_word T.F_read_minute_word.kp T.b_read_minute_word .nil pass0 (pa_cons (pv 4) pa_nil)))
       (pss_cons (ps_setLc (i := 7) (own := [("m", 9)]) (g := (gName 9)) rfl sc_law.nd rfl rfl (sw_true rfl rfl rfl (by decide +kernel)) (pi_range1 (by rfl) T.z_range (pa_cons pe_int pa_nil)) (blkOk_by (own := [("m", 9)]) (N := ["script", "tape", "day", "word", "other", "found", "minute", "words", "n", "m"]) (sc := defScope s_law) (by decide +kernel)) (fun _ _ _ _ _ => (pg_name (i := 9) sc_law.nd rfl (.inl rfl))) (fun _ _ _ _ _ => pts_nil) (fun _ _ _ _ _ => (pe_op op_add_str (pe_op op_add_str (pe_call (ok_law_digits T) (hr.mono (by decide)) (by rfl) T.g_law_digits T.F_law_digits.kp T.b_law_digits .nil pass0 (pa_cons (pe_op op_fdivE (pv 9) pe_int) (pa_cons pe_int pa_nil))) pe_str) (pe_call (ok_law_digits T) (hr.mono (by decide)) (by rfl) T.g_law_digits T.F_law_digits.kp T.b_law_digits .nil pass0 (pa_cons (pe_call (ok_law_mod T) (hr.mono (by decide)) (by rfl) T.g_law_mod T.F_law_mod.kp T.b_law_mod .nil pass0 (pa_cons (pv 9) (pa_cons pe_int pa_nil))) (pa_cons pe_int pa_nil))))))
       (C8.pss_cut (ps_if (pt_cmpR op_ne (pv 5) (pe_ifExp (pt_cmpR op_in_seq (pv 4) (pv 7) rfl) (pe_bm PySem.F.plainAttrs_list PySem.F.slot_list_index PySem.F.type_list_index mt_index (pv 7) (pa_cons (pv 4) pa_nil)) pe_non) (nomark _))
       (pss_one (ps_ret pe_bl))
       pss_nil)
       (pss_cons (ps_set (i := 8) sc_law.nd rfl (.inl rfl) (pe_call (ok_law_draw T) (hr.mono (by decide)) (by rfl) T.g_law_draw T.F_law_draw.kp T.b_law_draw .nil pass0 (pa_cons (pv 1) (pa_cons (pe_op op_pow pe_int pe_int) pa_nil))))
       (pss_cons (ps_if (PW.pt (pw_or (pt_cmpR op_ne (pe_call (ok_padded T) (hr.mono (by decide)) (by rfl) T.g_padded T.F_padded.kp T.b_padded .nil pass0 (pa_cons (pv 8) (pa_cons pe_int pa_nil))) (pe_call (ok_law_digits T) (hr.mono (by decide)) (by rfl) T.g_law_digits T.F_law_digits.kp T.b_law_digits .nil pass0 (pa_cons (pv 8) (pa_cons pe_int pa_nil))) (nomark _)) (pw_or1 (pt_cmpR op_ne (pe_call (ok_padded T) (hr.mono (by decide)) (by rfl) T.g_padded T.F_padded.kp T.b_padded .nil pass0 (pa_cons (pv 8) (pa_cons pe_int pa_nil))) (pe_callTy call_str_int (by rfl) T.z_str (by decide +kernel) (pa_cons (pv 8) pa_nil)) (nomark _)))))
       (pss_one (ps_ret pe_bl))
       pss_nil)
       (pss_cons (ps_if (PW.pt (pw_or (pt_cmpR op_notN (pe_call (ok_read_day_word T) (hr.mono (by decide)) (by rfl) T.g_read_day_word T.F_read_day_word.kp T.b_read_day_word .nil pass0 (pa_cons pe_str pa_nil)) pe_non (nomark _)) (pw_or1 (pt_cmpR op_notN (pe_call (ok_read_day_word T) (hr.mono (by decide)) (by rfl) T.g_read_day_word T.F_read_day_word.kp T.b_read_day_word .nil pass0 (pa_cons pe_str pa_nil)) pe_non (nomark _)))))
       (pss_one (ps_ret pe_bl))
       pss_nil)
       (pss_one (ps_ret (pe_and (pe_call (ok_law_refused T) (hr.mono (by decide)) (by rfl) T.g_law_refused T.F_law_refused.kp T.b_law_refused .nil pass0 (pa_cons (pe_op op_sub pe_int pe_int) pa_nil)) (pe_one (pe_call (ok_law_refused T) (hr.mono (by decide)) (by rfl) T.g_law_refused T.F_law_refused.kp T.b_law_refused .nil pass0 (pa_cons pe_int pa_nil))))))))))))))))))))))))), ?_⟩
    refine red (σ' := [some (.ref b), none, none, none, none, none, none, none, none, none]) rfl ?_
    try dsimp only [cxOf]
    walk_at "go"
    refine ⟨b, _, rfl, hb, by rw [List.length_map]; omega, fun t c hc ht ct => ?_⟩
    have I : Tp t c ns _ := Tp.made hc ht ct
    generalize upd (upd H c (.lst (ns.map V.int))) t (tp c 0 0) = H1 at I
    clear hc ht
    walk_at "go"
    refine I.draw (by decide) (by decide) fun d H2 d0 d1 I _ => ?_
    walk_at "go"
    refine ⟨fun σ' H' => ∃ z : Int, σ' = [some (.ref b), some (.ref t), some (.int z), none, none, none, none, none, none, none] ∧ 0 ≤ z ∧ z < 3652059 ∧ Tp t c ns H', ?_, ?_⟩
    · walk_at "go"
      refine I.draw (by decide) (by decide) fun d2 H3 _ _ I _ => ?_
      walk_at "go"
      rw [dec_int]
      refine iteK (fun h => ?_) (fun h => ?_)
      · walk_at "go"
        refine ⟨by show 5 ≤ sizeLine; decide, fun L hL => ?_⟩
        have hLL : upd H3 L (.lst [.int 0, .int 3652058, .int 365, .int 58, .int 59]) L = some (.lst ([0, 3652058, 365, 58, 59].map V.int)) := upd_same
        have I1 := I.new (o := .lst [.int 0, .int 3652058, .int 365, .int 58, .int 59]) hL
        generalize upd H3 L (.lst [.int 0, .int 3652058, .int 365, .int 58, .int 59]) = H4 at hLL I1
        walk_at "go"
        refine I1.draw (by decide) (by decide) fun d2 H3 d20 d21 I3 rel => ?_
        obtain ⟨j, rfl⟩ := Int.eq_ofNat_of_zero_le d20
        obtain ⟨x, hx, x0, x1⟩ : ∃ x : Int, [0, 3652058, 365, 58, 59][j]? = some x ∧ 0 ≤ x ∧ x < 3652059 := by
          have : ∀ j < 5, ∃ x : Int, [0, 3652058, 365, 58, 59][j]? = some x ∧ 0 ≤ x ∧ x < 3652059 := by
            intro j hj
            match j, hj with
            | 0, _ => exact ⟨_, rfl, by decide, by decide⟩
            | 1, _ => exact ⟨_, rfl, by decide, by decide⟩
            | 2, _ => exact ⟨_, rfl, by decide, by decide⟩
            | 3, _ => exact ⟨_, rfl, by decide, by decide⟩
            | 4, _ => exact ⟨_, rfl, by decide, by decide⟩
          exact this j (by omega)
        refine g_ixL (n := ((j : Nat) : Int)) (v := .int x) (SqL.of (rel _ _ (I1.ne hLL (fun k r => ne_ints)) hLL)) (atI_nat (by rw [List.getElem?_map, hx]; rfl)) ?_
        walk_at "go"
        exact ⟨_, rfl, x0, x1, I3⟩
      · walk_at "go"
        exact ⟨_, rfl, d0, d1, I⟩
    rintro σ' H3 ⟨z, rfl, z0, z1, I⟩
    walk_at "go"
    refine ⟨z, rfl, z0, fun m H4 sm hm => ?_⟩
    replace I := I.same sm
    have hmr := Dg.month_range hm z0 z1
    have hrd := Dg.rdw_dw hm z0 z1
    have hlen := Dg.dw_len z m
    walk_at "go"
    refine ⟨z, rfl, fun m2 H5 sm hm2 => ?_⟩
    have em := Civ.IsM.uniq hm2 hm
    subst em
    refine ⟨fun hn => absurd ⟨by omega, by omega⟩ hn, fun _ _ => ?_⟩
    replace I := I.same sm
    walk_at "go"
    refine iteNK (fun h => absurd rfl h) (fun _ => ?_)
    walk_at "go"
    refine ⟨_, rfl, by omega, fun H6 sm => ?_⟩
    replace I := I.same sm
    rw [hrd]
    walk_at "go"
    refine iteNK (fun h => absurd rfl h) (fun _ => ?_)
    walk_at "go"
    refine ⟨_, rfl, by omega, fun H7 sm => ⟨(fun h => by rw [hrd] at h; cases h), fun d hd => ?_⟩⟩
    rw [hrd] at hd
    cases hd
    replace I := I.same sm
    walk_at "go"
    refine iteNK (fun h => absurd rfl h) (fun _ => ?_)
    walk_at "go"
    refine ⟨t, c, ns, _, rfl, I, by omega, by omega, fun x H8 I xl => ?_⟩
    walk_at "go"
    refine ⟨x, rfl, by omega, fun H9 sm => ?_⟩
    replace I := I.same sm
    walk_at "go"
    refine ⟨fun σ' H' => σ' = [some (.ref b), some (.ref t), some (.int z), some (.str (S (Dg.dw z m2))), some (.str (S x)), some (((Dg.rdw x).map V.int).getD .non), none, none, none, none] ∧ Tp t c ns H', ?_, ?_⟩
    · walk_at "go"
      cases e : Dg.rdw x with
      | none =>
        refine ite_n rfl ?_
        refine iteF ?_
        walk_at "go"
        exact ⟨rfl, I⟩
      | some k =>
        obtain ⟨k0, k1, kw⟩ := Dg.dw_rdw e
        refine ite_y rfl ?_
        dsimp only [Option.map, Option.getD]
        walk_at "go"
        refine iteK (fun _ => ?_) (fun h => absurd k0 h)
        walk_at "go"
        refine iteNK (fun h => absurd k1 h) (fun _ => ?_)
        walk_at "go"
        refine ⟨k, rfl, k0, fun m3 H10 sm hm3 => ?_⟩
        replace I := I.same sm
        rw [kw m3 hm3]
        walk_at "go"
        refine iteNK (fun h => absurd rfl h) (fun _ => ?_)
        walk_at "go"
        exact ⟨rfl, I⟩
    rintro σ' H10 ⟨rfl, I⟩
    refine ⟨fun σ' H' => σ' = [some (.ref b), some (.ref t), some (.int z), some (.str (S (Dg.dw z m2))), some (.str (S x)), some (((Dg.rdw x).map V.int).getD .non), none, none, none, none] ∧ Tp t c ns H', ?_, ?_⟩
    · walk_at "go"
      cases e : Dg.rdw x with
      | some k =>
        refine ite_n rfl ?_
        refine iteF ?_
        walk_at "go"
        exact ⟨rfl, I⟩
      | none =>
        refine ite_y rfl ?_
        walk_at "go"
        refine ⟨x, rfl, by omega, e, fun H11 r sm hr => ?_⟩
        replace I := I.same sm
        walk_at "go"
        refine ⟨two_le, fun r2 hr2 => ?_⟩
        replace I := I.new (o := .tup [.int 1, .int 0]) hr2
        have dp : ∀ {H : Hp} {r : Addr}, H r = some (.tup [.int 1, .int 0]) → Dp K H (.ref r) (.tuple [.int 1, .int 0]) := fun h => .tup (SqT.of h) (.cons (.int 1) (.cons (.int 0) .nil))
        refine ne_same (dp ((upd_ne (ne_of_none hr hr2)).trans hr)) (dp upd_same) (by decide +kernel) ?_
        walk_at "go"
        refine iteF ?_
        walk_at "go"
        exact ⟨rfl, I⟩
    rintro σ' H11 ⟨rfl, I⟩
    clear hrd
    walk_at "go"
    refine I.draw (by decide) (by decide) fun u H12 u0 u1 I _ => ?_
    walk_at "go"
    refine ⟨_, _, rfl, by omega, by decide, by decide, ?_⟩
    walk_at "go"
    refine g_catS (b := [46]) (by rw [Dg.dg_len]; decide) ?_
    rw [S_cat]
    walk_at "go"
    refine ⟨u, 60, rfl, by decide, by decide, ?_⟩
    walk_at "go"
    refine ⟨_, _, rfl, by omega, by decide, by decide, ?_⟩
    refine g_catS (by rw [List.length_append, Dg.dg_len, Dg.dg_len]; decide) ?_
    rw [S_cat]
    have mwe : ∀ k : Int, (Dg.dg (k / 60).toNat (Int.toNat 2) ++ [46]) ++ Dg.dg (k % 60).toNat (Int.toNat 2) = Dg.mw k := fun k => by
      unfold Dg.mw
      rw [List.append_assoc]; rfl
    rw [mwe]
    have hml := Dg.mw_len u
    walk_at "go"
    refine ⟨u, rfl, u0, by omega, ?_⟩
    walk_at "go"
    refine iteNK (fun h => absurd rfl h) (fun _ => ?_)
    walk_at "go"
    refine ⟨_, rfl, by omega, fun H13 sm => ?_⟩
    replace I := I.same sm
    rw [Dg.rmw_mw u0 (by omega)]
    walk_at "go"
    refine iteNK (fun h => absurd rfl h) (fun _ => ?_)
    walk_at "go"
    refine ⟨t, c, ns, _, rfl, I, by omega, by omega, fun y H14 I yl => ?_⟩
    walk_at "go"
    refine ⟨y, rfl, by omega, fun H15 sm => ?_⟩
    replace I := I.same sm
    walk_at "go"
    refine ⟨1441, rfl, by decide, by decide, fun L hL => ?_⟩
    refine lc_range (fun i H' => Same H15 H' ∧ H' L = some (.lst ((mws i).map V.str))) ⟨same_new hL, upd_same⟩ ?_ ?_
    · rintro i H16 hi ⟨sm, hLL⟩
      walk_at "go"
      refine ⟨rfl, ?_⟩
      refine g_yes ?_
      refine iteT ?_
      walk_at "go"
      refine ⟨_, _, rfl, by omega, by decide, by decide, ?_⟩
      walk_at "go"
      refine g_catS (b := [46]) (by rw [Dg.dg_len]; decide) ?_
      rw [S_cat]
      walk_at "go"
      refine ⟨_, 60, rfl, by decide, by decide, ?_⟩
      walk_at "go"
      refine ⟨_, _, rfl, by omega, by decide, by decide, ?_⟩
      refine g_catS (by rw [List.length_append, Dg.dg_len, Dg.dg_len]; decide) ?_
      rw [S_cat, mwe]
      refine ⟨_, hLL, ?_, fun b o hb => ?_, ?_⟩
      · have := sizeBig
        unfold mws
        rw [List.length_map, List.length_map, List.length_range]
        omega
      · rw [upd_ne (ne_of_none hb hL)]; exact sm b o hb
      · rw [upd_same]
        unfold mws
        rw [List.range_succ, List.map_append, List.map_append]
        have e : (0 : Int) + i = (i : Nat) := by omega
        rw [e]; rfl
    rintro H16 ⟨sm, hLL⟩
    replace I := I.same sm
    have hLL : H16 L = some (.lst ((mws 1441).map V.str)) := hLL
    walk_at "go"
    refine ⟨fun σ' H' => σ' = [some (.ref b), some (.ref t), some (.int z), some (.str (S (Dg.mw u))), some (.str (S y)), some (((Dg.rmw y).map V.int).getD .non), some (.int u), some (.ref L), none, none] ∧ Tp t c ns H', ?_, ?_⟩
    · walk_at "go"
      refine ⟨L, _, rfl, .inl (SqL.of hLL), rfl, flat_strs _, _, rfl, ?_⟩
      show if inV _ _ = true then _ else _
      rw [inV_strs]
      refine iteK (fun h => ?_) (fun h => ?_)
      · obtain ⟨k, hk, hk2⟩ := (mem_mws (by decide)).mp h
        obtain ⟨k0, k1, ke⟩ := Dg.mw_rmw hk
        rw [hk]
        walk_at "go"
        refine ⟨.inl ⟨rfl, _, SqL.of hLL⟩, ?_⟩
        walk_at "go"
        refine ⟨L, _, .str (S y), k.toNat, .str (S y), rfl, rfl, SqL.of hLL, rfl, flat_strs _, ?_, ?_, fun m z' hm hz => ?_, ?_⟩
        · rw [List.getElem?_map, mws_at (by omega), Int.toNat_of_nonneg k0, ke]; rfl
        · show (S y == S y) = true
          rw [S_beq_eq]; exact decide_eq_true rfl
        · rw [List.getElem?_map, mws_at (by omega)] at hz
          cases hz
          show (S (Dg.mw (m : Nat)) == S y) = false
          rw [S_beq_eq]
          refine decide_eq_false fun e => ?_
          have := Dg.rmw_mw (k := (m : Nat)) (by omega) (by omega)
          rw [e, hk] at this
          cases this
          omega
        · rw [Int.toNat_of_nonneg k0]
          walk_at "go"
          refine iteNK (fun h => absurd rfl h) (fun _ => ?_)
          walk_at "go"
          exact ⟨rfl, I⟩
      · have hn : Dg.rmw y = none := by
          cases e : Dg.rmw y with
          | none => rfl
          | some k => exact absurd ((mem_mws (by decide)).mpr ⟨k, e, by have := Dg.mw_rmw e; omega⟩) h
        rw [hn]
        walk_at "go"
        refine iteNK (fun h => absurd rfl h) (fun _ => ?_)
        walk_at "go"
        exact ⟨rfl, I⟩
    rintro σ' H17 ⟨rfl, I⟩
    walk_at "go"
    refine I.draw (by decide) (by decide) fun n H18 n0 n1 I _ => ?_
    have n1 : n < 1000000 := n1
    walk_at "go"
    refine ⟨n, 9, rfl, n0, by omega, by decide, by decide, ?_⟩
    walk_at "go"
    refine ⟨n, 9, rfl, n0, by decide, by decide, ?_⟩
    rw [show pd n.toNat (Int.toNat 9) = Dg.dg n.toNat (Int.toNat 9) from Dg.pad (by decide) (by show n.toNat < 1000000000; omega)]
    walk_at "go"
    refine iteNK (fun h => absurd rfl h) (fun _ => ?_)
    walk_at "go"
    refine ⟨n, 1, rfl, n0, by omega, by decide, by decide, ?_⟩
    obtain ⟨n', rfl⟩ := Int.eq_ofNat_of_zero_le n0
    walk_at "go"
    refine g_strI (by omega) ?_
    rw [num_S]
    have e1 : pd (((n' : Nat) : Int)).toNat (Int.toNat 1) = TL.numL n' := by
      unfold pd
      rw [Int.toNat_natCast]
      have : (TL.numL n').length ≠ 0 := fun h => TL.numL_ne n' (List.length_eq_zero_iff.mp h)
      rw [show Int.toNat 1 - (TL.numL n').length = 0 by show 1 - _ = 0; omega]
      rfl
    rw [e1]
    walk_at "go"
    refine iteNK (fun h => absurd rfl h) (fun _ => ?_)
    walk_at "go"
    refine ⟨[50, 48, 50, 51, 45, 48, 50, 45, 50, 57], rfl, by decide, fun H19 sm => ?_⟩
    replace I := I.same sm
    rw [show Dg.rdw [50, 48, 50, 51, 45, 48, 50, 45, 50, 57] = none by decide +kernel]
    walk_at "go"
    refine iteNK (fun h => absurd rfl h) (fun _ => ?_)
    walk_at "go"
    refine ⟨[48, 48, 48, 48, 45, 49, 50, 45, 51, 49], rfl, by decide, fun H20 sm => ?_⟩
    rw [show Dg.rdw [48, 48, 48, 48, 45, 49, 50, 45, 51, 49] = none by decide +kernel]
    walk_at "go"
    refine iteNK (fun h => absurd rfl h) (fun _ => ?_)
    walk_at "go"
    refine ⟨_, rfl, fun m H21 sm hm => ?_⟩
    rw [Civ.IsM.uniq hm isM_neg]
    walk_at "go"
    refine iteT ?_
    walk_at "go"
    refine ⟨_, rfl, fun m H22 sm hm => ?_⟩
    rw [Civ.IsM.uniq hm isM_top]
    exact q _
end
theorem all_mk {l : PySem.W.OpenLaw} {w : World} {K : PySem.W.Frag} {h : Heap} {mg : Str → Option Value} {fa : Addr} (X : K.In h) (G : h.Ns mainGlobals mg) (hfa : mg "law" = some (.ref fa))
    {f_BadText_init : Addr} {oc_BadText_init : Value} {od_BadText_init an_BadText_init : Option Addr} {sl_BadText_init : Array (Option Value)} {kV_BadText_init dc_BadText_init pm_BadText_init cd_BadText_init ct_BadText_init : Value}
    {f_is_leap : Addr} {oc_is_leap : Value} {od_is_leap an_is_leap : Option Addr} {sl_is_leap : Array (Option Value)} {kV_is_leap dc_is_leap pm_is_leap cd_is_leap ct_is_leap : Value}
    {f_year_of_month : Addr} {oc_year_of_month : Value} {od_year_of_month an_year_of_month : Option Addr} {sl_year_of_month : Array (Option Value)} {kV_year_of_month dc_year_of_month pm_year_of_month cd_year_of_month ct_year_of_month : Value}
    {f_month_length : Addr} {oc_month_length : Value} {od_month_length an_month_length : Option Addr} {sl_month_length : Array (Option Value)} {kV_month_length dc_month_length pm_month_length cd_month_length ct_month_length : Value}
    {f_first_day : Addr} {oc_first_day : Value} {od_first_day an_first_day : Option Addr} {sl_first_day : Array (Option Value)} {kV_first_day dc_first_day pm_first_day cd_first_day ct_first_day : Value}
    {f_month_of : Addr} {oc_month_of : Value} {od_month_of an_month_of : Option Addr} {sl_month_of : Array (Option Value)} {kV_month_of dc_month_of pm_month_of cd_month_of ct_month_of : Value}
    {f_day_of : Addr} {oc_day_of : Value} {od_day_of an_day_of : Option Addr} {sl_day_of : Array (Option Value)} {kV_day_of dc_day_of pm_day_of cd_day_of ct_day_of : Value}
    {f_date_of : Addr} {oc_date_of : Value} {od_date_of an_date_of : Option Addr} {sl_date_of : Array (Option Value)} {kV_date_of dc_date_of pm_date_of cd_date_of ct_date_of : Value}
    {f_padded : Addr} {oc_padded : Value} {od_padded an_padded : Option Addr} {sl_padded : Array (Option Value)} {kV_padded dc_padded pm_padded cd_padded ct_padded : Value}
    {f_day_text : Addr} {oc_day_text : Value} {od_day_text an_day_text : Option Addr} {sl_day_text : Array (Option Value)} {kV_day_text dc_day_text pm_day_text cd_day_text ct_day_text : Value}
    {f_all_digits : Addr} {oc_all_digits : Value} {od_all_digits an_all_digits : Option Addr} {sl_all_digits : Array (Option Value)} {kV_all_digits dc_all_digits pm_all_digits cd_all_digits ct_all_digits : Value}
    {f_read_day_word : Addr} {oc_read_day_word : Value} {od_read_day_word an_read_day_word : Option Addr} {sl_read_day_word : Array (Option Value)} {kV_read_day_word dc_read_day_word pm_read_day_word cd_read_day_word ct_read_day_word : Value}
    {f_minute_text : Addr} {oc_minute_text : Value} {od_minute_text an_minute_text : Option Addr} {sl_minute_text : Array (Option Value)} {kV_minute_text dc_minute_text pm_minute_text cd_minute_text ct_minute_text : Value}
    {f_read_minute_word : Addr} {oc_read_minute_word : Value} {od_read_minute_word an_read_minute_word : Option Addr} {sl_read_minute_word : Array (Option Value)} {kV_read_minute_word dc_read_minute_word pm_read_minute_word cd_read_minute_word ct_read_minute_word : Value}
    {f_read_day : Addr} {oc_read_day : Value} {od_read_day an_read_day : Option Addr} {sl_read_day : Array (Option Value)} {kV_read_day dc_read_day pm_read_day cd_read_day ct_read_day : Value}
    {f_law_draw : Addr} {oc_law_draw : Value} {od_law_draw an_law_draw : Option Addr} {sl_law_draw : Array (Option Value)} {kV_law_draw dc_law_draw pm_law_draw cd_law_draw ct_law_draw : Value}
    {f_law_tape : Addr} {oc_law_tape : Value} {od_law_tape an_law_tape : Option Addr} {sl_law_tape : Array (Option Value)} {kV_law_tape dc_law_tape pm_law_tape cd_law_tape ct_law_tape : Value}
    {f_law_mod : Addr} {oc_law_mod : Value} {od_law_mod an_law_mod : Option Addr} {sl_law_mod : Array (Option Value)} {kV_law_mod dc_law_mod pm_law_mod cd_law_mod ct_law_mod : Value}
    {f_law_leap : Addr} {oc_law_leap : Value} {od_law_leap an_law_leap : Option Addr} {sl_law_leap : Array (Option Value)} {kV_law_leap dc_law_leap pm_law_leap cd_law_leap ct_law_leap : Value}
    {f_law_length : Addr} {oc_law_length : Value} {od_law_length an_law_length : Option Addr} {sl_law_length : Array (Option Value)} {kV_law_length dc_law_length pm_law_length cd_law_length ct_law_length : Value}
    {f_law_year_first : Addr} {oc_law_year_first : Value} {od_law_year_first an_law_year_first : Option Addr} {sl_law_year_first : Array (Option Value)} {kV_law_year_first dc_law_year_first pm_law_year_first cd_law_year_first ct_law_year_first : Value}
    {f_law_month_at : Addr} {oc_law_month_at : Value} {od_law_month_at an_law_month_at : Option Addr} {sl_law_month_at : Array (Option Value)} {kV_law_month_at dc_law_month_at pm_law_month_at cd_law_month_at ct_law_month_at : Value}
    {f_law_digits : Addr} {oc_law_digits : Value} {od_law_digits an_law_digits : Option Addr} {sl_law_digits : Array (Option Value)} {kV_law_digits dc_law_digits pm_law_digits cd_law_digits ct_law_digits : Value}
    {f_law_day_word : Addr} {oc_law_day_word : Value} {od_law_day_word an_law_day_word : Option Addr} {sl_law_day_word : Array (Option Value)} {kV_law_day_word dc_law_day_word pm_law_day_word cd_law_day_word ct_law_day_word : Value}
    {f_law_changed : Addr} {oc_law_changed : Value} {od_law_changed an_law_changed : Option Addr} {sl_law_changed : Array (Option Value)} {kV_law_changed dc_law_changed pm_law_changed cd_law_changed ct_law_changed : Value}
    {f_law_refused : Addr} {oc_law_refused : Value} {od_law_refused an_law_refused : Option Addr} {sl_law_refused : Array (Option Value)} {kV_law_refused dc_law_refused pm_law_refused cd_law_refused ct_law_refused : Value}
    {f_law_place : Addr} {oc_law_place : Value} {od_law_place an_law_place : Option Addr} {sl_law_place : Array (Option Value)} {kV_law_place dc_law_place pm_law_place cd_law_place ct_law_place : Value}
    {f_law : Addr} {oc_law : Value} {od_law an_law : Option Addr} {sl_law : Array (Option Value)} {kV_law dc_law pm_law cd_law ct_law : Value}
    {C_BadText : Addr}
    {nm_BadText q_BadText : Str} {N_BadText : Addr} {bs_BadText : List Value} {sn_BadText : List Str} {sub_BadText : List Value} {ab_BadText : Bool} {col_BadText : Option Bool} {dd_BadText : Option Addr} {m0_BadText m1_BadText m2_BadText m3_BadText m5_BadText : Option Value}
    {C_BadDate : Addr}
    {C_DaysError : Addr} {M_DaysError : Value}
    {A_LENGTHS : Addr} {o_LENGTHS : Obj}
    {A_BEFORE : Addr} {o_BEFORE : Obj}
    {tk_CYCLE_MONTHS : Tok}
    {tk_CYCLE_DAYS : Tok}
    {tk_YEAR_MOST : Tok}
    {tk_DIGITS : Tok}
    (a_BadText_init : PySem.W.findIn K (.ref C_BadText) "__init__" = some (some (.ref f_BadText_init)))
    (l_BadText_init : K.lookup f_BadText_init = some ⟨oc_BadText_init, od_BadText_init, .func (PySem.W.fnOf "__init__" "BadText.__init__" (defArgs s_BadText_init) (defBody s_BadText_init) (defScope s_BadText_init) .none kV_BadText_init dc_BadText_init pm_BadText_init an_BadText_init cd_BadText_init ct_BadText_init), sl_BadText_init⟩)
    (c_BadText_init : PySem.W.codeIn K cd_BadText_init "BadText.__init__" = true)
    (k_BadText_init : PySem.W.keepIn K (.ref f_BadText_init) = true)
    (i_BadText_init : PySem.W.isFn K (.ref f_BadText_init) = true)
    (a_is_leap : PySem.W.nsIn K mainGlobals "is_leap" = some (some (.ref f_is_leap)))
    (l_is_leap : K.lookup f_is_leap = some ⟨oc_is_leap, od_is_leap, .func (PySem.W.fnOf "is_leap" "is_leap" (defArgs s_is_leap) (defBody s_is_leap) (defScope s_is_leap) .none kV_is_leap dc_is_leap pm_is_leap an_is_leap cd_is_leap ct_is_leap), sl_is_leap⟩)
    (c_is_leap : PySem.W.codeIn K cd_is_leap "is_leap" = true)
    (k_is_leap : PySem.W.keepIn K (.ref f_is_leap) = true)
    (a_year_of_month : PySem.W.nsIn K mainGlobals "year_of_month" = some (some (.ref f_year_of_month)))
    (l_year_of_month : K.lookup f_year_of_month = some ⟨oc_year_of_month, od_year_of_month, .func (PySem.W.fnOf "year_of_month" "year_of_month" (defArgs s_year_of_month) (defBody s_year_of_month) (defScope s_year_of_month) .none kV_year_of_month dc_year_of_month pm_year_of_month an_year_of_month cd_year_of_month ct_year_of_month), sl_year_of_month⟩)
    (c_year_of_month : PySem.W.codeIn K cd_year_of_month "year_of_month" = true)
    (k_year_of_month : PySem.W.keepIn K (.ref f_year_of_month) = true)
    (a_month_length : PySem.W.nsIn K mainGlobals "month_length" = some (some (.ref f_month_length)))
    (l_month_length : K.lookup f_month_length = some ⟨oc_month_length, od_month_length, .func (PySem.W.fnOf "month_length" "month_length" (defArgs s_month_length) (defBody s_month_length) (defScope s_month_length) .none kV_month_length dc_month_length pm_month_length an_month_length cd_month_length ct_month_length), sl_month_length⟩)
    (c_month_length : PySem.W.codeIn K cd_month_length "month_length" = true)
    (k_month_length : PySem.W.keepIn K (.ref f_month_length) = true)
    (a_first_day : PySem.W.nsIn K mainGlobals "first_day" = some (some (.ref f_first_day)))
    (l_first_day : K.lookup f_first_day = some ⟨oc_first_day, od_first_day, .func (PySem.W.fnOf "first_day" "first_day" (defArgs s_first_day) (defBody s_first_day) (defScope s_first_day) .none kV_first_day dc_first_day pm_first_day an_first_day cd_first_day ct_first_day), sl_first_day⟩)
    (c_first_day : PySem.W.codeIn K cd_first_day "first_day" = true)
    (k_first_day : PySem.W.keepIn K (.ref f_first_day) = true)
    (a_month_of : PySem.W.nsIn K mainGlobals "month_of" = some (some (.ref f_month_of)))
    (l_month_of : K.lookup f_month_of = some ⟨oc_month_of, od_month_of, .func (PySem.W.fnOf "month_of" "month_of" (defArgs s_month_of) (defBody s_month_of) (defScope s_month_of) .none kV_month_of dc_month_of pm_month_of an_month_of cd_month_of ct_month_of), sl_month_of⟩)
    (c_month_of : PySem.W.codeIn K cd_month_of "month_of" = true)
    (k_month_of : PySem.W.keepIn K (.ref f_month_of) = true)
    (a_day_of : PySem.W.nsIn K mainGlobals "day_of" = some (some (.ref f_day_of)))
    (l_day_of : K.lookup f_day_of = some ⟨oc_day_of, od_day_of, .func (PySem.W.fnOf "day_of" "day_of" (defArgs s_day_of) (defBody s_day_of) (defScope s_day_of) .none kV_day_of dc_day_of pm_day_of an_day_of cd_day_of ct_day_of), sl_day_of⟩)
    (c_day_of : PySem.W.codeIn K cd_day_of "day_of" = true)
    (k_day_of : PySem.W.keepIn K (.ref f_day_of) = true)
    (a_date_of : PySem.W.nsIn K mainGlobals "date_of" = some (some (.ref f_date_of)))
    (l_date_of : K.lookup f_date_of = some ⟨oc_date_of, od_date_of, .func (PySem.W.fnOf "date_of" "date_of" (defArgs s_date_of) (defBody s_date_of) (defScope s_date_of) .none kV_date_of dc_date_of pm_date_of an_date_of cd_date_of ct_date_of), sl_date_of⟩)
    (c_date_of : PySem.W.codeIn K cd_date_of "date_of" = true)
    (k_date_of : PySem.W.keepIn K (.ref f_date_of) = true)
    (a_padded : PySem.W.nsIn K mainGlobals "padded" = some (some (.ref f_padded)))
    (l_padded : K.lookup f_padded = some ⟨oc_padded, od_padded, .func (PySem.W.fnOf "padded" "padded" (defArgs s_padded) (defBody s_padded) (defScope s_padded) .none kV_padded dc_padded pm_padded an_padded cd_padded ct_padded), sl_padded⟩)
    (c_padded : PySem.W.codeIn K cd_padded "padded" = true)
    (k_padded : PySem.W.keepIn K (.ref f_padded) = true)
    (a_day_text : PySem.W.nsIn K mainGlobals "day_text" = some (some (.ref f_day_text)))
    (l_day_text : K.lookup f_day_text = some ⟨oc_day_text, od_day_text, .func (PySem.W.fnOf "day_text" "day_text" (defArgs s_day_text) (defBody s_day_text) (defScope s_day_text) .none kV_day_text dc_day_text pm_day_text an_day_text cd_day_text ct_day_text), sl_day_text⟩)
    (c_day_text : PySem.W.codeIn K cd_day_text "day_text" = true)
    (k_day_text : PySem.W.keepIn K (.ref f_day_text) = true)
    (a_all_digits : PySem.W.nsIn K mainGlobals "all_digits" = some (some (.ref f_all_digits)))
    (l_all_digits : K.lookup f_all_digits = some ⟨oc_all_digits, od_all_digits, .func (PySem.W.fnOf "all_digits" "all_digits" (defArgs s_all_digits) (defBody s_all_digits) (defScope s_all_digits) .none kV_all_digits dc_all_digits pm_all_digits an_all_digits cd_all_digits ct_all_digits), sl_all_digits⟩)
    (c_all_digits : PySem.W.codeIn K cd_all_digits "all_digits" = true)
    (k_all_digits : PySem.W.keepIn K (.ref f_all_digits) = true)
    (a_read_day_word : PySem.W.nsIn K mainGlobals "read_day_word" = some (some (.ref f_read_day_word)))
    (l_read_day_word : K.lookup f_read_day_word = some ⟨oc_read_day_word, od_read_day_word, .func (PySem.W.fnOf "read_day_word" "read_day_word" (defArgs s_read_day_word) (defBody s_read_day_word) (defScope s_read_day_word) .none kV_read_day_word dc_read_day_word pm_read_day_word an_read_day_word cd_read_day_word ct_read_day_word), sl_read_day_word⟩)
    (c_read_day_word : PySem.W.codeIn K cd_read_day_word "read_day_word" = true)
    (k_read_day_word : PySem.W.keepIn K (.ref f_read_day_word) = true)
    (a_minute_text : PySem.W.nsIn K mainGlobals "minute_text" = some (some (.ref f_minute_text)))
    (l_minute_text : K.lookup f_minute_text = some ⟨oc_minute_text, od_minute_text, .func (PySem.W.fnOf "minute_text" "minute_text" (defArgs s_minute_text) (defBody s_minute_text) (defScope s_minute_text) .none kV_minute_text dc_minute_text pm_minute_text an_minute_text cd_minute_text ct_minute_text), sl_minute_text⟩)
    (c_minute_text : PySem.W.codeIn K cd_minute_text "minute_text" = true)
    (k_minute_text : PySem.W.keepIn K (.ref f_minute_text) = true)
    (a_read_minute_word : PySem.W.nsIn K mainGlobals "read_minute_word" = some (some (.ref f_read_minute_word)))
    (l_read_minute_word : K.lookup f_read_minute_word = some ⟨oc_read_minute_word, od_read_minute_word, .func (PySem.W.fnOf "read_minute_word" "read_minute_word" (defArgs s_read_minute_word) (defBody s_read_minute_word) (defScope s_read_minute_word) .none kV_read_minute_word dc_read_minute_word pm_read_minute_word an_read_minute_word cd_read_minute_word ct_read_minute_word), sl_read_minute_word⟩)
    (c_read_minute_word : PySem.W.codeIn K cd_read_minute_word "read_minute_word" = true)
    (k_read_minute_word : PySem.W.keepIn K (.ref f_read_minute_word) = true)
    (a_read_day : PySem.W.nsIn K mainGlobals "read_day" = some (some (.ref f_read_day)))
    (l_read_day : K.lookup f_read_day = some ⟨oc_read_day, od_read_day, .func (PySem.W.fnOf "read_day" "read_day" (defArgs s_read_day) (defBody s_read_day) (defScope s_read_day) .none kV_read_day dc_read_day pm_read_day an_read_day cd_read_day ct_read_day), sl_read_day⟩)
    (c_read_day : PySem.W.codeIn K cd_read_day "read_day" = true)
    (k_read_day : PySem.W.keepIn K (.ref f_read_day) = true)
    (a_law_draw : PySem.W.nsIn K mainGlobals "_law_draw" = some (some (.ref f_law_draw)))
    (l_law_draw : K.lookup f_law_draw = some ⟨oc_law_draw, od_law_draw, .func (PySem.W.fnOf "_law_draw" "_law_draw" (defArgs s_law_draw) (defBody s_law_draw) (defScope s_law_draw) .none kV_law_draw dc_law_draw pm_law_draw an_law_draw cd_law_draw ct_law_draw), sl_law_draw⟩)
    (c_law_draw : PySem.W.codeIn K cd_law_draw "_law_draw" = true)
    (k_law_draw : PySem.W.keepIn K (.ref f_law_draw) = true)
    (a_law_tape : PySem.W.nsIn K mainGlobals "_law_tape" = some (some (.ref f_law_tape)))
    (l_law_tape : K.lookup f_law_tape = some ⟨oc_law_tape, od_law_tape, .func (PySem.W.fnOf "_law_tape" "_law_tape" (defArgs s_law_tape) (defBody s_law_tape) (defScope s_law_tape) .none kV_law_tape dc_law_tape pm_law_tape an_law_tape cd_law_tape ct_law_tape), sl_law_tape⟩)
    (c_law_tape : PySem.W.codeIn K cd_law_tape "_law_tape" = true)
    (k_law_tape : PySem.W.keepIn K (.ref f_law_tape) = true)
    (a_law_mod : PySem.W.nsIn K mainGlobals "_law_mod" = some (some (.ref f_law_mod)))
    (l_law_mod : K.lookup f_law_mod = some ⟨oc_law_mod, od_law_mod, .func (PySem.W.fnOf "_law_mod" "_law_mod" (defArgs s_law_mod) (defBody s_law_mod) (defScope s_law_mod) .none kV_law_mod dc_law_mod pm_law_mod an_law_mod cd_law_mod ct_law_mod), sl_law_mod⟩)
    (c_law_mod : PySem.W.codeIn K cd_law_mod "_law_mod" = true)
    (k_law_mod : PySem.W.keepIn K (.ref f_law_mod) = true)
    (a_law_leap : PySem.W.nsIn K mainGlobals "_law_leap" = some (some (.ref f_law_leap)))
    (l_law_leap : K.lookup f_law_leap = some ⟨oc_law_leap, od_law_leap, .func (PySem.W.fnOf "_law_leap" "_law_leap" (defArgs s_law_leap) (defBody s_law_leap) (defScope s_law_leap) .none kV_law_leap dc_law_leap pm_law_leap an_law_leap cd_law_leap ct_law_leap), sl_law_leap⟩)
    (c_law_leap : PySem.W.codeIn K cd_law_leap "_law_leap" = true)
    (k_law_leap : PySem.W.keepIn K (.ref f_law_leap) = true)
    (a_law_length : PySem.W.nsIn K mainGlobals "_law_length" = some (some (.ref f_law_length)))
    (l_law_length : K.lookup f_law_length = some ⟨oc_law_length, od_law_length, .func (PySem.W.fnOf "_law_length" "_law_length" (defArgs s_law_length) (defBody s_law_length) (defScope s_law_length) .none kV_law_length dc_law_length pm_law_length an_law_length cd_law_length ct_law_length), sl_law_length⟩)
    (c_law_length : PySem.W.codeIn K cd_law_length "_law_length" = true)
    (k_law_length : PySem.W.keepIn K (.ref f_law_length) = true)
    (a_law_year_first : PySem.W.nsIn K mainGlobals "_law_year_first" = some (some (.ref f_law_year_first)))
    (l_law_year_first : K.lookup f_law_year_first = some ⟨oc_law_year_first, od_law_year_first, .func (PySem.W.fnOf "_law_year_first" "_law_year_first" (defArgs s_law_year_first) (defBody s_law_year_first) (defScope s_law_year_first) .none kV_law_year_first dc_law_year_first pm_law_year_first an_law_year_first cd_law_year_first ct_law_year_first), sl_law_year_first⟩)
    (c_law_year_first : PySem.W.codeIn K cd_law_year_first "_law_year_first" = true)
    (k_law_year_first : PySem.W.keepIn K (.ref f_law_year_first) = true)
    (a_law_month_at : PySem.W.nsIn K mainGlobals "_law_month_at" = some (some (.ref f_law_month_at)))
    (l_law_month_at : K.lookup f_law_month_at = some ⟨oc_law_month_at, od_law_month_at, .func (PySem.W.fnOf "_law_month_at" "_law_month_at" (defArgs s_law_month_at) (defBody s_law_month_at) (defScope s_law_month_at) .none kV_law_month_at dc_law_month_at pm_law_month_at an_law_month_at cd_law_month_at ct_law_month_at), sl_law_month_at⟩)
    (c_law_month_at : PySem.W.codeIn K cd_law_month_at "_law_month_at" = true)
    (k_law_month_at : PySem.W.keepIn K (.ref f_law_month_at) = true)
    (a_law_digits : PySem.W.nsIn K mainGlobals "_law_digits" = some (some (.ref f_law_digits)))
    (l_law_digits : K.lookup f_law_digits = some ⟨oc_law_digits, od_law_digits, .func (PySem.W.fnOf "_law_digits" "_law_digits" (defArgs s_law_digits) (defBody s_law_digits) (defScope s_law_digits) .none kV_law_digits dc_law_digits pm_law_digits an_law_digits cd_law_digits ct_law_digits), sl_law_digits⟩)
    (c_law_digits : PySem.W.codeIn K cd_law_digits "_law_digits" = true)
    (k_law_digits : PySem.W.keepIn K (.ref f_law_digits) = true)
    (a_law_day_word : PySem.W.nsIn K mainGlobals "_law_day_word" = some (some (.ref f_law_day_word)))
    (l_law_day_word : K.lookup f_law_day_word = some ⟨oc_law_day_word, od_law_day_word, .func (PySem.W.fnOf "_law_day_word" "_law_day_word" (defArgs s_law_day_word) (defBody s_law_day_word) (defScope s_law_day_word) .none kV_law_day_word dc_law_day_word pm_law_day_word an_law_day_word cd_law_day_word ct_law_day_word), sl_law_day_word⟩)
    (c_law_day_word : PySem.W.codeIn K cd_law_day_word "_law_day_word" = true)
    (k_law_day_word : PySem.W.keepIn K (.ref f_law_day_word) = true)
    (a_law_changed : PySem.W.nsIn K mainGlobals "_law_changed" = some (some (.ref f_law_changed)))
    (l_law_changed : K.lookup f_law_changed = some ⟨oc_law_changed, od_law_changed, .func (PySem.W.fnOf "_law_changed" "_law_changed" (defArgs s_law_changed) (defBody s_law_changed) (defScope s_law_changed) .none kV_law_changed dc_law_changed pm_law_changed an_law_changed cd_law_changed ct_law_changed), sl_law_changed⟩)
    (c_law_changed : PySem.W.codeIn K cd_law_changed "_law_changed" = true)
    (k_law_changed : PySem.W.keepIn K (.ref f_law_changed) = true)
    (a_law_refused : PySem.W.nsIn K mainGlobals "_law_refused" = some (some (.ref f_law_refused)))
    (l_law_refused : K.lookup f_law_refused = some ⟨oc_law_refused, od_law_refused, .func (PySem.W.fnOf "_law_refused" "_law_refused" (defArgs s_law_refused) (defBody s_law_refused) (defScope s_law_refused) .none kV_law_refused dc_law_refused pm_law_refused an_law_refused cd_law_refused ct_law_refused), sl_law_refused⟩)
    (c_law_refused : PySem.W.codeIn K cd_law_refused "_law_refused" = true)
    (k_law_refused : PySem.W.keepIn K (.ref f_law_refused) = true)
    (a_law_place : PySem.W.nsIn K mainGlobals "_law_place" = some (some (.ref f_law_place)))
    (l_law_place : K.lookup f_law_place = some ⟨oc_law_place, od_law_place, .func (PySem.W.fnOf "_law_place" "_law_place" (defArgs s_law_place) (defBody s_law_place) (defScope s_law_place) .none kV_law_place dc_law_place pm_law_place an_law_place cd_law_place ct_law_place), sl_law_place⟩)
    (c_law_place : PySem.W.codeIn K cd_law_place "_law_place" = true)
    (k_law_place : PySem.W.keepIn K (.ref f_law_place) = true)
    (a_law : PySem.W.nsIn K mainGlobals "law" = some (some (.ref f_law)))
    (l_law : K.lookup f_law = some ⟨oc_law, od_law, .func (PySem.W.fnOf "law" "law" (defArgs s_law) (defBody s_law) (defScope s_law) .none kV_law dc_law pm_law an_law cd_law ct_law), sl_law⟩)
    (c_law : PySem.W.codeIn K cd_law "law" = true)
    (k_law : PySem.W.keepIn K (.ref f_law) = true)
    (aC_BadText : PySem.W.nsIn K mainGlobals "BadText" = some (some (.ref C_BadText)))
    (r_BadText : PySem.W.subIn K (.ref C_BadText) (.type "BaseException") = some true)
    (t_BadText : PySem.W.typeIn K (.ref C_BadText) = some (.type "type"))
    (k_BadText : PySem.W.keepIn K (.ref C_BadText) = true)
    (ic_BadText : PySem.W.isClsIn K C_BadText = true)
    (xL_BadText : K.lookup C_BadText = some (excClassObj nm_BadText q_BadText C_BadText N_BadText bs_BadText [.ref C_DaysError, .type "ValueError", .type "Exception", .type "BaseException", .type "object"] true sn_BadText sub_BadText ab_BadText col_BadText dd_BadText m0_BadText m1_BadText m2_BadText m3_BadText m5_BadText "ValueError.__new__"))
    (sa_BadText : PySem.W.findIn K (.ref C_BadText) "__setattr__" = some (some (.builtin "object.__setattr__")))
    (ga_BadText : PySem.W.findIn K (.ref C_BadText) "__getattribute__" = some (some (.builtin "BaseException.__getattribute__")))
    (gg_BadText : PySem.W.findIn K (.ref C_BadText) "__getattr__" = some none)
    (hd_BadText : PySem.W.hasDictIn K C_BadText = true)
    (tf_BadText : PySem.W.typeIn K (.ref f_BadText_init) = some (.type "function"))
    (n_BadText_line : PySem.W.findIn K (.ref C_BadText) "line" = some none)
    (n_BadText_word : PySem.W.findIn K (.ref C_BadText) "word" = some none)
    (aC_BadDate : PySem.W.nsIn K mainGlobals "BadDate" = some (some (.ref C_BadDate)))
    (r_BadDate : PySem.W.subIn K (.ref C_BadDate) (.type "BaseException") = some true)
    (t_BadDate : PySem.W.typeIn K (.ref C_BadDate) = some (.type "type"))
    (k_BadDate : PySem.W.keepIn K (.ref C_BadDate) = true)
    (ic_BadDate : PySem.W.isClsIn K C_BadDate = true)
    (xI_BadDate : PySem.W.excIn K C_BadDate [.type "ValueError", .type "Exception", .type "BaseException", .type "object"] "ValueError.__new__" = true)
    (s_BadText_BadText : PySem.W.subIn K (.ref C_BadText) (.ref C_BadText) = some true)
    (s_BadDate_BadDate : PySem.W.subIn K (.ref C_BadDate) (.ref C_BadDate) = some true)
    (aC_DaysError : PySem.W.nsIn K mainGlobals "DaysError" = some (some (.ref C_DaysError)))
    (ty_DaysError : PySem.W.typeIn K (.ref C_DaysError) = some M_DaysError)
    (rd_DaysError : PySem.W.readsIn K C_DaysError M_DaysError = true)
    (gs_DaysError : PySem.W.specialIn K (.ref C_DaysError) "__getattribute__" = some (some (.builtin "type.__getattribute__")))
    (fc_DaysError : PySem.W.findCls K (.ref C_DaysError) M_DaysError "__init__" = some (.val (.builtin "ValueError.__init__")))
    (z_len : PySem.W.nsIn K mainGlobals "len" = some none)
    (z_int : PySem.W.nsIn K mainGlobals "int" = some none)
    (z_str : PySem.W.nsIn K mainGlobals "str" = some none)
    (z_list : PySem.W.nsIn K mainGlobals "list" = some none)
    (z_range : PySem.W.nsIn K mainGlobals "range" = some none)
    (z_divmod : PySem.W.nsIn K mainGlobals "divmod" = some none)
    (z_all : PySem.W.nsIn K mainGlobals "all" = some none)
    (g_LENGTHS : PySem.W.nsIn K mainGlobals "LENGTHS" = some (some (.ref A_LENGTHS)))
    (h_LENGTHS : K.lookup A_LENGTHS = some o_LENGTHS)
    (hs_LENGTHS : absT o_LENGTHS = some ([31, 28, 31, 30, 31, 30, 31, 31, 30, 31, 30, 31].map V.int))
    (g_BEFORE : PySem.W.nsIn K mainGlobals "BEFORE" = some (some (.ref A_BEFORE)))
    (h_BEFORE : K.lookup A_BEFORE = some o_BEFORE)
    (hs_BEFORE : absT o_BEFORE = some ([0, 31, 59, 90, 120, 151, 181, 212, 243, 273, 304, 334].map V.int))
    (g_CYCLE_MONTHS : PySem.W.nsIn K mainGlobals "CYCLE_MONTHS" = some (some (.int 4800 tk_CYCLE_MONTHS)))
    (g_CYCLE_DAYS : PySem.W.nsIn K mainGlobals "CYCLE_DAYS" = some (some (.int 146097 tk_CYCLE_DAYS)))
    (g_YEAR_MOST : PySem.W.nsIn K mainGlobals "YEAR_MOST" = some (some (.int 9999 tk_YEAR_MOST)))
    (g_DIGITS : PySem.W.nsIn K mainGlobals "DIGITS" = some (some (.str "0123456789" tk_DIGITS))) :
    ∃ fd : FuncData, (∀ (s : Shared) (v : Value), BindsTo s fd ⟨[v], []⟩ [("script", v)]) ∧ ∀ base : Heap, K.In base → base.Ns mainGlobals mg → FnOk l.prog w K mg base CX0 9 fa fd ["script"] (sp_law K) := by
  have e := hfa.symm.trans (PySem.W.mg_of X G a_law)
  cases e
  have T : Txt K mg { f_BadText_init := f_BadText_init, d_BadText_init := (PySem.W.fnOf "__init__" "BadText.__init__" (defArgs s_BadText_init) (defBody s_BadText_init) (defScope s_BadText_init) .none kV_BadText_init dc_BadText_init pm_BadText_init an_BadText_init cd_BadText_init ct_BadText_init), f_is_leap := f_is_leap, d_is_leap := (PySem.W.fnOf "is_leap" "is_leap" (defArgs s_is_leap) (defBody s_is_leap) (defScope s_is_leap) .none kV_is_leap dc_is_leap pm_is_leap an_is_leap cd_is_leap ct_is_leap), f_year_of_month := f_year_of_month, d_year_of_month := (PySem.W.fnOf "year_of_month" "year_of_month" (defArgs s_year_of_month) (defBody s_year_of_month) (defScope s_year_of_month) .none kV_year_of_month dc_year_of_month pm_year_of_month an_year_of_month cd_year_of_month ct_year_of_month), f_month_length := f_month_length, d_month_length := (PySem.W.fnOf "month_length" "month_length" (defArgs s_month_length) (defBody s_month_length) (defScope s_month_length) .none kV_month_length dc_month_length pm_month_length an_month_length cd_month_length ct_month_length), f_first_day := f_first_day, d_first_day := (PySem.W.fnOf "first_day" "first_day" (defArgs s_first_day) (defBody s_first_day) (defScope s_first_day) .none kV_first_day dc_first_day pm_first_day an_first_day cd_first_day ct_first_day), f_month_of := f_month_of, d_month_of := (PySem.W.fnOf "month_of" "month_of" (defArgs s_month_of) (defBody s_month_of) (defScope s_month_of) .none kV_month_of dc_month_of pm_month_of an_month_of cd_month_of ct_month_of), f_day_of := f_day_of, d_day_of := (PySem.W.fnOf "day_of" "day_of" (defArgs s_day_of) (defBody s_day_of) (defScope s_day_of) .none kV_day_of dc_day_of pm_day_of an_day_of cd_day_of ct_day_of), f_date_of := f_date_of, d_date_of := (PySem.W.fnOf "date_of" "date_of" (defArgs s_date_of) (defBody s_date_of) (defScope s_date_of) .none kV_date_of dc_date_of pm_date_of an_date_of cd_date_of ct_date_of), f_padded := f_padded, d_padded := (PySem.W.fnOf "padded" "padded" (defArgs s_padded) (defBody s_padded) (defScope s_padded) .none kV_padded dc_padded pm_padded an_padded cd_padded ct_padded), f_day_text := f_day_text, d_day_text := (PySem.W.fnOf "day_text" "day_text" (defArgs s_day_text) (defBody s_day_text) (defScope s_day_text) .none kV_day_text dc_day_text pm_day_text an_day_text cd_day_text ct_day_text), f_all_digits := f_all_digits, d_all_digits := (PySem.W.fnOf "all_digits" "all_digits" (defArgs s_all_digits) (defBody s_all_digits) (defScope s_all_digits) .none kV_all_digits dc_all_digits pm_all_digits an_all_digits cd_all_digits ct_all_digits), f_read_day_word := f_read_day_word, d_read_day_word := (PySem.W.fnOf "read_day_word" "read_day_word" (defArgs s_read_day_word) (defBody s_read_day_word) (defScope s_read_day_word) .none kV_read_day_word dc_read_day_word pm_read_day_word an_read_day_word cd_read_day_word ct_read_day_word), f_minute_text := f_minute_text, d_minute_text := (PySem.W.fnOf "minute_text" "minute_text" (defArgs s_minute_text) (defBody s_minute_text) (defScope s_minute_text) .none kV_minute_text dc_minute_text pm_minute_text an_minute_text cd_minute_text ct_minute_text), f_read_minute_word := f_read_minute_word, d_read_minute_word := (PySem.W.fnOf "read_minute_word" "read_minute_word" (defArgs s_read_minute_word) (defBody s_read_minute_word) (defScope s_read_minute_word) .none kV_read_minute_word dc_read_minute_word pm_read_minute_word an_read_minute_word cd_read_minute_word ct_read_minute_word), f_read_day := f_read_day, d_read_day := (PySem.W.fnOf "read_day" "read_day" (defArgs s_read_day) (defBody s_read_day) (defScope s_read_day) .none kV_read_day dc_read_day pm_read_day an_read_day cd_read_day ct_read_day), f_law_draw := f_law_draw, d_law_draw := (PySem.W.fnOf "_law_draw" "_law_draw" (defArgs s_law_draw) (defBody s_law_draw) (defScope s_law_draw) .none kV_law_draw dc_law_draw pm_law_draw an_law_draw cd_law_draw ct_law_draw), f_law_tape := f_law_tape, d_law_tape := (PySem.W.fnOf "_law_tape" "_law_tape" (defArgs s_law_tape) (defBody s_law_tape) (defScope s_law_tape) .none kV_law_tape dc_law_tape pm_law_tape an_law_tape cd_law_tape ct_law_tape), f_law_mod := f_law_mod, d_law_mod := (PySem.W.fnOf "_law_mod" "_law_mod" (defArgs s_law_mod) (defBody s_law_mod) (defScope s_law_mod) .none kV_law_mod dc_law_mod pm_law_mod an_law_mod cd_law_mod ct_law_mod), f_law_leap := f_law_leap, d_law_leap := (PySem.W.fnOf "_law_leap" "_law_leap" (defArgs s_law_leap) (defBody s_law_leap) (defScope s_law_leap) .none kV_law_leap dc_law_leap pm_law_leap an_law_leap cd_law_leap ct_law_leap), f_law_length := f_law_length, d_law_length := (PySem.W.fnOf "_law_length" "_law_length" (defArgs s_law_length) (defBody s_law_length) (defScope s_law_length) .none kV_law_length dc_law_length pm_law_length an_law_length cd_law_length ct_law_length), f_law_year_first := f_law_year_first, d_law_year_first := (PySem.W.fnOf "_law_year_first" "_law_year_first" (defArgs s_law_year_first) (defBody s_law_year_first) (defScope s_law_year_first) .none kV_law_year_first dc_law_year_first pm_law_year_first an_law_year_first cd_law_year_first ct_law_year_first), f_law_month_at := f_law_month_at, d_law_month_at := (PySem.W.fnOf "_law_month_at" "_law_month_at" (defArgs s_law_month_at) (defBody s_law_month_at) (defScope s_law_month_at) .none kV_law_month_at dc_law_month_at pm_law_month_at an_law_month_at cd_law_month_at ct_law_month_at), f_law_digits := f_law_digits, d_law_digits := (PySem.W.fnOf "_law_digits" "_law_digits" (defArgs s_law_digits) (defBody s_law_digits) (defScope s_law_digits) .none kV_law_digits dc_law_digits pm_law_digits an_law_digits cd_law_digits ct_law_digits), f_law_day_word := f_law_day_word, d_law_day_word := (PySem.W.fnOf "_law_day_word" "_law_day_word" (defArgs s_law_day_word) (defBody s_law_day_word) (defScope s_law_day_word) .none kV_law_day_word dc_law_day_word pm_law_day_word an_law_day_word cd_law_day_word ct_law_day_word), f_law_changed := f_law_changed, d_law_changed := (PySem.W.fnOf "_law_changed" "_law_changed" (defArgs s_law_changed) (defBody s_law_changed) (defScope s_law_changed) .none kV_law_changed dc_law_changed pm_law_changed an_law_changed cd_law_changed ct_law_changed), f_law_refused := f_law_refused, d_law_refused := (PySem.W.fnOf "_law_refused" "_law_refused" (defArgs s_law_refused) (defBody s_law_refused) (defScope s_law_refused) .none kV_law_refused dc_law_refused pm_law_refused an_law_refused cd_law_refused ct_law_refused), f_law_place := f_law_place, d_law_place := (PySem.W.fnOf "_law_place" "_law_place" (defArgs s_law_place) (defBody s_law_place) (defScope s_law_place) .none kV_law_place dc_law_place pm_law_place an_law_place cd_law_place ct_law_place), f_law := fa, d_law := (PySem.W.fnOf "law" "law" (defArgs s_law) (defBody s_law) (defScope s_law) .none kV_law dc_law pm_law an_law cd_law ct_law), C_BadText := C_BadText, C_BadDate := C_BadDate, C_DaysError := C_DaysError, A_LENGTHS := A_LENGTHS, A_BEFORE := A_BEFORE, M_DaysError := M_DaysError } := {
    F_BadText_init := fun_mk (st := s_BadText_init) l_BadText_init c_BadText_init k_BadText_init
    b_BadText_init := (fun_mk (st := s_BadText_init) l_BadText_init c_BadText_init k_BadText_init).binds (ps := ["self", "line", "word"]) fun _ _ _ _ _ _ us hl => match us, hl with | [_, _, _], _ => rfl
    F_is_leap := fun_mk (st := s_is_leap) l_is_leap c_is_leap k_is_leap
    b_is_leap := (fun_mk (st := s_is_leap) l_is_leap c_is_leap k_is_leap).binds (ps := ["year"]) fun _ _ _ _ _ _ us hl => match us, hl with | [_], _ => rfl
    g_is_leap := PySem.W.mg_of X G a_is_leap
    F_year_of_month := fun_mk (st := s_year_of_month) l_year_of_month c_year_of_month k_year_of_month
    b_year_of_month := (fun_mk (st := s_year_of_month) l_year_of_month c_year_of_month k_year_of_month).binds (ps := ["m"]) fun _ _ _ _ _ _ us hl => match us, hl with | [_], _ => rfl
    g_year_of_month := PySem.W.mg_of X G a_year_of_month
    F_month_length := fun_mk (st := s_month_length) l_month_length c_month_length k_month_length
    b_month_length := (fun_mk (st := s_month_length) l_month_length c_month_length k_month_length).binds (ps := ["m"]) fun _ _ _ _ _ _ us hl => match us, hl with | [_], _ => rfl
    g_month_length := PySem.W.mg_of X G a_month_length
    F_first_day := fun_mk (st := s_first_day) l_first_day c_first_day k_first_day
    b_first_day := (fun_mk (st := s_first_day) l_first_day c_first_day k_first_day).binds (ps := ["m"]) fun _ _ _ _ _ _ us hl => match us, hl with | [_], _ => rfl
    g_first_day := PySem.W.mg_of X G a_first_day
    F_month_of := fun_mk (st := s_month_of) l_month_of c_month_of k_month_of
    b_month_of := (fun_mk (st := s_month_of) l_month_of c_month_of k_month_of).binds (ps := ["day"]) fun _ _ _ _ _ _ us hl => match us, hl with | [_], _ => rfl
    g_month_of := PySem.W.mg_of X G a_month_of
    F_day_of := fun_mk (st := s_day_of) l_day_of c_day_of k_day_of
    b_day_of := (fun_mk (st := s_day_of) l_day_of c_day_of k_day_of).binds (ps := ["year", "month", "date"]) fun _ _ _ _ _ _ us hl => match us, hl with | [_, _, _], _ => rfl
    g_day_of := PySem.W.mg_of X G a_day_of
    F_date_of := fun_mk (st := s_date_of) l_date_of c_date_of k_date_of
    b_date_of := (fun_mk (st := s_date_of) l_date_of c_date_of k_date_of).binds (ps := ["day"]) fun _ _ _ _ _ _ us hl => match us, hl with | [_], _ => rfl
    g_date_of := PySem.W.mg_of X G a_date_of
    F_padded := fun_mk (st := s_padded) l_padded c_padded k_padded
    b_padded := (fun_mk (st := s_padded) l_padded c_padded k_padded).binds (ps := ["n", "many"]) fun _ _ _ _ _ _ us hl => match us, hl with | [_, _], _ => rfl
    g_padded := PySem.W.mg_of X G a_padded
    F_day_text := fun_mk (st := s_day_text) l_day_text c_day_text k_day_text
    b_day_text := (fun_mk (st := s_day_text) l_day_text c_day_text k_day_text).binds (ps := ["day"]) fun _ _ _ _ _ _ us hl => match us, hl with | [_], _ => rfl
    g_day_text := PySem.W.mg_of X G a_day_text
    F_all_digits := fun_mk (st := s_all_digits) l_all_digits c_all_digits k_all_digits
    b_all_digits := (fun_mk (st := s_all_digits) l_all_digits c_all_digits k_all_digits).binds (ps := ["word"]) fun _ _ _ _ _ _ us hl => match us, hl with | [_], _ => rfl
    g_all_digits := PySem.W.mg_of X G a_all_digits
    F_read_day_word := fun_mk (st := s_read_day_word) l_read_day_word c_read_day_word k_read_day_word
    b_read_day_word := (fun_mk (st := s_read_day_word) l_read_day_word c_read_day_word k_read_day_word).binds (ps := ["word"]) fun _ _ _ _ _ _ us hl => match us, hl with | [_], _ => rfl
    g_read_day_word := PySem.W.mg_of X G a_read_day_word
    F_minute_text := fun_mk (st := s_minute_text) l_minute_text c_minute_text k_minute_text
    b_minute_text := (fun_mk (st := s_minute_text) l_minute_text c_minute_text k_minute_text).binds (ps := ["minute"]) fun _ _ _ _ _ _ us hl => match us, hl with | [_], _ => rfl
    g_minute_text := PySem.W.mg_of X G a_minute_text
    F_read_minute_word := fun_mk (st := s_read_minute_word) l_read_minute_word c_read_minute_word k_read_minute_word
    b_read_minute_word := (fun_mk (st := s_read_minute_word) l_read_minute_word c_read_minute_word k_read_minute_word).binds (ps := ["word"]) fun _ _ _ _ _ _ us hl => match us, hl with | [_], _ => rfl
    g_read_minute_word := PySem.W.mg_of X G a_read_minute_word
    F_read_day := fun_mk (st := s_read_day) l_read_day c_read_day k_read_day
    b_read_day := (fun_mk (st := s_read_day) l_read_day c_read_day k_read_day).binds (ps := ["text"]) fun _ _ _ _ _ _ us hl => match us, hl with | [_], _ => rfl
    g_read_day := PySem.W.mg_of X G a_read_day
    F_law_draw := fun_mk (st := s_law_draw) l_law_draw c_law_draw k_law_draw
    b_law_draw := (fun_mk (st := s_law_draw) l_law_draw c_law_draw k_law_draw).binds (ps := ["tape", "many"]) fun _ _ _ _ _ _ us hl => match us, hl with | [_, _], _ => rfl
    g_law_draw := PySem.W.mg_of X G a_law_draw
    F_law_tape := fun_mk (st := s_law_tape) l_law_tape c_law_tape k_law_tape
    b_law_tape := (fun_mk (st := s_law_tape) l_law_tape c_law_tape k_law_tape).binds (ps := ["script"]) fun _ _ _ _ _ _ us hl => match us, hl with | [_], _ => rfl
    g_law_tape := PySem.W.mg_of X G a_law_tape
    F_law_mod := fun_mk (st := s_law_mod) l_law_mod c_law_mod k_law_mod
    b_law_mod := (fun_mk (st := s_law_mod) l_law_mod c_law_mod k_law_mod).binds (ps := ["a", "n"]) fun _ _ _ _ _ _ us hl => match us, hl with | [_, _], _ => rfl
    g_law_mod := PySem.W.mg_of X G a_law_mod
    F_law_leap := fun_mk (st := s_law_leap) l_law_leap c_law_leap k_law_leap
    b_law_leap := (fun_mk (st := s_law_leap) l_law_leap c_law_leap k_law_leap).binds (ps := ["calendar", "y"]) fun _ _ _ _ _ _ us hl => match us, hl with | [_, _], _ => rfl
    g_law_leap := PySem.W.mg_of X G a_law_leap
    F_law_length := fun_mk (st := s_law_length) l_law_length c_law_length k_law_length
    b_law_length := (fun_mk (st := s_law_length) l_law_length c_law_length k_law_length).binds (ps := ["calendar", "m"]) fun _ _ _ _ _ _ us hl => match us, hl with | [_, _], _ => rfl
    g_law_length := PySem.W.mg_of X G a_law_length
    F_law_year_first := fun_mk (st := s_law_year_first) l_law_year_first c_law_year_first k_law_year_first
    b_law_year_first := (fun_mk (st := s_law_year_first) l_law_year_first c_law_year_first k_law_year_first).binds (ps := ["calendar", "y"]) fun _ _ _ _ _ _ us hl => match us, hl with | [_, _], _ => rfl
    g_law_year_first := PySem.W.mg_of X G a_law_year_first
    F_law_month_at := fun_mk (st := s_law_month_at) l_law_month_at c_law_month_at k_law_month_at
    b_law_month_at := (fun_mk (st := s_law_month_at) l_law_month_at c_law_month_at k_law_month_at).binds (ps := ["calendar", "day"]) fun _ _ _ _ _ _ us hl => match us, hl with | [_, _], _ => rfl
    g_law_month_at := PySem.W.mg_of X G a_law_month_at
    F_law_digits := fun_mk (st := s_law_digits) l_law_digits c_law_digits k_law_digits
    b_law_digits := (fun_mk (st := s_law_digits) l_law_digits c_law_digits k_law_digits).binds (ps := ["n", "many"]) fun _ _ _ _ _ _ us hl => match us, hl with | [_, _], _ => rfl
    g_law_digits := PySem.W.mg_of X G a_law_digits
    F_law_day_word := fun_mk (st := s_law_day_word) l_law_day_word c_law_day_word k_law_day_word
    b_law_day_word := (fun_mk (st := s_law_day_word) l_law_day_word c_law_day_word k_law_day_word).binds (ps := ["day"]) fun _ _ _ _ _ _ us hl => match us, hl with | [_], _ => rfl
    g_law_day_word := PySem.W.mg_of X G a_law_day_word
    F_law_changed := fun_mk (st := s_law_changed) l_law_changed c_law_changed k_law_changed
    b_law_changed := (fun_mk (st := s_law_changed) l_law_changed c_law_changed k_law_changed).binds (ps := ["tape", "word"]) fun _ _ _ _ _ _ us hl => match us, hl with | [_, _], _ => rfl
    g_law_changed := PySem.W.mg_of X G a_law_changed
    F_law_refused := fun_mk (st := s_law_refused) l_law_refused c_law_refused k_law_refused
    b_law_refused := (fun_mk (st := s_law_refused) l_law_refused c_law_refused k_law_refused).binds (ps := ["day"]) fun _ _ _ _ _ _ us hl => match us, hl with | [_], _ => rfl
    g_law_refused := PySem.W.mg_of X G a_law_refused
    F_law_place := fun_mk (st := s_law_place) l_law_place c_law_place k_law_place
    b_law_place := (fun_mk (st := s_law_place) l_law_place c_law_place k_law_place).binds (ps := ["text"]) fun _ _ _ _ _ _ us hl => match us, hl with | [_], _ => rfl
    g_law_place := PySem.W.mg_of X G a_law_place
    F_law := fun_mk (st := s_law) l_law c_law k_law
    b_law := (fun_mk (st := s_law) l_law c_law k_law).binds (ps := ["script"]) fun _ _ _ _ _ _ us hl => match us, hl with | [_], _ => rfl
    g_law := PySem.W.mg_of X G a_law
    r_BadText := r_BadText
    t_BadText := t_BadText
    k_BadText := k_BadText
    g_BadText := PySem.W.mg_of X G aC_BadText
    x_BadText := ⟨⟨nm_BadText, q_BadText, N_BadText, bs_BadText, _, sn_BadText, sub_BadText, ab_BadText, col_BadText, dd_BadText, m0_BadText, m1_BadText, m2_BadText, m3_BadText, m5_BadText, xL_BadText, rfl⟩, sa_BadText, r_BadText, t_BadText, k_BadText⟩
    y_BadText := ⟨ga_BadText, gg_BadText, r_BadText, hd_BadText⟩
    i_BadText := a_BadText_init
    u_BadText := tf_BadText
    n_BadText_line := n_BadText_line
    n_BadText_word := n_BadText_word
    r_BadDate := r_BadDate
    t_BadDate := t_BadDate
    k_BadDate := k_BadDate
    g_BadDate := PySem.W.mg_of X G aC_BadDate
    x_BadDate := xI_BadDate
    e_BadText_BadText := exm_sub r_BadText ic_BadText t_BadText s_BadText_BadText
    e_BadDate_BadDate := exm_sub r_BadDate ic_BadDate t_BadDate s_BadDate_BadDate
    g_DaysError := PySem.W.mg_of X G aC_DaysError
    B_DaysError := ⟨rd_DaysError, gs_DaysError, fc_DaysError⟩
    z_len := PySem.W.mg_none_of X G z_len
    z_int := PySem.W.mg_none_of X G z_int
    z_str := PySem.W.mg_none_of X G z_str
    z_list := PySem.W.mg_none_of X G z_list
    z_range := PySem.W.mg_none_of X G z_range
    z_divmod := PySem.W.mg_none_of X G z_divmod
    z_all := PySem.W.mg_none_of X G z_all
    g_LENGTHS := PySem.W.mg_of X G g_LENGTHS
    h_LENGTHS := fun H => sqT_of h_LENGTHS hs_LENGTHS
    g_BEFORE := PySem.W.mg_of X G g_BEFORE
    h_BEFORE := fun H => sqT_of h_BEFORE hs_BEFORE
    g_CYCLE_MONTHS := ⟨_, PySem.W.mg_of X G g_CYCLE_MONTHS, _, rfl⟩
    g_CYCLE_DAYS := ⟨_, PySem.W.mg_of X G g_CYCLE_DAYS, _, rfl⟩
    g_YEAR_MOST := ⟨_, PySem.W.mg_of X G g_YEAR_MOST, _, rfl⟩
    g_DIGITS := ⟨_, PySem.W.mg_of X G g_DIGITS, _, rfl⟩ }
  exact ⟨_, fun s v => .of_eq rfl, fun base _ _ => ok_law T⟩

end Q
open PySem PySem.W PyProof.Rows in
set_option maxRecDepth 100000 in
set_option maxHeartbeats 0 in
theorem PySem.Challenge.cw_everdays_k75_words_of_days_and_minutes_holds : PySem.Challenge.rw_everdays_k75_words_of_days_and_minutes.Holds := by
  w_on; o_law; k_head; (case hw => w_witness2)
  k_fill
  refine L2.walk_of (l := PySem.Challenge.rw_everdays_k75_words_of_days_and_minutes) (n := 63) (k := 9) (x := "script") (CX := fun _ => L2.CX0) (sp := fun w => Q.sp_law _) rfl (by decide) rfl ⟨rfl, by decide, by decide⟩ (fun w h Y => PySem.W.kIn_of Y) ?F (fun _ _ a ns hl _ hS => ⟨a, ns, rfl, hS, hl, fun _ => rfl⟩) (fun _ _ _ _ _ h => h)
  case F =>
    intro w mg fa h KX G hmg
    refine' Q.all_mk KX G hmg ?a_BadText_init ?l_BadText_init ?c_BadText_init ?k_BadText_init ?i_BadText_init ?a_is_leap ?l_is_leap ?c_is_leap ?k_is_leap ?a_year_of_month ?l_year_of_month ?c_year_of_month ?k_year_of_month ?a_month_length ?l_month_length ?c_month_length ?k_month_length ?a_first_day ?l_first_day ?c_first_day ?k_first_day ?a_month_of ?l_month_of ?c_month_of ?k_month_of ?a_day_of ?l_day_of ?c_day_of ?k_day_of ?a_date_of ?l_date_of ?c_date_of ?k_date_of ?a_padded ?l_padded ?c_padded ?k_padded ?a_day_text ?l_day_text ?c_day_text ?k_day_text ?a_all_digits ?l_all_digits ?c_all_digits ?k_all_digits ?a_read_day_word ?l_read_day_word ?c_read_day_word ?k_read_day_word ?a_minute_text ?l_minute_text ?c_minute_text ?k_minute_text ?a_read_minute_word ?l_read_minute_word ?c_read_minute_word ?k_read_minute_word ?a_read_day ?l_read_day ?c_read_day ?k_read_day ?a_law_draw ?l_law_draw ?c_law_draw ?k_law_draw ?a_law_tape ?l_law_tape ?c_law_tape ?k_law_tape ?a_law_mod ?l_law_mod ?c_law_mod ?k_law_mod ?a_law_leap ?l_law_leap ?c_law_leap ?k_law_leap ?a_law_length ?l_law_length ?c_law_length ?k_law_length ?a_law_year_first ?l_law_year_first ?c_law_year_first ?k_law_year_first ?a_law_month_at ?l_law_month_at ?c_law_month_at ?k_law_month_at ?a_law_digits ?l_law_digits ?c_law_digits ?k_law_digits ?a_law_day_word ?l_law_day_word ?c_law_day_word ?k_law_day_word ?a_law_changed ?l_law_changed ?c_law_changed ?k_law_changed ?a_law_refused ?l_law_refused ?c_law_refused ?k_law_refused ?a_law_place ?l_law_place ?c_law_place ?k_law_place ?a_law ?l_law ?c_law ?k_law ?aC_BadText ?r_BadText ?t_BadText ?k_BadText ?ic_BadText ?xL_BadText ?sa_BadText ?ga_BadText ?gg_BadText ?hd_BadText ?tf_BadText ?n_BadText_line ?n_BadText_word ?aC_BadDate ?r_BadDate ?t_BadDate ?k_BadDate ?ic_BadDate ?xI_BadDate ?s_BadText_BadText ?s_BadDate_BadDate ?aC_DaysError ?ty_DaysError ?rd_DaysError ?gs_DaysError ?fc_DaysError ?z_len ?z_int ?z_str ?z_list ?z_range ?z_divmod ?z_all ?g_LENGTHS ?h_LENGTHS ?hs_LENGTHS ?g_BEFORE ?h_BEFORE ?hs_BEFORE ?g_CYCLE_MONTHS ?g_CYCLE_DAYS ?g_YEAR_MOST ?g_DIGITS
    (case aC_BadText => k_is)
    (case aC_BadDate => k_is)
    (case aC_DaysError => k_is)
    (case ty_DaysError => k_is)
    (case a_BadText_init => k_is)
    (case l_BadText_init => k_is)
    (case c_BadText_init => k_is)
    (case k_BadText_init => k_is)
    (case i_BadText_init => k_is)
    (case a_is_leap => k_is)
    (case l_is_leap => k_is)
    (case c_is_leap => k_is)
    (case k_is_leap => k_is)
    (case a_year_of_month => k_is)
    (case l_year_of_month => k_is)
    (case c_year_of_month => k_is)
    (case k_year_of_month => k_is)
    (case a_month_length => k_is)
    (case l_month_length => k_is)
    (case c_month_length => k_is)
    (case k_month_length => k_is)
    (case a_first_day => k_is)
    (case l_first_day => k_is)
    (case c_first_day => k_is)
    (case k_first_day => k_is)
    (case a_month_of => k_is)
    (case l_month_of => k_is)
    (case c_month_of => k_is)
    (case k_month_of => k_is)
    (case a_day_of => k_is)
    (case l_day_of => k_is)
    (case c_day_of => k_is)
    (case k_day_of => k_is)
    (case a_date_of => k_is)
    (case l_date_of => k_is)
    (case c_date_of => k_is)
    (case k_date_of => k_is)
    (case a_padded => k_is)
    (case l_padded => k_is)
    (case c_padded => k_is)
    (case k_padded => k_is)
    (case a_day_text => k_is)
    (case l_day_text => k_is)
    (case c_day_text => k_is)
    (case k_day_text => k_is)
    (case a_all_digits => k_is)
    (case l_all_digits => k_is)
    (case c_all_digits => k_is)
    (case k_all_digits => k_is)
    (case a_read_day_word => k_is)
    (case l_read_day_word => k_is)
    (case c_read_day_word => k_is)
    (case k_read_day_word => k_is)
    (case a_minute_text => k_is)
    (case l_minute_text => k_is)
    (case c_minute_text => k_is)
    (case k_minute_text => k_is)
    (case a_read_minute_word => k_is)
    (case l_read_minute_word => k_is)
    (case c_read_minute_word => k_is)
    (case k_read_minute_word => k_is)
    (case a_read_day => k_is)
    (case l_read_day => k_is)
    (case c_read_day => k_is)
    (case k_read_day => k_is)
    (case a_law_draw => k_is)
    (case l_law_draw => k_is)
    (case c_law_draw => k_is)
    (case k_law_draw => k_is)
    (case a_law_tape => k_is)
    (case l_law_tape => k_is)
    (case c_law_tape => k_is)
    (case k_law_tape => k_is)
    (case a_law_mod => k_is)
    (case l_law_mod => k_is)
    (case c_law_mod => k_is)
    (case k_law_mod => k_is)
    (case a_law_leap => k_is)
    (case l_law_leap => k_is)
    (case c_law_leap => k_is)
    (case k_law_leap => k_is)
    (case a_law_length => k_is)
    (case l_law_length => k_is)
    (case c_law_length => k_is)
    (case k_law_length => k_is)
    (case a_law_year_first => k_is)
    (case l_law_year_first => k_is)
    (case c_law_year_first => k_is)
    (case k_law_year_first => k_is)
    (case a_law_month_at => k_is)
    (case l_law_month_at => k_is)
    (case c_law_month_at => k_is)
    (case k_law_month_at => k_is)
    (case a_law_digits => k_is)
    (case l_law_digits => k_is)
    (case c_law_digits => k_is)
    (case k_law_digits => k_is)
    (case a_law_day_word => k_is)
    (case l_law_day_word => k_is)
    (case c_law_day_word => k_is)
    (case k_law_day_word => k_is)
    (case a_law_changed => k_is)
    (case l_law_changed => k_is)
    (case c_law_changed => k_is)
    (case k_law_changed => k_is)
    (case a_law_refused => k_is)
    (case l_law_refused => k_is)
    (case c_law_refused => k_is)
    (case k_law_refused => k_is)
    (case a_law_place => k_is)
    (case l_law_place => k_is)
    (case c_law_place => k_is)
    (case k_law_place => k_is)
    (case a_law => k_is)
    (case l_law => k_is)
    (case c_law => k_is)
    (case k_law => k_is)
    (case r_BadText => k_is)
    (case t_BadText => k_is)
    (case k_BadText => k_is)
    (case ic_BadText => k_is)
    (case xL_BadText => k_is)
    (case sa_BadText => k_is)
    (case ga_BadText => k_is)
    (case gg_BadText => k_is)
    (case hd_BadText => k_is)
    (case tf_BadText => k_is)
    (case n_BadText_line => k_is)
    (case n_BadText_word => k_is)
    (case r_BadDate => k_is)
    (case t_BadDate => k_is)
    (case k_BadDate => k_is)
    (case ic_BadDate => k_is)
    (case xI_BadDate => k_exc)
    (case s_BadText_BadText => first | rfl | k_is)
    (case s_BadDate_BadDate => first | rfl | k_is)
    (case rd_DaysError => k_is)
    (case gs_DaysError => k_is)
    (case fc_DaysError => k_is)
    (case z_len => k_is)
    (case z_int => k_is)
    (case z_str => k_is)
    (case z_list => k_is)
    (case z_range => k_is)
    (case z_divmod => k_is)
    (case z_all => k_is)
    (case g_LENGTHS => k_is)
    (case h_LENGTHS => k_is)
    (case hs_LENGTHS => first | rfl | decide +kernel | k_is)
    (case g_BEFORE => k_is)
    (case h_BEFORE => k_is)
    (case hs_BEFORE => first | rfl | decide +kernel | k_is)
    (case g_CYCLE_MONTHS => k_is)
    (case g_CYCLE_DAYS => k_is)
    (case g_YEAR_MOST => k_is)
    (case g_DIGITS => k_is)

