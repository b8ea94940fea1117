import PyProof.Rows.All
import Wide.All
import OpenK.AllK
import Wide.FinOn
import HandS.ForMost
import HandS.Style
import HandS.ExcOwn
import HandS.Exc
import HandS.TryMany
import HandS.ExcInit
import HandS.ExcField
import HandS.WordsExc
import HandS.Conv
import HandS.Codes
import HandS.FStr
import HandS.TryOnly
import HandS.Walk
import HandS.Iter
import HandS.Strs
import HandS.Text
import HandS.SetFor
import HandS.Deep
import HandS.OwnEq
import KE.DataMinMax
import HandS.FStrTup
import HandS.IsInst
import HandS.AnyAll
import PySem.Challenge.RW_everdays_k89_polls
set_option Elab.async false
set_option linter.all false
set_option maxRecDepth 100000
set_option maxHeartbeats 4000000
namespace Q
open PySem PySem.Spec PyProof.Rows L2
theorem op_fdivE {X : Cx} : OpR X (binaryOp .FloorDiv) (rI CDiv fun i j => .int (i / j)) := op_fdiv
theorem op_modE {X : Cx} : OpR X (binaryOp .Mod) (rI (fun _ j => 0 < j) fun i j => .int (i % j)) := op_mod
theorem cmul_r {i j : Int} (h1 : -(2 ^ 64) < j) (h2 : j < 2 ^ 64) : CMul i j := .inr ⟨h1, h2⟩
theorem cmul_l {i j : Int} (h1 : -(2 ^ 64) < i) (h2 : i < 2 ^ 64) : CMul i j := .inl ⟨h1, h2⟩
theorem iteK {c A B : Prop} {inst : Decidable c} (h1 : c → A) (h2 : ¬ c → B) : if decide c = true then A else B := by
  by_cases h : c
  · rw [if_pos (decide_eq_true h)]; exact h1 h
  · rw [if_neg (by simpa using h)]; exact h2 h
theorem ite_y {c : Bool} {A B : Prop} (hc : c = true) (h : A) : if c = true then A else B := by
  rw [if_pos hc]; exact h
theorem ite_n {c : Bool} {A B : Prop} (hc : c = false) (h : B) : if c = true then A else B := by
  rw [if_neg (by rw [hc]; decide)]; exact h
end Q
namespace Q
open PySem PySem.Spec PyProof.Rows L2
section
variable {K : PySem.W.Frag} {σ : L2.St} {H H' : Hp} {i j : Nat} {v x y z : V} {Q : VK} {R : Bool → Hp → Prop} {ta tb te : TE} {D : Ends} {t u : TS} {p : Addr} {xs : List V}
theorem red {σ' : L2.St} (e : σ = σ') (h : t D σ' H) : t D σ H := e ▸ h
theorem g_var (h : σ[i]? = some (some v)) (q : Q v H) : tVar i σ H Q := ⟨v, h, q⟩
theorem g_c (q : Q v H) : tC v σ H Q := q
theorem g_op {r : R2} (q : ta σ H fun x H1 => tb σ H1 fun y H2 => r x y H2 Q) : tOp r ta tb σ H Q := q
theorem g_un {r : V → Hp → VK → Prop} (q : ta σ H fun x H1 => r x H1 Q) : tUn r ta σ H Q := q
theorem g_tt (q : te σ H fun x H' => ∃ k, x = .bl k ∧ R k H') : tTest te σ H R := q
theorem g_tB (q : te σ H fun x H' => ∃ k, x = .bl k ∧ R k H') : tB te σ H R := q
theorem g_ifs {c : TT} (q : c σ H fun b H1 => if b = true then t D σ H1 else u D σ H1) : tIfS c t u D σ H := q
theorem g_seq (q : t { D with nx := u D } σ H) : tSeq t u D σ H := q
theorem g_next (q : D.nx σ H) : tNext D σ H := q
theorem g_asg {g : TG} (q : te σ H fun x H1 => g x σ H1 D.nx) : tAsg te g D σ H := q
theorem g_name {R : L2.St → Hp → Prop} (q : R (σ.set i (some v)) H) : gName i v σ H R := q
theorem g_ret (q : te σ H D.rt) : tRet te D σ H := q
theorem g_drop (q : te σ H fun _ H1 => D.nx σ H1) : tDrop te D σ H := q
theorem g_nil {R : List V → Hp → Prop} (q : R [] H) : tNil σ H R := q
theorem g_cons {tr : TA} {R : List V → Hp → Prop} (q : te σ H fun x H1 => tr σ H1 fun xs H2 => R (x :: xs) H2) : tCons te tr σ H R := q
theorem g_cb {r : List V → Hp → VK → Prop} {ta : TA} (q : ta σ H fun vs H1 => r vs H1 Q) : tCB r ta σ H Q := q
theorem g_sub {to ti : TE} {ts : TSet} {R : L2.St → Hp → Prop} (q : to σ H fun o H1 => ti σ H1 fun i H2 => ts o i v H2 fun H3 => R σ H3) : gSub to ti ts v σ H R := q
theorem g_call {sp : Sp} {dvs : List V} {E : XK} {ta : TA} (q : ta σ H fun vs H1 => sp (vs ++ dvs) H1 Q E) : tCall sp dvs E ta σ H Q := q
theorem g_if {c : TT} (q : c σ H fun b H1 => if b = true then ta σ H1 Q else tb σ H1 Q) : tIf c ta tb σ H Q := q
theorem g_and {c d : TT} (q : c σ H fun b H1 => if b = true then d σ H1 R else R false H1) : tAnd c d σ H R := q
theorem g_or {c d : TT} (q : c σ H fun b H1 => if b = true then R true H1 else d σ H1 R) : tOr c d σ H R := q
theorem g_not {c : TT} (q : c σ H fun b H1 => R (!b) H1) : tNot c σ H R := q
theorem g_tup {ta : TA} (q : ta σ H fun xs H1 => xs.length ≤ sizeLine ∧ ∀ p, H1 p = none → Q (.ref p) (upd H1 p (.tup xs))) : tTup ta σ H Q := q
theorem g_lst {ta : TA} (q : ta σ H fun xs H1 => xs.length ≤ sizeLine ∧ ∀ p, H1 p = none → Q (.ref p) (upd H1 p (.lst xs))) : tLst ta σ H Q := q
theorem g_vei {ta : TA} (q : ta σ H fun vs H1 => ∃ (a C : Addr) (ws : List V), vs = .ref a :: ws ∧ ws.length ≤ 1000 ∧ OexC K C ∧ H1 a = some (exo a C none) ∧ Q .non H1) : tVeI K ta σ H Q := q
theorem g_jc {t : TE} {ts : List TE} {acc : Str} {R : Str → Hp → Prop} (q : t σ H fun x H1 => ∃ y : Str, x = .str y ∧ (acc ++ y).length ≤ sizeLine ∧ tJs ts (acc ++ y) σ H1 R) : tJs (t :: ts) acc σ H R := q
theorem g_jn {acc : Str} {R : Str → Hp → Prop} (q : R acc H) : tJs [] acc σ H R := q
theorem g_fmt (q : te σ H fun x H1 => (∃ y : Str, x = .str y ∧ y.length ≤ sizeLine ∧ Q (.str y) H1) ∨ ∃ i : Int, x = .int i ∧ i.natAbs.log2 < 1920 ∧ Q (.str (toString i)) H1) : tFmt te σ H Q := q
theorem g_ost {f : Str} {to : TE} (q : te σ H fun y H1 => to σ H1 fun x H2 => ∃ a C : Addr, x = .ref a ∧ OexC K C ∧ PySem.W.findIn K (.ref C) f = some none ∧
  ((H2 a = some (exo a C none) ∧ ∀ dx, H2 dx = none → dx ≠ a → D.nx σ (upd (upd H2 dx (exd dx [(f, y)])) a (exo a C (some dx)))) ∨
    ∃ (dx : Addr) (fs : List (Str × V)), H2 a = some (exo a C (some dx)) ∧ H2 dx = some (exd dx fs) ∧ fs.length ≤ 900 ∧ D.nx σ (upd H2 dx (exd dx ((f, y) :: fs))))) : tOst K f to te D σ H := q
theorem g_mko {C : Addr} {sp : Sp} {dvs : List V} {ta : TA} {R : XK} (q : ta σ H fun vs H1 => vs.length ≤ 1000 ∧ ∀ a, H1 a = none → sp (.ref a :: (vs ++ dvs)) (upd H1 a (exo a C none))
  (fun v H2 => v = .non ∧ ∃ (d : Addr) (fs : List (Str × V)), H2 a = some (exo a C (some d)) ∧ H2 d = some (exd d fs) ∧ H1 d = none ∧ R (.ref C) (some d) (upd (del H2 a) d (.xd fs))) (fun _ _ _ => False)) : tMkO C sp dvs ta σ H R := q
theorem g_fld {f : Str} (q : ta σ H fun x H1 => ∃ a C dx fs v, x = .ref a ∧ H1 a = some (.ins C dx fs) ∧ Cls K C ∧ NoAttr K C f ∧ fs.lookup f = some v ∧ Q v H1) : tFld K ta f σ H Q := q
theorem g_sfld {f : Str} {tv : TE} (q : tv σ H fun y H1 => ta σ H1 fun x H2 => ∃ a C dx fs, x = .ref a ∧ H2 a = some (.ins C dx fs) ∧ Cls K C ∧ NoAttr K C f ∧ fs.length < 1000 ∧ D.nx σ (upd H2 a (.ins C dx (putF f y fs)))) : sFld K ta tv f D σ H := q
theorem g_meth {C : Addr} {m : Str} {sp : Sp} {dvs : List V} {E : XK} {tr : TA} (q : ta σ H fun x H1 => ∃ a dx fs, x = .ref a ∧ H1 a = some (.ins C dx fs) ∧ fs.lookup m = none ∧ tr σ H1 fun vs H2 => sp (x :: (vs ++ dvs)) H2 Q E) : tMeth C m sp dvs E ta tr σ H Q := q
theorem g_make {C : Addr} {sp : Sp} {dvs : List V} {E : XK} {tr : TA} (q : tr σ H fun vs H1 => ∀ x dx, H1 x = none → H1 dx = none → dx ≠ x → sp (.ref x :: (vs ++ dvs)) (upd (upd H1 dx (.own x)) x (.ins C dx [])) (fun v H2 => v = .non ∧ Q (.ref x) H2) E) : tMake C sp dvs E tr σ H Q := q
theorem g_ofld {f : Str} {C dx : Addr} {fs : List (Str × V)} (h : H p = some (.ins C dx fs)) (c : Cls K C) (n : NoAttr K C f) (l : fs.lookup f = some v) {R : V → Prop} (q : R v) : ∃ a C dx fs v, V.ref p = .ref a ∧ H a = some (.ins C dx fs) ∧ Cls K C ∧ NoAttr K C f ∧ fs.lookup f = some v ∧ R v := ⟨p, C, dx, fs, v, rfl, h, c, n, l, q⟩
theorem g_omet {m : Str} {C dx : Addr} {fs : List (Str × V)} (h : H p = some (.ins C dx fs)) (l : fs.lookup m = none) {R : Prop} (q : R) : ∃ a dx fs, V.ref p = .ref a ∧ H a = some (.ins C dx fs) ∧ fs.lookup m = none ∧ R := ⟨p, dx, fs, rfl, h, l, q⟩
theorem g_dget {td ty : TE} (q : td σ H fun x H1 => ty σ H1 fun y H2 => ∃ a v, x = .ref a ∧ DGet H2 a y (some v) ∧ Q v H2) : tDGet td ty σ H Q := q
theorem g_din {td ty : TE} (q : ty σ H fun y H1 => td σ H1 fun x H2 => ∃ a o, x = .ref a ∧ DGet H2 a y o ∧ Q (.bl o.isSome) H2) : tDIn ty td σ H Q := q
theorem g_dni {td ty : TE} (q : ty σ H fun y H1 => td σ H1 fun x H2 => ∃ a o, x = .ref a ∧ DGet H2 a y o ∧ Q (.bl (!o.isSome)) H2) : tDNotIn ty td σ H Q := q
theorem g_dput {td ty tv : TE} (q : tv σ H fun v H1 => td σ H1 fun x H2 => ty σ H2 fun y H3 => ∃ a H4, x = .ref a ∧ DPut H3 a y v H4 ∧ D.nx σ H4) : sDPut td ty tv D σ H := q
theorem g_dg1 {td ty : TE} (q : td σ H fun x H1 => ∃ a, x = .ref a ∧ IsD H1 a ∧ ty σ H1 fun y H2 => ∃ o, DGet H2 a y o ∧ Q (o.getD .non) H2) : tDGet1 td ty σ H Q := q
theorem g_dg2 {td ty tx : TE} (q : td σ H fun x H1 => ∃ a, x = .ref a ∧ IsD H1 a ∧ ty σ H1 fun y H2 => tx σ H2 fun z H3 => ∃ o, DGet H3 a y o ∧ Q (o.getD z) H3) : tDGet2 td ty tx σ H Q := q
theorem g_or2 {c d : TE} (q : c σ H fun x H1 => ∃ k, x = .bl k ∧ if k = true then Q (.bl true) H1 else d σ H1 Q) : tOrV c d σ H Q := q
theorem g_an2 {c d : TE} (q : c σ H fun x H1 => ∃ k, x = .bl k ∧ if k = true then d σ H1 Q else Q (.bl false) H1) : tAndV c d σ H Q := q
theorem g_no2 {c : TE} (q : c σ H fun x H1 => ∃ k, x = .bl k ∧ Q (.bl (!k)) H1) : tNotV c σ H Q := q
theorem g_I0 {g : Int → Int → V} {m n : Int} (q : Q (g m n) H) : rI0 g (.int m) (.int n) H Q := ⟨m, n, rfl, rfl, q⟩
theorem g_I {C : Int → Int → Prop} {g : Int → Int → V} {m n : Int} (c : C m n) (q : Q (g m n) H) : rI C g (.int m) (.int n) H Q := ⟨m, n, rfl, rfl, c, q⟩
theorem g_U {g : Int → V} {m : Int} (q : Q (g m) H) : rU g (.int m) H Q := ⟨m, rfl, q⟩
theorem g_eq (c : scal x y = true) (q : Q (.bl (decide (x = y))) H) : rEq x y H Q := ⟨c, q⟩
theorem g_ne (c : scal x y = true) (q : Q (.bl (!decide (x = y))) H) : rNe x y H Q := ⟨c, q⟩
theorem g_ixL {n : Int} (h : SqL K H p xs) (a : atI xs n = some v) (q : Q v H) : rIxL K (.ref p) (.int n) H Q := ⟨p, xs, n, v, rfl, rfl, h, a, q⟩
theorem g_ixT {n : Int} (h : SqT K H p xs) (a : atI xs n = some v) (q : Q v H) : rIxT K (.ref p) (.int n) H Q := ⟨p, xs, n, v, rfl, rfl, h, a, q⟩
theorem g_setL {n : Int} (h : H p = some (.lst xs)) (a : ixN xs.length n = some j) {Q : Hp → Prop} (q : Q (upd H p (.lst (xs.set j v)))) : rSetL (.ref p) (.int n) v H Q := ⟨p, xs, n, j, rfl, rfl, h, a, q⟩
theorem g_test {b : Bool} {R : Bool → Prop} (q : R b) : (∃ k, V.bl b = .bl k ∧ R k) := ⟨b, rfl, q⟩
theorem g_int1 {n : Int} {R : Int → Prop} {S : Bool → Prop} (q : R n) : (∃ i, [V.int n] = [V.int i] ∧ R i) ∨ (∃ k, [V.int n] = [V.bl k] ∧ S k) := .inl ⟨n, rfl, q⟩
theorem g_bl1 {b : Bool} {R : Int → Prop} {S : Bool → Prop} (q : S b) : (∃ i, [V.bl b] = [V.int i] ∧ R i) ∨ (∃ k, [V.bl b] = [V.bl k] ∧ S k) := .inr ⟨b, rfl, q⟩
theorem g_lenL {R : List V → Prop} (h : SqL K H p xs) (q : R xs) : ∃ p' ys, [V.ref p] = [V.ref p'] ∧ (SqL K H p' ys ∨ SqT K H p' ys) ∧ R ys := ⟨p, xs, rfl, .inl h, q⟩
theorem g_lenT {R : List V → Prop} (h : SqT K H p xs) (q : R xs) : ∃ p' ys, [V.ref p] = [V.ref p'] ∧ (SqL K H p' ys ∨ SqT K H p' ys) ∧ R ys := ⟨p, xs, rfl, .inr h, q⟩
end
section
variable {K : PySem.W.Frag} {σ : L2.St} {H : Hp} {te : TE} {ta : TA} {wi : TI} {g : TG} {gs : TGs} {tt : TT} {tb t : TS} {D : Ends} {Q : VK} {R : It → Hp → Prop} {v : V}
theorem g_itup (q : te σ H fun x H1 => ∃ a, x = .ref a ∧ (∃ xs, SqT K H1 a xs) ∧ R (Itt K a) H1) : iTup K te σ H R := q
theorem g_ilist (q : te σ H fun x H1 => ∃ a, x = .ref a ∧ (∃ xs, SqL K H1 a xs) ∧ R (Itl K a) H1) : iList K te σ H R := q
theorem g_ikeys (q : te σ H fun x H1 => ∃ d o, x = .ref d ∧ ((∃ kvs, H1 d = some (.frz o (.dK kvs)) ∧ R (Itk d o kvs) H1) ∨ ∃ kvs, H1 d = some (.frz o (.dT kvs)) ∧ R (Itkt d o kvs) H1)) : iKeys te σ H R := q
theorem g_irng1 (q : ta σ H fun vs H1 => ∃ j : Int, vs = [.int j] ∧ -(2 ^ 62) ≤ j ∧ j < 2 ^ 62 ∧ R (Itr 0 j.toNat) H1) : iRng1 ta σ H R := q
theorem g_irng2 (q : ta σ H fun vs H1 => ∃ i j : Int, vs = [.int i, .int j] ∧ (-(2 ^ 62) ≤ i ∧ i < 2 ^ 62 ∧ -(2 ^ 62) ≤ j ∧ j < 2 ^ 62) ∧ R (Itr i (j - i).toNat) H1) : iRng2 ta σ H R := q
theorem g_for (q : wi σ H fun J H1 => ∃ W : Nat → Nat → L2.St → Hp → Prop, (∃ m, W 0 m σ H1) ∧ ∀ i m σ H, W i m σ H →
  (J.stop i H ∧ D.nx σ H) ∨ (J.go i H ∧ ∃ N : L2.St → Hp → Prop, (∀ σ' H', N σ' H' → ∃ m', m' < m ∧ W (i + 1) m' σ' H') ∧ ∀ x H', J.yld i H x H' → g x σ H' fun σ2 H2 => tb { D with nx := N, ct := N, bk := D.nx } σ2 H2)) : tFor wi g tb D σ H := q
theorem g_lc {vs : List Nat} (q : wi σ H fun J H1 => ∀ D, H1 D = none → ∃ W : Nat → Nat → Hp → Prop, (∃ m, W 0 m (upd H1 D (.lst []))) ∧ ∀ i m H, W i m H →
  (J.stop i H ∧ Q (.ref D) H) ∨ (J.go i H ∧ ∃ Nx : Hp → Prop, (∀ H', Nx H' → ∃ m', m' < m ∧ W (i + 1) m' H') ∧ ∀ x H', J.yld i H x H' → g x (wipe σ vs) H' fun σ2 H2 => wipe σ2 vs = wipe σ vs ∧ tt σ2 H2 fun b H3 =>
    if b = true then te σ2 H3 fun y H4 => ∃ acc, H4 D = some (.lst acc) ∧ acc.length < sizeLine ∧ Nx (upd H4 D (.lst (acc ++ [y]))) else Nx H3)) : tLc wi g tt te vs σ H Q := q
theorem g_lock (q : ∃ d u, H d = some u ∧ Mut (some u) ∧ ∀ od, t ⟨fun σ' H' => H' d = some (.frz od u) ∧ D.nx σ' (upd H' d u), fun v H' => H' d = some (.frz od u) ∧ D.rt v (upd H' d u), fun σ' H' => H' d = some (.frz od u) ∧ D.bk σ' (upd H' d u), fun σ' H' => H' d = some (.frz od u) ∧ D.ct σ' (upd H' d u)⟩ σ (upd H d (.frz od u))) : tLock t D σ H := q
theorem g_gtup {n : Nat} {R : L2.St → Hp → Prop} (q : ∃ a xs, v = .ref a ∧ SqT K H a xs ∧ xs.length = n ∧ gs xs σ H R) : gTup K n gs v σ H R := q
theorem g_gcons {vs : List V} {R : L2.St → Hp → Prop} (q : g v σ H fun σ' H' => gs vs σ' H' R) : gCons g gs (v :: vs) σ H R := ⟨v, vs, rfl, q⟩
theorem g_gnil {R : L2.St → Hp → Prop} (q : R σ H) : gNil [] σ H R := ⟨rfl, q⟩
theorem g_sl {r : V → Option Int → Option Int → Hp → VK → Prop} {tl th : TO} (q : te σ H fun x H1 => tl σ H1 fun l H2 => th σ H2 fun u H3 => r x l u H3 Q) : tSl r te tl th σ H Q := q
theorem g_npart {R : Option Int → Hp → Prop} (q : R none H) : tNoPart σ H R := q
theorem g_part {R : Option Int → Hp → Prop} (q : te σ H fun x H1 => ∃ i, x = .int i ∧ R (some i) H1) : tPart te σ H R := q
theorem g_dnt (q : ∀ p, H p = none → Q (.ref p) (upd H p (.dT []))) : tDNewT σ H Q := q
theorem g_dnk (q : ∀ p, H p = none → Q (.ref p) (upd H p (.dK []))) : tDNewK σ H Q := q
theorem g_yes {R : Bool → Hp → Prop} (q : R true H) : tYes σ H R := q
theorem g_par {i j : Nat} (q : ta σ H fun vs H1 => ∃ v w, vs = [v, w] ∧ D.nx ((σ.set i (some v)).set j (some w)) H1) : tPar i j ta D σ H := q
theorem g_par3 {i j l : Nat} (q : ta σ H fun vs H1 => ∃ u v w, vs = [u, v, w] ∧ D.nx (((σ.set i (some u)).set j (some v)).set l (some w)) H1) : tPar3 i j l ta D σ H := q
theorem g_calls {sp : Sp} {E : L2.St → XK} (q : ta σ H fun vs H1 => sp vs H1 Q (E σ)) : tCallS sp E ta σ H Q := q
end
end Q
namespace Q
open PySem PySem.Spec PyProof.Rows L2
/-- what the written part says of a class of the program whose __init__ is ValueError's own, read off the class: D.__init__ -/
structure BaseInit (K : PySem.W.Frag) (D : Addr) (mc : Value) : Prop where
  rd : PySem.W.readsIn K D mc = true
  ga : PySem.W.specialIn K (.ref D) "__getattribute__" = some (some (.builtin "type.__getattribute__"))
  at_ : PySem.W.findCls K (.ref D) mc "__init__" = some (.val (.builtin "ValueError.__init__"))
/-- D.__init__(self, ..), D a class of the program: the same as ValueError.__init__ -/
theorem pe_deinit {X : Cx} {e : Expr} {es : List Expr} {ta : TA} {x : Str} {D : Addr} {mc : Value} {p1 p2 pos : PySem.Pos} {pl : Sem Bool} (hg : Gl X x) (hm : X.mg x = some (.ref D)) (B : BaseInit X.K D mc) (ha : PA X (e :: es) ta)
    (hdb : (x == ("__debug__" : Str)) = false := by decide)
    (hc : eval (.Call (.Attribute (.Name x p1) "__init__" p2) (e :: es) [] pos) X.env = (do
      let ov ← eval (.Name x p1) X.env
      standAt p2.atName
      let (f, first) ← holding [ov] (getMethod ov "__init__" pl)
      callWith pos f first (backTo pos (starEach (e :: es) X.env)) (backToKw pos (keywordEach [] X.env))) := by rfl)
    (he : starEach (e :: es) X.env = (false, eval e X.env) :: starEach es X.env := by rfl) (hpl : (backTo pos (starEach es X.env)).any (·.1) = false := by rfl) :
    PE X (.Call (.Attribute (.Name x p1) "__init__" p2) (e :: es) [] pos) (tVeI X.K ta) := by
  refine ⟨fun pins s σ H Q I h => ?_⟩
  refine PySem.W.methodCall_KW (ld_glob I hg hm ?_ hdb) hc
  refine PySem.W.method_cls I.kIn B.ga (PySem.W.cls_value I.kIn B.rd B.at_ (by decide +kernel) ?_)
  show wpAny _ _ (callWith pos (Value.builtin "ValueError.__init__") [] (backTo pos (starEach (e :: es) X.env)) []) _ _ _
  have I0 : Inv X pins σ H { s with toks := s.toks + 1 } := I.tok _
  refine PyProof.Rows.callWith_method1 (thn (ha.run pos pins _ σ H _ I0 h) fun us s1 hv => ?_) he hpl
  obtain ⟨vs, H1, I1, r1, a, C, ws, ev, hl, T, ea, q⟩ := hv
  subst ev
  cases r1 with
  | @cons _ u0 _ ur ra rw' =>
    obtain rfl : u0 = Value.ref a := ra
    have hlen : ur.length ≤ sizeLine := by
      rw [← Paired.length rw', sizeLine_eq]; omega
    exact oinit_ok T I1 ea hlen fun s' J => ⟨.non, H1, J, rfl, q⟩
end Q
namespace Q
open PySem PySem.Spec PyProof.Rows L2
/-- X(), an own exception class without own __init__ -/
theorem pmk_own0 {X : Cx} {C : Addr} {bmB : List Value} {B newId initId : String} {x : Str} {p pos : PySem.Pos} (F : ExcBaseFacts B newId initId bmB) (q : PySem.W.excIn X.K C bmB newId = true) (gC : X.mg x = some (.ref C))
    (kC : PySem.W.keepIn X.K (.ref C) = true) (r : Raises X (.ref C)) (hg : Gl X x) (hdb : (x == ("__debug__" : Str)) = false := by decide) : PMk X (.Call (.Name x p) [] [] pos) (fun _ H Q => Q (.ref C) none H) := by
  intro pins s σ H Q I h
  refine wpAny_Call_Name_kw (ld_glob I hg gC ?_ hdb)
  refine PySem.W.callWith_K0 I.kIn kC ?_
  obtain ⟨bm, N, nm, qn, bs, hdct, sn, sub, ab, col, dd, k0, k1, k2, k3, k5, mN, hC, hN, hni, T⟩ := exc_obj I.kIn q
  exact wpAny_call_exc_subT F T hC hN hni (fun h' e hm => mk_of I hm r h (I.hok.gone hm.new)) (Nat.zero_le _)
end Q
namespace Q
/-- does «except D» take an error of the class C -/
theorem exm_sub {K : PySem.W.Frag} {C D : PySem.Addr} {b : Bool} (h1 : PySem.W.subIn K (.ref D) (.type "BaseException") = some true) (h2 : PySem.W.isClsIn K D = true) (h3 : PySem.W.typeIn K (.ref D) = some (.type "type")) (h4 : PySem.W.subIn K (.ref C) (.ref D) = some b) :
    PySem.W.exmOne K (.ref C) (.ref D) = some b := by
  have e1 : (PySem.W.subIn K (.ref D) (.type "BaseException") == some true) = true := by rw [h1]; rfl
  have e2 : ((PySem.W.clsIn K D).isSome && PySem.W.typeIn K (.ref D) == some (.type "type")) = true := by
    have h2' : (PySem.W.clsIn K D).isSome = true := h2
    rw [h2', h3]; rfl
  show (if (PySem.W.subIn K (.ref D) (.type "BaseException") == some true) = true then (if ((PySem.W.clsIn K D).isSome && PySem.W.typeIn K (.ref D) == some (.type "type")) = true then PySem.W.subIn K (.ref C) (.ref D) else none) else none) = some b
  rw [if_pos e1, if_pos e2]
  exact h4
end Q
namespace Q
open PySem PySem.Spec PyProof.Rows L2
/-- o.m(e, ..) where what is raised is wished for at the caller's slots -/
def tMethX (C : Addr) (m : Str) (sp : Sp) (E : L2.St → XK) (ta : TE) (t : TA) : TE := fun σ H Q => ta σ H fun x H1 => ∃ a dx fs, x = .ref a ∧ H1 a = some (.ins C dx fs) ∧ fs.lookup m = none ∧ t σ H1 fun vs H2 => sp (x :: vs) H2 Q (E σ)
theorem g_methx {C : Addr} {m : Str} {sp : Sp} {E : L2.St → XK} {ta : TE} {t : TA} {σ : L2.St} {H : Hp} {Q : VK} (q : ta σ H fun x H1 => ∃ a dx fs, x = .ref a ∧ H1 a = some (.ins C dx fs) ∧ fs.lookup m = none ∧ t σ H1 fun vs H2 => sp (x :: vs) H2 Q (E σ)) : tMethX C m sp E ta t σ H Q := q
theorem pe_methX {X : Cx} {CX : CXT} {k : Nat} {f C : Addr} {fd : FuncData} {ps : List Str} {sp : Sp} {E : L2.St → XK} {m : Str} {apos pos : PySem.Pos} {e o : Expr} {es : List Expr} {ta : TE} {t : TA} {pl : Sem Bool} (he : PE X o ta) (c : Cls X.K C) (hm : Meth X.K C m f)
    (F : FnOk X.prog X.w X.K X.mg X.base CX k f fd ps sp) (hr : Room k X.A) (hb : Binds X.K fd ps []) (hx : ∀ σ, PassesAt CX X σ (E σ)) (ha : PA X (e :: es) t)
    (hst : starEach (e :: es) X.env = (false, eval e X.env) :: starEach es X.env := by rfl) (hpl : (backTo pos (starEach es X.env)).any (·.1) = false := by rfl)
    (ht : eval (.Call (.Attribute o m apos) (e :: es) [] pos) X.env = (do
      let ov ← eval o X.env
      standAt apos.atName
      let (f, first) ← holding [ov] (getMethod ov m pl)
      callWith pos f first (backTo pos (starEach (e :: es) X.env)) (backToKw pos (keywordEach [] X.env))) := by rfl) :
    PE X (.Call (.Attribute o m apos) (e :: es) [] pos) (tMethX C m sp E ta t) := by
  refine ⟨fun pins s σ H Q I h => PySem.W.methodCall_KW (pl := pl) (thn (he.run pins s σ H _ I h) fun u s1 hv => ?_) ht⟩
  obtain ⟨x, H1, I1, rx, a, dx, fs, rfl, ea, l, q⟩ := hv
  obtain rfl : u = Value.ref a := rx
  refine getmeth_ok I1 ea c hm l (PySem.W.callWith_K (first := [.ref a]) (h₀ := X.base) I.ok.mod.kin hm.kp (thn (ha.run pos pins s1 σ H1 _ I1 q) fun us s2 hv => ?_) hst hpl)
  obtain ⟨vs, H2, I2, r, q2⟩ := hv
  exact ⟨I2.kIn, run_fnS (us := .ref a :: us) (vs := .ref a :: vs) F hr hb (hx σ) I2 (.cons rfl r) q2⟩
theorem pe_meth0X {X : Cx} {CX : CXT} {k : Nat} {f C : Addr} {fd : FuncData} {ps : List Str} {sp : Sp} {E : L2.St → XK} {m : Str} {apos pos : PySem.Pos} {o : Expr} {ta : TE} {pl : Sem Bool} (he : PE X o ta) (c : Cls X.K C) (hm : Meth X.K C m f)
    (F : FnOk X.prog X.w X.K X.mg X.base CX k f fd ps sp) (hr : Room k X.A) (hb : Binds X.K fd ps []) (hx : ∀ σ, PassesAt CX X σ (E σ))
    (ht : eval (.Call (.Attribute o m apos) [] [] pos) X.env = (do
      let ov ← eval o X.env
      standAt apos.atName
      let (f, first) ← holding [ov] (getMethod ov m pl)
      callWith pos f first (backTo pos (starEach [] X.env)) (backToKw pos (keywordEach [] X.env))) := by rfl) :
    PE X (.Call (.Attribute o m apos) [] [] pos) (tMethX C m sp E ta tNil) := by
  refine ⟨fun pins s σ H Q I h => PySem.W.methodCall_KW (pl := pl) (thn (he.run pins s σ H _ I h) fun u s1 hv => ?_) ht⟩
  obtain ⟨x, H1, I1, rx, a, dx, fs, rfl, ea, l, q⟩ := hv
  obtain rfl : u = Value.ref a := rx
  exact getmeth_ok I1 ea c hm l (PySem.W.callWith_K0 (first := [.ref a]) I1.kIn hm.kp (run_fnS (us := [.ref a]) (vs := [.ref a]) F hr hb (hx σ) I1 (.cons rfl .nil) q))
end Q
/-! several except clauses, some of them with a name -/
namespace Q
open PySem PySem.Spec PyProof.Rows L2
abbrev Suite := Addr → Value → Option Addr → TS
/-- the ends and the slots of a clause: slot i (if any) is the clause's own name -/
def cEnds (D : Ends) : Option Nat → Ends
  | none => D
  | some i => { nx := fun σ' H' => D.nx (σ'.set i none) H', rt := D.rt, bk := fun σ' H' => D.bk (σ'.set i none) H', ct := fun σ' H' => D.ct (σ'.set i none) H' }
def cSlot (σ : L2.St) (a : Addr) : Option Nat → L2.St
  | none => σ
  | some i => σ.set i (some (.ref a))
def wCl (K : PySem.W.Frag) (Wout : WX) (D : Ends) : List (Value × Option Nat × Suite) → WX
  | [] => Wout
  | (c, o, ts) :: r => fun cls d σ H => ∃ b, PySem.W.exmOne K cls c = some b ∧ (b = true → ∀ a, H a = none → ts a cls d (cEnds D o) (cSlot σ a o) H) ∧ (b = false → wCl K Wout D r cls d σ H)
inductive ClOk (X : Cx) : List ExceptHandler → List (Value × Option Nat × Suite) → Prop
  | nil : ClOk X [] []
  | bare {x : Str} {c : Value} {ts : Suite} {b₀ : Stmt} {su : List Stmt} {np p' : PySem.Pos} {hds : List ExceptHandler} {l : List (Value × Option Nat × Suite)} (hc : Names X x c)
      (hsu : ∀ (a : Addr) (oe : Obj) (cls : Value) (d : Option Addr) (pn : List (Addr × Obj)), Zc cls d oe → (∃ vs, oe.data = .fields vs) → PSs (X.suite a ((a, oe) :: pn)) (b₀ :: su) (ts a cls d)) (r : ClOk X hds l) :
      ClOk X (.ExceptHandler (some (.Name x np)) none (b₀ :: su) p' :: hds) ((c, none, ts) :: l)
  | named {x n : Str} {c : Value} {i : Nat} {ts : Suite} {b₀ : Stmt} {su : List Stmt} {np p' : PySem.Pos} {hds : List ExceptHandler} {l : List (Value × Option Nat × Suite)} (hc : Names X x c) (hi : X.N[i]? = some n) (hln : X.env.kindOf n = some .local)
      (hsu : ∀ (a : Addr) (oe : Obj) (cls : Value) (d : Option Addr) (pn : List (Addr × Obj)), Zc cls d oe → (∃ vs, oe.data = .fields vs) → PSs (X.suite a ((a, oe) :: pn)) (b₀ :: su) (ts a cls d)) (r : ClOk X hds l) :
      ClOk X (.ExceptHandler (some (.Name x np)) (some n) (b₀ :: su) p' :: hds) ((c, some i, ts) :: l)
section
variable {X : Cx} {pins : List (Addr × Obj)} {D : Ends} {Wout : WX} {a : Addr} {B : Heap} {sI s' : Shared} {σ' : L2.St} {H' : Hp} {cls : Value} {d : Option Addr} {h3 : Heap}
/-- the exception on the ground of the try: what is known of it -/
structure Grd (X : Cx) (pins : List (Addr × Obj)) (a : Addr) (B : Heap) (sI s' : Shared) (σ' : L2.St) (H' : Hp) (cls : Value) (d : Option Addr) (h3 : Heap) : Prop where
  J : Inv X pins σ' H' sI
  nb : ∀ b o, sI.heap.get? b = some o → b ∉ frs X.stack → B.get? b = some o
  up : sI.heap.UpToSlots h3
  fl : HandSPX.FlyingZ B (X.env :: X.outer) a (Zc cls d) h3
  na : H' a = none
  os : s'.os = sI.os
  ag : AllBare s'.gens
theorem Grd.inv (g : Grd X pins a B sI s' σ' H' cls d h3) : Inv X pins σ' H' { s' with heap := h3 } := g.J.landed (s' := { s' with heap := h3 }) g.nb g.fl.1 g.up g.os g.ag
theorem Grd.away (g : Grd X pins a B sI s' σ' H' cls d h3) (hf : X.env.frame = some X.env.locals) : a ≠ X.env.locals ∧ a ∉ X.fs := by
  obtain ⟨oe, vs, he, _, hd⟩ := g.fl.there
  have key : a ∉ frs (X.env :: X.outer) := fun hm => by
    obtain ⟨_, o', e', hnf⟩ := g.fl.2.2.1.mem hm
    rw [he] at e'; cases e'
    exact hnf _ hd
  refine ⟨fun z => key (List.mem_filterMap.mpr ⟨X.env, List.mem_cons_self, by rw [hf, z]⟩), fun hm => ?_⟩
  obtain ⟨e, he, q⟩ := List.mem_filterMap.mp hm
  exact key (List.mem_filterMap.mpr ⟨e, List.mem_cons_of_mem _ he, q⟩)
/-- the clauses, one after the other, over an exception on the ground -/
theorem clauses {hds : List ExceptHandler} {l : List (Value × Option Nat × Suite)} (hs : X.stack = X.env :: X.outer) (hf : X.env.frame = some X.env.locals) (hN : X.N.Nodup) (tk : Takes X Wout) (ok : ClOk X hds l) :
    Grd X pins a B sI s' σ' H' cls d h3 → wCl X.K Wout D l cls d σ' H' → wpAny (model X.prog X.w) X.A (handleBy (.ref a) X.env hds) (SP X pins D) X.xe { s' with heap := h3 } := by
  induction ok with
  | nil =>
    intro g w
    refine wpAny_handleBy_nil ?_
    obtain ⟨_, _, _, oe, vs, T, _, _, he, _, hd, h1, _⟩ := id g.fl
    unfold PySem.passOn
    refine wpAny_bind (wpAny_field he hd h1 ?_)
    have no : ¬ ((Value.ref T == Value.none) = true) := by simp
    rw [if_neg no]
    have out : wpAny (model X.prog X.w) X.A (setFlight (.ref a) X.env.frame) (fun _ s4 => wpAny (model X.prog X.w) X.A (throw (.ref a) : Sem Flow) (SP X pins D) X.xe s4) X.xe { s' with heap := h3 } := by
      rw [hf]
      refine HandSPX.setFlight_upZ g.fl fun h4 held up4 => wpAny_throw (tk _ _ ?_)
      refine ⟨a, B, sI, pins, σ', H', cls, d, rfl, g.J, g.nb, g.up.trans up4, .inr (.inr ?_), g.na, g.os, g.ag, w⟩
      rw [hs]; exact held
    first
      | exact wpAny_bind (wpAny_pure (wpAny_bind out))
      | exact wpAny_bind out
  | @bare x c ts b₀ su np p' hds l hc hsu r ih =>
    intro g w
    obtain ⟨b, hb, hy, hn⟩ := w
    obtain ⟨nL, nF⟩ := g.away hf
    obtain ⟨oe, vs, he, hz, hd⟩ := g.fl.there
    have S := g.inv.suite he hd g.na nL nF
    have LM := PySem.W.exm_one (M := model X.prog X.w) (g.inv.kIn) (fun A Q E s k q => wpAny_typeOf_ref (k _ _ he) (by rw [hz.1]; exact q)) hb
    refine wpAny_handleBy_cons (codeAny_handlers_test ?_) (by intro q; cases q)
    have rd : ∀ {Q : Value → Shared → Prop} {E : Value → Shared → Prop}, Q c { s' with heap := h3 } → wpAny (model X.prog X.w) (X.A.mark (some (.ref a))) (eval (.Name x np) X.env) Q E { s' with heap := h3 } := fun {Q E} q => by
      obtain ⟨hg, hdb, hm | ⟨hm, hv, hnn⟩⟩ := hc
      · exact ld_glob (X := X.suite a ((a, oe) :: (X.pn ++ pins))) S hg hm q hdb
      · exact ld_blt (X := X.suite a ((a, oe) :: (X.pn ++ pins))) S hg hm hv q hnn hdb
    refine rd (LM.here ?_)
    cases b with
    | false => exact ih g (hn rfl)
    | true =>
      refine codeAny_handlers_suite (HandSPX.lands_againZ g.fl fun h4 fl4 up4 => ?_)
      have J4 : Inv X pins σ' H' { s' with heap := h4 } := g.J.landed (s' := { s' with heap := h4 }) g.nb fl4.1 (g.up.trans up4) g.os g.ag
      obtain ⟨oe4, vs4, he4, hz4, hd4⟩ := fl4.there
      refine wpAny_mono ((hsu a oe4 cls d (X.pn ++ pins) hz4 ⟨_, hd4⟩).run [] _ _ H' _ (J4.suite he4 hd4 g.na nL nF) (hy rfl a g.na)) (fun f s6 hsp => ?_) (fun _ _ z => False.elim z)
      have ok := g.J.ok
      cases f with
      | next => obtain ⟨σ6, H6, S6, q6⟩ := hsp; exact ⟨_, _, S6.unsuite ok, q6⟩
      | brk => obtain ⟨σ6, H6, S6, q6⟩ := hsp; exact ⟨_, _, S6.unsuite ok, q6⟩
      | cont => obtain ⟨σ6, H6, S6, q6⟩ := hsp; exact ⟨_, _, S6.unsuite ok, q6⟩
      | ret u => obtain ⟨v6, σ6, H6, S6, r6, q6⟩ := hsp; exact ⟨_, _, _, S6.unsuite ok, r6, q6⟩
  | @named x n c i ts b₀ su np p' hds l hc hi hln hsu r ih =>
    intro g w
    obtain ⟨b, hb, hy, hn⟩ := w
    obtain ⟨nL, nF⟩ := g.away hf
    obtain ⟨oe, vs, he, hz, hd⟩ := g.fl.there
    have S := g.inv.suite he hd g.na nL nF
    have LM := PySem.W.exm_one (M := model X.prog X.w) (g.inv.kIn) (fun A Q E s k q => wpAny_typeOf_ref (k _ _ he) (by rw [hz.1]; exact q)) hb
    refine wpAny_handleBy_cons (codeAny_handlers_test ?_) (by intro q; cases q)
    have rd : ∀ {Q : Value → Shared → Prop} {E : Value → Shared → Prop}, Q c { s' with heap := h3 } → wpAny (model X.prog X.w) (X.A.mark (some (.ref a))) (eval (.Name x np) X.env) Q E { s' with heap := h3 } := fun {Q E} q => by
      obtain ⟨hg, hdb, hm | ⟨hm, hv, hnn⟩⟩ := hc
      · exact ld_glob (X := X.suite a ((a, oe) :: (X.pn ++ pins))) S hg hm q hdb
      · exact ld_blt (X := X.suite a ((a, oe) :: (X.pn ++ pins))) S hg hm hv q hnn hdb
    refine rd (LM.here ?_)
    cases b with
    | false => exact ih g (hn rfl)
    | true =>
      refine codeAny_handlers_suite_as (HandSPX.lands_againZ g.fl fun h4 fl4 up4 => ?_)
      have J4 : Inv X pins σ' H' { s' with heap := h4 } := g.J.landed (s' := { s' with heap := h4 }) g.nb fl4.1 (g.up.trans up4) g.os g.ag
      obtain ⟨oe4, vs4, he4, hz4, hd4⟩ := fl4.there
      have S4 := J4.suite he4 hd4 g.na nL nF
      refine store_ok (X := X.suite a ((a, oe4) :: (X.pn ++ pins))) (v := .ref a) S4 hN hi (.inl hln) rfl (fun s5 S5 => ?_) (.inr hln)
      refine wpAny_mono ((hsu a oe4 cls d (X.pn ++ pins) hz4 ⟨_, hd4⟩).run [] s5 _ H' _ S5 (hy rfl a g.na)) (fun f s6 hsp => ?_) (fun _ _ z => False.elim z)
      have ok := g.J.ok
      have out : ∀ {σ6 : L2.St} {H6 : Hp} {Q : Shared → Prop}, Inv (X.suite a ((a, oe4) :: (X.pn ++ pins))) [] σ6 H6 s6 → (∀ s7, Inv X pins (σ6.set i none) H6 s7 → Q s7) →
          wpAny (model X.prog X.w) X.A (do bindName X.env n .none; unbindBehindTheSuite X.env n p') (fun _ s7 => Q s7) X.xe s6 := fun {σ6 H6 Q} S6 hq => gone_ok (S6.unsuite ok) hN hi hln hq
      cases f with
      | next => obtain ⟨σ6, H6, S6, q6⟩ := hsp; exact out S6 fun s7 J7 => ⟨_, _, J7, q6⟩
      | brk => obtain ⟨σ6, H6, S6, q6⟩ := hsp; exact out S6 fun s7 J7 => ⟨_, _, J7, q6⟩
      | cont => obtain ⟨σ6, H6, S6, q6⟩ := hsp; exact out S6 fun s7 J7 => ⟨_, _, J7, q6⟩
      | ret u => obtain ⟨v6, σ6, H6, S6, r6, q6⟩ := hsp; exact out S6 fun s7 J7 => ⟨_, _, _, J7, r6, q6⟩
/-- try: body, any clauses -/
theorem ps_try_cl {body : List Stmt} {h₀ : ExceptHandler} {hds : List ExceptHandler} {l : List (Value × Option Nat × Suite)} {pos : PySem.Pos} {tb : WX → TS} (hs : X.stack = X.env :: X.outer) (hf : X.env.frame = some X.env.locals) (hN : X.N.Nodup) (tk : Takes X Wout)
    (hb : ∀ (W : WX) (pn : List (Addr × Obj)) (xe : Value → Shared → Prop), Takes (X.tr pn xe) W → PassesOwn (model X.prog X.w) X.A X.env xe → PSs (X.tr pn xe) body (tb W))
    (hh : ClOk X (h₀ :: hds) l) : PS X (.Try body (h₀ :: hds) [] [] pos) (fun D σ H => tb (wCl X.K Wout D l) D σ H) := by
  refine ⟨fun pins s σ H D I h => ?_⟩
  have ok := I.ok
  have hfr : X.A.frames = some (X.env :: X.outer) := by rw [ok.frames, hs]
  refine wpAny_Try_except (wpAny_mono ((hb (wCl X.K Wout D l) (X.pn ++ pins) (fun e s₁ => wpAny (model X.prog X.w) X.A (noteFrame e X.env) (fun _ s₂ => wpAny (model X.prog X.w) X.A (setFlight e none) (fun _ s₃ =>
    wpAny (model X.prog X.w) X.A (handleBy e X.env (h₀ :: hds)) (SP X pins D) X.xe s₃) X.xe s₂) X.xe s₁) (fun u s' xx => ?_) PassesOwn.looking).run [] s σ H D (I.toTry _) h) (fun f s1 hsp => ?_) (fun e s1 he => he))
  · obtain ⟨a, B, sI, pins', σ', H', cls, d, rfl, J', nb, up, sky, na, os, ag, w⟩ := xx
    have sky' : Sky B (X.env :: X.outer) a (Zc cls d) X.env.locals s'.heap := by rw [← hs]; exact sky
    show wpAny (model X.prog X.w) X.A (noteFrame (.ref a) X.env) _ _ _
    exact Sky.land Zc.steady hfr hf sky' fun h3 fl3 up3 => clauses hs hf hN tk hh ⟨J'.ofTry ok, nb, up.trans up3, fl3, na, os, ag⟩ w
  · cases f with
    | next => obtain ⟨σ', H', J', q⟩ := hsp; exact wpAny_execs_nil ⟨σ', H', J'.ofTry ok, q⟩
    | brk => obtain ⟨σ', H', J', q⟩ := hsp; exact ⟨σ', H', J'.ofTry ok, q⟩
    | cont => obtain ⟨σ', H', J', q⟩ := hsp; exact ⟨σ', H', J'.ofTry ok, q⟩
    | ret u => obtain ⟨v, σ', H', J', r, q⟩ := hsp; exact ⟨v, σ', H', J'.ofTry ok, r, q⟩
end
end Q
/-! texts as lists of code points; more stepping lemmas -/
namespace Q
open PySem PySem.Spec PyProof.Rows L2 SX
theorem sizeBig : 1000000 ≤ sizeLine := by decide
theorem rep_flat (z : List Nat) : ∀ n : Nat, (List.replicate n z.toArray).foldl (· ++ ·) #[] = ((List.replicate n z).flatten).toArray := by
  have key : ∀ (n : Nat) (acc : List Nat), (List.replicate n z.toArray).foldl (· ++ ·) acc.toArray = (acc ++ (List.replicate n z).flatten).toArray := by
    intro n
    induction n with
    | zero => intro acc; simp
    | succ n ih =>
      intro acc
      rw [List.replicate_succ, List.foldl_cons, show acc.toArray ++ z.toArray = (acc ++ z).toArray by simp, ih, List.replicate_succ, List.flatten_cons, List.append_assoc]
  intro n
  have := key n []
  rw [List.nil_append] at this
  exact this
def rMulS : R2 := fun x y H Q => ∃ (z : List Nat) (n : Int), x = .str (S z) ∧ y = .int n ∧ -1000 ≤ n ∧ n ≤ 1000 ∧ z.length ≤ 1000 ∧ Q (.str (S (List.replicate n.toNat z).flatten)) H
theorem mul_S {z : List Nat} {n : Int} : Txt.mul (S z) n = S (List.replicate n.toNat z).flatten := by
  unfold Txt.mul
  by_cases h : n < 1
  · rw [if_pos h]
    have e : n.toNat = 0 := by omega
    rw [e]; rfl
  · rw [if_neg h]
    by_cases h2 : (n == 1 || (S z).length == 0) = true
    · rw [if_pos h2]
      rw [Bool.or_eq_true, beq_iff_eq, beq_iff_eq] at h2
      rcases h2 with h2 | h2
      · subst h2; show S z = S (List.replicate 1 z).flatten; simp
      · rw [S_len] at h2
        have e : z = [] := List.length_eq_zero_iff.mp h2
        subst e
        congr 1
        have : (List.replicate n.toNat ([] : List Nat)).flatten = [] := by simp
        rw [this]
    · rw [if_neg h2]
      show (⟨(List.replicate n.toNat z.toArray).foldl (· ++ ·) #[]⟩ : Str) = _
      rw [rep_flat]
theorem op_mul_str {X : Cx} : OpR X (binaryOp .Mult) rMulS := by
  intro pins s σ H x y v u Q I rx ry h
  obtain ⟨z, n, rfl, rfl, h1, h2, h3, q⟩ := h
  obtain ⟨t, rfl⟩ := rx
  obtain ⟨t', rfl⟩ := ry
  refine PySem.SB.mul ⟨?_, fun g1 _ => ?_, fun g1 _ => ?_⟩ fun t2 k => ?_
  · have e1 : decide (n < -(2 ^ 63 : Int)) = false := decide_eq_false (by omega)
    have e2 : decide (n ≥ 2 ^ 63) = false := decide_eq_false (by omega)
    rw [e1, e2]; rfl
  · rw [S_len]
    have : (2 ^ 63 - 1 : Int) / 1000 ≤ (2 ^ 63 - 1) / n := by
      apply Int.le_ediv_of_mul_le (by omega)
      calc (2 ^ 63 - 1 : Int) / 1000 * n ≤ (2 ^ 63 - 1 : Int) / 1000 * 1000 := Int.mul_le_mul_of_nonneg_left h2 (by decide)
        _ ≤ 2 ^ 63 - 1 := by decide
    omega
  · rw [S_len]
    have : z.length * n.toNat ≤ 1000 * 1000 := Nat.mul_le_mul h3 (by omega)
    generalize z.length * n.toNat = w at this
    have := sizeBig
    exact decide_eq_false (show ¬ w > sizeLine by omega)
  · rw [mul_S]
    exact ⟨.str _, H, I.tok _, ⟨_, rfl⟩, q⟩
/-- a written tuple's values -/
def absL : List Value → Option (List V)
  | [] => some []
  | v :: r => (absV v).bind fun x => (absL r).map (x :: ·)
theorem relV_of {u : Value} {x : V} (h : absV u = some x) : RelV x u := by
  cases u <;> first
    | (cases h; rfl)
    | (cases h; exact ⟨_, rfl⟩)
    | (cases h; done)
theorem absL_ok : ∀ {us : List Value} {xs : List V}, absL us = some xs → Vals xs us
  | [], xs, h => by cases h; exact .nil
  | v :: r, xs, h => by
    unfold absL at h
    cases e : absV v with
    | none => rw [e] at h; cases h
    | some x =>
      rw [e] at h
      cases e2 : absL r with
      | none => rw [e2] at h; cases h
      | some ys => rw [e2] at h; cases h; exact .cons (relV_of e) (absL_ok e2)
def absT (o : Obj) : Option (List V) := match o.cls, o.data with
  | .type n, .seq its _ => if n = "tuple" ∧ its.size ≤ sizeLine then absL its.toList else none
  | _, _ => none
theorem sqT_of {K : PySem.W.Frag} {A : Addr} {o : Obj} {xs : List V} {H : Hp} (h : K.lookup A = some o) (hs : absT o = some xs) : SqT K H A xs := by
  unfold absT at hs
  split at hs
  · next n its k e1 e2 =>
    split at hs
    · next c => exact .inr ⟨o, its, k, h, by rw [e1, c.1], e2, c.2, absL_ok hs⟩
    · cases hs
  · cases hs
/-- a statement that is never run -/
theorem ps_never {X : Cx} {st : Stmt} : PS X st (fun _ _ _ => False) := ⟨fun _ _ _ _ _ _ h => h.elim⟩
/-- a cut of a list, as a slice does it -/
def cutL (l : List Nat) (lo hi : Option Int) : List Nat := (l.drop (HT.sIx l.length 0 lo)).take (HT.sIx l.length l.length hi - HT.sIx l.length 0 lo)
theorem cutS_S (l : List Nat) (lo hi : Option Int) : cutS (S l) lo hi = S (cutL l lo hi) := by
  unfold cutS cutL
  rw [S_len]
theorem cutL_len (l : List Nat) (lo hi : Option Int) : (cutL l lo hi).length ≤ l.length := by
  unfold cutL
  rw [List.length_take, List.length_drop]
  omega
theorem cutL_to {l : List Nat} {n : Nat} (h : n ≤ l.length) : cutL l none (some (n : Int)) = l.take n := by
  unfold cutL
  rw [HT.sIx_none, HT.sIx_nat, List.drop_zero, Nat.sub_zero, Nat.min_eq_left h]
theorem cutL_from {l : List Nat} {n : Nat} (h : n ≤ l.length) : cutL l (some (n : Int)) none = l.drop n := by
  unfold cutL
  rw [HT.sIx_none, HT.sIx_nat, Nat.min_eq_left h]
  exact List.take_of_length_le (by rw [List.length_drop]; exact Nat.le_refl _)
theorem cutL_mid {l : List Nat} {i j : Nat} (h1 : i ≤ j) (h : j ≤ l.length) : cutL l (some (i : Int)) (some (j : Int)) = (l.drop i).take (j - i) := by
  unfold cutL
  rw [HT.sIx_nat, HT.sIx_nat, Nat.min_eq_left h, Nat.min_eq_left (by omega)]
section
variable {K : PySem.W.Frag} {σ : L2.St} {H : Hp} {te : TE} {ta tb tc : TE} {tas : TA} {g : TG} {gs : TGs} {D : Ends} {Q : VK} {R : It → Hp → Prop} {v x : V} {i : Nat}
theorem g_mulS {z : List Nat} {n : Int} (c : -1000 ≤ n ∧ n ≤ 1000 ∧ z.length ≤ 1000) (q : Q (.str (S (List.replicate n.toNat z).flatten)) H) : rMulS (.str (S z)) (.int n) H Q := ⟨z, n, rfl, rfl, c.1, c.2.1, c.2.2, q⟩
theorem g_catS {a b : List Nat} {R : Str → Str → Prop} (c : a.length + b.length ≤ 1000000) (q : R (S a) (S b)) : ∃ i j, V.str (S a) = .str i ∧ V.str (S b) = .str j ∧ i.length + j.length ≤ sizeLine ∧ R i j :=
  ⟨S a, S b, rfl, rfl, by rw [S_len, S_len]; exact Nat.le_trans c sizeBig, q⟩
theorem g_ixS {l : List Nat} {n : Int} {c : Nat} (hl : l.length ≤ 1000000) (a : atI l n = some c) (q : Q (.str (S [c])) H) : rIxS (.str (S l)) (.int n) H Q := ⟨S l, n, c, rfl, rfl, by rw [S_len]; exact Nat.le_trans hl sizeBig, a, q⟩
theorem g_slS {l : List Nat} {lo hi : Option Int} (hl : l.length ≤ 1000000) (q : Q (.str (S (cutL l lo hi))) H) : rSlS (.str (S l)) lo hi H Q := ⟨S l, rfl, by rw [S_len]; exact Nat.le_trans hl sizeBig, by rw [cutS_S]; exact q⟩
theorem g_lenS {l : List Nat} {R : Str → Prop} (hl : l.length ≤ 1000000) (q : R (S l)) : ∃ z, [V.str (S l)] = [V.str z] ∧ z.length ≤ sizeLine ∧ R z := ⟨S l, rfl, by rw [S_len]; exact Nat.le_trans hl sizeBig, q⟩
theorem g_exi {n : Int} {R : Int → Prop} (q : R n) : ∃ i, V.int n = .int i ∧ R i := ⟨n, rfl, q⟩
theorem g_istr (q : te σ H fun v H1 => ∃ x, v = .str x ∧ R (Its x) H1) : iStr te σ H R := q
theorem g_glst {n : Nat} {R : L2.St → Hp → Prop} (q : ∃ a xs, v = .ref a ∧ SqL K H a xs ∧ xs.length = n ∧ gs xs σ H R) : gLst K n gs v σ H R := q
theorem g_aug {ti : TIp} (h : σ[i]? = some (some x)) (q : te σ H fun y H1 => ti x y H1 fun z H2 => D.nx (σ.set i (some z)) H2) : tAug i te ti D σ H := ⟨x, h, q⟩
theorem g_chain {r r' : R2} (q : ta σ H fun x H1 => tb σ H1 fun y H2 => r x y H2 fun z H3 => ∃ k, z = .bl k ∧ (if k = true then tc σ H3 fun w' H4 => r' y w' H4 Q else Q (.bl false) H3)) : tChain r r' ta tb tc σ H Q := q
theorem g_isN {P : Prop} (q : P) : V.non = .non ∧ P := ⟨rfl, q⟩
theorem log_ok {n : Int} (c : n.natAbs < 10 ^ 60) : n.natAbs.log2 < 1920 := by
  by_cases h : n.natAbs = 0
  · rw [h]; decide
  · exact Nat.lt_trans ((Nat.log2_lt h).mpr (Nat.lt_trans c (by decide : 10 ^ 60 < 2 ^ 200))) (by decide)
theorem g_strI {n : Int} {R : Int → Prop} (c : n.natAbs < 10 ^ 60) (q : R n) : ∃ i : Int, [V.int n] = [V.int i] ∧ i.natAbs.log2 < 1920 ∧ R i := ⟨n, rfl, log_ok c, q⟩
theorem iteNK {c A B : Prop} {inst : Decidable c} (h1 : ¬ c → A) (h2 : c → B) : if (!decide c) = true then A else B := by
  by_cases h : c
  · rw [decide_eq_true h, if_neg (by decide)]; exact h2 h
  · rw [decide_eq_false h, if_pos (by decide)]; exact h1 h
theorem g_inS {c : Nat} {z : Str} {R : Nat → Str → Prop} (q : R c z) : ∃ (c' : Nat) (z' : Str), V.str (S [c]) = .str ⟨#[c']⟩ ∧ V.str z = .str z' ∧ R c' z' := ⟨c, z, rfl, rfl, q⟩
theorem g_ipI {f : Int → Int → Int} {m n : Int} (q : Q (.int (f m n)) H) : ipI f (.int m) (.int n) H Q := ⟨m, n, rfl, rfl, q⟩
end
end Q

namespace Q
open PySem PySem.Spec PyProof.Rows L2
section
variable {K : PySem.W.Frag} {σ : L2.St} {H : Hp} {te to : TE} {t : TA} {Q : VK}
theorem g_bm {T : String} {r : V → List V → Hp → VK → Prop} (q : to σ H fun x H1 => tyV K T x H1 ∧ t σ H1 fun xs H2 => r x xs H2 Q) : tBM K T r to t σ H Q := q
theorem g_bm0 {T : String} {r : V → List V → Hp → VK → Prop} (q : to σ H fun x H1 => tyV K T x H1 ∧ r x [] H1 Q) : tBM0 K T r to σ H Q := q
end
end Q
/-! a method of a tuple that is written where it is asked -/
namespace Q
open PySem PySem.Spec PyProof.Rows L2 SX
section
variable {X : Cx} {e : Expr} {es ts : List Expr} {t tt : TA} {name : Str} {apos cpos tpos : PySem.Pos} {id : String} {r : V → List V → Hp → VK → Prop} {k : Nat}
def tTupM (r : V → List V → Hp → VK → Prop) (tt t : TA) : TE := fun σ H Q => tt σ H fun xs H1 => xs.length ≤ sizeLine ∧ ∀ p, H1 p = none → t σ (upd H1 p (.tup xs)) fun ys H2 => r (.ref p) ys H2 Q
theorem g_tupm {σ : L2.St} {H : Hp} {Q : VK} (q : tt σ H fun xs H1 => xs.length ≤ sizeLine ∧ ∀ p, H1 p = none → t σ (upd H1 p (.tup xs)) fun ys H2 => r (.ref p) ys H2 Q) : tTupM r tt t σ H Q := q
theorem pe_tupM (pa : PlainAttrs "tuple") (slot : Slot "tuple" name id) (hty : typeOf (.builtin id) = pure (.type "method_descriptor")) (hm : MtR X id r) (ho : PA X ts tt) (ha : PA X (e :: es) t)
    (hbase : attributeBase (.Tuple ts k tpos) name X.env (eval (.Tuple ts k tpos) X.env) = eval (.Tuple ts k tpos) X.env := by rfl)
    (hfew : ((backTo cpos (starEach (e :: es) X.env)).all (fun x => !x.1) && (backToKw cpos (keywordEach [] X.env)).all (fun x => x.1.isSome)
      && decide ((e :: es).length + ([] : List Keyword).length + (if ([] : List Keyword).isEmpty then 0 else 1) < 30)) = true := by rfl)
    (hline : (apos.endLine == cpos.line) = true := by rfl) (hs : starEach (e :: es) X.env = (false, eval e X.env) :: starEach es X.env := by rfl) (hplain : (backTo cpos (starEach es X.env)).any (·.1) = false := by rfl) :
    PE X (.Call (.Attribute (.Tuple ts k tpos) name apos) (e :: es) [] cpos) (tTupM r tt t) := by
  refine ⟨fun pins s σ H Q I h => ?_⟩
  refine wpAny_Call_method_late hbase hfew hline rfl ?_
  refine wpAny_Tuple_spliced (thn (ho.run tpos pins s σ H _ I h) fun us s1 ⟨xs, H1, I1, rv, z, q⟩ => ⟨by rw [← rv.length]; exact z, ?_⟩)
  have hf : H1 s1.heap.objs.size = none := I1.hok.fresh (Nat.le_refl _)
  have I2 := I1.laid (t' := s1.toks) (o := .tup xs) (h' := s1.heap.push { cls := .type "tuple", data := .seq us.toArray }) (fun b u e => Heap.get?_push_of_some _ e) (Nat.le_refl _) (by
    exact ⟨z, us, rv, ⟨_, Heap.get?_push_size _ rfl, rfl, _, rfl⟩⟩)
  have hg := Heap.get?_push_size s1.heap (o := { cls := .type "tuple", data := .seq us.toArray }) rfl
  refine ⟨"tuple", id, pa, slot, hty, ⟨_, hg, rfl⟩, fun a ea => ?_, ?_⟩
  · cases ea; exact ⟨_, hg, rfl⟩
  have hA := ha.run cpos pins _ σ _ _ I2 (q _ hf)
  rw [hs] at hA ⊢
  refine Calls.callWith_builtin (by show (false || (backTo cpos (starEach es X.env)).any (·.1)) = false; rw [hplain] <;> rfl) (Calls.evalArgs_plain ?_)
  exact thn hA fun us s2 ⟨vs, H2, I2, r2, q2⟩ => hm pins s2 σ H2 (.ref s1.heap.objs.size) vs _ us Q I2 rfl r2 q2
end
end Q

namespace Q
open PySem PySem.Spec PyProof.Rows L2 SX
section
variable {K : PySem.W.Frag} {σ : L2.St} {H : Hp} {te to ta tv : TE} {D : Ends} {Q : VK}
theorem g_m1 {r : V → List V → Hp → VK → Prop} (q : to σ H fun x H1 => (∃ a, x = .str a) ∧ te σ H1 fun y H2 => r x [y] H2 Q) : tM1 r to te σ H Q := q
theorem g_fldaug {rd : V → V → Hp → VK → Prop} {f : Str} (q : ta σ H fun x H1 => ∃ a C dx fs v, x = .ref a ∧ H1 a = some (.ins C dx fs) ∧ Cls K C ∧ NoAttr K C f ∧ fs.lookup f = some v ∧
  tv σ H1 fun y H2 => rd v y H2 fun z H3 => ∃ dx' fs', H3 a = some (.ins C dx' fs') ∧ fs'.length < 1000 ∧ D.nx σ (upd H3 a (.ins C dx' (putF f z fs')))) : sFldAug K ta tv rd f D σ H := q
end
end Q
/-! the civil calendar, in plain -/
namespace Civ
def isLeap (y : Int) : Bool := decide (y % 4 = 0) && (!decide (y % 100 = 0) || decide (y % 400 = 0))
def LEN : List Int := [31, 28, 31, 30, 31, 30, 31, 31, 30, 31, 30, 31]
def BEF : List Int := [0, 31, 59, 90, 120, 151, 181, 212, 243, 273, 304, 334]
def lenT (k : Int) : Int := LEN.getD k.toNat 0
def bef (k : Int) : Int := BEF.getD k.toNat 0
def lp (y : Int) : Int := if isLeap y = true then 1 else 0
def len (m : Int) : Int := lenT (m % 12) + if m % 12 = 1 then lp (m / 12 + 1) else 0
def yd (p : Int) : Int := 365 * p + p / 4 - p / 100 + p / 400
def fd (m : Int) : Int := yd (m / 12) + bef (m % 12) + if 1 < m % 12 then lp (m / 12 + 1) else 0
theorem lp_eq (y : Int) : (y % 4 = 0 ∧ (y % 100 ≠ 0 ∨ y % 400 = 0) ∧ lp y = 1) ∨ (¬ (y % 4 = 0 ∧ (y % 100 ≠ 0 ∨ y % 400 = 0)) ∧ lp y = 0) := by
  by_cases h : isLeap y = true
  · left
    have e : lp y = 1 := if_pos h
    unfold isLeap at h
    rw [Bool.and_eq_true, decide_eq_true_eq, Bool.or_eq_true, Bool.not_eq_true', decide_eq_false_iff_not, decide_eq_true_eq] at h
    exact ⟨h.1, h.2, e⟩
  · right
    have e : lp y = 0 := if_neg h
    refine ⟨fun k => h ?_, e⟩
    unfold isLeap
    rw [Bool.and_eq_true, decide_eq_true_eq, Bool.or_eq_true, Bool.not_eq_true', decide_eq_false_iff_not, decide_eq_true_eq]
    exact k
theorem yd_succ (p : Int) : yd (p + 1) = yd p + 365 + lp (p + 1) := by
  unfold yd
  rcases lp_eq (p + 1) with ⟨h1, h2, e⟩ | ⟨h, e⟩ <;> rw [e] <;> omega
theorem mod12 (m : Int) : m % 12 = 0 ∨ m % 12 = 1 ∨ m % 12 = 2 ∨ m % 12 = 3 ∨ m % 12 = 4 ∨ m % 12 = 5 ∨ m % 12 = 6 ∨ m % 12 = 7 ∨ m % 12 = 8 ∨ m % 12 = 9 ∨ m % 12 = 10 ∨ m % 12 = 11 := by omega
theorem lp01 (y : Int) : 0 ≤ lp y ∧ lp y ≤ 1 := by
  unfold lp; split <;> omega
theorem fd_succ (m : Int) : fd (m + 1) = fd m + len m := by
  have q := mod12 m
  have ys := yd_succ (m / 12)
  unfold fd len
  rcases q with h | h | h | h | h | h | h | h | h | h | h | h
  all_goals first
    | (have e1 : (m + 1) / 12 = m / 12 := by omega
       have e2 : (m + 1) % 12 = m % 12 + 1 := by omega
       rw [e1, e2, h]
       simp only [bef, lenT, BEF, LEN]
       simp
       try omega)
    | (have e1 : (m + 1) / 12 = m / 12 + 1 := by omega
       have e2 : (m + 1) % 12 = 0 := by omega
       rw [e1, e2, h, ys]
       simp only [bef, lenT, BEF, LEN]
       simp
       try omega)
theorem len_le (m : Int) : 28 ≤ len m ∧ len m ≤ 31 := by
  have q := mod12 m
  have l := lp01 (m / 12 + 1)
  unfold len
  rcases q with h | h | h | h | h | h | h | h | h | h | h | h <;> rw [h] <;> simp only [lenT, LEN] <;> simp <;> omega
theorem fd_add (m : Int) : ∀ n : Nat, fd m + 28 * n ≤ fd (m + n)
  | 0 => by simp
  | n + 1 => by
    have h1 := fd_add m n
    have h2 := fd_succ (m + n)
    have h3 := len_le (m + n)
    have e : m + ((n + 1 : Nat) : Int) = m + n + 1 := by omega
    rw [e, h2]
    omega
theorem fd_lt {m k : Int} (h : m < k) : fd m + 28 ≤ fd k := by
  have := fd_add m (k - m).toNat
  have e : m + ((k - m).toNat : Int) = k := by omega
  rw [e] at this
  omega
theorem fd_le {m k : Int} (h : m ≤ k) : fd m ≤ fd k := by
  rcases Int.lt_or_eq_of_le h with h | h
  · have := fd_lt h; omega
  · rw [h]; omega
/-- the month of a day -/
def IsM (d m : Int) : Prop := fd m ≤ d ∧ d < fd (m + 1)
theorem IsM.uniq {d m k : Int} (h : IsM d m) (g : IsM d k) : m = k := by
  rcases Int.lt_trichotomy m k with l | l | l
  · have := fd_le (show m + 1 ≤ k by omega)
    have h2 := h.2; have g1 := g.1; omega
  · exact l
  · have := fd_le (show k + 1 ≤ m by omega)
    have h2 := g.2; have g1 := h.1; omega
theorem fd_year (p : Int) : fd (12 * p) = yd p := by
  unfold fd
  have e1 : 12 * p / 12 = p := by omega
  have e2 : 12 * p % 12 = 0 := by omega
  rw [e1, e2]
  simp [bef, BEF]
theorem yd_cycle (p c : Int) : yd (p + 400 * c) = yd p + 146097 * c := by
  unfold yd; omega
theorem lp_cycle (y c : Int) : lp (y + 400 * c) = lp y := by
  rcases lp_eq (y + 400 * c) with ⟨h1, h2, e⟩ | ⟨h, e⟩ <;> rcases lp_eq y with ⟨g1, g2, f⟩ | ⟨g, f⟩ <;> rw [e, f] <;> omega
theorem fd_cycle (m c : Int) : fd (m + 4800 * c) = fd m + 146097 * c := by
  unfold fd
  have e1 : (m + 4800 * c) / 12 = m / 12 + 400 * c := by omega
  have e2 : (m + 4800 * c) % 12 = m % 12 := by omega
  have e3 : m / 12 + 400 * c + 1 = m / 12 + 1 + 400 * c := by omega
  rw [e1, e2, yd_cycle, e3, lp_cycle]
  omega
theorem IsM.cycle {d m c : Int} (h : IsM d m) : IsM (d + 146097 * c) (m + 4800 * c) := by
  have e : m + 4800 * c + 1 = m + 1 + 4800 * c := by omega
  unfold IsM
  rw [e, fd_cycle, fd_cycle]
  have h1 := h.1; have h2 := h.2
  omega
/-- a year of the cycle by days, from below -/
theorem yd_mono {p q : Int} (h : p ≤ q) : yd p ≤ yd q := by
  rw [← fd_year, ← fd_year]; exact fd_le (by omega)
/-- day of (year, month, date) -/
def dayOf (y mo d : Int) : Option Int := if (1 ≤ mo ∧ mo ≤ 12) ∧ (1 ≤ d ∧ d ≤ len (12 * (y - 1) + mo - 1)) then some (fd (12 * (y - 1) + mo - 1) + d - 1) else none
theorem dayOf_isM {y mo d k : Int} (h : dayOf y mo d = some k) : IsM k (12 * (y - 1) + mo - 1) ∧ 1 ≤ mo ∧ mo ≤ 12 ∧ d = k - fd (12 * (y - 1) + mo - 1) + 1 := by
  unfold dayOf at h
  split at h
  · next c =>
    cases h
    refine ⟨⟨by omega, ?_⟩, c.1.1, c.1.2, by omega⟩
    rw [fd_succ]
    omega
  · cases h
theorem dayOf_of {d m : Int} (h : IsM d m) : dayOf (m / 12 + 1) (m % 12 + 1) (d - fd m + 1) = some d := by
  have e : 12 * (m / 12 + 1 - 1) + (m % 12 + 1) - 1 = m := by omega
  unfold dayOf
  rw [e]
  have h1 := h.1; have h2 := h.2
  rw [fd_succ] at h2
  rw [if_pos ⟨by omega, by omega⟩]
  congr 1
  omega
end Civ
/-! digits, words of days and of minutes, in plain -/
namespace Dg
open PySem PySem.NumText
theorem val_snoc (l : List Nat) (c : Nat) : digitsVal (l ++ [c]) = digitsVal l * 10 + (c - 48) := by
  unfold digitsVal; rw [List.foldl_append]; rfl
theorem val_cons0 (l : List Nat) : digitsVal (48 :: l) = digitsVal l := rfl
theorem val_rep (l : List Nat) : ∀ j : Nat, digitsVal (List.replicate j 48 ++ l) = digitsVal l
  | 0 => rfl
  | j + 1 => by rw [List.replicate_succ, List.cons_append, val_cons0, val_rep l j]
def dg (n : Nat) : Nat → List Nat
  | 0 => []
  | k + 1 => (48 + n / 10 ^ k % 10) :: dg n k
theorem dg_len (n : Nat) : ∀ k, (dg n k).length = k
  | 0 => rfl
  | k + 1 => by show (dg n k).length + 1 = k + 1; rw [dg_len n k]
theorem dg_dig (n : Nat) : ∀ k, ∀ c ∈ dg n k, 48 ≤ c ∧ c ≤ 57
  | 0, c, h => nomatch h
  | k + 1, c, h => by
    rcases List.mem_cons.mp h with e | h
    · have : n / 10 ^ k % 10 < 10 := Nat.mod_lt _ (by decide)
      omega
    · exact dg_dig n k c h
theorem dg_snoc (n : Nat) : ∀ k, dg n (k + 1) = dg (n / 10) k ++ [48 + n % 10]
  | 0 => by show [48 + n / 10 ^ 0 % 10] = _; rw [Nat.pow_zero, Nat.div_one]; rfl
  | k + 1 => by
    show (48 + n / 10 ^ (k + 1) % 10) :: dg n (k + 1) = (48 + n / 10 / 10 ^ k % 10) :: dg (n / 10) k ++ [48 + n % 10]
    rw [dg_snoc n k, Nat.div_div_eq_div_mul, Nat.pow_succ, Nat.mul_comm (10 ^ k) 10, List.cons_append]
theorem dg_val : ∀ (k n : Nat), digitsVal (dg n k) = n % 10 ^ k
  | 0, n => by rw [Nat.pow_zero, Nat.mod_one]; rfl
  | k + 1, n => by
    rw [dg_snoc, val_snoc, dg_val k (n / 10), Nat.pow_succ, Nat.mul_comm (10 ^ k) 10, Nat.mod_mul]
    have : n % 10 < 10 := Nat.mod_lt _ (by decide)
    omega
theorem snoc_ind {α : Type} {P : List α → Prop} (h0 : P []) (h1 : ∀ l c, P l → P (l ++ [c])) (l : List α) : P l := by
  have : ∀ (n : Nat) (l : List α), l.length = n → P l := by
    intro n
    induction n with
    | zero => intro l h; rw [List.length_eq_zero_iff.mp h]; exact h0
    | succ n ih =>
      intro l h
      have hne : l ≠ [] := fun e => by rw [e] at h; cases h
      rw [← List.dropLast_concat_getLast hne]
      exact h1 _ _ (ih _ (by rw [List.length_dropLast, h]; rfl))
  exact this _ l rfl
theorem dg_of_val (l : List Nat) : (∀ c ∈ l, 48 ≤ c ∧ c ≤ 57) → dg (digitsVal l) l.length = l := by
  refine snoc_ind (P := fun l => (∀ c ∈ l, 48 ≤ c ∧ c ≤ 57) → dg (digitsVal l) l.length = l) (fun _ => rfl) (fun l c ih h => ?_) l
  have hc := h c (List.mem_append_right _ List.mem_cons_self)
  have hl := ih fun d hd => h d (List.mem_append_left _ hd)
  rw [List.length_append, List.length_singleton, val_snoc, dg_snoc]
  have e1 : (digitsVal l * 10 + (c - 48)) / 10 = digitsVal l := by omega
  have e2 : 48 + (digitsVal l * 10 + (c - 48)) % 10 = c := by omega
  rw [e1, e2, hl]
theorem val_lt (l : List Nat) (h : ∀ c ∈ l, 48 ≤ c ∧ c ≤ 57) : digitsVal l < 10 ^ l.length := by
  have e := dg_val l.length (digitsVal l)
  rw [dg_of_val l h] at e
  rw [e]
  exact Nat.mod_lt _ (Nat.pow_pos (by decide))
theorem dg_inj {k m n : Nat} (hm : m < 10 ^ k) (hn : n < 10 ^ k) (h : dg m k = dg n k) : m = n := by
  have := congrArg digitsVal h
  rw [dg_val, dg_val, Nat.mod_eq_of_lt hm, Nat.mod_eq_of_lt hn] at this
  exact this
theorem pad {n k : Nat} (hk : 0 < k) (h : n < 10 ^ k) : List.replicate (k - (TL.numL n).length) 48 ++ TL.numL n = dg n k := by
  have hl := TL.numL_len hk h
  have hd : ∀ c ∈ List.replicate (k - (TL.numL n).length) 48 ++ TL.numL n, 48 ≤ c ∧ c ≤ 57 := fun c hc => by
    rcases List.mem_append.mp hc with q | q
    · rw [List.eq_of_mem_replicate q]; decide
    · exact TL.numL_digits n c q
  have e := dg_of_val _ hd
  rw [val_rep, TL.numL_val, List.length_append, List.length_replicate] at e
  have e2 : k - (TL.numL n).length + (TL.numL n).length = k := by omega
  rw [e2] at e
  exact e.symm
/-! ### words of days -/
def isDig (l : List Nat) : Bool := !l.isEmpty && l.all (fun c => decide (48 ≤ c) && decide (c ≤ 57))
theorem isDig_iff {l : List Nat} : isDig l = true ↔ l ≠ [] ∧ ∀ c ∈ l, 48 ≤ c ∧ c ≤ 57 := by
  unfold isDig
  rw [Bool.and_eq_true, List.all_eq_true]
  constructor
  · rintro ⟨h1, h2⟩
    refine ⟨(fun e => by rw [e] at h1; cases h1), fun c hc => ?_⟩
    have := h2 c hc
    rw [Bool.and_eq_true, decide_eq_true_eq, decide_eq_true_eq] at this
    exact this
  · rintro ⟨h1, h2⟩
    constructor
    · cases l with
      | nil => exact absurd rfl h1
      | cons a l => rfl
    · intro c hc
      rw [Bool.and_eq_true, decide_eq_true_eq, decide_eq_true_eq]
      exact h2 c hc
def dw (d m : Int) : List Nat := dg (m / 12 + 1).toNat 4 ++ 45 :: (dg (m % 12 + 1).toNat 2 ++ 45 :: dg (d - Civ.fd m + 1).toNat 2)
def form (w : List Nat) : Bool := decide (w.length = 10) && (decide (w.getD 4 0 = 45) && decide (w.getD 7 0 = 45)) && (isDig (w.take 4) && (isDig ((w.drop 5).take 2) && isDig (w.drop 8)))
def rday (w : List Nat) : Option Int := Civ.dayOf (digitsVal (w.take 4) : Nat) (digitsVal ((w.drop 5).take 2) : Nat) (digitsVal (w.drop 8) : Nat)
def rdw (w : List Nat) : Option Int := if form w = true then (rday w).bind fun d => if 0 ≤ d then some d else none else none
theorem dw_len (d m : Int) : (dw d m).length = 10 := by
  unfold dw
  rw [List.length_append, List.length_cons, List.length_append, List.length_cons, dg_len, dg_len, dg_len]
theorem fd_top : Civ.fd 119988 = 3652059 := by decide
theorem fd_zero : Civ.fd 0 = 0 := by decide
theorem month_range {d m : Int} (h : Civ.IsM d m) (h0 : 0 ≤ d) (h1 : d < 3652059) : 0 ≤ m ∧ m < 119988 := by
  constructor
  · apply Classical.byContradiction
    intro g
    have := Civ.fd_le (show m + 1 ≤ 0 by omega)
    rw [fd_zero] at this
    have := h.2
    omega
  · apply Classical.byContradiction
    intro g
    have := Civ.fd_le (show 119988 ≤ m by omega)
    rw [fd_top] at this
    have := h.1
    omega
theorem split10 {w : List Nat} (h : w.length = 10) : w = w.take 4 ++ w.getD 4 0 :: ((w.drop 5).take 2 ++ w.getD 7 0 :: w.drop 8) := by
  match w, h with
  | [a, b, c, d, e, f, g, i, j, k], _ => rfl
theorem dw_parts (d m : Int) : (dw d m).take 4 = dg (m / 12 + 1).toNat 4 ∧ (dw d m).getD 4 0 = 45 ∧ ((dw d m).drop 5).take 2 = dg (m % 12 + 1).toNat 2 ∧ (dw d m).getD 7 0 = 45 ∧ (dw d m).drop 8 = dg (d - Civ.fd m + 1).toNat 2 := by
  unfold dw
  have h4 := dg_len (m / 12 + 1).toNat 4
  have h2 := dg_len (m % 12 + 1).toNat 2
  have h3 := dg_len (d - Civ.fd m + 1).toNat 2
  generalize dg (m / 12 + 1).toNat 4 = a at h4
  generalize dg (m % 12 + 1).toNat 2 = b at h2
  generalize dg (d - Civ.fd m + 1).toNat 2 = c at h3
  match a, h4, b, h2, c, h3 with
  | [a, b, c, d], _, [e, f], _, [g, i], _ => exact ⟨rfl, rfl, rfl, rfl, rfl⟩
theorem isDig_dg (n k : Nat) : isDig (dg n (k + 1)) = true := isDig_iff.mpr ⟨(fun h => nomatch h), dg_dig n (k + 1)⟩
theorem day_date {d m : Int} (h : Civ.IsM d m) : 1 ≤ d - Civ.fd m + 1 ∧ d - Civ.fd m + 1 ≤ 31 := by
  have h1 := h.1
  have h2 := h.2
  rw [Civ.fd_succ] at h2
  have := Civ.len_le m
  omega
theorem rdw_dw {d m : Int} (h : Civ.IsM d m) (h0 : 0 ≤ d) (h1 : d < 3652059) : rdw (dw d m) = some d := by
  obtain ⟨p1, p2, p3, p4, p5⟩ := dw_parts d m
  have hm := month_range h h0 h1
  have hd := day_date h
  unfold rdw form rday
  rw [p1, p2, p3, p4, p5, dw_len, isDig_dg, isDig_dg, isDig_dg, dg_val, dg_val, dg_val]
  rw [if_pos (by decide)]
  rw [Nat.mod_eq_of_lt (by omega : (m / 12 + 1).toNat < 10 ^ 4), Nat.mod_eq_of_lt (by omega : (m % 12 + 1).toNat < 10 ^ 2), Nat.mod_eq_of_lt (by omega : (d - Civ.fd m + 1).toNat < 10 ^ 2)]
  rw [Int.toNat_of_nonneg (by omega), Int.toNat_of_nonneg (by omega), Int.toNat_of_nonneg (by omega), Civ.dayOf_of h]
  show (if 0 ≤ d then some d else none) = some d
  rw [if_pos h0]
theorem form_of {w : List Nat} (h : form w = true) : w.length = 10 ∧ w.getD 4 0 = 45 ∧ w.getD 7 0 = 45 ∧ isDig (w.take 4) = true ∧ isDig ((w.drop 5).take 2) = true ∧ isDig (w.drop 8) = true := by
  unfold form at h
  rw [Bool.and_eq_true, Bool.and_eq_true, Bool.and_eq_true, Bool.and_eq_true, Bool.and_eq_true, decide_eq_true_eq, decide_eq_true_eq, decide_eq_true_eq] at h
  exact ⟨h.1.1, h.1.2.1, h.1.2.2, h.2.1, h.2.2.1, h.2.2.2⟩
theorem dw_rdw {w : List Nat} {d : Int} (h : rdw w = some d) : 0 ≤ d ∧ d < 3652059 ∧ ∀ m, Civ.IsM d m → dw d m = w := by
  unfold rdw at h
  split at h
  · next f =>
    obtain ⟨f1, f2, f3, f4, f5, f6⟩ := form_of f
    cases e : rday w with
    | none => rw [e] at h; cases h
    | some k =>
      rw [e] at h
      have h' : (if 0 ≤ k then some k else none) = some d := h
      split at h'
      · next k0 =>
        have hk : k = d := Option.some.inj h'
        subst hk
        unfold rday at e
        obtain ⟨i1, i2, i3, i4⟩ := Civ.dayOf_isM e
        have l4 : (w.take 4).length = 4 := by rw [List.length_take, f1]; rfl
        have l2 : ((w.drop 5).take 2).length = 2 := by rw [List.length_take, List.length_drop, f1]; rfl
        have l3 : (w.drop 8).length = 2 := by rw [List.length_drop, f1]
        have b4 := val_lt _ (isDig_iff.mp f4).2
        have b2 := val_lt _ (isDig_iff.mp f5).2
        have b3 := val_lt _ (isDig_iff.mp f6).2
        have w4 := dg_of_val _ (isDig_iff.mp f4).2
        have w2 := dg_of_val _ (isDig_iff.mp f5).2
        have w3 := dg_of_val _ (isDig_iff.mp f6).2
        rw [l4] at b4 w4
        rw [l2] at b2 w2
        rw [l3] at b3 w3
        have sp := split10 f1
        rw [f2, f3] at sp
        generalize digitsVal (w.take 4) = y at *
        generalize digitsVal ((w.drop 5).take 2) = mo at *
        generalize digitsVal (w.drop 8) = da at *
        refine ⟨k0, ?_, fun m hm => ?_⟩
        · have := Civ.fd_le (show 12 * ((y : Int) - 1) + mo - 1 + 1 ≤ 119988 by omega)
          rw [fd_top] at this
          have := i1.2
          omega
        · have em := Civ.IsM.uniq hm i1
          subst em
          have e1 : ((12 * ((y : Int) - 1) + mo - 1) / 12 + 1).toNat = y := by omega
          have e2 : ((12 * ((y : Int) - 1) + mo - 1) % 12 + 1).toNat = mo := by omega
          have e3 : (k - Civ.fd (12 * ((y : Int) - 1) + mo - 1) + 1).toNat = da := by omega
          unfold dw
          rw [e1, e2, e3, w4, w2, w3]
          exact sp.symm
      · cases h'
  · cases h
/-! ### words of minutes -/
def mw (k : Int) : List Nat := dg (k / 60).toNat 2 ++ 46 :: dg (k % 60).toNat 2
def mform (w : List Nat) : Bool := decide (w.length = 5) && decide (w.getD 2 0 = 46) && (isDig (w.take 2) && isDig (w.drop 3))
def rmw (w : List Nat) : Option Int := if mform w = true then (if (24 < digitsVal (w.take 2) ∨ 59 < digitsVal (w.drop 3)) ∨ (digitsVal (w.take 2) = 24 ∧ 0 < digitsVal (w.drop 3)) then none else some (60 * (digitsVal (w.take 2) : Nat) + (digitsVal (w.drop 3) : Nat))) else none
theorem mw_len (k : Int) : (mw k).length = 5 := by
  unfold mw
  rw [List.length_append, List.length_cons, dg_len, dg_len]
theorem mw_parts (k : Int) : (mw k).take 2 = dg (k / 60).toNat 2 ∧ (mw k).getD 2 0 = 46 ∧ (mw k).drop 3 = dg (k % 60).toNat 2 := by
  unfold mw
  have h4 := dg_len (k / 60).toNat 2
  have h2 := dg_len (k % 60).toNat 2
  generalize dg (k / 60).toNat 2 = a at h4
  generalize dg (k % 60).toNat 2 = b at h2
  match a, h4, b, h2 with
  | [a, b], _, [e, f], _ => exact ⟨rfl, rfl, rfl⟩
theorem rmw_mw {k : Int} (h0 : 0 ≤ k) (h1 : k ≤ 1440) : rmw (mw k) = some k := by
  obtain ⟨p1, p2, p3⟩ := mw_parts k
  unfold rmw mform
  rw [p1, p2, p3, mw_len, isDig_dg, isDig_dg, dg_val, dg_val]
  rw [if_pos (by decide)]
  rw [Nat.mod_eq_of_lt (by omega : (k / 60).toNat < 10 ^ 2), Nat.mod_eq_of_lt (by omega : (k % 60).toNat < 10 ^ 2)]
  rw [if_neg (by omega)]
  congr 1
  omega
theorem split5 {w : List Nat} (h : w.length = 5) : w = w.take 2 ++ w.getD 2 0 :: w.drop 3 := by
  match w, h with
  | [a, b, c, d, e], _ => rfl
theorem mw_rmw {w : List Nat} {k : Int} (h : rmw w = some k) : 0 ≤ k ∧ k ≤ 1440 ∧ mw k = w := by
  unfold rmw at h
  split at h
  · next f =>
    unfold mform at f
    rw [Bool.and_eq_true, Bool.and_eq_true, Bool.and_eq_true, decide_eq_true_eq, decide_eq_true_eq] at f
    obtain ⟨⟨f1, f2⟩, f3, f4⟩ := f
    split at h
    · cases h
    · next c =>
      have l2 : (w.take 2).length = 2 := by rw [List.length_take, f1]; rfl
      have l3 : (w.drop 3).length = 2 := by rw [List.length_drop, f1]
      have w2 := dg_of_val _ (isDig_iff.mp f3).2
      have w3 := dg_of_val _ (isDig_iff.mp f4).2
      rw [l2] at w2
      rw [l3] at w3
      have sp := split5 f1
      rw [f2] at sp
      generalize digitsVal (w.take 2) = y at *
      generalize digitsVal (w.drop 3) = mo at *
      cases h
      refine ⟨by omega, by omega, ?_⟩
      have e1 : ((60 * (y : Int) + mo) / 60).toNat = y := by omega
      have e2 : ((60 * (y : Int) + mo) % 60).toNat = mo := by omega
      unfold mw
      rw [e1, e2, w2, w3]
      exact sp.symm
  · cases h
end Dg
/-! words read one after the other, in plain -/
namespace Wd
open PySem PySem.NumText Dg
abbrev W := List Nat
def WD : List W := [[109, 111, 110], [116, 117, 101], [119, 101, 100], [116, 104, 117], [102, 114, 105], [115, 97, 116], [115, 117, 110]]
def MO : List W := [[106, 97, 110], [102, 101, 98], [109, 97, 114], [97, 112, 114], [109, 97, 121], [106, 117, 110], [106, 117, 108], [97, 117, 103], [115, 101, 112], [111, 99, 116], [110, 111, 118], [100, 101, 99]]
def PL : List W := [[102, 105, 114, 115, 116], [115, 101, 99, 111, 110, 100], [116, 104, 105, 114, 100], [102, 111, 117, 114, 116, 104], [102, 105, 102, 116, 104]]
def UN : List W := [[100, 97, 121, 115], [119, 101, 101, 107, 115], [109, 111, 110, 116, 104, 115], [121, 101, 97, 114, 115]]
def dash (l : W) : W := if l.take 1 = [45] then l.drop 1 else l
def rint (l : W) : Option Int :=
  if dash l = [] ∨ 18 < (dash l).length ∨ isDig (dash l) = false then none
  else if (dash l).getD 0 0 = 48 ∧ l ≠ [48] then none
  else some (if l.take 1 = [45] then -((digitsVal (dash l) : Nat) : Int) else ((digitsVal (dash l) : Nat) : Int))
def one (es : List W) (ws : List W) (p : Nat) : Except Nat (W × Nat) := match ws[p]? with
  | some x => if x ∈ es then .ok (x, p + 1) else .error p
  | none => .error p
def int (lo hi : Int) (ws : List W) (p : Nat) : Except Nat (Int × Nat) := match ws[p]?.bind rint with
  | some n => if lo ≤ n ∧ n ≤ hi then .ok (n, p + 1) else .error p
  | none => .error p
theorem numL_head {n : Nat} (h : n ≠ 0) : ∃ c r, TL.numL n = c :: r ∧ c ≠ 48 := by
  have : ∀ m n : Nat, n ≤ m → n ≠ 0 → ∃ c r, TL.numL n = c :: r ∧ c ≠ 48 := by
    intro m
    induction m with
    | zero => intro n h1 h2; omega
    | succ m ih =>
      intro n h1 h2
      by_cases h : n < 10
      · rw [TL.numL_lt h]
        exact ⟨48 + n, [], rfl, by omega⟩
      · rw [TL.numL_step (by omega)]
        obtain ⟨c, r, e, hc⟩ := ih (n / 10) (by omega) (by omega)
        rw [e]
        exact ⟨c, r ++ [48 + n % 10], rfl, hc⟩
  exact this n n (Nat.le_refl _) h
theorem isDig_num (n : Nat) : isDig (TL.numL n) = true := isDig_iff.mpr ⟨TL.numL_ne n, TL.numL_digits n⟩
theorem dash_dig {l : W} (h : isDig l = true) : dash l = l ∧ ¬ l.take 1 = [45] := by
  have : ¬ l.take 1 = [45] := fun e => by
    cases l with
    | nil => cases e
    | cons c r =>
      have hc := (isDig_iff.mp h).2 c List.mem_cons_self
      have : c = 45 := by simpa using e
      omega
  exact ⟨if_neg this, this⟩
theorem rint_num {n : Nat} (h : n < 10 ^ 18) : rint (TL.numL n) = some (n : Int) := by
  obtain ⟨d1, d2⟩ := dash_dig (isDig_num n)
  have hl := TL.numL_len (k := 18) (by decide) h
  unfold rint
  rw [d1, isDig_num, if_neg (fun z => z.elim (TL.numL_ne n) fun z => z.elim (fun z => by omega) fun z => by cases z), if_neg d2, TL.numL_val]
  refine if_neg fun z => ?_
  by_cases h0 : n = 0
  · subst h0; exact z.2 (by decide)
  · obtain ⟨c, r, e, hc⟩ := numL_head h0
    rw [e] at z
    exact hc z.1
/-- a whole text's words -/
def cutw (t : W) : List W := TL.spl [32] 0 [] t
def txt (ws : List W) : W := TL.joinL [32] ws
theorem cutw_txt {ws : List W} (h : ws ≠ []) (g : ∀ x ∈ ws, 32 ∉ x) : cutw (txt ws) = ws := SX.spl_join h g
end Wd
/-! new objects, cuts of lists, joins -/
namespace Q
open PySem PySem.Spec PyProof.Rows L2 SX
theorem same_new7 {H : Hp} {p : Addr} {o : HO} (h : H p = none) : Same H (upd H p o) := fun b x e => by
  rw [upd_ne (ne_of_none e h)]; exact e
section
variable {K : PySem.W.Frag} {σ : L2.St} {H H' : Hp} {ta : TA} {te to : TE} {Q : VK} {p l b : Addr} {xs ys zs : List V}
/-- a new list, a new tuple -/
abbrev NewL (xs : List V) (H : Hp) (Q : VK) : Prop := xs.length ≤ sizeLine ∧ ∀ p, H p = none → Q (.ref p) (upd H p (.lst xs))
abbrev NewT (xs : List V) (H : Hp) (Q : VK) : Prop := xs.length ≤ sizeLine ∧ ∀ p, H p = none → Q (.ref p) (upd H p (.tup xs))
theorem g_lstN (q : ta σ H fun xs H1 => NewL xs H1 Q) : tLst ta σ H Q := q
theorem g_tupN (q : ta σ H fun xs H1 => NewT xs H1 Q) : tTup ta σ H Q := q
theorem nwL (e : xs = ys) (hn : ys.length ≤ 1000000) (q : ∀ p H', H p = none → Same H H' → H' p = some (.lst ys) → Q (.ref p) H') : NewL xs H Q := by
  subst e
  exact ⟨Nat.le_trans hn sizeBig, fun p hp => q p _ hp (same_new7 hp) upd_same⟩
theorem nwT (e : xs = ys) (hn : ys.length ≤ 1000000) (q : ∀ p H', H p = none → Same H H' → H' p = some (.tup ys) → Q (.ref p) H') : NewT xs H Q := by
  subst e
  exact ⟨Nat.le_trans hn sizeBig, fun p hp => q p _ hp (same_new7 hp) upd_same⟩
theorem g_cat (hl : H l = some (.lst xs)) (hb : H b = some (.lst zs)) (e : xs ++ zs = ys) (hn : ys.length ≤ 1000000) (q : ∀ p H', H p = none → Same H H' → H' p = some (.lst ys) → Q (.ref p) H') : rCat (.ref l) (.ref b) H Q := by
  subst e
  refine ⟨l, b, xs, zs, rfl, rfl, hl, hb, ?_, fun p hp => q p _ hp (same_new7 hp) upd_same⟩
  rw [← List.length_append]
  exact Nat.le_trans hn sizeBig
theorem cutV_to {n : Nat} (h : n ≤ xs.length) : cutV xs none (some (n : Int)) = xs.take n := by
  unfold cutV
  rw [HT.sIx_none, HT.sIx_nat, List.drop_zero, Nat.sub_zero, Nat.min_eq_left h]
theorem cutV_from {n : Nat} (h : n ≤ xs.length) : cutV xs (some (n : Int)) none = xs.drop n := by
  unfold cutV
  rw [HT.sIx_none, HT.sIx_nat, Nat.min_eq_left h]
  exact List.take_of_length_le (by rw [List.length_drop]; exact Nat.le_refl _)
theorem g_slL {lo hi : Option Int} (hl : SqL K H l xs) (e : cutV xs lo hi = ys) (q : ∀ p H', H p = none → Same H H' → H' p = some (.lst ys) → Q (.ref p) H') : rSlL K (.ref l) lo hi H Q := by
  subst e
  exact ⟨l, xs, rfl, hl, fun p hp => q p _ hp (same_new7 hp) upd_same⟩
end
end Q
/-! plain data (Dp) under new objects, equality of plain data; set(tuple of ints) -/
namespace Q
open PySem PySem.Spec PyProof.Rows L2 SX
section
variable {K : PySem.W.Frag} {H H' : Hp}
mutual
theorem dp_same (sm : Same H H') : ∀ (d : PyData) {v : V}, Dp K H v d → Dp K H' v d
  | .none, _, h => by cases h; exact .non
  | .bool b, _, h => by cases h; exact .bl b
  | .int i, _, h => by cases h; exact .int i
  | .str x, _, h => by cases h; exact .str x
  | .list ds, _, h => by cases h with | lst a b => exact .lst (SqL.ext a sm) (dpAll_same sm ds b)
  | .tuple ds, _, h => by cases h with | tup a b => exact .tup (SqT.ext a sm) (dpAll_same sm ds b)
  | .dict _, _, h => by cases h
theorem dpAll_same (sm : Same H H') : ∀ (ds : List PyData) {vs : List V}, DpAll K H vs ds → DpAll K H' vs ds
  | [], _, h => by cases h; exact .nil
  | d :: ds, _, h => by cases h with | cons a b => exact .cons (dp_same sm d a) (dpAll_same sm ds b)
end
theorem dpAll_len : ∀ {vs : List V} {ds : List PyData}, DpAll K H vs ds → vs.length = ds.length
  | _, _, .nil => rfl
  | _, _, .cons _ b => by rw [List.length_cons, List.length_cons, dpAll_len b]
theorem dpAll_at : ∀ {vs : List V} {ds : List PyData} {i : Nat} {d : PyData}, DpAll K H vs ds → ds[i]? = some d → ∃ v, vs[i]? = some v ∧ Dp K H v d
  | _, _, _, _, .nil, e => by cases e
  | _, _, 0, _, .cons a b, e => by cases e; exact ⟨_, rfl, a⟩
  | _, _, i + 1, _, .cons a b, e => dpAll_at (i := i) b e
theorem dpAll_at' : ∀ {vs : List V} {ds : List PyData} {i : Nat} {v : V}, DpAll K H vs ds → vs[i]? = some v → ∃ d, ds[i]? = some d ∧ Dp K H v d
  | _, _, _, _, .nil, e => by cases e
  | _, _, 0, _, .cons a b, e => by cases e; exact ⟨_, rfl, a⟩
  | _, _, i + 1, _, .cons a b, e => dpAll_at' (i := i) b e
theorem dpAll_app : ∀ {vs ws : List V} {ds es : List PyData}, DpAll K H vs ds → DpAll K H ws es → DpAll K H (vs ++ ws) (ds ++ es)
  | _, _, _, _, .nil, h => h
  | _, _, _, _, .cons a b, h => .cons a (dpAll_app b h)
theorem dpAll_ints : ∀ ns : List Int, DpAll K H (ns.map V.int) (ns.map PyData.int)
  | [] => .nil
  | n :: r => .cons (.int n) (dpAll_ints r)
theorem dpAll_strs : ∀ ws : List (List Nat), DpAll K H (ws.map fun z => V.str (S z)) (ws.map fun z => PyData.str (S z))
  | [] => .nil
  | n :: r => .cons (.str _) (dpAll_strs r)
theorem dpAll_take : ∀ (n : Nat) {vs : List V} {ds : List PyData}, DpAll K H vs ds → DpAll K H (vs.take n) (ds.take n)
  | 0, _, _, _ => .nil
  | _ + 1, _, _, .nil => .nil
  | n + 1, _, _, .cons a b => .cons a (dpAll_take n b)
theorem dpAll_drop : ∀ (n : Nat) {vs : List V} {ds : List PyData}, DpAll K H vs ds → DpAll K H (vs.drop n) (ds.drop n)
  | 0, _, _, h => h
  | _ + 1, _, _, .nil => .nil
  | n + 1, _, _, .cons a b => dpAll_drop n b
end
/-! plain data: None, ints, texts, lists, tuples -/
mutual
def pl : PyData → Bool
  | .none => true
  | .int _ => true
  | .str x => PyData.strOk x
  | .list xs => plAll xs
  | .tuple xs => plAll xs
  | .bool _ => false
  | .dict _ => false
def plAll : List PyData → Bool
  | [] => true
  | x :: xs => pl x && plAll xs
end
mutual
theorem pl_can : ∀ d : PyData, pl d = true → PyData.canLay0 d = true
  | .none, _ => by simp [PyData.canLay0]
  | .int _, _ => by simp [PyData.canLay0]
  | .str x, h => by simpa [PyData.canLay0, pl] using h
  | .list xs, h => by simpa [PyData.canLay0] using plAll_can xs (by simpa [pl] using h)
  | .tuple xs, h => by simpa [PyData.canLay0] using plAll_can xs (by simpa [pl] using h)
  | .bool _, h => by simp [pl] at h
  | .dict _, h => by simp [pl] at h
theorem plAll_can : ∀ ds : List PyData, plAll ds = true → PyData.canLayAll0 ds = true
  | [], _ => by simp [PyData.canLayAll0]
  | d :: ds, h => by
    have h : (pl d && plAll ds) = true := by simpa [plAll] using h
    rw [Bool.and_eq_true] at h
    simp [PyData.canLayAll0, pl_can d h.1, plAll_can ds h.2]
end
mutual
theorem eqv_iff : ∀ d e : PyData, pl d = true → pl e = true → (PyData.eqv d e = true ↔ d = e)
  | .none, e, _, h => by cases e <;> simp_all [PyData.eqv, pl]
  | .int i, e, _, h => by cases e <;> simp_all [PyData.eqv, pl]
  | .str x, e, _, h => by cases e <;> simp_all [PyData.eqv, pl]
  | .list xs, e, h1, h2 => by
    cases e with
    | list ys =>
      have := eqvAll_iff xs ys (by simpa [pl] using h1) (by simpa [pl] using h2)
      simpa [PyData.eqv] using this
    | _ => simp_all [PyData.eqv, pl]
  | .tuple xs, e, h1, h2 => by
    cases e with
    | tuple ys =>
      have := eqvAll_iff xs ys (by simpa [pl] using h1) (by simpa [pl] using h2)
      simpa [PyData.eqv] using this
    | _ => simp_all [PyData.eqv, pl]
  | .bool _, _, h, _ => by simp [pl] at h
  | .dict _, _, h, _ => by simp [pl] at h
theorem eqvAll_iff : ∀ ds es : List PyData, plAll ds = true → plAll es = true → (PyData.eqvAll ds es = true ↔ ds = es)
  | [], es, _, _ => by cases es <;> simp [PyData.eqvAll]
  | d :: ds, [], _, _ => by simp [PyData.eqvAll]
  | d :: ds, e :: es, h1, h2 => by
    have h1 : (pl d && plAll ds) = true := by simpa [plAll] using h1
    have h2 : (pl e && plAll es) = true := by simpa [plAll] using h2
    rw [Bool.and_eq_true] at h1 h2
    simp [PyData.eqvAll, eqv_iff d e h1.1 h2.1, eqvAll_iff ds es h1.2 h2.2]
end
theorem eqv_t {d : PyData} (h : pl d = true) : PyData.eqv d d = true := (eqv_iff d d h h).mpr rfl
theorem eqv_f {d e : PyData} (h : pl d = true) (g : pl e = true) (n : d ≠ e) : PyData.eqv d e = false := by
  cases q : PyData.eqv d e with
  | false => rfl
  | true => exact absurd ((eqv_iff d e h g).mp q) n
theorem plAll_app : ∀ {xs ys : List PyData}, plAll xs = true → plAll ys = true → plAll (xs ++ ys) = true
  | [], _, _, h => h
  | x :: xs, ys, h, g => by
    have h : (pl x && plAll xs) = true := by simpa [plAll] using h
    rw [Bool.and_eq_true] at h
    show plAll (x :: (xs ++ ys)) = true
    simp [plAll, h.1, plAll_app h.2 g]
theorem plAll_of : ∀ {xs : List PyData}, (∀ x ∈ xs, pl x = true) → plAll xs = true
  | [], _ => by simp [plAll]
  | x :: xs, h => by simp [plAll, h x List.mem_cons_self, plAll_of fun y hy => h y (List.mem_cons_of_mem _ hy)]
theorem plAll_mem : ∀ {xs : List PyData}, plAll xs = true → ∀ x ∈ xs, pl x = true
  | x :: xs, h, y, m => by
    have h : (pl x && plAll xs) = true := by simpa [plAll] using h
    rw [Bool.and_eq_true] at h
    rcases List.mem_cons.mp m with rfl | m
    · exact h.1
    · exact plAll_mem h.2 y m
theorem plAll_ints (ns : List Int) : plAll (ns.map PyData.int) = true := plAll_of fun x hx => by
  obtain ⟨n, _, rfl⟩ := List.mem_map.mp hx
  simp [pl]
theorem depthAll_le {n : Nat} : ∀ {xs : List PyData}, (∀ x ∈ xs, x.depth ≤ n) → PyData.depthAll xs ≤ n
  | [], _ => by simp [PyData.depthAll]
  | x :: xs, h => by
    simp only [PyData.depthAll]
    exact Nat.max_le.mpr ⟨h x List.mem_cons_self, depthAll_le fun y hy => h y (List.mem_cons_of_mem _ hy)⟩
theorem depthAll_ints (ns : List Int) : PyData.depthAll (ns.map PyData.int) ≤ 0 := depthAll_le fun x hx => by
  obtain ⟨n, _, rfl⟩ := List.mem_map.mp hx
  simp [PyData.depth]
theorem shaped_of {d : PyData} (h : pl d = true) (g : d.depth ≤ 64) : SeqAt.shaped d = true := by
  unfold SeqAt.shaped
  rw [pl_can d h, decide_eq_true g]; rfl
section
variable {K : PySem.W.Frag} {H : Hp} {x y : V} {d e : PyData} {Q : VK}
theorem g_eqD (h1 : Dp K H x d) (h2 : Dp K H y e) (s1 : pl d = true) (s2 : pl e = true) (d1 : d.depth ≤ 64) (d2 : e.depth ≤ 64) (qt : d = e → Q (.bl true) H) (qf : d ≠ e → Q (.bl false) H) : rEqD K x y H Q := by
  refine ⟨d, e, h1, h2, shaped_of s1 d1, shaped_of s2 d2, ?_⟩
  by_cases h : d = e
  · subst h; rw [eqv_t s1]; exact qt rfl
  · rw [eqv_f s1 s2 h]; exact qf h
theorem g_neD (h1 : Dp K H x d) (h2 : Dp K H y e) (s1 : pl d = true) (s2 : pl e = true) (d1 : d.depth ≤ 64) (d2 : e.depth ≤ 64) (qt : d = e → Q (.bl false) H) (qf : d ≠ e → Q (.bl true) H) : rNeD K x y H Q := by
  refine ⟨d, e, h1, h2, shaped_of s1 d1, shaped_of s2 d2, ?_⟩
  by_cases h : d = e
  · subst h; rw [eqv_t s1]; exact qt rfl
  · rw [eqv_f s1 s2 h]; exact qf h
end
/-! ### set(t), t a tuple of ints -/
section
variable {X : Cx}
def rSetTupI (K : PySem.W.Frag) (w : World) : List V → Hp → VK → Prop := fun xs H Q => ∃ (l : Addr) (ns : List Int), xs = [V.ref l] ∧ SqT K H l (ns.map V.int) ∧ ns.length ≤ 1000 ∧
  ∀ p n, H p = none → Q (.ref p) (upd H p (SetO w p (fun j => decide (j ∈ ns)) n))
theorem cr_setTupI (hc : X.calm = true) : CallR X (.type "set") (rSetTupI X.K X.w) := by
  intro pins s σ H xs us Q I r h
  obtain ⟨l, ns, rfl, hl, hn, q⟩ := h
  rw [Vals.ref1 r]
  obtain ⟨its, rv, pt, hz⟩ := I.tuple hl
  have new := I.hok.fresh (Nat.le_refl s.heap.objs.size)
  refine call_set_tupI ns (I.ok.hd hc) (show s.heap.IsTuple l its.toArray from pt) (ints_of_vals rv) (by unfold scanBound; omega) fun h' tk c R hcn k => ?_
  exact ⟨.ref s.heap.objs.size, upd H s.heap.objs.size (SetO X.w s.heap.objs.size (fun j => decide (j ∈ ns)) c), I.laid (t' := tk) k (Nat.le_refl _) (setO_new R), rfl, q _ c new⟩
end
/-! ### a //= b, a positive divisor -/
section
variable {X : Cx}
def ipC (C : Int → Int → Prop) (f : Int → Int → Int) : TIp := fun x y H Q => ∃ i j, x = .int i ∧ y = .int j ∧ C i j ∧ Q (.int (f i j)) H
theorem ip_fdiv : PIp X .FloorDiv (ipC CDiv fun i j => i / j) := by
  intro pins s σ H x y v u Q I r1 r2 h
  obtain ⟨i, j, rfl, rfl, hc, q⟩ := h
  obtain ⟨t, rfl⟩ := r1
  obtain ⟨t', rfl⟩ := r2
  have h1 : (0 : Int) < j := hc.1
  have h2 : j < 1073741824 := hc.2
  exact ifloordiv_int (by omega) (by rw [Int.fdiv_eq_ediv_of_nonneg i (by omega)]; exact ⟨.int _, H, I.tok _, ⟨_, rfl⟩, q⟩) (.inl (PyProof.noPylong_small (by omega)))
theorem g_ipC {C : Int → Int → Prop} {f : Int → Int → Int} {m n : Int} {H : Hp} {Q : VK} (c : C m n) (q : Q (.int (f m n)) H) : ipC C f (.int m) (.int n) H Q := ⟨m, n, rfl, rfl, c, q⟩
theorem same_put {H H' : Hp} {L : Addr} {o : HO} (hL : H L = none) (s : Same H H') : Same H (upd H' L o) := fun b u hb => by
  rw [upd_ne (ne_of_none hb hL)]; exact s b u hb
end
/-! ### slices of tuples, tuple(list) -/
section
variable {K : PySem.W.Frag} {H : Hp} {l : Addr} {xs ys zs : List V} {Q : VK}
theorem g_slT {lo hi : Option Int} (ht : SqT K H l xs) (e : cutV xs lo hi = ys) (hn : ¬ (HT.sIx xs.length 0 lo = 0 ∧ HT.sIx xs.length xs.length hi = xs.length)) (q : ∀ p H', H p = none → Same H H' → H' p = some (.tup ys) → Q (.ref p) H') : rSlT K (.ref l) lo hi H Q := by
  subst e
  exact ⟨l, xs, rfl, ht, hn, fun p hp => q p _ hp (same_new7 hp) upd_same⟩
theorem tupOf {R : Addr → Hp → Prop} {o : HO} (q : ∀ p H', H p = none → Same H H' → H' p = some o → R p H') : ∀ p, H p = none → R p (upd H p o) := fun p hp => q p _ hp (same_new7 hp) upd_same
theorem g_catT {b : Addr} (h1 : SqT K H l xs) (h2 : SqT K H b zs) (e : xs ++ zs = ys) (hx : xs ≠ []) (hn : ys.length ≤ 1000000) (q : ∀ p H', Same H H' → SqT K H' p ys → Q (.ref p) H') : rCatT K (.ref l) (.ref b) H Q := by
  subst e
  refine ⟨l, b, xs, zs, rfl, rfl, h1, h2, hx, by rw [← List.length_append]; exact Nat.le_trans hn sizeBig, fun h => ?_, fun _ p hp => q p _ (same_new7 hp) (SqT.of upd_same)⟩
  subst h
  refine q l H (Same.refl H) ?_
  rw [List.append_nil]
  exact h1
end
/-! ### tuples stay, whatever is changed -/
def KeepT (H H' : Hp) : Prop := ∀ b o, H b = some o → ((∃ xs, o = .tup xs) ∨ ∃ q xs, o = .frz q (.tup xs)) → H' b = some o
theorem KeepT.refl (H : Hp) : KeepT H H := fun _ _ h _ => h
theorem KeepT.of {H H' : Hp} (s : Same H H') : KeepT H H' := fun b o h _ => s b o h
theorem KeepT.trans {H H1 H2 : Hp} (h : KeepT H H1) (g : KeepT H1 H2) : KeepT H H2 := fun b o e t => g b o (h b o e t) t
theorem KeepT.put {H : Hp} {L : Addr} {u o : HO} (hL : H L = some u) (nt : (∀ xs, u ≠ .tup xs) ∧ ∀ q xs, u ≠ .frz q (.tup xs)) : KeepT H (upd H L o) := fun b x h t => by
  have : b ≠ L := fun e => by
    subst e
    rw [hL] at h
    cases h
    rcases t with ⟨xs, e⟩ | ⟨q, xs, e⟩
    · exact nt.1 xs e
    · exact nt.2 q xs e
  rw [upd_ne this]; exact h
theorem KeepT.putL {H : Hp} {L : Addr} {xs : List V} {o : HO} (hL : H L = some (.lst xs)) : KeepT H (upd H L o) := KeepT.put hL ⟨fun _ e => (by cases e), fun _ _ e => (by cases e)⟩
theorem sqT_keep {K : PySem.W.Frag} {H H' : Hp} {a : Addr} {xs : List V} (h : SqT K H a xs) (k : KeepT H H') : SqT K H' a xs := by
  rcases h with h | h
  · refine .inl ?_
    rcases h with h | ⟨q, h⟩
    · exact .inl (k _ _ h (.inl ⟨_, rfl⟩))
    · exact .inr ⟨q, k _ _ h (.inr ⟨_, _, rfl⟩)⟩
  · exact .inr h
/-! data without lists -/
mutual
def noL : PyData → Bool
  | .none => true
  | .bool _ => true
  | .int _ => true
  | .str _ => true
  | .list _ => false
  | .tuple xs => noLAll xs
  | .dict _ => false
def noLAll : List PyData → Bool
  | [] => true
  | x :: xs => noL x && noLAll xs
end
section
variable {K : PySem.W.Frag} {H H' : Hp}
mutual
theorem dp_keep (k : KeepT H H') : ∀ (d : PyData) {v : V}, noL d = true → Dp K H v d → Dp K H' v d
  | .none, _, _, h => by cases h; exact .non
  | .bool b, _, _, h => by cases h; exact .bl b
  | .int i, _, _, h => by cases h; exact .int i
  | .str x, _, _, h => by cases h; exact .str x
  | .list ds, _, n, h => by simp [noL] at n
  | .tuple ds, _, n, h => by cases h with | tup a b => exact .tup (sqT_keep a k) (dpAll_keep k ds (by simpa [noL] using n) b)
  | .dict _, _, _, h => by cases h
theorem dpAll_keep (k : KeepT H H') : ∀ (ds : List PyData) {vs : List V}, noLAll ds = true → DpAll K H vs ds → DpAll K H' vs ds
  | [], _, _, h => by cases h; exact .nil
  | d :: ds, _, n, h => by
    have n : (noL d && noLAll ds) = true := by simpa [noLAll] using n
    rw [Bool.and_eq_true] at n
    cases h with | cons a b => exact .cons (dp_keep k d n.1 a) (dpAll_keep k ds n.2 b)
end
theorem noLAll_of : ∀ {xs : List PyData}, (∀ x ∈ xs, noL x = true) → noLAll xs = true
  | [], _ => by simp [noLAll]
  | x :: xs, h => by simp [noLAll, h x List.mem_cons_self, noLAll_of fun y hy => h y (List.mem_cons_of_mem _ hy)]
theorem noLAll_ints (ns : List Int) : noLAll (ns.map PyData.int) = true := noLAll_of fun x hx => by
  obtain ⟨n, _, rfl⟩ := List.mem_map.mp hx
  simp [noL]
theorem dpAll_ints_inv : ∀ {ns : List Int} {vs : List V}, DpAll K H vs (ns.map PyData.int) → vs = ns.map V.int
  | [], _, h => by cases h; rfl
  | n :: r, _, h => by
    cases h with
    | cons a b => cases a; rw [dpAll_ints_inv b]; rfl
end
section
variable {K : PySem.W.Frag} {H : Hp}
theorem dpAll_last : ∀ {ds : List PyData} {d : PyData} {vs : List V}, DpAll K H vs (ds ++ [d]) → ∃ us v, vs = us ++ [v] ∧ DpAll K H us ds ∧ Dp K H v d
  | [], d, _, h => by
    cases h with
    | cons a b => cases b; exact ⟨[], _, rfl, .nil, a⟩
  | e :: ds, d, _, h => by
    cases h with
    | cons a b =>
      obtain ⟨us, v, rfl, h1, h2⟩ := dpAll_last b
      exact ⟨_ :: us, v, rfl, .cons a h1, h2⟩
end
theorem g_ienum {K : PySem.W.Frag} {ta : TA} {σ : L2.St} {H : Hp} {R : It → Hp → Prop} (q : ta σ H fun vs H1 => ∃ a xs, vs = [.ref a] ∧ SqL K H1 a xs ∧ R (Ite K a) H1) : iEnum K ta σ H R := q
/-! ### readings that name K (within a comprehension's block) -/
section
variable {X : Cx}
def rListOf (K : PySem.W.Frag) : List V → Hp → VK → Prop := fun xs H Q => ∃ p ys, xs = [V.ref p] ∧ (SqL K H p ys ∨ SqT K H p ys) ∧ ∀ l, H l = none → Q (.ref l) (upd H l (.lst ys))
theorem call_list_ofK : CallR X (.type "list") (rListOf X.K) := call_list_of
def rTupOf (K : PySem.W.Frag) : List V → Hp → VK → Prop := fun xs H Q => ∃ p ys, xs = [V.ref p] ∧ ((SqL K H p ys ∧ ∀ l, H l = none → Q (.ref l) (upd H l (.tup ys))) ∨ (SqT K H p ys ∧ Q (.ref p) H))
theorem call_tuple_ofK : CallR X (.type "tuple") (rTupOf X.K) := call_tuple_of
def rLenSeq (K : PySem.W.Frag) : List V → Hp → VK → Prop := fun xs H Q => ∃ p ys, xs = [V.ref p] ∧ (SqL K H p ys ∨ SqT K H p ys) ∧ Q (V.int (ys.length : Nat)) H
theorem call_len_seqK : CallR X (.builtin "len") (rLenSeq X.K) := call_len_seq
def rJoin (K : PySem.W.Frag) : V → List V → Hp → VK → Prop := fun x xs H Q => ∃ a p, ∃ ys : List Str, x = .str a ∧ xs = [.ref p] ∧ (SqL K H p (ys.map V.str) ∨ SqT K H p (ys.map V.str)) ∧
  (ys.map (·.length)).sum + ys.length * a.length ≤ 16777216 ∧ Q (.str (Txt.join a ys)) H
theorem g_listOf {K : PySem.W.Frag} {H : Hp} {l : Addr} {ys : List V} {Q : VK} (h : SqL K H l ys ∨ SqT K H l ys) (q : ∀ p H', H p = none → Same H H' → H' p = some (.lst ys) → Q (.ref p) H') : rListOf K [.ref l] H Q := ⟨l, ys, rfl, h, fun p hp => q p _ hp (same_new7 hp) upd_same⟩
theorem g_tupOfL {K : PySem.W.Frag} {H : Hp} {l : Addr} {ys : List V} {Q : VK} (h : SqL K H l ys) (q : ∀ p H', H p = none → Same H H' → H' p = some (.tup ys) → Q (.ref p) H') : rTupOf K [.ref l] H Q := ⟨l, ys, rfl, .inl ⟨h, fun p hp => q p _ hp (same_new7 hp) upd_same⟩⟩
end
theorem ixN_at {n j : Nat} (h : j < n) : ixN n (j : Int) = some j := by
  unfold ixN
  have h1 : (0 : Int) ≤ (j : Int) := by omega
  simp [h1, h]
end Q
/-! min of a list of data; list.count of texts; a tuple of numbers in an f-string; len(set(list of texts)) -/
namespace Q
open PySem PySem.Spec PyProof.Rows L2 SX
section
variable {prog : Program} {w : World} {A : Around} {E : Value → Shared → Prop} {s : Shared}
/-- min over data, with the place of the least -/
theorem min_at {l : Addr} {vs : Array Value} {d : PyData} {ds : List PyData} {as : List Addr} {Q : Value → Shared → Prop} (hh : A.handled = none) (hl : s.heap.IsList l vs) (hr : ReadsAll s.heap vs.toList (d :: ds) as)
    (ha : PySem.W.AlikeAll (d :: ds)) (hu : A.units + 1 + PyData.depthAll (d :: ds) < cLine)
    (q : ∀ (i : Nat) v h' tk, vs[i]? = some v → (d :: ds).getD i .none = PySem.W.minD d ds → (∀ b o, s.heap.get? b = some o → h'.get? b = some o) → Q v { s with heap := h', toks := tk }) :
    wpAny (model prog w) A (call (.builtin "min") [.ref l]) Q E s := by
  have n1 := PySem.W.readsAll_len hr
  rw [List.length_cons] at n1
  have best := (PySem.W.argBest_fold PySem.W.dataLt PyData.none d ds ds.length (Nat.le_refl _)).2
  rw [List.take_length] at best
  refine call_min_walkH (PySem.W.iter_listW (A := A.in1) hh hl fun s₂ e W st f1 f2 f3 =>
    ⟨_, _, _, _, _, _, _, s.heap, _, rfl, W, st, f1, by omega, f2, f3, PySem.W.cmpIn_lt (A := A.in1) hr ha (by show A.units + 1 + _ < _; exact hu), fun v s' hv m => ?_⟩)
  obtain ⟨h', tk, rfl, k⟩ := PySem.W.moved_old e rfl m
  rw [show vs.size - 1 = ds.length by omega] at hv
  exact q _ v h' tk hv best k
end
section
variable {X : Cx}
/-- min(l): the least item itself -/
def rMinD (K : PySem.W.Frag) : List V → Hp → VK → Prop := fun vs H Q => ∃ (a : Addr) (xs : List V) (d : PyData) (ds : List PyData), vs = [.ref a] ∧ SqL K H a xs ∧ DpAll K H xs (d :: ds) ∧ PySem.W.AlikeAll (d :: ds) ∧ PyData.depthAll (d :: ds) ≤ 60 ∧
  ∀ v : V, Dp K H v (PySem.W.minD d ds) → Q v H
theorem cr_minD (hc : X.calm = true) (hu : X.A.units + 64 < cLine) : CallR X (.builtin "min") (rMinD X.K) := by
  intro pins s σ H vs us Q I r h
  obtain ⟨a, xs, d, ds, rfl, hs, hd, al, dep, q⟩ := h
  obtain ⟨its, rv, hl, _⟩ := I.list hs
  rw [Vals.ref1 r]
  obtain ⟨as, ra⟩ := Dp.readsAll I (d :: ds) xs its hd rv
  refine min_at (I.ok.hd hc) hl.isList (show ReadsAll s.heap its.toArray.toList (d :: ds) as from ra) al (by omega) fun i u h' tk hu hm k => ?_
  have hu : its[i]? = some u := by simpa using hu
  have hil : i < xs.length := by rw [rv.length]; exact (List.getElem?_eq_some_iff.mp hu).1
  obtain ⟨u2, hu2, rvu⟩ := rv.get (List.getElem?_eq_getElem hil)
  obtain rfl : u2 = u := by rw [hu] at hu2; exact (Option.some.inj hu2).symm
  obtain ⟨v, hv⟩ : ∃ v, v = xs[i] := ⟨_, rfl⟩
  rw [← hv] at rvu
  replace hv : xs[i]? = some v := by rw [hv]; exact List.getElem?_eq_getElem hil
  have hi : i < xs.length := (List.getElem?_eq_some_iff.mp hv).1
  obtain ⟨e, he, hde⟩ := dpAll_at' hd hv
  have : e = PySem.W.minD d ds := by rw [← hm, List.getD_eq_getElem?_getD, he]; rfl
  subst this
  exact ⟨v, H, I.kept k, rvu, q v hde⟩
/-! ### list.count of texts -/
def eqS (k : Str) : Value → Bool
  | .str n _ => n == k
  | _ => false
theorem eqS_gives {A : Around} {s : Shared} {k : Str} {t : Tok} {us : List Value} {ns : List Str} (h : StrsAre us ns) : ∀ y ∈ us, SeqAt.EqAt A s y (.str k t) (eqS k y) := by
  induction h with
  | nil => exact fun y hy => by cases hy
  | cons n t' _ ih =>
    intro y hy
    rcases List.mem_cons.mp hy with e | e
    · subst e; exact SeqAt.EqAt.str_str n t' k t
    · exact ih y e
theorem eqS_count {k : Str} {us : List Value} {ns : List Str} (h : StrsAre us ns) : us.countP (eqS k) = ns.count k := by
  induction h with
  | nil => rfl
  | cons n t _ ih => rw [List.countP_cons, List.count_cons, ih]; rfl
end
section
variable {X : Cx}
def rCntS (K : PySem.W.Frag) : V → List V → Hp → VK → Prop := fun x xs H Q => ∃ (p : Addr) (ns : List Str) (k : Str), x = .ref p ∧ xs = [.str k] ∧ SqL K H p (ns.map V.str) ∧ Q (.int (ns.count k : Nat)) H
theorem mt_lcountS : MtR X "list.count" (rCntS X.K) := by
  intro pins s σ H x xs v us Q I rx rxs h
  obtain ⟨p, ns, k, rfl, rfl, hs, q⟩ := h
  cases rx
  obtain ⟨u, rfl, t, rfl⟩ := rxs.one
  obtain ⟨its, rv, ⟨⟨cls, dd, data, sl⟩, n, ho, hc, hdn, hd⟩, _⟩ := I.list hs
  cases hc
  cases hd
  have hi := strsAre_of rv
  refine call_meets PySem.F.slot_list_count ⟨_, ho, rfl⟩ PySem.F.entry_list_count (PySem.F.args_list_count_2 _ _) (SeqAt.list_countAt p its.toArray n dd sl (.str k t) (eqS k))
    ⟨ho, fun y hy => eqS_gives hi y (by simpa using hy), .int (ns.count k : Nat), H, I.tok _, ⟨s.toks, ?_⟩, q⟩
  show Value.int (its.countP (eqS k) : Nat) s.toks = _
  rw [eqS_count hi]
/-! ### a tuple of numbers in an f-string: some bounded text -/
theorem repr_nums {prog : Program} {w : World} : ∀ {ns : List Nat} {its : List Value}, Vals (ns.map fun (n : Nat) => V.int n) its → (∀ n ∈ ns, n < 1000000) → ReprAll prog w its (ns.map fun n => S (TL.numL n))
  | [], _, r, _ => by
    cases r
    exact .nil
  | n :: ns, _, .cons r1 r2, h => by
    obtain ⟨t, rfl⟩ := r1
    have hn := h n List.mem_cons_self
    have e : ReprIs prog w (.int (n : Int) t) (S (TL.numL n)) := by
      have := ReprIs.int (prog := prog) (w := w) (a := (n : Int)) t (by
        rw [Int.natAbs_natCast]
        have : n.log2 < 20 := by
          rcases Nat.eq_zero_or_pos n with c | c
          · subst c; decide
          · exact (Nat.log2_lt (by omega)).mpr (by omega)
        omega)
      rw [← num_S]
      exact this
    exact .cons e (repr_nums r2 fun x hx => h x (List.mem_cons_of_mem _ hx))
theorem piled_nums : ∀ ns : List Nat, (∀ n ∈ ns, n < 1000000) → piled (ns.map fun n => S (TL.numL n)) ≤ 8 * ns.length
  | [], _ => Nat.le_refl _
  | n :: ns, h => by
    have h1 := TL.numL_len (k := 6) (by decide) (n := n) (h n List.mem_cons_self)
    have h2 := piled_nums ns fun x hx => h x (List.mem_cons_of_mem _ hx)
    rw [List.map_cons, piled_cons, S_len, List.length_cons]
    omega
def tFmtN (K : PySem.W.Frag) (te : TE) : TE := fun σ H Q => te σ H fun x H1 => ∃ (a : Addr) (ns : List Nat), x = .ref a ∧ SqT K H1 a (ns.map fun (n : Nat) => V.int n) ∧ (∀ n ∈ ns, n < 1000000) ∧ ns.length ≤ 100 ∧ ∀ m : Str, m.length ≤ 1000 → Q (.str m) H1
theorem pe_fmtN {e : Expr} {te : TE} {pos : Pos} {k : Nat} (hr : Room k X.A) (he : PE X e te) : PE X (.FormattedValue e (-1) none pos) (tFmtN X.K te) := by
  refine ⟨fun pins s σ H Q I h => wpAny_FormattedValue_plain (thn (he.run pins s σ H _ I h) fun v s1 hv => ?_)⟩
  obtain ⟨x, H1, I1, r1, a, ns, rfl, ht, hb, hn, q⟩ := hv
  cases r1
  obtain ⟨its, rv, ⟨o, ho, hcl, n, hd⟩, _⟩ := I1.tuple ht
  have b1 := piled_nums ns hb
  have b2 := fmt_text (ns.map fun n => S (TL.numL n))
  have b3 := sizeBig
  exact fmt_tuple (ts := ns.map fun n => S (TL.numL n)) (by have := hr.units; omega) ho hcl hd (repr_nums rv hb) (by omega) fun m u tk hm => ⟨.str m, H1, I1.tok _, ⟨u, rfl⟩, q m (by omega)⟩
end
/-! ### len(set(l)), l a list of texts -/
section
variable {prog : Program} {w : World} {A : Around} {R : Result → Shared → Prop} {I : Addr} {fp wr : List Addr} {G : Array GenState → Array GenState → Prop} {n : Nat} {P : Nat → Value → Prop} {St : Nat → Shared → Prop}
/-- so many distinct ones among the first i -/
def DstOk (xs : List Str) (i c : Nat) : Prop := c ≤ i ∧ (c = i ↔ (xs.take i).Nodup)
theorem DstOk.step {xs : List Str} {i c : Nat} {x : Str} (h : DstOk xs i c) (hx : xs[i]? = some x) : DstOk xs (i + 1) (if decide (x ∈ xs.take i) = true then c else c + 1) := by
  obtain ⟨h1, h2⟩ := h
  have e : xs.take (i + 1) = xs.take i ++ [x] := by rw [List.take_add_one, hx]; rfl
  have nd : (xs.take (i + 1)).Nodup ↔ (xs.take i).Nodup ∧ x ∉ xs.take i := by
    rw [e, List.nodup_append]
    constructor
    · rintro ⟨a, _, b⟩
      exact ⟨a, fun z => b x z x (List.mem_singleton.mpr rfl) rfl⟩
    · rintro ⟨a, b⟩
      refine ⟨a, (by simp), fun y hy z hz e => ?_⟩
      rw [List.mem_singleton.mp hz] at e
      exact b (e ▸ hy)
  by_cases m : x ∈ xs.take i
  · rw [if_pos (decide_eq_true m)]
    exact ⟨by omega, fun z => by omega, fun z => absurd m (nd.mp z).2⟩
  · rw [if_neg (by simpa using m)]
    exact ⟨by omega, fun z => nd.mpr ⟨h2.mp (by omega), m⟩, fun z => by rw [h2.mpr (nd.mp z).1]⟩
theorem upd_texts (W : WalksS prog w A.in1 I fp wr G n P St) (T : Addr) (hT : T ∉ fp) (xs : List Str) (hsz : xs.length = n) (hn : n + 1 < scanBound) (hval : ∀ i v, P i v → ∃ x t, xs[i]? = some x ∧ v = .str x t) :
    ∀ (k i : Nat) (s : Shared) (c : Nat), n - i = k → i ≤ n → St i s → s.heap.SetOf (strKind prog w) T (fun y => decide (y ∈ xs.take i)) c → DstOk xs i c →
      (∀ s' c', Moved (T :: wr) G s s' → s'.heap.SetOf (strKind prog w) T (fun y => decide (y ∈ xs)) c' → DstOk xs n c' → R (.ok (.ret .none)) s') →
      codeAny (model prog w) A (.builtin "set.update.loop" ⟨[.ref T, .ref I], []⟩) R s := by
  have n1 : T ∉ wr := fun h => hT (W.sub _ h)
  have n2 : ∀ b ∈ wr, b ∈ T :: wr := fun b hb => List.mem_cons_of_mem _ hb
  have at' : ∀ {s s' : Shared} {F : Str → Bool} {c : Nat}, Moved wr G s s' → s.heap.SetOf (strKind prog w) T F c → s'.heap.SetOf (strKind prog w) T F c := fun hm ⟨o, es, ep, t, ho, z⟩ => ⟨o, es, ep, t, hm.heap T _ n1 ho, z⟩
  intro k
  induction k with
  | zero =>
    intro i s c e1 e2 hst hS hd q
    obtain rfl : i = n := by omega
    refine codeAny_builtin F.entry_set_update_loop (by
      rw [Around.under_plainId F.plain_set_update_loop _]
      exact wpAny_bind (m := pyNext (.ref I)) (W.done s _ _ hst fun s' hm => wpAny_pure (q s' c (hm.mono n2) (by
        have := at' hm hS
        rwa [List.take_of_length_le (by omega)] at this) hd)))
  | succ k ih =>
    intro i s c e1 e2 hst hS hd q
    have lt : i < n := by omega
    refine codeAny_builtin F.entry_set_update_loop ?_
    rw [Around.under_plainId F.plain_set_update_loop _]
    refine wpAny_bind (m := pyNext (.ref I)) (W.item i s _ _ lt hst fun v s' hP hst' hm => ?_)
    obtain ⟨x, t, hx, rfl⟩ := hval i v hP
    have hS1 := at' hm hS
    show wpAny _ A.in1 (holding [Value.str x t] (setAdd T (.str x t)) >>= _) _ _ s'
    unfold setAdd
    refine wpAny_bind (wpAny_holding (wpAny_holding (wpAny_bind ((strKind prog w).pyHash (k := x) (strKind_is _ _ _ _) ?_))))
    have hc := hd.1
    refine wpAny_setAddHashed_of (knd := strKind prog w) (s := { s' with toks := s'.toks + 1 }) (strKind_is _ _ _ _) rfl hS1 (by omega) fun h' sb hS2 => ?_
    refine wpAny_pure ⟨plainId_quiet F.plain_set_update_loop _, ih (i + 1) _ _ (by omega) lt (W.frame _ s' _ _ hst' (Nat.le_succ _) fun b hb o e => (sb.2 b (fun z => hT (z ▸ hb))).trans e)
      (SetOf_congr hS2 (fun y => ?_) rfl) (hd.step hx) fun s2 c2 m2 hS3 hd3 => q s2 c2 (Moved.trans W.gtrans ((hm.mono n2).then_heap (Nat.le_succ _) fun b o hb e => (sb.2 b (fun z => hb (z ▸ List.mem_cons_self))).trans e) m2) hS3 hd3⟩
    rw [List.take_add_one, hx]
    simp [List.mem_append]
end
section
variable {prog : Program} {w : World} {A : Around} {E : Value → Shared → Prop} {s : Shared}
abbrev obS (led : Bool) : Obj := { cls := .type "set", dict := none, data := .set #[] 0 (.fresh 0 0 led) }
theorem set_of_texts {l : Addr} {items : Array Value} (xs : List Str) {Q : Value → Shared → Prop} (hh : A.handled = none) (hl : s.heap.IsList l items) (hi : StrsAre items.toList xs) (hn : xs.length + 1 < scanBound)
    (q : ∀ (h' : Heap) (tk c : Nat), h'.SetOf (strKind prog w) s.heap.objs.size (fun y => decide (y ∈ xs)) c → DstOk xs xs.length c → (∀ b o, s.heap.get? b = some o → h'.get? b = some o) → Q (.ref s.heap.objs.size) { s with heap := h', toks := tk }) :
    wpAny (model prog w) A (call (.type "set") [.ref l]) Q E s := by
  have isz : items.size = xs.length := by rw [← Array.length_toList]; exact StrsAre.len_eq hi
  have ⟨c, tl, hmro⟩ := F.called_set.mro
  have hmade := F.called_set.made
  have hsub := F.called_set.sub
  have h1 := F.called_set.notType
  have h2 := F.called_set.canCreate
  have hct := F.typeCall_set_1 (.ref l)
  have hli := F.called_set.init.lookup
  have hbi := F.called_set.init.bind (.ref s.heap.objs.size)
  refine wpAny_call (codeAny_of_tree (by
    show wpAny _ _ (callAny (.type "set") _) _ _ _
    refine wpAny_pure ⟨Code.quiet_builtin _ (by decide +kernel), codeAny_builtin F.entry_type_call (by
      rw [Around.under_plain (weight_type_call_type "set" [.ref l] []) rfl]
      repeat (any_goals (first | assumption | wp_step))
      refine codeAny_mono (code_set_new_1 (.ref l) (E := E) (Q₁ := fun v s1 => ∃ led, v = .ref s.heap.objs.size ∧ s1 = { s with heap := s.heap.push (obS led) }) fun led => ⟨led, rfl, rfl⟩) fun r s1 hr => ?_
      match r, hr with
      | .error e, hr => exact hr
      | .ok (.ret v), ⟨led, e1, e2⟩ =>
        subst e1 e2
        have hS : (s.heap.push (obS led)).get? s.heap.objs.size = some (obS led) := Heap.get?_push_size _ rfl
        have hT : Shared.TypeIs { s with heap := s.heap.push (obS led) } (.ref s.heap.objs.size) "set" := ⟨_, hS, rfl⟩
        repeat (any_goals (first | assumption | wp_step))
        refine codeAny_mono (codeAny_call_builtin (R := wants (fun v s2 => v = .none ∧ ∃ h' tk c, s2 = { s with heap := h', toks := tk } ∧ h'.SetOf (strKind prog w) s.heap.objs.size (fun y => decide (y ∈ xs)) c ∧ DstOk xs xs.length c ∧ ∀ b o, s.heap.get? b = some o → h'.get? b = some o) E)
          F.called_set.init.plain F.entry_set_init (check_set_init_1 hT ?init)) fun r2 s2 hr2 => ?_
        case init =>
          obtain ⟨⟨cls, od, data, sl⟩, hol, hcl, nl, hdl⟩ := hl
          cases hcl
          cases hdl
          have up1 := fun b o (e : s.heap.get? b = some o) => Heap.get?_push_of_some (obS led) e
          have hl1 : (s.heap.push (obS led)).IsList l items := ⟨_, up1 _ _ hol, rfl, nl, rfl⟩
          have f1 := F.sub_list_set
          have f2 := F.sub_list_frozenset
          have f3 : (Value.type "list" == Value.type "dict") = false := by decide
          have f4 := up1 _ _ hol
          unfold Builtin.«set.__init__» noKeywords Builtin.Frozenset.updateFrom
          generalize hPI : pyIter = PI
          wp_walk
          subst hPI
          have lt : l < s.heap.objs.size := Heap.lt_size hol
          have sz : (s.heap.push (obS led)).objs.size = s.heap.objs.size + 1 := Heap.size_push ..
          have up2 := fun (b : Addr) (o : Obj) e => Heap.get?_push_of_some ({ cls := .type "list_iterator", data := .fields #[.ref l, .int 0 0] } : Obj) (up1 b o e)
          have hval : ∀ (i : Nat) (v : Value), items[i]? = some v → ∃ x t, xs[i]? = some x ∧ v = .str x t := fun i v hv => by
            obtain ⟨t, e⟩ := SS.strs_at hi i v (by rw [Array.getElem?_toList]; exact hv)
            have lti : i < xs.length := by rw [← isz]; exact (Array.getElem?_eq_some_iff.mp hv).1
            exact ⟨xs[i], t, List.getElem?_eq_getElem lti, by rw [e, List.getD_eq_getElem?_getD, List.getElem?_eq_getElem lti]; rfl⟩
          have nT : s.heap.objs.size ∉ [(s.heap.push (obS led)).objs.size, l] := fun z => by
            rcases List.mem_cons.mp z with e | e
            · exact absurd (e.trans sz) (Nat.ne_of_lt (Nat.lt_succ_self _))
            · exact absurd (List.mem_singleton.mp e) (Nat.ne_of_gt lt)
          have nB : ∀ b, b < s.heap.objs.size → b ∉ s.heap.objs.size :: [(s.heap.push (obS led)).objs.size] := fun b hb z => by
            rcases List.mem_cons.mp z with e | e
            · exact absurd e (Nat.ne_of_lt hb)
            · exact absurd ((List.mem_singleton.mp e).trans sz) (Nat.ne_of_lt (Nat.lt_succ_of_lt hb))
          have W := (Walks.list (prog := prog) (w := w) (A := A.in1.in1.in1) (by simp [hh]) (s.heap.push (obS led)).objs.size l (by rw [sz]; exact Nat.ne_of_lt (Nat.lt_succ_of_lt lt)) items).toS
          refine wpAny_pyIter_list hl1 (wpAny_bind (wpAny_runValue (upd_texts W s.heap.objs.size nT xs isz.symm (by rw [isz]; exact hn) hval (items.size - 0) 0 _ 0 (by omega) (Nat.zero_le _)
            ⟨⟨_, Heap.get?_push_size _ rfl, rfl, rfl⟩, hl1.push _⟩ (SetOf_congr ((setObjOf_fresh (knd := strKind prog w) led).setOf (Heap.get?_push_of_some _ hS) (by decide)) (fun _ => by simp) rfl) ⟨Nat.le_refl 0, by simp⟩ fun s' c' hm hS' hd' => ?_)))
          obtain ⟨h', g', d', tk', os'⟩ := s'
          have eg : g' = s.gens := hm.gens
          have ed : d' = s.drawn := hm.drawn
          have eo : os' = s.os := hm.os
          subst eg ed eo
          rw [isz] at hd'
          exact wpAny_pure (wpAny_pure ⟨rfl, h', tk', c', rfl, hS', hd', fun b o e => hm.heap b o (nB b (Heap.lt_size e)) (up2 b o e)⟩)
        match r2, hr2 with
        | .error e, hr2 => exact hr2
        | .ok (.ret v), ⟨e1, h', tk, c, e2, a1, a2, a3⟩ =>
          subst e1 e2
          repeat (any_goals (first | assumption | wp_step))
          exact q _ _ _ a1 a2 a3)⟩))
end
section
variable {X : Cx}
def tLenSetS (K : PySem.W.Frag) (ta : TE) : TE := fun σ H Q => ta σ H fun x H1 => ∃ (l : Addr) (ys : List Str), x = .ref l ∧ SqL K H1 l (ys.map V.str) ∧ ys.length ≤ 1000 ∧ ∀ c : Nat, c ≤ ys.length → (c = ys.length ↔ ys.Nodup) → Q (.int c) H1
theorem pe_lenSetS {a : Expr} {ta : TE} {p p2 q pos : Pos} (hc : X.calm = true) (hg : Gl X "len") (hm : X.mg "len" = none) (hg2 : Gl X "set") (hm2 : X.mg "set" = none) (ha : PE X a ta)
    (na : starEach [a] X.env = (false, eval a X.env) :: starEach [] X.env := by rfl) : PE X (.Call (.Name "len" p) [.Call (.Name "set" p2) [a] [] q] [] pos) (tLenSetS X.K ta) := by
  refine ⟨fun pins s σ H Q I h => Call_ (ld_blt I hg hm PySem.boot_len (callWith_builtin1 (args_cons (Call_ (ld_blt I hg2 hm2 boot_set (callWith_type1 (args_cons (thn (ha.run pins s σ H _ I h) fun v s1 z => args_nil ?_) na) na rfl))) rfl) rfl rfl))⟩
  obtain ⟨x, H1, I1, r1, l, ys, rfl, hl, hn, q1⟩ := z
  cases r1
  obtain ⟨its, rv, pl, _⟩ := I1.list hl
  refine set_of_texts ys (I1.ok.hd hc) pl.isList (by simpa using strsAre_of rv) (by unfold scanBound; omega) fun h' tk c hS hd k => args_nil ?_
  obtain ⟨o, es, ep, t, ho, hex, hda, _, _, _, hf, hes⟩ := hS
  have h2 := hd.2
  rw [List.take_length] at h2
  exact call_len_set ho hex hda hf (by have := hd.1; omega) ⟨.int c, H1, (I1.kept (t' := tk) k).tok _, ⟨_, by rw [hes]⟩, q1 c hd.1 h2⟩
end
theorem hu65 {k : Nat} {A : Around} (r : Room k A) : A.units + 65 < cLine := by have := r.un; omega
/-! ### an object made within a try, its __init__ may raise -/
section
variable {X : Cx} {CX : CXT} {k : Nat} {f C : Addr} {fd : FuncData} {ps : List Str} {sp : Sp} {E : L2.St → XK} {x : Str} {p pos : PySem.Pos} {e : Expr} {es : List Expr} {t : TA}
theorem run_makeS {pins : List (Addr × Obj)} {σ : L2.St} {H : Hp} {s : Shared} {Q : VK} {us : List Value} {vs : List V} (M : Mk X.K C f) (F : FnOk X.prog X.w X.K X.mg X.base CX k f fd ps sp) (hr : Room (k + 1) X.A) (hb : Binds X.K fd ps []) (hx : PassesAt CX X σ (E σ))
    (I : Inv X pins σ H s) (r : Vals vs us) (h : ∀ x dx, H x = none → H dx = none → dx ≠ x → sp (.ref x :: (vs ++ [])) (upd (upd H dx (.own x)) x (.ins C dx [])) (fun v H2 => v = .non ∧ Q (.ref x) H2) (E σ)) :
    wpAny (model X.prog X.w) X.A (call (.ref C) us) (EP X pins σ Q) X.xe s := by
  have z := h (s.heap.objs.size + 1) s.heap.objs.size (I.hok.fresh (Nat.le_succ _)) (I.hok.fresh (Nat.le_refl _)) (Nat.ne_of_lt (Nat.lt_succ_self _))
  have J := Inv.made (C := C) I
  have rr : Vals (V.ref (s.heap.objs.size + 1) :: (vs ++ [])) (Value.ref (s.heap.objs.size + 1) :: (us ++ [])) := .cons rfl (r.append .nil)
  have len : (Value.ref (s.heap.objs.size + 1) :: us ++ []).length = ps.length := by
    have := rr.length
    rw [F.len _ _ _ _ z] at this
    exact this.symm
  refine wpAny_call (make_map (f := f) I.kIn M.makes M.init (beq_iff_eq.mp M.fn) (codeAny_mono
    (F.run _ X.stack _ _ ⟨Value.ref (s.heap.objs.size + 1) :: us, []⟩ _ _ _ (E σ) (hr.make C us []) (J.env0.make C us []) (hb _ (Value.ref (s.heap.objs.size + 1) :: us) J.kIn len) rr z) fun r s' hq => ?_))
  match r, hq with
  | .error e, hq => exact hx pins _ _ e s' J hq
  | .ok (.ret u), hq =>
    have ⟨v, H', I3, rv, ev, q3⟩ := J.after hq
    cases ev
    exact ⟨rv, V.ref (s.heap.objs.size + 1), H', I3, rfl, q3⟩
def tMakeS (C : Addr) (sp : Sp) (E : L2.St → XK) (t : TA) : TE := fun σ H Q => t σ H fun vs H1 => ∀ x dx, H1 x = none → H1 dx = none → dx ≠ x → sp (.ref x :: (vs ++ [])) (upd (upd H1 dx (.own x)) x (.ins C dx [])) (fun v H2 => v = .non ∧ Q (.ref x) H2) (E σ)
theorem pe_makeS (M : Mk X.K C f) (F : FnOk X.prog X.w X.K X.mg X.base CX k f fd ps sp) (hr : Room (k + 1) X.A) (hg : Gl X x) (hm : X.mg x = some (.ref C)) (hb : Binds X.K fd ps []) (hx : ∀ σ, PassesAt CX X σ (E σ)) (ha : PA X (e :: es) t)
    (hdb : (x == ("__debug__" : Str)) = false := by decide) (he : starEach (e :: es) X.env = (false, eval e X.env) :: starEach es X.env := by rfl) (hpl : (backTo pos (starEach es X.env)).any (·.1) = false := by rfl) : PE X (.Call (.Name x p) (e :: es) [] pos) (tMakeS C sp E t) :=
  ⟨fun pins s σ H Q I h => wpAny_Call_Name_kw (ld_glob I hg hm (PySem.W.callWith_K (h₀ := X.base) I.ok.mod.kin M.kp (thn (ha.run pos pins s σ H _ I h) fun us s1 ⟨vs, H1, I1, r, q⟩ => ⟨I1.kIn, run_makeS M F hr hb (hx σ) I1 r q⟩) he hpl) hdb)⟩
end
theorem g_fmtN {K : PySem.W.Frag} {te : TE} {σ : L2.St} {H : Hp} {Q : VK} (q : te σ H fun x H1 => ∃ (a : Addr) (ns : List Nat), x = .ref a ∧ SqT K H1 a (ns.map fun (n : Nat) => V.int n) ∧ (∀ n ∈ ns, n < 1000000) ∧ ns.length ≤ 100 ∧ ∀ m : Str, m.length ≤ 1000 → Q (.str m) H1) : tFmtN K te σ H Q := q
theorem g_lenSetS {K : PySem.W.Frag} {ta : TE} {σ : L2.St} {H : Hp} {Q : VK} (q : ta σ H fun x H1 => ∃ (l : Addr) (ys : List Str), x = .ref l ∧ SqL K H1 l (ys.map V.str) ∧ ys.length ≤ 1000 ∧ ∀ c : Nat, c ≤ ys.length → (c = ys.length ↔ ys.Nodup) → Q (.int c) H1) : tLenSetS K ta σ H Q := q
end Q
/-! polls in plain: votes by (name, number), what is counted, the best -/
namespace Po
open PySem PySem.Spec PyProof.Rows L2 SX Q
abbrev W := List Nat
abbrev Kn := W × Nat
abbrev VD := List (Kn × W)
def gt (d : VD) (k : Kn) : Option W := (d.find? fun e => decide (e.1 = k)).map (·.2)
def pt (d : VD) (k : Kn) (v : W) : VD := if (gt d k).isSome then d.map (fun e => if e.1 = k then (e.1, v) else e) else d ++ [(k, v)]
theorem gt_cons (e : Kn × W) (d : VD) (k : Kn) : gt (e :: d) k = if e.1 = k then some e.2 else gt d k := by
  unfold gt
  rw [List.find?_cons]
  by_cases h : e.1 = k
  · rw [decide_eq_true h, if_pos h]; rfl
  · rw [decide_eq_false h, if_neg h]
theorem gt_mem : ∀ {d : VD} {k : Kn} {c : W}, gt d k = some c → (k, c) ∈ d
  | [], _, _, h => by cases h
  | e :: d, k, c, h => by
    rw [gt_cons] at h
    by_cases h1 : e.1 = k
    · rw [if_pos h1] at h
      obtain ⟨p, v⟩ := e
      cases h; cases h1
      exact List.mem_cons_self
    · rw [if_neg h1] at h
      exact List.mem_cons_of_mem _ (gt_mem h)
theorem pt_len (d : VD) (k : Kn) (v : W) : (pt d k v).length ≤ d.length + 1 := by
  unfold pt
  split
  · rw [List.length_map]; omega
  · rw [List.length_append]; exact Nat.le_refl _
theorem pt_mem {d : VD} {k : Kn} {v : W} {e : Kn × W} (h : e ∈ pt d k v) : e.2 = v ∨ e ∈ d := by
  unfold pt at h
  split at h
  · obtain ⟨x, hx, rfl⟩ := List.mem_map.mp h
    split
    · exact .inl rfl
    · exact .inr hx
  · rcases List.mem_append.mp h with h | h
    · exact .inr h
    · rw [List.mem_singleton.mp h]; exact .inl rfl
/-- as the dict's rows -/
def kk (k : Kn) : List Key := [.inr (S k.1), .inl (k.2 : Int)]
theorem kk_inj {a b : Kn} : kk a = kk b ↔ a = b := by
  constructor
  · intro h
    obtain ⟨a1, a2⟩ := a; obtain ⟨b1, b2⟩ := b
    simp only [kk, List.cons.injEq, Sum.inr.injEq, Sum.inl.injEq, and_true] at h
    rw [S_inj h.1, Int.ofNat.inj h.2]
  · rintro rfl; rfl
def enc (d : VD) : List (List Key × V) := d.map fun e => (kk e.1, .str (S e.2))
theorem enc_len (d : VD) : (enc d).length = d.length := List.length_map ..
theorem valV_enc (k : Kn) : ∀ d : VD, valV (enc d) (kk k) = (gt d k).map fun z => V.str (S z)
  | [] => rfl
  | e :: d => by
    show valV ((kk e.1, .str (S e.2)) :: enc d) (kk k) = _
    rw [gt_cons]
    by_cases h : e.1 = k
    · rw [valV_pos (by rw [h]), if_pos h]; rfl
    · rw [valV_neg (fun q => h (kk_inj.mp q)), if_neg h, valV_enc k d]
theorem putK_enc (k : Kn) (v : W) (d : VD) : putK (enc d) (kk k) (.str (S v)) = enc (pt d k v) := by
  unfold putK pt
  rw [valV_any, valV_enc, Option.isSome_map]
  by_cases h : (gt d k).isSome = true
  · rw [if_pos h, if_pos h]
    unfold enc
    rw [List.map_map, List.map_map]
    apply List.map_congr_left
    intro e _
    show (if kk e.1 = kk k then (kk e.1, V.str (S v)) else (kk e.1, V.str (S e.2))) = (kk (if e.1 = k then (e.1, v) else e).1, V.str (S (if e.1 = k then (e.1, v) else e).2))
    by_cases h2 : e.1 = k
    · rw [if_pos (kk_inj.mpr h2), if_pos h2]
    · rw [if_neg (fun q => h2 (kk_inj.mp q)), if_neg h2]
  · rw [if_neg h, if_neg h]
    unfold enc
    rw [List.map_append]; rfl
/-! ### what is counted -/
abbrev YES : W := [121, 101, 115]
abbrev MAYBE : W := [109, 97, 121, 98, 101]
abbrev NO : W := [110, 111]
def wd (d : VD) (n : W) (k : Nat) : W := (gt d (n, k)).getD []
def words (d : VD) (ns : List W) (k : Nat) : List W := ns.map fun n => wd d n k
def cnt (d : VD) (ns : List W) (k : Nat) (v : W) : Nat := (words d ns k).count v
def poss (d : VD) (need : List W) (k : Nat) : Bool := need.all fun n => decide (wd d n k ∈ [YES, MAYBE])
def row (d : VD) (ns : List W) (pr : List (Nat × Nat)) (k : Nat) : PyData :=
  .tuple [.int (-(cnt d ns k YES : Nat)), .int (cnt d ns k NO : Nat), .int (pr.getD k (0, 0)).1, .int (pr.getD k (0, 0)).2, .int (k : Nat)]
def cand (d : VD) (need : List W) (n : Nat) : List Nat := (List.range n).filter fun k => poss d need k
def low (r : Nat → PyData) (c : Nat) (cs : List Nat) : Nat := cs.foldl (fun a y => if PySem.W.dataLt (r y) (r a) = true then y else a) c
theorem min_row (r : Nat → PyData) : ∀ (cs : List Nat) (c : Nat), PySem.W.minD (r c) (cs.map r) = r (low r c cs)
  | [], c => rfl
  | y :: cs, c => by
    have ih := min_row r cs (if PySem.W.dataLt (r y) (r c) = true then y else c)
    unfold PySem.W.minD low at ih ⊢
    rw [List.map_cons, List.foldl_cons, List.foldl_cons, ← ih]
    congr 1
    split <;> rfl
theorem low_mem (r : Nat → PyData) : ∀ (cs : List Nat) (c : Nat), low r c cs ∈ c :: cs
  | [], c => List.mem_singleton.mpr rfl
  | y :: cs, c => by
    have ih := low_mem r cs (if PySem.W.dataLt (r y) (r c) = true then y else c)
    unfold low at ih ⊢
    rw [List.foldl_cons]
    rcases List.mem_cons.mp ih with h | h
    · rw [h]
      split
      · exact List.mem_cons_of_mem _ List.mem_cons_self
      · exact List.mem_cons_self
    · exact List.mem_cons_of_mem _ (List.mem_cons_of_mem _ h)
def best (d : VD) (ns need : List W) (pr : List (Nat × Nat)) : Option Nat := match cand d need pr.length with
  | [] => none
  | c :: cs => some (low (row d ns pr) c cs)
theorem best_lt {d : VD} {ns need : List W} {pr : List (Nat × Nat)} {k : Nat} (h : best d ns need pr = some k) : k < pr.length := by
  unfold best at h
  have key : ∀ x ∈ cand d need pr.length, x < pr.length := fun x hx => List.mem_range.mp (List.mem_filter.mp hx).1
  cases e : cand d need pr.length with
  | nil => rw [e] at h; cases h
  | cons c cs =>
    rw [e] at h key
    cases h
    exact key _ (low_mem _ cs c)
theorem row_alike (d : VD) (ns : List W) (pr : List (Nat × Nat)) (cs : List Nat) : PySem.W.AlikeAll (cs.map (row d ns pr)) := by
  refine ⟨fun x hx y hy => ?_, fun x hx => ?_⟩
  · obtain ⟨i, _, rfl⟩ := List.mem_map.mp hx
    obtain ⟨j, _, rfl⟩ := List.mem_map.mp hy
    simp [row, PySem.W.alike, PySem.W.alikeAll]
  · obtain ⟨i, _, rfl⟩ := List.mem_map.mp hx
    simp [row]
theorem row_depth (d : VD) (ns : List W) (pr : List (Nat × Nat)) (cs : List Nat) : PyData.depthAll (cs.map (row d ns pr)) ≤ 60 := depthAll_le fun x hx => by
  obtain ⟨i, _, rfl⟩ := List.mem_map.mp hx
  simp [row, PyData.depth, PyData.depthAll]
/-- who has not voted on all -/
def miss (d : VD) (ns : List W) (n : Nat) : List W := ns.filter fun x => (List.range n).any fun k => decide (wd d x k = [])
def VOk (d : VD) : Prop := ∀ e ∈ d, e.2 ∈ [YES, MAYBE, NO]
theorem VOk.none {d : VD} (h : VOk d) (n : W) (k : Nat) : wd d n k = [] ↔ gt d (n, k) = none := by
  unfold wd
  cases e : gt d (n, k) with
  | none => simp
  | some v =>
    have := h _ (gt_mem e)
    constructor
    · intro z
      have z : v = [] := z
      have this : v ∈ [YES, MAYBE, NO] := this
      rw [z] at this
      exact absurd this (by decide)
    · intro z; cases z
theorem VOk.put {d : VD} (h : VOk d) {k : Kn} {v : W} (hv : v ∈ [YES, MAYBE, NO]) : VOk (pt d k v) := fun e he => by
  rcases pt_mem he with z | z
  · rw [z]; exact hv
  · exact h e z
end Po
namespace Q
open PySem PySem.Spec PyProof.Rows L2 SX
/-! own words: ne (two addresses differ), hp (what stands at an address), sd (a side), go (a reading, straight on) -/
local macro_rules | `(tactic| walk_at "ne") => `(tactic| first
  | assumption
  | (refine Ne.symm ?_; assumption)
  | (refine (fun h2 => ne_of_none (by assumption) h2) ?_; assumption)
  | (refine Ne.symm ((fun h2 => ne_of_none (by assumption) h2) ?_); assumption))
local macro_rules | `(tactic| walk_at "hp") => `(tactic| first
  | with_reducible assumption
  | with_reducible exact upd_same
  | ((with_reducible refine' (upd_ne ?k1).trans ?k2); (case k1 => walk_at "ne"); (case k2 => walk_at "hp")))
local macro_rules | `(tactic| walk_at "sq") => `(tactic| first
  | with_reducible assumption
  | ((with_reducible refine' SqL.of ?k1); (case k1 => walk_at "hp"))
  | ((with_reducible refine' SqT.of ?k1); (case k1 => walk_at "hp")))
local macro_rules | `(tactic| walk_at "sd") => `(tactic| first
  | with_reducible rfl
  | with_reducible assumption
  | omega
  | decide
  | (refine cmul_r ?_ ?_ <;> decide)
  | (refine cmul_l ?_ ?_ <;> decide)
  | (refine cmul_r ?_ ?_ <;> omega)
  | exact ⟨by decide, by decide, by decide⟩
  | exact ⟨by omega, by omega⟩)
local macro_rules | `(tactic| walk_at "go1") => `(tactic| first
  | ((with_reducible refine' g_var ?k1 ?k2); (case k1 => rfl))
  | (with_reducible refine g_c ?_)
  | (with_reducible refine g_op ?_)
  | (with_reducible refine g_un ?_)
  | (with_reducible refine g_tt ?_)
  | (with_reducible refine g_tB ?_)
  | (with_reducible refine g_ifs ?_)
  | (with_reducible refine g_seq ?_)
  | (with_reducible refine g_next ?_)
  | (with_reducible refine g_asg ?_)
  | (with_reducible refine g_name ?_)
  | (with_reducible refine g_ret ?_)
  | (with_reducible refine g_drop ?_)
  | (with_reducible refine g_nil ?_)
  | (with_reducible refine g_cons ?_)
  | (with_reducible refine g_cb ?_)
  | (with_reducible refine g_sub ?_)
  | (with_reducible refine g_call ?_)
  | (with_reducible refine g_if ?_)
  | (with_reducible refine g_and ?_)
  | (with_reducible refine g_or ?_)
  | (with_reducible refine g_not ?_)
  | (with_reducible refine g_tupN ?_)
  | (with_reducible refine g_lstN ?_)
  | (with_reducible refine g_vei ?_)
  | (with_reducible refine g_jc ?_)
  | (with_reducible refine g_jn ?_)
  | (with_reducible refine g_fmt ?_)
  | (with_reducible refine g_ost ?_)
  | (with_reducible refine g_mko ?_)
  | (with_reducible refine g_fld ?_)
  | (with_reducible refine g_sfld ?_)
  | (with_reducible refine g_meth ?_)
  | (with_reducible refine g_make ?_)
  | (with_reducible refine g_dget ?_)
  | (with_reducible refine g_din ?_)
  | (with_reducible refine g_dni ?_)
  | (with_reducible refine g_dput ?_)
  | (with_reducible refine g_dg1 ?_)
  | (with_reducible refine g_dg2 ?_)
  | (with_reducible refine g_or2 ?_)
  | (with_reducible refine g_an2 ?_)
  | (with_reducible refine g_no2 ?_)
  | (with_reducible refine g_itup ?_)
  | (with_reducible refine g_ilist ?_)
  | (with_reducible refine g_ikeys ?_)
  | (with_reducible refine g_irng1 ?_)
  | (with_reducible refine g_irng2 ?_)
  | (with_reducible refine g_for ?_)
  | (with_reducible refine g_lc ?_)
  | (with_reducible refine g_lock ?_)
  | (with_reducible refine g_gtup ?_)
  | (with_reducible refine g_gcons ?_)
  | (with_reducible refine g_gnil ?_)
  | (with_reducible refine g_par ?_)
  | (with_reducible refine g_par3 ?_)
  | (with_reducible refine g_calls ?_)
  | (with_reducible refine g_dct ?_)
  | (with_reducible refine g_methx ?_)
  | (with_reducible refine g_yes ?_)
  | (with_reducible refine g_sl ?_)
  | (with_reducible refine g_npart ?_)
  | (with_reducible refine g_part ?_)
  | (with_reducible refine g_dnt ?_)
  | (with_reducible refine g_dnk ?_)
  | (with_reducible refine g_istr ?_)
  | (with_reducible refine g_ienum ?_)
  | (with_reducible refine g_exi ?_)
  | (with_reducible refine g_glst ?_)
  | (with_reducible refine g_chain ?_)
  | (with_reducible refine g_isN ?_)
  | (with_reducible refine g_ipI ?_)
  | ((with_reducible refine g_ipC ?_ ?_); (walk_at "sd"))
  | (with_reducible refine g_inS ?_)
  | (with_reducible refine g_bm ?_)
  | (with_reducible refine g_bm0 ?_)
  | ((with_reducible refine' g_aug ?k1 ?k2); (case k1 => rfl))
  | (with_reducible refine g_m1 ?_)
  | (with_reducible refine g_m0 ?_)
  | (with_reducible refine g_fldaug ?_)
  | (with_reducible refine g_tupm ?_)
  | (with_reducible refine g_I0 ?_)
  | ((with_reducible refine g_I ?_ ?_); (walk_at "sd"))
  | (with_reducible refine g_U ?_)
  | ((with_reducible refine g_eq ?_ ?_); rfl)
  | ((with_reducible refine g_ne ?_ ?_); rfl)
  | ((with_reducible refine' g_ixL ?k1 ?k2 ?k3); (case k1 => walk_at "sq"); (case k2 => rfl))
  | ((with_reducible refine' g_ixT ?k1 ?k2 ?k3); (case k1 => walk_at "sq"); (case k2 => rfl))
  | ((with_reducible refine' g_setL ?k1 ?k2 ?k3); (case k1 => walk_at "hp"); (case k2 => rfl))
  | (with_reducible refine g_test ?_)
  | (with_reducible refine g_int1 ?_)
  | (with_reducible refine g_bl1 ?_)
  | ((with_reducible refine' g_lenL ?k1 ?k2); (case k1 => walk_at "sq"))
  | ((with_reducible refine' g_lenT ?k1 ?k2); (case k1 => walk_at "sq"))
)
local macro_rules | `(tactic| walk_at "go") => `(tactic| repeat (first | (walk_at "go1") | (dsimp only; (walk_at "go1"))))
def topS (i : Nat) : Stmt := PySem.Challenge.pw_everdays_k89_polls.main.body.getD i (.Pass ⟨0, 0, 0, 0⟩)
abbrev s_Taken_init : Stmt := (inClass (topS 4) 0)
theorem sc_Taken_init : FnScope ["self", "what"] ["self", "what"] (defScope s_Taken_init) := ⟨rfl, rfl, rfl, by decide +kernel, rfl, by decide +kernel, by decide +kernel⟩
abbrev s_NoSuch_init : Stmt := (inClass (topS 5) 0)
theorem sc_NoSuch_init : FnScope ["self", "what"] ["self", "what"] (defScope s_NoSuch_init) := ⟨rfl, rfl, rfl, by decide +kernel, rfl, by decide +kernel, by decide +kernel⟩
abbrev s_is_name : Stmt := (topS 10)
theorem sc_is_name : FnScope ["text", "sign"] ["text"] (defScope s_is_name) := ⟨rfl, rfl, rfl, by decide +kernel, rfl, by decide +kernel, by decide +kernel⟩
abbrev s_Poll_init : Stmt := (inClass (topS 13) 0)
theorem sc_Poll_init : FnScope ["self", "names", "needed", "name"] ["self", "names", "needed"] (defScope s_Poll_init) := ⟨rfl, rfl, rfl, by decide +kernel, rfl, by decide +kernel, by decide +kernel⟩
abbrev s_Poll_propose : Stmt := (inClass (topS 13) 1)
theorem sc_Poll_propose : FnScope ["self", "start", "length"] ["self", "start", "length"] (defScope s_Poll_propose) := ⟨rfl, rfl, rfl, by decide +kernel, rfl, by decide +kernel, by decide +kernel⟩
abbrev s_Poll_proposals : Stmt := (inClass (topS 13) 2)
theorem sc_Poll_proposals : FnScope ["self"] ["self"] (defScope s_Poll_proposals) := ⟨rfl, rfl, rfl, by decide +kernel, rfl, by decide +kernel, by decide +kernel⟩
abbrev s_Poll_vote : Stmt := (inClass (topS 13) 3)
theorem sc_Poll_vote : FnScope ["self", "name", "number", "word"] ["self", "name", "number", "word"] (defScope s_Poll_vote) := ⟨rfl, rfl, rfl, by decide +kernel, rfl, by decide +kernel, by decide +kernel⟩
abbrev s_Poll_word : Stmt := (inClass (topS 13) 4)
theorem sc_Poll_word : FnScope ["self", "name", "number"] ["self", "name", "number"] (defScope s_Poll_word) := ⟨rfl, rfl, rfl, by decide +kernel, rfl, by decide +kernel, by decide +kernel⟩
abbrev s_Poll_tally : Stmt := (inClass (topS 13) 5)
theorem sc_Poll_tally : FnScope ["self", "number", "words", "name", "vote", "word"] ["self", "number"] (defScope s_Poll_tally) := ⟨rfl, rfl, rfl, by decide +kernel, rfl, by decide +kernel, by decide +kernel⟩
abbrev s_Poll_possible : Stmt := (inClass (topS 13) 6)
theorem sc_Poll_possible : FnScope ["self", "number", "name"] ["self", "number"] (defScope s_Poll_possible) := ⟨rfl, rfl, rfl, by decide +kernel, rfl, by decide +kernel, by decide +kernel⟩
abbrev s_Poll_best : Stmt := (inClass (topS 13) 7)
theorem sc_Poll_best : FnScope ["self", "found", "number", "start", "length", "yes", "maybe", "no"] ["self"] (defScope s_Poll_best) := ⟨rfl, rfl, rfl, by decide +kernel, rfl, by decide +kernel, by decide +kernel⟩
abbrev s_Poll_close : Stmt := (inClass (topS 13) 8)
theorem sc_Poll_close : FnScope ["self", "number"] ["self"] (defScope s_Poll_close) := ⟨rfl, rfl, rfl, by decide +kernel, rfl, by decide +kernel, by decide +kernel⟩
abbrev s_Poll_is_closed : Stmt := (inClass (topS 13) 9)
theorem sc_Poll_is_closed : FnScope ["self"] ["self"] (defScope s_Poll_is_closed) := ⟨rfl, rfl, rfl, by decide +kernel, rfl, by decide +kernel, by decide +kernel⟩
abbrev s_Poll_missing : Stmt := (inClass (topS 13) 10)
theorem sc_Poll_missing : FnScope ["self", "found", "name", "number"] ["self"] (defScope s_Poll_missing) := ⟨rfl, rfl, rfl, by decide +kernel, rfl, by decide +kernel, by decide +kernel⟩
abbrev s_law_draw : Stmt := (topS 15)
theorem sc_law_draw : FnScope ["tape", "many", "cells", "k", "cell", "digit"] ["tape", "many"] (defScope s_law_draw) := ⟨rfl, rfl, rfl, by decide +kernel, rfl, by decide +kernel, by decide +kernel⟩
abbrev s_law_tape : Stmt := (topS 16)
theorem sc_law_tape : FnScope ["script"] ["script"] (defScope s_law_tape) := ⟨rfl, rfl, rfl, by decide +kernel, rfl, by decide +kernel, by decide +kernel⟩
abbrev s_law_same : Stmt := (topS 17)
theorem sc_law_same : FnScope ["told", "due"] ["told", "due"] (defScope s_law_same) := ⟨rfl, rfl, rfl, by decide +kernel, rfl, by decide +kernel, by decide +kernel⟩
abbrev s_law_names : Stmt := (topS 18)
theorem sc_law_names : FnScope ["tape", "many", "pool", "found", "k"] ["tape", "many"] (defScope s_law_names) := ⟨rfl, rfl, rfl, by decide +kernel, rfl, by decide +kernel, by decide +kernel⟩
abbrev s_law_made_poll : Stmt := (topS 19)
theorem sc_law_made_poll : FnScope ["names", "needed"] ["names", "needed"] (defScope s_law_made_poll) := ⟨rfl, rfl, rfl, by decide +kernel, rfl, by decide +kernel, by decide +kernel⟩
abbrev s_law_proposed : Stmt := (topS 20)
theorem sc_law_proposed : FnScope ["poll", "start", "length", "e"] ["poll", "start", "length"] (defScope s_law_proposed) := ⟨rfl, rfl, rfl, by decide +kernel, rfl, by decide +kernel, by decide +kernel⟩
abbrev s_law_voted : Stmt := (topS 21)
theorem sc_law_voted : FnScope ["poll", "name", "number", "word", "e"] ["poll", "name", "number", "word"] (defScope s_law_voted) := ⟨rfl, rfl, rfl, by decide +kernel, rfl, by decide +kernel, by decide +kernel⟩
abbrev s_law_best : Stmt := (topS 22)
theorem sc_law_best : FnScope ["rows", "votes", "names", "needed", "found", "k", "words", "name"] ["rows", "votes", "names", "needed"] (defScope s_law_best) := ⟨rfl, rfl, rfl, by decide +kernel, rfl, by decide +kernel, by decide +kernel⟩
abbrev s_law : Stmt := (topS 23)
theorem sc_law : FnScope ["script", "tape", "names", "needed", "poll", "rows", "votes", "closed", "k", "way", "start", "length", "due", "best", "name", "number", "word", "words", "right", "open_ones"] ["script"] (defScope s_law) := ⟨rfl, rfl, rfl, by decide +kernel, rfl, by decide +kernel, by decide +kernel⟩
structure Adr where
  f_Taken_init : Addr
  d_Taken_init : FuncData
  f_NoSuch_init : Addr
  d_NoSuch_init : FuncData
  f_is_name : Addr
  d_is_name : FuncData
  f_Poll_init : Addr
  d_Poll_init : FuncData
  f_Poll_propose : Addr
  d_Poll_propose : FuncData
  f_Poll_proposals : Addr
  d_Poll_proposals : FuncData
  f_Poll_vote : Addr
  d_Poll_vote : FuncData
  f_Poll_word : Addr
  d_Poll_word : FuncData
  f_Poll_tally : Addr
  d_Poll_tally : FuncData
  f_Poll_possible : Addr
  d_Poll_possible : FuncData
  f_Poll_best : Addr
  d_Poll_best : FuncData
  f_Poll_close : Addr
  d_Poll_close : FuncData
  f_Poll_is_closed : Addr
  d_Poll_is_closed : FuncData
  f_Poll_missing : Addr
  d_Poll_missing : FuncData
  f_law_draw : Addr
  d_law_draw : FuncData
  f_law_tape : Addr
  d_law_tape : FuncData
  f_law_same : Addr
  d_law_same : FuncData
  f_law_names : Addr
  d_law_names : FuncData
  f_law_made_poll : Addr
  d_law_made_poll : FuncData
  f_law_proposed : Addr
  d_law_proposed : FuncData
  f_law_voted : Addr
  d_law_voted : FuncData
  f_law_best : Addr
  d_law_best : FuncData
  f_law : Addr
  d_law : FuncData
  C_Poll : Addr
  C_NoSuch : Addr
  C_Taken : Addr
  C_BadSeries : Addr
  C_BadName : Addr
  C_NotAllowed : Addr
  C_DaysError : Addr
  A_VOTES : Addr
  M_DaysError : Value
structure Txt (K : PySem.W.Frag) (mg : Str → Option Value) (a : Adr) : Prop where
  F_Taken_init : Fun K "__init__" "Taken.__init__" s_Taken_init a.f_Taken_init a.d_Taken_init
  b_Taken_init : Binds K a.d_Taken_init ["self", "what"] []
  F_NoSuch_init : Fun K "__init__" "NoSuch.__init__" s_NoSuch_init a.f_NoSuch_init a.d_NoSuch_init
  b_NoSuch_init : Binds K a.d_NoSuch_init ["self", "what"] []
  F_is_name : Fun K "is_name" "is_name" s_is_name a.f_is_name a.d_is_name
  b_is_name : Binds K a.d_is_name ["text"] []
  g_is_name : mg "is_name" = some (.ref a.f_is_name)
  F_Poll_init : Fun K "__init__" "Poll.__init__" s_Poll_init a.f_Poll_init a.d_Poll_init
  b_Poll_init : Binds K a.d_Poll_init ["self", "names", "needed"] []
  M_Poll : Mk K a.C_Poll a.f_Poll_init
  F_Poll_propose : Fun K "propose" "Poll.propose" s_Poll_propose a.f_Poll_propose a.d_Poll_propose
  b_Poll_propose : Binds K a.d_Poll_propose ["self", "start", "length"] []
  m_Poll_propose : Meth K a.C_Poll "propose" a.f_Poll_propose
  F_Poll_proposals : Fun K "proposals" "Poll.proposals" s_Poll_proposals a.f_Poll_proposals a.d_Poll_proposals
  b_Poll_proposals : Binds K a.d_Poll_proposals ["self"] []
  m_Poll_proposals : Meth K a.C_Poll "proposals" a.f_Poll_proposals
  F_Poll_vote : Fun K "vote" "Poll.vote" s_Poll_vote a.f_Poll_vote a.d_Poll_vote
  b_Poll_vote : Binds K a.d_Poll_vote ["self", "name", "number", "word"] []
  m_Poll_vote : Meth K a.C_Poll "vote" a.f_Poll_vote
  F_Poll_word : Fun K "word" "Poll.word" s_Poll_word a.f_Poll_word a.d_Poll_word
  b_Poll_word : Binds K a.d_Poll_word ["self", "name", "number"] []
  m_Poll_word : Meth K a.C_Poll "word" a.f_Poll_word
  F_Poll_tally : Fun K "tally" "Poll.tally" s_Poll_tally a.f_Poll_tally a.d_Poll_tally
  b_Poll_tally : Binds K a.d_Poll_tally ["self", "number"] []
  m_Poll_tally : Meth K a.C_Poll "tally" a.f_Poll_tally
  F_Poll_possible : Fun K "possible" "Poll.possible" s_Poll_possible a.f_Poll_possible a.d_Poll_possible
  b_Poll_possible : Binds K a.d_Poll_possible ["self", "number"] []
  m_Poll_possible : Meth K a.C_Poll "possible" a.f_Poll_possible
  F_Poll_best : Fun K "best" "Poll.best" s_Poll_best a.f_Poll_best a.d_Poll_best
  b_Poll_best : Binds K a.d_Poll_best ["self"] []
  m_Poll_best : Meth K a.C_Poll "best" a.f_Poll_best
  F_Poll_close : Fun K "close" "Poll.close" s_Poll_close a.f_Poll_close a.d_Poll_close
  b_Poll_close : Binds K a.d_Poll_close ["self"] []
  m_Poll_close : Meth K a.C_Poll "close" a.f_Poll_close
  F_Poll_is_closed : Fun K "is_closed" "Poll.is_closed" s_Poll_is_closed a.f_Poll_is_closed a.d_Poll_is_closed
  b_Poll_is_closed : Binds K a.d_Poll_is_closed ["self"] []
  m_Poll_is_closed : Meth K a.C_Poll "is_closed" a.f_Poll_is_closed
  F_Poll_missing : Fun K "missing" "Poll.missing" s_Poll_missing a.f_Poll_missing a.d_Poll_missing
  b_Poll_missing : Binds K a.d_Poll_missing ["self"] []
  m_Poll_missing : Meth K a.C_Poll "missing" a.f_Poll_missing
  F_law_draw : Fun K "_law_draw" "_law_draw" s_law_draw a.f_law_draw a.d_law_draw
  b_law_draw : Binds K a.d_law_draw ["tape", "many"] []
  g_law_draw : mg "_law_draw" = some (.ref a.f_law_draw)
  F_law_tape : Fun K "_law_tape" "_law_tape" s_law_tape a.f_law_tape a.d_law_tape
  b_law_tape : Binds K a.d_law_tape ["script"] []
  g_law_tape : mg "_law_tape" = some (.ref a.f_law_tape)
  F_law_same : Fun K "_law_same" "_law_same" s_law_same a.f_law_same a.d_law_same
  b_law_same : Binds K a.d_law_same ["told", "due"] []
  g_law_same : mg "_law_same" = some (.ref a.f_law_same)
  F_law_names : Fun K "_law_names" "_law_names" s_law_names a.f_law_names a.d_law_names
  b_law_names : Binds K a.d_law_names ["tape", "many"] []
  g_law_names : mg "_law_names" = some (.ref a.f_law_names)
  F_law_made_poll : Fun K "_law_made_poll" "_law_made_poll" s_law_made_poll a.f_law_made_poll a.d_law_made_poll
  b_law_made_poll : Binds K a.d_law_made_poll ["names", "needed"] []
  g_law_made_poll : mg "_law_made_poll" = some (.ref a.f_law_made_poll)
  F_law_proposed : Fun K "_law_proposed" "_law_proposed" s_law_proposed a.f_law_proposed a.d_law_proposed
  b_law_proposed : Binds K a.d_law_proposed ["poll", "start", "length"] []
  g_law_proposed : mg "_law_proposed" = some (.ref a.f_law_proposed)
  F_law_voted : Fun K "_law_voted" "_law_voted" s_law_voted a.f_law_voted a.d_law_voted
  b_law_voted : Binds K a.d_law_voted ["poll", "name", "number", "word"] []
  g_law_voted : mg "_law_voted" = some (.ref a.f_law_voted)
  F_law_best : Fun K "_law_best" "_law_best" s_law_best a.f_law_best a.d_law_best
  b_law_best : Binds K a.d_law_best ["rows", "votes", "names", "needed"] []
  g_law_best : mg "_law_best" = some (.ref a.f_law_best)
  F_law : Fun K "law" "law" s_law a.f_law a.d_law
  b_law : Binds K a.d_law ["script"] []
  g_law : mg "law" = some (.ref a.f_law)
  c_Poll : Cls K a.C_Poll
  g_Poll : mg "Poll" = some (.ref a.C_Poll)
  n_Poll_names : NoAttr K a.C_Poll "names"
  n_Poll_needed : NoAttr K a.C_Poll "needed"
  n_Poll_proposals : NoAttr K a.C_Poll "_proposals"
  n_Poll_votes : NoAttr K a.C_Poll "_votes"
  n_Poll_closed : NoAttr K a.C_Poll "_closed"
  g_NoSuch : mg "NoSuch" = some (.ref a.C_NoSuch)
  r_NoSuch : PySem.W.subIn K (.ref a.C_NoSuch) (.type "BaseException") = some true
  t_NoSuch : PySem.W.typeIn K (.ref a.C_NoSuch) = some (.type "type")
  k_NoSuch : PySem.W.keepIn K (.ref a.C_NoSuch) = true
  x_NoSuch : OexC K a.C_NoSuch
  y_NoSuch : XfC K a.C_NoSuch
  i_NoSuch : PySem.W.findIn K (.ref a.C_NoSuch) "__init__" = some (some (.ref a.f_NoSuch_init))
  u_NoSuch : PySem.W.typeIn K (.ref a.f_NoSuch_init) = some (.type "function")
  n_NoSuch_what : PySem.W.findIn K (.ref a.C_NoSuch) "what" = some none
  g_Taken : mg "Taken" = some (.ref a.C_Taken)
  r_Taken : PySem.W.subIn K (.ref a.C_Taken) (.type "BaseException") = some true
  t_Taken : PySem.W.typeIn K (.ref a.C_Taken) = some (.type "type")
  k_Taken : PySem.W.keepIn K (.ref a.C_Taken) = true
  x_Taken : OexC K a.C_Taken
  y_Taken : XfC K a.C_Taken
  i_Taken : PySem.W.findIn K (.ref a.C_Taken) "__init__" = some (some (.ref a.f_Taken_init))
  u_Taken : PySem.W.typeIn K (.ref a.f_Taken_init) = some (.type "function")
  n_Taken_what : PySem.W.findIn K (.ref a.C_Taken) "what" = some none
  g_BadSeries : mg "BadSeries" = some (.ref a.C_BadSeries)
  r_BadSeries : PySem.W.subIn K (.ref a.C_BadSeries) (.type "BaseException") = some true
  t_BadSeries : PySem.W.typeIn K (.ref a.C_BadSeries) = some (.type "type")
  k_BadSeries : PySem.W.keepIn K (.ref a.C_BadSeries) = true
  x_BadSeries : PySem.W.excIn K a.C_BadSeries [.type "ValueError", .type "Exception", .type "BaseException", .type "object"] "ValueError.__new__" = true
  g_BadName : mg "BadName" = some (.ref a.C_BadName)
  r_BadName : PySem.W.subIn K (.ref a.C_BadName) (.type "BaseException") = some true
  t_BadName : PySem.W.typeIn K (.ref a.C_BadName) = some (.type "type")
  k_BadName : PySem.W.keepIn K (.ref a.C_BadName) = true
  x_BadName : PySem.W.excIn K a.C_BadName [.type "ValueError", .type "Exception", .type "BaseException", .type "object"] "ValueError.__new__" = true
  g_NotAllowed : mg "NotAllowed" = some (.ref a.C_NotAllowed)
  r_NotAllowed : PySem.W.subIn K (.ref a.C_NotAllowed) (.type "BaseException") = some true
  t_NotAllowed : PySem.W.typeIn K (.ref a.C_NotAllowed) = some (.type "type")
  k_NotAllowed : PySem.W.keepIn K (.ref a.C_NotAllowed) = true
  x_NotAllowed : PySem.W.excIn K a.C_NotAllowed [.type "ValueError", .type "Exception", .type "BaseException", .type "object"] "ValueError.__new__" = true
  e_BadName_BadName : PySem.W.exmOne K (.ref a.C_BadName) (.ref a.C_BadName) = some true
  e_NotAllowed_NotAllowed : PySem.W.exmOne K (.ref a.C_NotAllowed) (.ref a.C_NotAllowed) = some true
  e_BadSeries_NotAllowed : PySem.W.exmOne K (.ref a.C_BadSeries) (.ref a.C_NotAllowed) = some false
  e_BadSeries_BadSeries : PySem.W.exmOne K (.ref a.C_BadSeries) (.ref a.C_BadSeries) = some true
  e_Taken_NotAllowed : PySem.W.exmOne K (.ref a.C_Taken) (.ref a.C_NotAllowed) = some false
  e_Taken_BadSeries : PySem.W.exmOne K (.ref a.C_Taken) (.ref a.C_BadSeries) = some false
  e_Taken_Taken : PySem.W.exmOne K (.ref a.C_Taken) (.ref a.C_Taken) = some true
  e_NoSuch_NotAllowed : PySem.W.exmOne K (.ref a.C_NoSuch) (.ref a.C_NotAllowed) = some false
  e_NoSuch_BadName : PySem.W.exmOne K (.ref a.C_NoSuch) (.ref a.C_BadName) = some false
  e_NoSuch_NoSuch : PySem.W.exmOne K (.ref a.C_NoSuch) (.ref a.C_NoSuch) = some true
  e_BadName_NotAllowed : PySem.W.exmOne K (.ref a.C_BadName) (.ref a.C_NotAllowed) = some false
  g_DaysError : mg "DaysError" = some (.ref a.C_DaysError)
  B_DaysError : BaseInit K a.C_DaysError a.M_DaysError
  z_len : mg "len" = none
  z_int : mg "int" = none
  z_tuple : mg "tuple" = none
  z_list : mg "list" = none
  z_range : mg "range" = none
  z_set : mg "set" = none
  z_all : mg "all" = none
  z_any : mg "any" = none
  z_min : mg "min" = none
  z_enumerate : mg "enumerate" = none
  z_isinstance : mg "isinstance" = none
  z_bool : mg "bool" = none
  g_VOTES : mg "VOTES" = some (.ref a.A_VOTES)
  h_VOTES : ∀ H, SqT K H a.A_VOTES (([[121, 101, 115], [109, 97, 121, 98, 101], [110, 111]] : List (List Nat)).map fun z => V.str (S z))
  k_VOTES : ∃ o, K.lookup a.A_VOTES = some o ∧ o.cls = .type "tuple" ∧ o.dict = none
  g_LETTERS : ∃ u, mg "LETTERS" = some u ∧ RelV (.str "abcdefghijklmnopqrstuvwxyz") u
  g_DIGITS : ∃ u, mg "DIGITS" = some u ∧ RelV (.str "0123456789") u
section
variable {P : Program} {w : World} {K : PySem.W.Frag} {mg : Str → Option Value} {base : Heap} {a : Adr}
theorem two_le : 2 ≤ sizeLine := by decide
theorem same_new {H : Hp} {p : Addr} {o : HO} (h : H p = none) : Same H (upd H p o) := fun b x e => by
  rw [upd_ne (ne_of_none e h)]; exact e
/-- the tape: its cells, its place, what is left -/
abbrev tp (c : Addr) (k r : Int) : HO := .lst [.ref c, .int k, .int r]
def sp_law_draw (K : PySem.W.Frag) : Sp := fun vs H Q _ => ∃ (t c : Addr) (m k r : Int) (ns : List Int), vs = [.ref t, .int m] ∧ 0 < m ∧ m < 1073741824 ∧ H t = some (tp c k r) ∧ H c = some (.lst (ns.map V.int)) ∧ 0 ≤ k ∧ 0 ≤ r ∧
  ∀ (d k' r' : Int), 0 ≤ d → d < m → 0 ≤ k' → 0 ≤ r' → Q (.int d) (upd H t (tp c k' r'))
theorem ok_law_draw (T : Txt K mg a) : FnOk P w K mg base CX0 1 a.f_law_draw a.d_law_draw ["tape", "many"] (sp_law_draw K) := by
  refine T.F_law_draw.ok sc_law_draw (fun vs H Q E h => ?_) (fun cdv A outer s H vs Q E hr h => ?_)
  · obtain ⟨t, c, m, k, r, ns, rfl, _⟩ := h
    rfl
  · obtain ⟨t, c, m, k, r, ns, rfl, m0, m1, ht, hc, k0, r0, q⟩ := h
    refine ⟨_, (C8.pss_cut (ps_if (pt_cmpR op_lt (pe_ix ix_list (pv 0) pe_int (fun _ _ => rfl)) (pv 1) (nomark _))
       (pss_cons (ps_set (i := 2) sc_law_draw.nd rfl (.inl rfl) (pe_ix ix_list (pv 0) pe_int (fun _ _ => rfl)))
       (pss_cons (ps_set (i := 3) sc_law_draw.nd rfl (.inl rfl) (pe_ix ix_list (pv 0) pe_int (fun _ _ => rfl)))
       (pss_cons (ps_set (i := 4) sc_law_draw.nd rfl (.inl rfl) pe_int)
       (C8.pss_cut (ps_if (pt_cmpR op_lt (pv 3) (pe_callB call_len_seq (by rfl) T.z_len (by decide +kernel) (pa_cons (pv 2) pa_nil)) (nomark _))
       (pss_one (ps_set (i := 4) sc_law_draw.nd rfl (.inl rfl) (pe_ix ix_list (pv 2) (pv 3) (fun _ _ => rfl))))
       pss_nil)
       (C8.pss_cut (ps_if (pt_cmpR op_lt (pv 4) pe_int (nomark _))
       (pss_one (ps_set (i := 4) sc_law_draw.nd rfl (.inl rfl) (pe_op op_sub (pe_op op_mul (pe_un un_neg pe_int) (pv 4)) pe_int)))
       pss_nil)
       (C8.pss_cut (ps_if (pt_cmpR op_lt (pv 4) (pe_op op_pow pe_int pe_int) (nomark _))
       (pss_cons (ps_set (i := 4) sc_law_draw.nd rfl (.inl rfl) (pe_op op_modE (pe_callTy call_int1 (by rfl) T.z_int (by decide +kernel) (pa_cons (pe_op op_add (pe_op op_add (pe_op op_mul (pv 4) pe_int) (pe_op op_mul (pv 3) pe_int)) pe_int) pa_nil)) pe_int))
       (pss_one (ps_set (i := 4) sc_law_draw.nd rfl (.inl rfl) (pe_op op_modE (pe_callTy call_int1 (by rfl) T.z_int (by decide +kernel) (pa_cons (pe_op op_add (pe_op op_add (pe_op op_mul (pv 4) pe_int) (pe_op op_mul (pv 3) pe_int)) pe_int) pa_nil)) pe_int))))
       pss_nil)
       (pss_cons (ps_asg (pe_op op_add (pv 3) pe_int) (pg_sub (pv 0) pe_int set_list))
       (pss_one (ps_asg (pv 4) (pg_sub (pv 0) pe_int set_list))))))))))
       pss_nil)
       (pss_cons (ps_set (i := 5) sc_law_draw.nd rfl (.inl rfl) (pe_op op_modE (pe_callTy call_int1 (by rfl) T.z_int (by decide +kernel) (pa_cons (pe_ix ix_list (pv 0) pe_int (fun _ _ => rfl)) pa_nil)) (pv 1)))
       (pss_cons (ps_asg (pe_op op_fdivE (pe_ix ix_list (pv 0) pe_int (fun _ _ => rfl)) (pv 1)) (pg_sub (pv 0) pe_int set_list))
       (pss_one (ps_ret (pv 5)))))), ?_⟩
    refine red (σ' := [some (.ref t), some (.int m), none, none, none, none]) rfl ?_
    dsimp only [cxOf]
    have htc : c ≠ t := ne_of hc ht (by intro z; unfold tp at z; cases ns <;> simp at z)
    refine ⟨fun σ' H' => ∃ (k' r' : Int) (x2 x3 x4 x5 : Option V), 0 ≤ k' ∧ 0 ≤ r' ∧ σ' = [some (.ref t), some (.int m), x2, x3, x4, x5] ∧ H' = upd H t (tp c k' r'), ?_, ?_⟩
    · walk_at "go"
      refine iteK (fun h1 => ?_) (fun h1 => ?_)
      · walk_at "go"
        refine ⟨fun σ' H' => ∃ z : Int, σ' = [some (.ref t), some (.int m), some (.ref c), some (.int k), some (.int z), none] ∧ H = H', ?_, ?_⟩
        · walk_at "go"
          refine iteK (fun h2 => ?_) (fun h2 => ?_)
          · walk_at "go"
            rw [List.length_map] at h2
            obtain ⟨j, rfl⟩ := Int.eq_ofNat_of_zero_le k0
            have hj : j < ns.length := by omega
            refine g_ixL (v := .int ns[j]) (SqL.of hc) (atI_nat (by rw [List.getElem?_map, List.getElem?_eq_getElem hj]; rfl)) ?_
            walk_at "go"
            exact ⟨_, rfl, rfl⟩
          · walk_at "go"
            exact ⟨_, rfl, rfl⟩
        · rintro σ' H' ⟨z, rfl, rfl⟩
          refine ⟨fun σ' H' => ∃ z : Int, 0 ≤ z ∧ σ' = [some (.ref t), some (.int m), some (.ref c), some (.int k), some (.int z), none] ∧ H = H', ?_, ?_⟩
          · walk_at "go"
            refine iteK (fun h2 => ?_) (fun h2 => ?_)
            · walk_at "go"
              exact ⟨_, by omega, rfl, rfl⟩
            · walk_at "go"
              exact ⟨_, by omega, rfl, rfl⟩
          · rintro σ' H' ⟨z, z0, rfl, rfl⟩
            refine ⟨fun σ' H' => ∃ z : Int, 0 ≤ z ∧ σ' = [some (.ref t), some (.int m), some (.ref c), some (.int k), some (.int z), none] ∧ H = H', ?_, ?_⟩
            · walk_at "go"
              refine iteK (fun h2 => ?_) (fun h2 => ?_)
              · walk_at "go"
                exact ⟨_, by omega, rfl, rfl⟩
              · walk_at "go"
                exact ⟨_, by omega, rfl, rfl⟩
            · rintro σ' H' ⟨z, z0, rfl, rfl⟩
              walk_at "go"
              exact ⟨k + 1, z, _, _, _, _, by omega, z0, rfl, by rw [upd_upd]; rfl⟩
      · walk_at "go"
        exact ⟨k, r, _, _, _, _, k0, r0, rfl, by funext b; unfold upd; split <;> simp_all⟩
    · rintro σ' H' ⟨k', r', x2, x3, x4, x5, k0', r0', rfl, rfl⟩
      walk_at "go"
      rw [upd_upd]
      exact q _ _ _ (Int.emod_nonneg _ (by omega)) (Int.emod_lt_of_pos _ m0) k0' (Int.ediv_nonneg r0' (by omega))
def sp_law_tape (K : PySem.W.Frag) : Sp := fun vs H Q _ => ∃ (b : Addr) (xs : List V), vs = [.ref b] ∧ SqL K H b xs ∧ xs.length < 100 ∧
  ∀ t c, H c = none → H t = none → c ≠ t → Q (.ref t) (upd (upd H c (.lst xs)) t (tp c 0 0))
theorem ok_law_tape (T : Txt K mg a) : FnOk P w K mg base CX0 1 a.f_law_tape a.d_law_tape ["script"] (sp_law_tape K) := by
  refine T.F_law_tape.ok sc_law_tape (fun vs H Q E h => ?_) (fun cdv A outer s H vs Q E hr h => ?_)
  · obtain ⟨b, xs, rfl, _⟩ := h
    rfl
  · obtain ⟨b, xs, rfl, hb, hl, q⟩ := h
    refine ⟨_, (pss_one (ps_ret (pe_lst (pa_cons (pe_callTy call_list_of (by rfl) T.z_list (by decide +kernel) (pa_cons (pv 0) pa_nil)) (pa_cons pe_int (pa_cons pe_int pa_nil)))))), ?_⟩
    refine red (σ' := [some (.ref b)]) rfl ?_
    dsimp only [cxOf]
    walk_at "go"
    intro c hc
    walk_at "go"
    refine ⟨by show 3 ≤ sizeLine; decide, fun t ht => ?_⟩
    have ct : c ≠ t := fun e => by rw [← e, upd_same] at ht; cases ht
    rw [upd_ne ct.symm] at ht
    exact q t c hc ht ct
end
section
variable {P : Program} {w : World} {K : PySem.W.Frag} {mg : Str → Option Value} {base : Heap} {a : Adr}
theorem i_if {c : Prop} [Decidable c] {A B : Prop} (h1 : c → A) (h2 : ¬ c → B) : if c then A else B := by
  by_cases h : c
  · rw [if_pos h]; exact h1 h
  · rw [if_neg h]; exact h2 h
/-- a test told by a Bool -/
theorem iteB {b : Bool} {A B : Prop} (h1 : b = true → A) (h2 : b = false → B) : if b = true then A else B := by
  cases b with
  | true => exact h1 rfl
  | false => exact h2 rfl
theorem dec_int (i j : Int) : decide (V.int i = V.int j) = decide (i = j) := by
  by_cases h : i = j
  · subst h; simp
  · have : ¬ V.int i = V.int j := fun z => h (by cases z; rfl)
    rw [decide_eq_false this, decide_eq_false h]
theorem dec_str (x y : List Nat) : decide (V.str (S x) = V.str (S y)) = decide (x = y) := by
  by_cases h : x = y
  · subst h; simp
  · have : ¬ V.str (S x) = V.str (S y) := fun z => h (S_inj (by cases z; rfl))
    rw [decide_eq_false this, decide_eq_false h]
theorem in_digits (c : Nat) : decide (c ∈ [48, 49, 50, 51, 52, 53, 54, 55, 56, 57]) = (decide (48 ≤ c) && decide (c ≤ 57)) := by
  by_cases h : 48 ≤ c ∧ c ≤ 57
  · rw [decide_eq_true h.1, decide_eq_true h.2]
    have : c = 48 ∨ c = 49 ∨ c = 50 ∨ c = 51 ∨ c = 52 ∨ c = 53 ∨ c = 54 ∨ c = 55 ∨ c = 56 ∨ c = 57 := by omega
    rcases this with r | r | r | r | r | r | r | r | r | r <;> subst r <;> rfl
  · have h2 : (decide (48 ≤ c) && decide (c ≤ 57)) = false := by
      rw [Bool.and_eq_false_iff, decide_eq_false_iff_not, decide_eq_false_iff_not]
      omega
    rw [h2, decide_eq_false_iff_not]
    intro hm
    simp only [List.mem_cons, List.not_mem_nil, or_false] at hm
    omega
theorem all_id {α : Type} (f : α → Bool) : ∀ l : List α, (l.map f).all id = l.all f
  | [] => rfl
  | x :: l => by rw [List.map_cons, List.all_cons, List.all_cons, all_id f l]; rfl
theorem take_more {α : Type} : ∀ {l : List α} {i : Nat} {x : α}, l[i]? = some x → l.take (i + 1) = l.take i ++ [x]
  | [], i, x, h => by simp at h
  | a :: l, 0, x, h => by cases h; rfl
  | a :: l, i + 1, x, h => by
    show a :: l.take (i + 1) = a :: l.take i ++ [x]
    rw [take_more (l := l) (i := i) (x := x) h]; rfl
theorem digs {σ : L2.St} {i j : Nat} {l : List Nat} {H : Hp} {Q : VK} (hl : l.length ≤ 900000) (hj : σ[j]? = some (some (.str (S l)))) (h1 : ∀ x : V, wipe ((wipe σ [i]).set i (some x)) [i] = wipe σ [i]) (h2 : ∀ x : V, ((wipe σ [i]).set i (some x))[i]? = some (some x))
    (q : ∀ D H', Same H H' → H' D = some (.lst ((l.map fun c => decide (48 ≤ c) && decide (c ≤ 57)).map V.bl)) → Q (.ref D) H') :
    tLc (iStr (tVar j)) (gName i) tYes (tOp (fun x y H Q => ∃ (c : Nat) (z : Str), x = .str ⟨#[c]⟩ ∧ y = .str z ∧ Q (.bl (decide (c ∈ z.cps.toList))) H) (tVar i) (tC (.str "0123456789"))) [i] σ H Q := by
  refine g_lc (g_istr (g_var hj ⟨S l, rfl, fun D hD => ?_⟩))
  have hsz : (S l).cps.size = l.length := S_len l
  refine lc_it walk_str (fun i H' => Same H H' ∧ H' D = some (.lst (((l.take i).map fun c => decide (48 ≤ c) && decide (c ≤ 57)).map V.bl))) ⟨same_new hD, upd_same⟩ (fun _ _ _ _ => trivial) ?_ ?_
  · rintro k x H1 H2 hi ⟨sm, hL⟩ ⟨rfl, c, hc, rfl⟩
    have hc' : l[k]? = some c := by simpa using hc
    refine g_name ⟨h1 _, g_yes (iteT (g_op (g_var (h2 _) (g_c ⟨c, _, rfl, rfl, ?_⟩))))⟩
    have e1 : decide (c ∈ (Str.ofString "0123456789").cps.toList) = (decide (48 ≤ c) && decide (c ≤ 57)) := in_digits c
    rw [e1]
    refine ⟨_, hL, ?_, fun b o hb => ?_, ?_⟩
    · have := sizeBig
      rw [List.length_map, List.length_map, List.length_take]
      omega
    · rw [upd_ne (ne_of_none hb hD)]; exact sm b o hb
    · rw [upd_same, take_more hc', List.map_append, List.map_append]; rfl
  · rintro H1 ⟨sm, hL⟩
    rw [hsz, List.take_length] at hL
    exact q D H1 sm hL
theorem isDig_all {l : List Nat} (hn : l ≠ []) : (l.map fun c => decide (48 ≤ c) && decide (c ≤ 57)).all id = Dg.isDig l := by
  rw [all_id]
  unfold Dg.isDig
  cases l with
  | nil => exact absurd rfl hn
  | cons x l => rfl
end
section
variable {P : Program} {w : World} {K : PySem.W.Frag} {mg : Str → Option Value} {base : Heap} {a : Adr}
/-! ### errors that tell what -/
/-- what NoSuch is told: a text or a number -/
inductive Told : V → Prop
  | str (z : Str) (h : z.length ≤ 1000) : Told (.str z)
  | num (n : Nat) (h : n < 1000000) : Told (.int n)
  | neg : Told (.int (-1))
def sp_NoSuch_init (K : PySem.W.Frag) : Sp := fun vs H Q _ => ∃ (x C : Addr) (y : V), vs = [.ref x, y] ∧ Told y ∧ OexC K C ∧ PySem.W.findIn K (.ref C) "what" = some none ∧ H x = some (exo x C none) ∧
  ∀ d, H d = none → d ≠ x → Q .non (upd (upd H d (exd d [("what", y)])) x (exo x C (some d)))
theorem ok_NoSuch_init (T : Txt K mg a) : FnOk P w K mg base CX0 1 a.f_NoSuch_init a.d_NoSuch_init ["self", "what"] (sp_NoSuch_init K) := by
  refine T.F_NoSuch_init.ok sc_NoSuch_init (fun vs H Q E h => ?_) (fun cdv A outer s H vs Q E hr h => ?_)
  · obtain ⟨x, C, y, rfl, _⟩ := h
    rfl
  · obtain ⟨x, C, y, rfl, hy, hC, hno, hx, q⟩ := h
    refine ⟨_, (pss_cons (ps_expr (pe_deinit (by rfl) T.g_DaysError T.B_DaysError (pa_cons (pv 0) (pa_cons (pe_joined (PJ.cons (pe_fmt (pv 1)) (PJ.cons pe_str PJ.nil))) pa_nil))))
       (pss_one (ps_ost (pv 0) (pv 1)))), ?_⟩
    refine red (σ' := [some (.ref x), some y]) rfl ?_
    dsimp only [cxOf]
    walk_at "go"
    have e0 : (Str.empty).length = 0 := rfl
    have e1 : (Str.ofString " does not exist").length ≤ 100 := by decide +kernel
    have e2 : sizeLine = 16777216 := sizeLine_eq
    cases hy with
    | str y hy =>
      refine .inl ⟨y, rfl, by omega, _, rfl, by rw [strLen_append]; omega, ?_⟩
      walk_at "go"
      refine ⟨_, rfl, by rw [strLen_append, strLen_append]; omega, ?_⟩
      walk_at "go"
      refine ⟨x, C, _, rfl, by show 1 ≤ 1000; decide, hC, hx, ?_⟩
      walk_at "go"
      exact ⟨x, C, rfl, hC, hno, .inl ⟨hx, fun d hd hne => q d hd hne⟩⟩
    | num n hn =>
      have l1 := TL.numL_len (k := 6) (by decide) (n := n) hn
      have lg : ((n : Nat) : Int).natAbs.log2 < 1920 := by
        rw [Int.natAbs_natCast]
        rcases Nat.eq_zero_or_pos n with c | c
        · subst c; decide
        · exact Nat.lt_trans ((Nat.log2_lt (k := 20) (by omega)).mpr (by omega)) (by decide)
      have e3 : (Str.ofString (toString ((n : Nat) : Int))).length ≤ 6 := by rw [num_S, S_len]; exact l1
      refine .inr ⟨_, rfl, lg, _, rfl, by rw [strLen_append]; omega, ?_⟩
      walk_at "go"
      refine ⟨_, rfl, by rw [strLen_append, strLen_append]; omega, ?_⟩
      walk_at "go"
      refine ⟨x, C, _, rfl, by show 1 ≤ 1000; decide, hC, hx, ?_⟩
      walk_at "go"
      exact ⟨x, C, rfl, hC, hno, .inl ⟨hx, fun d hd hne => q d hd hne⟩⟩
    | neg =>
      have e3 : (Str.ofString (toString (-1 : Int))).length ≤ 6 := by decide +kernel
      refine .inr ⟨_, rfl, by decide, _, rfl, by rw [strLen_append]; omega, ?_⟩
      walk_at "go"
      refine ⟨_, rfl, by rw [strLen_append, strLen_append]; omega, ?_⟩
      walk_at "go"
      refine ⟨x, C, _, rfl, by show 1 ≤ 1000; decide, hC, hx, ?_⟩
      walk_at "go"
      exact ⟨x, C, rfl, hC, hno, .inl ⟨hx, fun d hd hne => q d hd hne⟩⟩
/-- what Taken is told: a tuple of two numbers -/
def sp_Taken_init (K : PySem.W.Frag) : Sp := fun vs H Q _ => ∃ (x C t : Addr) (m n : Nat), vs = [.ref x, .ref t] ∧ SqT K H t [.int m, .int n] ∧ m < 1000000 ∧ n < 1000000 ∧ OexC K C ∧ PySem.W.findIn K (.ref C) "what" = some none ∧ H x = some (exo x C none) ∧
  ∀ d, H d = none → d ≠ x → Q .non (upd (upd H d (exd d [("what", .ref t)])) x (exo x C (some d)))
theorem ok_Taken_init (T : Txt K mg a) : FnOk P w K mg base CX0 1 a.f_Taken_init a.d_Taken_init ["self", "what"] (sp_Taken_init K) := by
  refine T.F_Taken_init.ok sc_Taken_init (fun vs H Q E h => ?_) (fun cdv A outer s H vs Q E hr h => ?_)
  · obtain ⟨x, C, t, m, n, rfl, _⟩ := h
    rfl
  · obtain ⟨x, C, t, m, n, rfl, ht, hm, hn, hC, hno, hx, q⟩ := h
    refine ⟨_, (pss_cons (ps_expr (pe_deinit (by rfl) T.g_DaysError T.B_DaysError (pa_cons (pv 0) (pa_cons (pe_joined (PJ.cons (pe_fmtN hr (pv 1)) (PJ.cons pe_str PJ.nil))) pa_nil))))
       (pss_one (ps_ost (pv 0) (pv 1)))), ?_⟩
    refine red (σ' := [some (.ref x), some (.ref t)]) rfl ?_
    dsimp only [cxOf]
    walk_at "go"
    have e0 : (Str.empty).length = 0 := rfl
    have e1 : (Str.ofString " exists already").length ≤ 100 := by decide +kernel
    have e2 : sizeLine = 16777216 := sizeLine_eq
    refine g_fmtN ?_
    walk_at "go"
    refine ⟨t, [m, n], rfl, ht, fun z hz => ?_, by show 2 ≤ 100; decide, fun y hy => ?_⟩
    · simp only [List.mem_cons, List.not_mem_nil, or_false] at hz
      rcases hz with rfl | rfl <;> assumption
    refine ⟨_, rfl, by rw [strLen_append]; omega, ?_⟩
    walk_at "go"
    refine ⟨_, rfl, by rw [strLen_append, strLen_append]; omega, ?_⟩
    walk_at "go"
    refine ⟨x, C, _, rfl, by show 1 ≤ 1000; decide, hC, hx, ?_⟩
    walk_at "go"
    exact ⟨x, C, rfl, hC, hno, .inl ⟨hx, fun d hd hne => q d hd hne⟩⟩
/-- the error's fields are all that is left of what was made -/
theorem xd_eq {H : Hp} {x d C : Addr} {y : V} (hx : H x = none) (hne : d ≠ x) : upd (del (upd (upd (upd H x (exo x C none)) d (exd d [("what", y)])) x (exo x C (some d))) x) d (.xd [("what", y)]) = upd H d (.xd [("what", y)]) := by
  funext b
  by_cases h1 : b = d
  · rw [h1, upd_same, upd_same]
  · rw [upd_ne h1, upd_ne h1]
    by_cases h2 : b = x
    · rw [h2, del_same, hx]
    · rw [del_ne h2, upd_ne h2, upd_ne h1, upd_ne h2]
theorem mk_NoSuch (T : Txt K mg a) {H : Hp} {y : V} {R : XK} (hy : Told y) (q : ∀ d, H d = none → R (.ref a.C_NoSuch) (some d) (upd H d (.xd [("what", y)]))) :
    [y].length ≤ 1000 ∧ ∀ x, H x = none → sp_NoSuch_init K (.ref x :: ([y] ++ [])) (upd H x (exo x a.C_NoSuch none))
      (fun v H2 => v = .non ∧ ∃ (d : Addr) (fs : List (Str × V)), H2 x = some (exo x a.C_NoSuch (some d)) ∧ H2 d = some (exd d fs) ∧ H d = none ∧ R (.ref a.C_NoSuch) (some d) (upd (del H2 x) d (.xd fs))) (fun _ _ _ => False) := by
  refine ⟨by show 1 ≤ 1000; decide, fun x hx => ⟨x, a.C_NoSuch, y, rfl, hy, T.x_NoSuch, T.n_NoSuch_what, upd_same, fun d hd hne => ⟨rfl, d, _, upd_same, (upd_ne hne).trans upd_same, ?_, ?_⟩⟩⟩
  · rw [upd_ne hne] at hd; exact hd
  · rw [upd_ne hne] at hd
    rw [xd_eq hx hne]
    exact q d hd
theorem mk_Taken (T : Txt K mg a) {H : Hp} {t : Addr} {m n : Nat} {R : XK} (ht : H t = some (.tup [.int m, .int n])) (hm : m < 1000000) (hn : n < 1000000) (q : ∀ d, H d = none → R (.ref a.C_Taken) (some d) (upd H d (.xd [("what", .ref t)]))) :
    [V.ref t].length ≤ 1000 ∧ ∀ x, H x = none → sp_Taken_init K (.ref x :: ([V.ref t] ++ [])) (upd H x (exo x a.C_Taken none))
      (fun v H2 => v = .non ∧ ∃ (d : Addr) (fs : List (Str × V)), H2 x = some (exo x a.C_Taken (some d)) ∧ H2 d = some (exd d fs) ∧ H d = none ∧ R (.ref a.C_Taken) (some d) (upd (del H2 x) d (.xd fs))) (fun _ _ _ => False) := by
  refine ⟨by show 1 ≤ 1000; decide, fun x hx => ⟨x, a.C_Taken, t, m, n, rfl, SqT.of ((upd_ne (ne_of_none ht hx)).trans ht), hm, hn, T.x_Taken, T.n_Taken_what, upd_same, fun d hd hne => ⟨rfl, d, _, upd_same, (upd_ne hne).trans upd_same, ?_, ?_⟩⟩⟩
  · rw [upd_ne hne] at hd; exact hd
  · rw [upd_ne hne] at hd
    rw [xd_eq hx hne]
    exact q d hd
end
section
variable {P : Program} {w : World} {K : PySem.W.Frag} {mg : Str → Option Value} {base : Heap} {a : Adr}
abbrev sv (ws : List (List Nat)) : List V := ws.map fun z => V.str (S z)
theorem sv_app (ws vs : List (List Nat)) : sv ws ++ sv vs = sv (ws ++ vs) := List.map_append.symm
theorem flat_sv (ws : List (List Nat)) : (sv ws).all flatV = true := by
  rw [List.all_map]; simp [flatV, Function.comp_def]
theorem inV_sv (x : List Nat) : ∀ es : List (List Nat), inV (.str (S x)) (sv es) = decide (x ∈ es)
  | [] => rfl
  | y :: es => by
    have ih := inV_sv x es
    unfold inV at ih ⊢
    rw [sv, List.map_cons, List.any_cons, ih]
    show (S y == S x || decide (x ∈ es)) = decide (x ∈ y :: es)
    by_cases h : y = x
    · subst h; simp
    · have h' : ¬ x = y := fun z => h z.symm
      have h2 : ¬ S y = S x := fun z => h (S_inj z)
      simp [h, h', h2]
def nmC (c : Nat) : Bool := decide (c ∈ (Str.ofString "abcdefghijklmnopqrstuvwxyz").cps.toList) || decide (c ∈ (Str.ofString "0123456789").cps.toList)
def nmOk (l : List Nat) : Bool := decide (1 ≤ l.length ∧ l.length ≤ 20) && decide (l.headD 0 ∈ (Str.ofString "abcdefghijklmnopqrstuvwxyz").cps.toList) && l.all nmC
def sp_is_name : Sp := fun vs H Q _ => ∃ l : List Nat, vs = [.str (S l)] ∧ l.length ≤ 1000 ∧ ∀ H', Same H H' → Q (.bl (nmOk l)) H'
theorem ok_is_name (T : Txt K mg a) : FnOk P w K mg base CX0 1 a.f_is_name a.d_is_name ["text"] sp_is_name := by
  refine T.F_is_name.ok sc_is_name (fun vs H Q E h => ?_) (fun cdv A outer s H vs Q E hr h => ?_)
  · obtain ⟨l, rfl, _⟩ := h
    rfl
  · obtain ⟨l, rfl, hl, q⟩ := h
    refine ⟨_, (pss_cons (ps_if (PW.pt (pw_or (pt_not (pt_chain op_le op_le pe_int (pe_callB call_len_str (by rfl) T.z_len (by decide +kernel) (pa_cons (pv 0) pa_nil)) pe_int)) (pw_or1 (pt_cmpR op_notIn_sign (pe_ix ix_str (pv 0) pe_int (fun _ _ => rfl)) (C8.pe_gc (v := .str "abcdefghijklmnopqrstuvwxyz") (by rfl) T.g_LETTERS) rfl))))
       (pss_one (ps_ret pe_bl))
       pss_nil)
       (pss_one (ps_ret (pe_callB (cr_all rfl) (by rfl) T.z_all (by decide +kernel) (pa_cons (pe_lc (own := [("sign", 1)]) (g := (gName 1)) rfl sc_is_name.nd (pi_str (pv 0)) (blkOk_by (own := [("sign", 1)]) (N := ["text", "sign"]) (sc := defScope s_is_name) (by decide +kernel)) (fun _ _ _ _ _ => (pg_name (i := 1) sc_is_name.nd rfl (.inl rfl))) (fun _ _ _ _ _ => pts_nil) (fun _ _ _ _ _ => (pe_or (pe_cmpR op_in_sign (pv 1) (C8.pe_gc (v := .str "abcdefghijklmnopqrstuvwxyz") (by rfl) T.g_LETTERS) rfl) (pe_one (pe_cmpR op_in_sign (pv 1) (C8.pe_gc (v := .str "0123456789") (by rfl) T.g_DIGITS) rfl))))) pa_nil))))), ?_⟩
    refine red (σ' := [some (.str (S l)), none]) rfl ?_
    try dsimp only [cxOf]
    walk_at "go"
    refine g_lenS (by omega) ?_
    rw [S_len]
    walk_at "go"
    have qf : nmOk l = false → ∀ H', Same H H' → Q (.bl false) H' := fun e H' s => by have := q H' s; rw [e] at this; exact this
    refine iteK (fun h1 => ?_) (fun h1 => ?_)
    · walk_at "go"
      refine iteNK (fun h2 => ?_) (fun h2 => ?_)
      · walk_at "go"
        exact qf (by unfold nmOk; rw [decide_eq_false (by omega)]; rfl) H (Same.refl H)
      · walk_at "go"
        obtain ⟨c0, r, rfl⟩ : ∃ c r, l = c :: r := by
          cases l with
          | nil => exact absurd h1 (by decide)
          | cons c r => exact ⟨c, r, rfl⟩
        refine g_ixS (n := ((0 : Nat) : Int)) (by omega) (c := c0) (atI_nat rfl) ?_
        walk_at "go"
        by_cases h3 : c0 ∈ (Str.ofString "abcdefghijklmnopqrstuvwxyz").cps.toList
        · refine ite_n (by simpa using h3) ?_
          walk_at "go"
          refine ⟨S (c0 :: r), rfl, fun D hD => ?_⟩
          have hsz : (S (c0 :: r)).cps.size = (c0 :: r).length := S_len _
          have e0 : nmOk (c0 :: r) = (c0 :: r).all nmC := by
            unfold nmOk
            rw [decide_eq_true (show 1 ≤ (c0 :: r).length ∧ (c0 :: r).length ≤ 20 by omega), show decide ((c0 :: r).headD 0 ∈ _) = true from decide_eq_true h3]; rfl
          rw [e0] at q
          clear e0 qf h3 h1 h2
          generalize c0 :: r = l at hsz q hl
          refine lc_it walk_str (fun i H' => Same H H' ∧ H' D = some (.lst (((l.take i).map nmC).map V.bl))) ⟨same_new hD, upd_same⟩ (fun _ _ _ _ => trivial) ?_ ?_
          · rintro k x H1 H2 hi ⟨sm, hL⟩ ⟨rfl, c, hc, rfl⟩
            have hc' : l[k]? = some c := by simpa using hc
            walk_at "go"
            refine ⟨rfl, ?_⟩
            refine g_yes (iteT ?_)
            walk_at "go"
            have fin : ∀ b : Bool, b = nmC c → ∃ acc, H2 D = some (HO.lst acc) ∧ acc.length < sizeLine ∧ Same H (upd H2 D (HO.lst (acc ++ [V.bl b]))) ∧ upd H2 D (HO.lst (acc ++ [V.bl b])) D = some (HO.lst (((l.take (k + 1)).map nmC).map V.bl)) := fun b hb =>
              ⟨_, hL, by have := sizeBig; rw [List.length_map, List.length_map, List.length_take]; omega, same_put hD sm, by rw [upd_same, take_more hc', List.map_append, List.map_append, hb]; rfl⟩
            by_cases h4 : c ∈ (Str.ofString "abcdefghijklmnopqrstuvwxyz").cps.toList
            · rw [if_pos (decide_eq_true h4)]
              exact fin true (by unfold nmC; rw [decide_eq_true h4]; rfl)
            · rw [if_neg (by rw [decide_eq_false h4]; decide)]
              walk_at "go"
              exact fin _ (by unfold nmC; rw [decide_eq_false h4]; rfl)
          · rintro H1 ⟨sm, hL⟩
            rw [hsz, List.take_length] at hL
            walk_at "go"
            refine ⟨D, _, rfl, SqL.of hL, ?_⟩
            rw [all_id]
            exact q H1 sm
        · refine ite_y (by simpa using h3) ?_
          walk_at "go"
          exact qf (by unfold nmOk; rw [show decide ((c0 :: r).headD 0 ∈ _) = false from decide_eq_false h3, Bool.and_false]; rfl) H (Same.refl H)
    · walk_at "go"
      refine iteT ?_
      walk_at "go"
      exact qf (by unfold nmOk; rw [decide_eq_false (by omega)]; rfl) H (Same.refl H)
theorem nodup_S {ws : List (List Nat)} : (ws.map S).Nodup ↔ ws.Nodup := by
  constructor
  · exact fun h => List.Pairwise.of_map S (fun x y h e => h (congrArg S e)) h
  · intro h
    rw [List.nodup_iff_pairwise_ne, List.pairwise_map]
    exact h.imp fun h e => h (S_inj e)
theorem sv_get {ws : List (List Nat)} {i : Nat} {x : V} (h : (sv ws)[i]? = some x) : ∃ z, ws[i]? = some z ∧ x = .str (S z) := by
  rw [List.getElem?_map] at h
  cases e : ws[i]? with
  | none => rw [e] at h; cases h
  | some r => rw [e] at h; exact ⟨r, rfl, (Option.some.inj h).symm⟩
/-! ### a poll -/
abbrev wf (n d p v : Addr) (c : Bool) : List (Str × V) := [("names", .ref n), ("needed", .ref d), ("_proposals", .ref p), ("_votes", .ref v), ("_closed", .bl c)]
def nmsOk (names needed : List (List Nat)) : Prop := names ≠ [] ∧ (∀ z ∈ names, nmOk z = true) ∧ names.Nodup ∧ ∀ z ∈ needed, z ∈ names
def sp_Poll_init (K : PySem.W.Frag) (a : Adr) : Sp := fun vs H Q E => ∃ (x dx ln ld : Addr) (names needed : List (List Nat)), vs = [.ref x, .ref ln, .ref ld] ∧ H x = some (.ins a.C_Poll dx []) ∧ H ln = some (.lst (sv names)) ∧ H ld = some (.lst (sv needed)) ∧
  names.length ≤ 100 ∧ needed.length ≤ 100 ∧ (∀ z ∈ names, z.length ≤ 100) ∧ (¬ nmsOk names needed → ∀ H', (∀ b o, b ≠ x → H b = some o → H' b = some o) → E (.ref a.C_BadName) none H') ∧
  (nmsOk names needed → ∀ H' n d p v, H' x = some (.ins a.C_Poll dx (wf n d p v false)) → H' n = some (.tup (sv names)) → H' d = some (.tup (sv needed)) → H' p = some (.lst []) → H' v = some (.dT []) → H p = none → H v = none → (∀ b o, b ≠ x → H b = some o → H' b = some o) → Q .non H')
theorem ok_Poll_init (T : Txt K mg a) : FnOk P w K mg base (L2.CX P w) 3 a.f_Poll_init a.d_Poll_init ["self", "names", "needed"] (sp_Poll_init K a) := by
  refine T.F_Poll_init.okX sc_Poll_init (fun vs H Q E h => ?_) (fun cdv A outer s H vs Q E hr h => ?_)
  · obtain ⟨x, dx, ln, ld, names, needed, rfl, _⟩ := h
    rfl
  · obtain ⟨x, dx, ln, ld, names, needed, rfl, hx, hln, hld, n1, n2, nl, qe, qn⟩ := h
    refine ⟨_, (pss_cons (ps_if (PW.pt (pw_or (pt_cmpR op_eq (pe_callB call_len_seq (by rfl) T.z_len (by decide +kernel) (pa_cons (pv 1) pa_nil)) pe_int (nomark _)) (pw_or (pt_not (pt_val (pe_callB (cr_all rfl) (by rfl) T.z_all (by decide +kernel) (pa_cons (pe_lc (own := [("name", 3)]) (g := (gName 3)) rfl sc_Poll_init.nd (pi_list (pv 1)) (blkOk_by (own := [("name", 3)]) (N := ["self", "names", "needed", "name"]) (sc := defScope s_Poll_init) (by decide +kernel)) (fun _ _ _ _ _ => (pg_name (i := 3) sc_Poll_init.nd rfl (.inl rfl))) (fun _ _ _ _ _ => pts_nil) (fun _ _ _ _ _ => (pe_call (ok_is_name T) (hr.mono (by decide)) (by rfl) T.g_is_name T.F_is_name.kp T.b_is_name .nil pass0 (pa_cons (pv 3) pa_nil)))) pa_nil)))) (pw_or1 (pt_cmpR op_lt (pe_lenSetS rfl (by rfl) T.z_len (by rfl) T.z_set (pv 1)) (pe_callB call_len_seq (by rfl) T.z_len (by decide +kernel) (pa_cons (pv 1) pa_nil)) (nomark _))))))
       (pss_one (ps_raise rfl (takes_of rfl rfl rfl rfl) (pmk_own0 PySem.F.excBase_ValueError T.x_BadName T.g_BadName T.k_BadName (raises_own T.r_BadName T.t_BadName) rfl)))
       pss_nil)
       (pss_cons (ps_if (pt_not (pt_val (pe_callB (cr_all rfl) (by rfl) T.z_all (by decide +kernel) (pa_cons (pe_lc (own := [("name", 3)]) (g := (gName 3)) rfl sc_Poll_init.nd (pi_list (pv 2)) (blkOk_by (own := [("name", 3)]) (N := ["self", "names", "needed", "name"]) (sc := defScope s_Poll_init) (by decide +kernel)) (fun _ _ _ _ _ => (pg_name (i := 3) sc_Poll_init.nd rfl (.inl rfl))) (fun _ _ _ _ _ => pts_nil) (fun _ _ _ _ _ => (pe_cmpR (show OpR _ _ (rIn K false) from op_in_seq) (pv 3) (pv 1) rfl))) pa_nil))))
       (pss_one (ps_raise rfl (takes_of rfl rfl rfl rfl) (pmk_own0 PySem.F.excBase_ValueError T.x_BadName T.g_BadName T.k_BadName (raises_own T.r_BadName T.t_BadName) rfl)))
       pss_nil)
       (pss_cons (ps_fld (pv 0) (pe_callTy call_tuple_of (by rfl) T.z_tuple (by decide +kernel) (pa_cons (pv 1) pa_nil)) rfl)
       (pss_cons (ps_fld (pv 0) (pe_callTy call_tuple_of (by rfl) T.z_tuple (by decide +kernel) (pa_cons (pv 2) pa_nil)) rfl)
       (pss_cons (ps_fld (pv 0) (pe_lst pa_nil) rfl)
       (pss_cons (ps_fld (pv 0) pe_dnewT rfl)
       (pss_one (ps_fld (pv 0) pe_bl rfl)))))))), ?_⟩
    refine red (σ' := [some (.ref x), some (.ref ln), some (.ref ld), none]) rfl ?_
    dsimp only [cxOf]
    walk_at "go"
    rw [List.length_map, dec_int]
    refine iteK (fun h0 => ?_) (fun h0 => ?_)
    · walk_at "go"
      exact qe (fun z => z.1 (List.length_eq_zero_iff.mp (by omega))) H (fun b o _ h => h)
    · walk_at "go"
      have hne : names ≠ [] := fun e => h0 (by rw [e]; rfl)
      refine ⟨ln, rfl, ⟨_, SqL.of hln⟩, fun D hD => ?_⟩
      refine lc_list (K := K) (a := ln) (xs := sv names) (fun i H' => Same H H' ∧ H' D = some (.lst (((names.take i).map nmOk).map V.bl))) ⟨same_new hD, upd_same⟩ (fun i H' _ h => SqL.of (h.1 _ _ hln)) ?_ ?_
      · rintro i y H1 hi ⟨s1, hD1⟩
        obtain ⟨z, hz, rfl⟩ := sv_get hi
        walk_at "go"
        refine ⟨rfl, ?_⟩
        refine g_yes (iteT ?_)
        walk_at "go"
        refine ⟨z, rfl, by have := nl z (List.mem_of_getElem? hz); omega, fun H2 s2 => ?_⟩
        refine ⟨_, s2 _ _ hD1, by have := sizeBig; rw [List.length_map, List.length_map, List.length_take]; omega, same_put hD (s1.trans s2), ?_⟩
        rw [upd_same, take_more hz, List.map_append, List.map_append]; rfl
      rintro H1 ⟨s1, hD1⟩
      rw [List.length_map, List.take_length] at hD1
      walk_at "go"
      refine ⟨D, _, rfl, SqL.of hD1, ?_⟩
      rw [all_id]
      replace hln := s1 _ _ hln
      replace hld := s1 _ _ hld
      replace hx := s1 _ _ hx
      by_cases h1 : ∀ z ∈ names, nmOk z = true
      · have e1 : names.all nmOk = true := List.all_eq_true.mpr h1
        rw [e1]
        walk_at "go"
        refine iteF ?_
        walk_at "go"
        refine g_lenSetS ?_
        walk_at "go"
        refine ⟨ln, names.map S, rfl, by rw [List.map_map]; exact SqL.of hln, by rw [List.length_map]; omega, fun c c0 c1 => ?_⟩
        rw [List.length_map] at c0 c1
        walk_at "go"
        rw [List.length_map]
        refine iteK (fun h2 => ?_) (fun h2 => ?_)
        · walk_at "go"
          refine qe (fun z => ?_) H1 (fun b o _ h => s1 _ _ h)
          have := c1.mpr (nodup_S.mpr z.2.2.1)
          omega
        · have hnd : names.Nodup := nodup_S.mp (c1.mp (by omega))
          walk_at "go"
          refine ⟨ld, rfl, ⟨_, SqL.of hld⟩, fun D2 hD2 => ?_⟩
          refine lc_list (K := K) (a := ld) (xs := sv needed) (fun i H' => Same H1 H' ∧ H' D2 = some (.lst (((needed.take i).map fun z => decide (z ∈ names)).map V.bl))) ⟨same_new hD2, upd_same⟩ (fun i H' _ h => SqL.of (h.1 _ _ hld)) ?_ ?_
          · rintro i y H2 hi ⟨s2, hD3⟩
            obtain ⟨z, hz, rfl⟩ := sv_get hi
            walk_at "go"
            refine ⟨rfl, ?_⟩
            refine g_yes (iteT ?_)
            walk_at "go"
            refine ⟨ln, _, rfl, .inl (SqL.of (s2 _ _ hln)), rfl, flat_sv _, ?_⟩
            rw [if_neg (by decide : ¬ (false = true)), inV_sv]
            refine ⟨_, hD3, by have := sizeBig; rw [List.length_map, List.length_map, List.length_take]; omega, same_put hD2 s2, ?_⟩
            rw [upd_same, take_more hz, List.map_append, List.map_append]; rfl
          rintro H2 ⟨s2, hD3⟩
          rw [List.length_map, List.take_length] at hD3
          walk_at "go"
          refine ⟨D2, _, rfl, SqL.of hD3, ?_⟩
          rw [all_id]
          replace hln := s2 _ _ hln
          replace hld := s2 _ _ hld
          replace hx := s2 _ _ hx
          have s3 := s1.trans s2
          clear s1 s2 hD1 hD3 hD hD2
          by_cases h3 : ∀ z ∈ needed, z ∈ names
          · have e2 : (needed.all fun z => decide (z ∈ names)) = true := List.all_eq_true.mpr fun z hz => decide_eq_true (h3 z hz)
            rw [e2]
            have ok : nmsOk names needed := ⟨hne, h1, hnd, h3⟩
            replace qn := qn ok
            clear qe ok c0 c1 h2
            walk_at "go"
            refine iteF ?_
            walk_at "go"
            refine ⟨ln, _, rfl, .inl ⟨SqL.of hln, fun u1 hu1 => ?_⟩⟩
            have rl := fun b o (_ : b ≠ x) (h : H b = some o) => s3 b o h
            have sm := same_new (o := .tup (sv names)) hu1
            have hu1' : upd H2 u1 (.tup (sv names)) u1 = some (.tup (sv names)) := upd_same
            replace hx := sm _ _ hx
            replace hld := sm _ _ hld
            replace rl := fun b o hb h => sm _ _ (rl b o hb h)
            generalize upd H2 u1 (.tup (sv names)) = H3 at hx hld rl hu1'
            clear sm hu1 hln s3
            walk_at "go"
            refine ⟨x, a.C_Poll, dx, [], rfl, hx, T.c_Poll, T.n_Poll_names, by decide, ?_⟩
            rw [show putF "names" (.ref u1) [] = [(("names" : Str), V.ref u1)] from rfl]
            have ne1 : u1 ≠ x := ne_of hu1' hx (by intro z; cases z)
            have ne2 : ld ≠ x := ne_of hld hx (by intro z; cases z)
            replace hu1' := (upd_ne (o := .ins a.C_Poll dx [("names", .ref u1)]) ne1).trans hu1'
            replace hld := (upd_ne (o := .ins a.C_Poll dx [("names", .ref u1)]) ne2).trans hld
            replace rl := fun b o hb h => (upd_ne (o := .ins a.C_Poll dx [("names", .ref u1)]) hb).trans (rl b o hb h)
            replace hx : upd H3 x (.ins a.C_Poll dx [("names", .ref u1)]) x = _ := upd_same
            generalize upd H3 x (.ins a.C_Poll dx [("names", .ref u1)]) = H4 at hx hld rl hu1'
            walk_at "go"
            refine ⟨ld, _, rfl, .inl ⟨SqL.of hld, fun u2 hu2 => ?_⟩⟩
            have sm := same_new (o := .tup (sv needed)) hu2
            have hu2' : upd H4 u2 (.tup (sv needed)) u2 = some (.tup (sv needed)) := upd_same
            replace hx := sm _ _ hx
            replace hu1' := sm _ _ hu1'
            replace rl := fun b o hb h => sm _ _ (rl b o hb h)
            generalize upd H4 u2 (.tup (sv needed)) = H5 at hx rl hu1' hu2'
            clear sm hu2 hld ne2
            walk_at "go"
            refine ⟨x, a.C_Poll, dx, _, rfl, hx, T.c_Poll, T.n_Poll_needed, by show 1 < 1000; decide, ?_⟩
            have ep : putF "needed" (.ref u2) [(("names" : Str), V.ref u1)] = [(("names" : Str), V.ref u1), ("needed", .ref u2)] := by
              show (if ("names" : Str) = "needed" then _ else _) = _
              rw [if_neg (by decide +kernel)]; rfl
            rw [ep]
            have ne3 : u2 ≠ x := ne_of hu2' hx (by intro z; cases z)
            replace hu1' := (upd_ne (o := .ins a.C_Poll dx [("names", .ref u1), ("needed", .ref u2)]) ne1).trans hu1'
            replace hu2' := (upd_ne (o := .ins a.C_Poll dx [("names", .ref u1), ("needed", .ref u2)]) ne3).trans hu2'
            replace rl := fun b o hb h => (upd_ne (o := .ins a.C_Poll dx [("names", .ref u1), ("needed", .ref u2)]) hb).trans (rl b o hb h)
            replace hx : upd H5 x (.ins a.C_Poll dx [("names", .ref u1), ("needed", .ref u2)]) x = _ := upd_same
            generalize upd H5 x (.ins a.C_Poll dx [("names", .ref u1), ("needed", .ref u2)]) = H6 at hx rl hu1' hu2'
            clear ep
            walk_at "go"
            have frs : ∀ {H' : Hp} {b : Addr}, (∀ b o, b ≠ x → H b = some o → H' b = some o) → (∃ o, H' x = some o) → H' b = none → H b = none := fun {H' b} r hxx hb => by
              by_cases e : b = x
              · obtain ⟨o, ho⟩ := hxx
                rw [e, ho] at hb; cases hb
              · cases e2 : H b with
                | none => rfl
                | some o => rw [r b o e e2] at hb; cases hb
            refine nwL (ys := []) rfl (by decide) fun p H7 hp0 sm hp => ?_
            have hpH := frs rl ⟨_, hx⟩ hp0
            replace hx := sm _ _ hx
            replace hu1' := sm _ _ hu1'
            replace hu2' := sm _ _ hu2'
            replace rl := fun b o hb h => sm _ _ (rl b o hb h)
            clear sm hp0
            walk_at "go"
            refine ⟨x, a.C_Poll, dx, _, rfl, hx, T.c_Poll, T.n_Poll_proposals, by show 2 < 1000; decide, ?_⟩
            have ep : putF "_proposals" (.ref p) [(("names" : Str), V.ref u1), ("needed", .ref u2)] = [(("names" : Str), V.ref u1), ("needed", .ref u2), ("_proposals", .ref p)] := by
              show (if ("names" : Str) = "_proposals" then _ else (("names" : Str), V.ref u1) :: (if ("needed" : Str) = "_proposals" then _ else _)) = _
              rw [if_neg (by decide +kernel), if_neg (by decide +kernel)]; rfl
            rw [ep]
            have ne4 : p ≠ x := ne_of hp hx (by intro z; cases z)
            replace hu1' := (upd_ne (o := .ins a.C_Poll dx [("names", .ref u1), ("needed", .ref u2), ("_proposals", .ref p)]) ne1).trans hu1'
            replace hu2' := (upd_ne (o := .ins a.C_Poll dx [("names", .ref u1), ("needed", .ref u2), ("_proposals", .ref p)]) ne3).trans hu2'
            replace hp := (upd_ne (o := .ins a.C_Poll dx [("names", .ref u1), ("needed", .ref u2), ("_proposals", .ref p)]) ne4).trans hp
            replace rl := fun b o hb h => (upd_ne (o := .ins a.C_Poll dx [("names", .ref u1), ("needed", .ref u2), ("_proposals", .ref p)]) hb).trans (rl b o hb h)
            replace hx : upd H7 x (.ins a.C_Poll dx [("names", .ref u1), ("needed", .ref u2), ("_proposals", .ref p)]) x = _ := upd_same
            generalize upd H7 x (.ins a.C_Poll dx [("names", .ref u1), ("needed", .ref u2), ("_proposals", .ref p)]) = H8 at hx rl hu1' hu2' hp
            clear ep
            walk_at "go"
            intro v hv0
            have hvH := frs rl ⟨_, hx⟩ hv0
            have sm := same_new (o := .dT []) hv0
            have hv : upd H8 v (.dT []) v = some (.dT []) := upd_same
            replace hx := sm _ _ hx
            replace hu1' := sm _ _ hu1'
            replace hu2' := sm _ _ hu2'
            replace hp := sm _ _ hp
            replace rl := fun b o hb h => sm _ _ (rl b o hb h)
            walk_at "go"
            generalize upd H8 v (.dT []) = H9 at hx rl hu1' hu2' hp hv
            clear sm hv0
            refine ⟨x, a.C_Poll, dx, _, rfl, hx, T.c_Poll, T.n_Poll_votes, by show 3 < 1000; decide, ?_⟩
            have ep : putF "_votes" (.ref v) [(("names" : Str), V.ref u1), ("needed", .ref u2), ("_proposals", .ref p)] = [(("names" : Str), V.ref u1), ("needed", .ref u2), ("_proposals", .ref p), ("_votes", .ref v)] := by
              show (if ("names" : Str) = "_votes" then _ else (("names" : Str), V.ref u1) :: (if ("needed" : Str) = "_votes" then _ else (("needed" : Str), V.ref u2) :: (if ("_proposals" : Str) = "_votes" then _ else _))) = _
              rw [if_neg (by decide +kernel), if_neg (by decide +kernel), if_neg (by decide +kernel)]; rfl
            rw [ep]
            have ne5 : v ≠ x := ne_of hv hx (by intro z; cases z)
            replace hu1' := (upd_ne (o := .ins a.C_Poll dx [("names", .ref u1), ("needed", .ref u2), ("_proposals", .ref p), ("_votes", .ref v)]) ne1).trans hu1'
            replace hu2' := (upd_ne (o := .ins a.C_Poll dx [("names", .ref u1), ("needed", .ref u2), ("_proposals", .ref p), ("_votes", .ref v)]) ne3).trans hu2'
            replace hp := (upd_ne (o := .ins a.C_Poll dx [("names", .ref u1), ("needed", .ref u2), ("_proposals", .ref p), ("_votes", .ref v)]) ne4).trans hp
            replace hv := (upd_ne (o := .ins a.C_Poll dx [("names", .ref u1), ("needed", .ref u2), ("_proposals", .ref p), ("_votes", .ref v)]) ne5).trans hv
            replace rl := fun b o hb h => (upd_ne (o := .ins a.C_Poll dx [("names", .ref u1), ("needed", .ref u2), ("_proposals", .ref p), ("_votes", .ref v)]) hb).trans (rl b o hb h)
            replace hx : upd H9 x (.ins a.C_Poll dx [("names", .ref u1), ("needed", .ref u2), ("_proposals", .ref p), ("_votes", .ref v)]) x = _ := upd_same
            generalize upd H9 x (.ins a.C_Poll dx [("names", .ref u1), ("needed", .ref u2), ("_proposals", .ref p), ("_votes", .ref v)]) = H10 at hx rl hu1' hu2' hp hv
            clear ep
            walk_at "go"
            refine ⟨x, a.C_Poll, dx, _, rfl, hx, T.c_Poll, T.n_Poll_closed, by show 4 < 1000; decide, ?_⟩
            have ep : putF "_closed" (.bl false) [(("names" : Str), V.ref u1), ("needed", .ref u2), ("_proposals", .ref p), ("_votes", .ref v)] = wf u1 u2 p v false := by
              show (if ("names" : Str) = "_closed" then _ else (("names" : Str), V.ref u1) :: (if ("needed" : Str) = "_closed" then _ else (("needed" : Str), V.ref u2) :: (if ("_proposals" : Str) = "_closed" then _ else (("_proposals" : Str), V.ref p) :: (if ("_votes" : Str) = "_closed" then _ else _)))) = _
              rw [if_neg (by decide +kernel), if_neg (by decide +kernel), if_neg (by decide +kernel), if_neg (by decide +kernel)]; rfl
            rw [ep]
            exact qn _ u1 u2 p v upd_same ((upd_ne ne1).trans hu1') ((upd_ne ne3).trans hu2') ((upd_ne ne4).trans hp) ((upd_ne ne5).trans hv) hpH hvH fun b o hb h => (upd_ne hb).trans (rl b o hb h)
          · have e2 : (needed.all fun z => decide (z ∈ names)) = false := by
              cases e : needed.all fun z => decide (z ∈ names) with
              | false => rfl
              | true => exact absurd (fun z hz => of_decide_eq_true (List.all_eq_true.mp e z hz)) h3
            rw [e2]
            walk_at "go"
            refine iteT ?_
            walk_at "go"
            exact qe (fun z => h3 z.2.2.2) H2 (fun b o _ h => s3 _ _ h)
      · have e1 : names.all nmOk = false := by
          cases e : names.all nmOk with
          | false => rfl
          | true => exact absurd (List.all_eq_true.mp e) h1
        rw [e1]
        walk_at "go"
        refine iteT ?_
        walk_at "go"
        exact qe (fun z => h1 z.2.1) H1 (fun b o _ h => s1 _ _ h)
end
section
variable {P : Program} {w : World} {K : PySem.W.Frag} {mg : Str → Option Value} {base : Heap} {a : Adr}
theorem lk_hd {f : Str} {v : V} {r : List (Str × V)} : List.lookup f ((f, v) :: r) = some v := by simp [List.lookup]
theorem lk_tl {f g : Str} {v : V} {r : List (Str × V)} (h : ¬ f = g) : List.lookup f ((g, v) :: r) = List.lookup f r := by
  have e : (f == g) = false := by simpa using h
  simp [List.lookup, e]
section
variable {n d p v : Addr} {c : Bool}
theorem wf_n : (wf n d p v c).lookup ("names" : Str) = some (.ref n) := lk_hd
theorem wf_d : (wf n d p v c).lookup ("needed" : Str) = some (.ref d) := by
  rw [lk_tl (by decide +kernel)]; exact lk_hd
theorem wf_p : (wf n d p v c).lookup ("_proposals" : Str) = some (.ref p) := by
  rw [lk_tl (by decide +kernel), lk_tl (by decide +kernel)]; exact lk_hd
theorem wf_v : (wf n d p v c).lookup ("_votes" : Str) = some (.ref v) := by
  rw [lk_tl (by decide +kernel), lk_tl (by decide +kernel), lk_tl (by decide +kernel)]; exact lk_hd
theorem wf_c : (wf n d p v c).lookup ("_closed" : Str) = some (.bl c) := by
  rw [lk_tl (by decide +kernel), lk_tl (by decide +kernel), lk_tl (by decide +kernel), lk_tl (by decide +kernel)]; exact lk_hd
theorem wf_no {f : Str} (h1 : ¬ f = "names") (h2 : ¬ f = "needed") (h3 : ¬ f = "_proposals") (h4 : ¬ f = "_votes") (h5 : ¬ f = "_closed") : (wf n d p v c).lookup f = none := by
  rw [lk_tl h1, lk_tl h2, lk_tl h3, lk_tl h4, lk_tl h5]; rfl
theorem wf_close : putF "_closed" (.bl true) (wf n d p v c) = wf n d p v true := by
  show (if ("names" : Str) = "_closed" then _ else (("names" : Str), V.ref n) :: (if ("needed" : Str) = "_closed" then _ else (("needed" : Str), V.ref d) :: (if ("_proposals" : Str) = "_closed" then _ else (("_proposals" : Str), V.ref p) :: (if ("_votes" : Str) = "_closed" then _ else (("_votes" : Str), V.ref v) :: (if ("_closed" : Str) = "_closed" then _ else _))))) = _
  rw [if_neg (by decide +kernel), if_neg (by decide +kernel), if_neg (by decide +kernel), if_neg (by decide +kernel), if_pos rfl]
end
def prD (e : Nat × Nat) : PyData := .tuple [.int (e.1 : Nat), .int (e.2 : Nat)]
theorem noL_prs (pr : List (Nat × Nat)) : noLAll (pr.map prD) = true := noLAll_of fun x hx => by
  obtain ⟨e, _, rfl⟩ := List.mem_map.mp hx
  simp [prD, noL, noLAll]
theorem pr_inv {H : Hp} {u : V} {e : Nat × Nat} (h : Dp K H u (prD e)) : ∃ t, u = .ref t ∧ SqT K H t [.int (e.1 : Nat), .int (e.2 : Nat)] := by
  unfold prD at h
  cases h with
  | tup s d =>
    cases d with
    | cons d1 d =>
      cases d with
      | cons d2 d =>
        cases d
        cases d1
        cases d2
        exact ⟨_, rfl, s⟩
/-- a poll -/
structure Pl (K : PySem.W.Frag) (a : Adr) (x dx n d p v : Addr) (nm nd : List (List Nat)) (pr : List (Nat × Nat)) (vt : Po.VD) (c : Bool) (H : Hp) : Prop where
  x_ : H x = some (.ins a.C_Poll dx (wf n d p v c))
  n_ : H n = some (.tup (sv nm))
  d_ : H d = some (.tup (sv nd))
  p_ : ∃ xs, H p = some (.lst xs) ∧ DpAll K H xs (pr.map prD)
  v_ : H v = some (.dT (Po.enc vt))
theorem Pl.same {x dx n d p v : Addr} {nm nd : List (List Nat)} {pr : List (Nat × Nat)} {vt : Po.VD} {c : Bool} {H H' : Hp} (I : Pl K a x dx n d p v nm nd pr vt c H) (s : Same H H') : Pl K a x dx n d p v nm nd pr vt c H' := by
  obtain ⟨h1, h2, h3, ⟨xs, h4, h5⟩, h6⟩ := I
  exact ⟨s _ _ h1, s _ _ h2, s _ _ h3, ⟨xs, s _ _ h4, dpAll_same s _ h5⟩, s _ _ h6⟩
def sp_Poll_word (K : PySem.W.Frag) (a : Adr) : Sp := fun vs H Q _ => ∃ (x dx n d p v : Addr) (nm nd : List (List Nat)) (pr : List (Nat × Nat)) (vt : Po.VD) (c : Bool) (z : List Nat) (k : Nat), vs = [.ref x, .str (S z), .int k] ∧ Pl K a x dx n d p v nm nd pr vt c H ∧
  ∀ H', Same H H' → Q (.str (S (Po.wd vt z k))) H'
theorem ok_Poll_word (T : Txt K mg a) : FnOk P w K mg base CX0 1 a.f_Poll_word a.d_Poll_word ["self", "name", "number"] (sp_Poll_word K a) := by
  refine T.F_Poll_word.ok sc_Poll_word (fun vs H Q E h => ?_) (fun cdv A outer s H vs Q E hr h => ?_)
  · obtain ⟨x, dx, n, d, p, v, nm, nd, pr, vt, c, z, k, rfl, _⟩ := h
    rfl
  · obtain ⟨x, dx, n, d, p, v, nm, nd, pr, vt, c, z, k, rfl, I, q⟩ := h
    refine ⟨_, (pss_one (ps_ret (pe_dget2 (hu_of hr) (pe_fld (pv 0) rfl) (pe_tup (pa_cons (pv 1) (pa_cons (pv 2) pa_nil))) pe_str ⟨rfl, rfl, rfl, rfl⟩))), ?_⟩
    refine red (σ' := [some (.ref x), some (.str (S z)), some (.int k)]) rfl ?_
    dsimp only [cxOf]
    walk_at "go"
    refine ⟨x, _, _, _, _, rfl, I.x_, T.c_Poll, T.n_Poll_votes, wf_v, ?_⟩
    walk_at "go"
    refine ⟨v, rfl, .inr ⟨_, .inl I.v_⟩, ?_⟩
    walk_at "go"
    refine ⟨by show 2 ≤ sizeLine; decide, fun t ht => ?_⟩
    walk_at "go"
    refine ⟨_, DGet.t (k := Po.kk (z, k)) ((upd_ne (ne_of_none I.v_ ht)).trans I.v_) upd_same, ?_⟩
    rw [Po.valV_enc]
    have e : (Option.map (fun z => V.str (S z)) (Po.gt vt (z, k))).getD (V.str (Str.ofString "")) = .str (S (Po.wd vt z k)) := by
      unfold Po.wd
      cases Po.gt vt (z, k) with
      | none => rfl
      | some y => rfl
    rw [e]
    exact q _ (same_new ht)
def sp_Poll_is_closed (K : PySem.W.Frag) (a : Adr) : Sp := fun vs H Q _ => ∃ (x dx n d p v : Addr) (nm nd : List (List Nat)) (pr : List (Nat × Nat)) (vt : Po.VD) (c : Bool), vs = [.ref x] ∧ Pl K a x dx n d p v nm nd pr vt c H ∧ Q (.bl c) H
theorem ok_Poll_is_closed (T : Txt K mg a) : FnOk P w K mg base CX0 1 a.f_Poll_is_closed a.d_Poll_is_closed ["self"] (sp_Poll_is_closed K a) := by
  refine T.F_Poll_is_closed.ok sc_Poll_is_closed (fun vs H Q E h => ?_) (fun cdv A outer s H vs Q E hr h => ?_)
  · obtain ⟨x, dx, n, d, p, v, nm, nd, pr, vt, c, rfl, _⟩ := h
    rfl
  · obtain ⟨x, dx, n, d, p, v, nm, nd, pr, vt, c, rfl, I, q⟩ := h
    refine ⟨_, (pss_one (ps_ret (pe_fld (pv 0) rfl))), ?_⟩
    refine red (σ' := [some (.ref x)]) rfl ?_
    dsimp only [cxOf]
    walk_at "go"
    exact ⟨x, _, _, _, _, rfl, I.x_, T.c_Poll, T.n_Poll_closed, wf_c, q⟩
/-- a list of pairs, told by value -/
def sp_Poll_proposals (K : PySem.W.Frag) (a : Adr) : Sp := fun vs H Q _ => ∃ (x dx n d p v : Addr) (nm nd : List (List Nat)) (pr : List (Nat × Nat)) (vt : Po.VD) (c : Bool), vs = [.ref x] ∧ Pl K a x dx n d p v nm nd pr vt c H ∧
  ∀ L H' xs, Same H H' → H' L = some (.lst xs) → DpAll K H' xs (pr.map prD) → Q (.ref L) H'
theorem ok_Poll_proposals (T : Txt K mg a) : FnOk P w K mg base CX0 1 a.f_Poll_proposals a.d_Poll_proposals ["self"] (sp_Poll_proposals K a) := by
  refine T.F_Poll_proposals.ok sc_Poll_proposals (fun vs H Q E h => ?_) (fun cdv A outer s H vs Q E hr h => ?_)
  · obtain ⟨x, dx, n, d, p, v, nm, nd, pr, vt, c, rfl, _⟩ := h
    rfl
  · obtain ⟨x, dx, n, d, p, v, nm, nd, pr, vt, c, rfl, I, q⟩ := h
    refine ⟨_, (pss_one (ps_ret (pe_callTy call_list_of (by rfl) T.z_list (by decide +kernel) (pa_cons (pe_fld (pv 0) rfl) pa_nil)))), ?_⟩
    refine red (σ' := [some (.ref x)]) rfl ?_
    dsimp only [cxOf]
    walk_at "go"
    refine ⟨x, _, _, _, _, rfl, I.x_, T.c_Poll, T.n_Poll_proposals, wf_p, ?_⟩
    obtain ⟨xs, hp, hd⟩ := I.p_
    walk_at "go"
    exact fun L hL => q L _ xs (same_new hL) upd_same (dpAll_same (same_new hL) _ hd)
theorem pl_prD (e : Nat × Nat) : pl (prD e) = true := by simp [prD, pl, plAll]
theorem prD_inj {e f : Nat × Nat} (h : prD e = prD f) : e = f := by
  obtain ⟨e1, e2⟩ := e
  obtain ⟨f1, f2⟩ := f
  simp only [prD, PyData.tuple.injEq, List.cons.injEq, PyData.int.injEq, and_true] at h
  rw [Int.ofNat.inj h.1, Int.ofNat.inj h.2]
theorem pl_prs (pr : List (Nat × Nat)) : pl (.list (pr.map prD)) = true := by
  simp only [pl]
  exact plAll_of fun x hx => by
    obtain ⟨e, _, rfl⟩ := List.mem_map.mp hx
    exact pl_prD e
theorem dp_prs (pr : List (Nat × Nat)) : (PyData.list (pr.map prD)).depth ≤ 64 := by
  simp only [PyData.depth]
  have : PyData.depthAll (pr.map prD) ≤ 2 := depthAll_le fun x hx => by
    obtain ⟨e, _, rfl⟩ := List.mem_map.mp hx
    simp [prD, PyData.depth, PyData.depthAll]
  omega
theorem any_prs (e : Nat × Nat) (pr : List (Nat × Nat)) : ((pr.map prD).any fun z => PyData.eqv z (prD e)) = decide (e ∈ pr) := by
  by_cases h : e ∈ pr
  · rw [decide_eq_true h]
    exact List.any_eq_true.mpr ⟨prD e, List.mem_map.mpr ⟨e, h, rfl⟩, eqv_t (pl_prD e)⟩
  · rw [decide_eq_false h]
    refine List.any_eq_false.mpr fun z hz => ?_
    obtain ⟨f, hf, rfl⟩ := List.mem_map.mp hz
    rw [eqv_f (pl_prD f) (pl_prD e) fun z => h (prD_inj z ▸ hf)]
    decide
def sp_Poll_propose (K : PySem.W.Frag) (a : Adr) : Sp := fun vs H Q E => ∃ (x dx n d p v : Addr) (nm nd : List (List Nat)) (pr : List (Nat × Nat)) (vt : Po.VD) (c : Bool) (s l : Nat), vs = [.ref x, .int s, .int l] ∧ Pl K a x dx n d p v nm nd pr vt c H ∧ s < 1000000 ∧ l < 1000000 ∧ pr.length ≤ 1000 ∧
  (c = true → E (.ref a.C_NotAllowed) none H) ∧ (c = false → l = 0 → E (.ref a.C_BadSeries) none H) ∧
  (c = false → 1 ≤ l → (s, l) ∈ pr → ∀ H' f t, Same H H' → H' f = some (.xd [("what", .ref t)]) → H' t = some (.tup [.int s, .int l]) → E (.ref a.C_Taken) (some f) H') ∧
  (c = false → 1 ≤ l → (s, l) ∉ pr → ∀ H', Pl K a x dx n d p v nm nd (pr ++ [(s, l)]) vt c H' → (∀ b o, b ≠ p → H b = some o → H' b = some o) → Q (.int pr.length) H')
theorem ok_Poll_propose (T : Txt K mg a) : FnOk P w K mg base (L2.CX P w) 3 a.f_Poll_propose a.d_Poll_propose ["self", "start", "length"] (sp_Poll_propose K a) := by
  refine T.F_Poll_propose.okX sc_Poll_propose (fun vs H Q E h => ?_) (fun cdv A outer s H vs Q E hr h => ?_)
  · obtain ⟨x, dx, n, d, p, v, nm, nd, pr, vt, c, s, l, rfl, _⟩ := h
    rfl
  · obtain ⟨x, dx, n, d, p, v, nm, nd, pr, vt, c, s, l, rfl, I, s1, l1, pn, q1, q2, q3, q4⟩ := h
    refine ⟨_, (pss_cons (ps_if (pt_val (pe_fld (pv 0) rfl))
       (pss_one (ps_raise rfl (takes_of rfl rfl rfl rfl) (pmk_own0 PySem.F.excBase_ValueError T.x_NotAllowed T.g_NotAllowed T.k_NotAllowed (raises_own T.r_NotAllowed T.t_NotAllowed) rfl)))
       pss_nil)
       (pss_cons (ps_if (pt_cmpR op_lt (pv 2) pe_int (nomark _))
       (pss_one (ps_raise rfl (takes_of rfl rfl rfl rfl) (pmk_own0 PySem.F.excBase_ValueError T.x_BadSeries T.g_BadSeries T.k_BadSeries (raises_own T.r_BadSeries T.t_BadSeries) rfl)))
       pss_nil)
       (pss_cons (ps_if (pt_cmpR (op_inD (hu65 hr)) (pe_tup (pa_cons (pv 1) (pa_cons (pv 2) pa_nil))) (pe_fld (pv 0) rfl) rfl)
       (pss_one (ps_raise rfl (takes_of rfl rfl rfl rfl) (pmk_oex T.x_Taken T.i_Taken T.u_Taken (ok_Taken_init T) (hr.mono (by decide)) T.b_Taken_init .nil pass0 rfl T.g_Taken (pa_cons (pe_tup (pa_cons (pv 1) (pa_cons (pv 2) pa_nil))) pa_nil))))
       pss_nil)
       (pss_cons (ps_expr (pe_bm PySem.F.plainAttrs_list PySem.F.slot_list_append PySem.F.type_list_append mt_append (pe_fld (pv 0) rfl) (pa_cons (pe_tup (pa_cons (pv 1) (pa_cons (pv 2) pa_nil))) pa_nil)))
       (pss_one (ps_ret (pe_op op_sub (pe_callB call_len_seq (by rfl) T.z_len (by decide +kernel) (pa_cons (pe_fld (pv 0) rfl) pa_nil)) pe_int))))))), ?_⟩
    refine red (σ' := [some (.ref x), some (.int s), some (.int l)]) rfl ?_
    dsimp only [cxOf]
    walk_at "go"
    refine ⟨x, _, _, _, _, rfl, I.x_, T.c_Poll, T.n_Poll_closed, wf_c, ?_⟩
    cases c with
    | true =>
      walk_at "go"
      refine iteT ?_
      walk_at "go"
      exact q1 rfl
    | false =>
      walk_at "go"
      refine iteF ?_
      walk_at "go"
      refine iteK (fun h => ?_) (fun h => ?_)
      · walk_at "go"
        exact q2 rfl (by omega)
      · walk_at "go"
        refine nwT (ys := [.int s, .int l]) rfl (by show 2 ≤ 1000000; decide) fun t H1 _ sm ht => ?_
        have I1 := I.same sm
        obtain ⟨xs, hp, hd⟩ := I1.p_
        walk_at "go"
        refine ⟨x, _, _, _, _, rfl, I1.x_, T.c_Poll, T.n_Poll_proposals, wf_p, ?_⟩
        refine ⟨prD (s, l), pr.map prD, .tup (SqT.of ht) (.cons (.int _) (.cons (.int _) .nil)), .lst (SqL.of hp) hd, shaped_of (pl_prD _) (by simp [prD, PyData.depth, PyData.depthAll]), shaped_of (pl_prs pr) (dp_prs pr), ?_⟩
        rw [any_prs]
        by_cases hm : (s, l) ∈ pr
        · rw [decide_eq_true hm]
          refine ⟨true, rfl, ?_⟩
          rw [if_pos rfl]
          walk_at "go"
          refine nwT (ys := [.int s, .int l]) rfl (by show 2 ≤ 1000000; decide) fun t2 H2 _ sm2 ht2 => ?_
          walk_at "go"
          exact mk_Taken T ht2 s1 l1 fun f hf => q3 rfl (by omega) hm _ f t2 ((sm.trans sm2).trans (same_new hf)) upd_same ((upd_ne (ne_of_none ht2 hf)).trans ht2)
        · rw [decide_eq_false hm]
          refine ⟨false, rfl, ?_⟩
          rw [if_neg (by decide)]
          walk_at "go"
          refine ⟨x, _, _, _, _, rfl, I1.x_, T.c_Poll, T.n_Poll_proposals, wf_p, .inl ⟨rfl, _, SqL.of hp⟩, ?_⟩
          walk_at "go"
          refine nwT (ys := [.int s, .int l]) rfl (by show 2 ≤ 1000000; decide) fun t2 H2 _ sm2 ht2 => ?_
          have I2 := I1.same sm2
          replace hp := sm2 _ _ hp
          replace hd := dpAll_same sm2 _ hd
          have sH := sm.trans sm2
          clear I1 sm sm2 ht
          walk_at "go"
          have hxl := dpAll_len hd
          rw [List.length_map] at hxl
          refine ⟨p, _, _, rfl, rfl, hp, by have := sizeBig; omega, ?_⟩
          have kp : KeepT H2 (upd H2 p (.lst (xs ++ [.ref t2]))) := KeepT.putL hp
          have nx : x ≠ p := ne_of I2.x_ hp (by intro z; cases z)
          have nn : n ≠ p := ne_of I2.n_ hp (by intro z; cases z)
          have ndd : d ≠ p := ne_of I2.d_ hp (by intro z; cases z)
          have nv : v ≠ p := ne_of I2.v_ hp (by intro z; cases z)
          have hd3 : DpAll K (upd H2 p (.lst (xs ++ [.ref t2]))) (xs ++ [.ref t2]) ((pr ++ [(s, l)]).map prD) := by
            rw [List.map_append]
            exact dpAll_app (dpAll_keep kp _ (noL_prs pr) hd) (.cons (.tup (sqT_keep (SqT.of ht2) kp) (.cons (.int _) (.cons (.int _) .nil))) .nil)
          have I3 : Pl K a x dx n d p v nm nd (pr ++ [(s, l)]) vt false (upd H2 p (.lst (xs ++ [.ref t2]))) :=
            ⟨(upd_ne nx).trans I2.x_, (upd_ne nn).trans I2.n_, (upd_ne ndd).trans I2.d_, ⟨_, upd_same, hd3⟩, (upd_ne nv).trans I2.v_⟩
          have rl : ∀ b o, b ≠ p → H b = some o → upd H2 p (.lst (xs ++ [.ref t2])) b = some o := fun b o hb h => (upd_ne hb).trans (sH b o h)
          have hp3 : upd H2 p (.lst (xs ++ [.ref t2])) p = some (.lst (xs ++ [.ref t2])) := upd_same
          generalize upd H2 p (.lst (xs ++ [.ref t2])) = H3 at I3 rl hp3
          walk_at "go"
          refine ⟨x, _, _, _, _, rfl, I3.x_, T.c_Poll, T.n_Poll_proposals, wf_p, ?_⟩
          walk_at "go"
          rw [List.length_append, List.length_singleton, hxl, show (((pr.length + 1 : Nat) : Int) - 1) = (pr.length : Nat) by omega]
          exact q4 rfl (by omega) hm H3 I3 rl
end
section
variable {P : Program} {w : World} {K : PySem.W.Frag} {mg : Str → Option Value} {base : Heap} {a : Adr}
/-- an error NoSuch that tells y -/
def Lacks (a : Adr) (E : XK) (H : Hp) (y : V) : Prop := ∀ H' f, Same H H' → H' f = some (.xd [("what", y)]) → E (.ref a.C_NoSuch) (some f) H'
theorem Lacks.mk {E : XK} {H H1 : Hp} {y : V} (h : Lacks a E H y) (s : Same H H1) : ∀ f, H1 f = none → E (.ref a.C_NoSuch) (some f) (upd H1 f (.xd [("what", y)])) := fun f hf => h _ f (s.trans (same_new hf)) upd_same
abbrev VTS : List (List Nat) := [Po.YES, Po.MAYBE, Po.NO]
def sp_Poll_vote (K : PySem.W.Frag) (a : Adr) : Sp := fun vs H Q E => ∃ (x dx n d p v : Addr) (nm nd : List (List Nat)) (pr : List (Nat × Nat)) (vt : Po.VD) (c : Bool) (z : List Nat) (k : Int) (u : List Nat), vs = [.ref x, .str (S z), .int k, .str (S u)] ∧ Pl K a x dx n d p v nm nd pr vt c H ∧
  z.length ≤ 1000 ∧ Told (.int k) ∧ vt.length ≤ 100000 ∧ (c = true → E (.ref a.C_NotAllowed) none H) ∧ (c = false → z ∉ nm → Lacks a E H (.str (S z))) ∧ (c = false → z ∈ nm → ¬ (0 ≤ k ∧ k < pr.length) → Lacks a E H (.int k)) ∧
  (c = false → z ∈ nm → 0 ≤ k → k < pr.length → u ∉ VTS → E (.ref a.C_BadName) none H) ∧
  (c = false → z ∈ nm → 0 ≤ k → k < pr.length → u ∈ VTS → ∀ H', Pl K a x dx n d p v nm nd pr (Po.pt vt (z, k.toNat) u) c H' → (∀ b o, b ≠ v → H b = some o → H' b = some o) → Q .non H')
theorem ok_Poll_vote (T : Txt K mg a) : FnOk P w K mg base (L2.CX P w) 3 a.f_Poll_vote a.d_Poll_vote ["self", "name", "number", "word"] (sp_Poll_vote K a) := by
  refine T.F_Poll_vote.okX sc_Poll_vote (fun vs H Q E h => ?_) (fun cdv A outer s H vs Q E hr h => ?_)
  · obtain ⟨x, dx, n, d, p, v, nm, nd, pr, vt, c, z, k, u, rfl, _⟩ := h
    rfl
  · obtain ⟨x, dx, n, d, p, v, nm, nd, pr, vt, c, z, k, u, rfl, I, zl, tk, vl, q1, q2, q3, q4, q5⟩ := h
    refine ⟨_, (pss_cons (ps_if (pt_val (pe_fld (pv 0) rfl))
       (pss_one (ps_raise rfl (takes_of rfl rfl rfl rfl) (pmk_own0 PySem.F.excBase_ValueError T.x_NotAllowed T.g_NotAllowed T.k_NotAllowed (raises_own T.r_NotAllowed T.t_NotAllowed) rfl)))
       pss_nil)
       (pss_cons (ps_if (pt_cmpR op_notIn_seq (pv 1) (pe_fld (pv 0) rfl) rfl)
       (pss_one (ps_raise rfl (takes_of rfl rfl rfl rfl) (pmk_oex T.x_NoSuch T.i_NoSuch T.u_NoSuch (ok_NoSuch_init T) (hr.mono (by decide)) T.b_NoSuch_init .nil pass0 rfl T.g_NoSuch (pa_cons (pv 1) pa_nil))))
       pss_nil)
       (pss_cons (ps_if (pt_not (pt_chain op_le op_lt pe_int (pv 2) (pe_callB call_len_seq (by rfl) T.z_len (by decide +kernel) (pa_cons (pe_fld (pv 0) rfl) pa_nil))))
       (pss_one (ps_raise rfl (takes_of rfl rfl rfl rfl) (pmk_oex T.x_NoSuch T.i_NoSuch T.u_NoSuch (ok_NoSuch_init T) (hr.mono (by decide)) T.b_NoSuch_init .nil pass0 rfl T.g_NoSuch (pa_cons (pv 2) pa_nil))))
       pss_nil)
       (pss_cons (ps_if (pt_cmpR op_notIn_seq (pv 3) (pe_glob (v := .ref a.A_VOTES) (by rfl) T.g_VOTES rfl) rfl)
       (pss_one (ps_raise rfl (takes_of rfl rfl rfl rfl) (pmk_own0 PySem.F.excBase_ValueError T.x_BadName T.g_BadName T.k_BadName (raises_own T.r_BadName T.t_BadName) rfl)))
       pss_nil)
       (pss_one (ps_dput (hu_of hr) (pe_fld (pv 0) rfl) (pe_tup (pa_cons (pv 1) (pa_cons (pv 2) pa_nil))) (pv 3) rfl)))))), ?_⟩
    refine red (σ' := [some (.ref x), some (.str (S z)), some (.int k), some (.str (S u))]) rfl ?_
    dsimp only [cxOf]
    walk_at "go"
    refine ⟨x, _, _, _, _, rfl, I.x_, T.c_Poll, T.n_Poll_closed, wf_c, ?_⟩
    cases c with
    | true =>
      walk_at "go"
      refine iteT ?_
      walk_at "go"
      exact q1 rfl
    | false =>
      walk_at "go"
      refine iteF ?_
      walk_at "go"
      refine ⟨x, _, _, _, _, rfl, I.x_, T.c_Poll, T.n_Poll_names, wf_n, ?_⟩
      refine ⟨n, _, rfl, .inr (SqT.of I.n_), rfl, flat_sv _, ?_⟩
      refine ⟨_, rfl, ?_⟩
      rw [inV_sv]
      by_cases hz : z ∈ nm
      · refine ite_n (by simp [hz]) ?_
        walk_at "go"
        refine iteK (fun h1 => ?_) (fun h1 => ?_)
        · walk_at "go"
          refine ⟨x, _, _, _, _, rfl, I.x_, T.c_Poll, T.n_Poll_proposals, wf_p, ?_⟩
          obtain ⟨xs, hp, hd⟩ := I.p_
          have hxl := dpAll_len hd
          rw [List.length_map] at hxl
          walk_at "go"
          rw [hxl]
          refine iteNK (fun h2 => ?_) (fun h2 => ?_)
          · walk_at "go"
            exact mk_NoSuch T tk ((q3 rfl hz fun z => h2 z.2).mk (Same.refl H))
          · walk_at "go"
            refine ⟨a.A_VOTES, _, rfl, .inr (T.h_VOTES H), rfl, flat_sv VTS, ?_⟩
            refine ⟨_, rfl, ?_⟩
            rw [inV_sv u VTS]
            by_cases hu : u ∈ VTS
            · refine ite_n (by rw [decide_eq_true hu]; rfl) ?_
              walk_at "go"
              refine ⟨x, _, _, _, _, rfl, I.x_, T.c_Poll, T.n_Poll_votes, wf_v, ?_⟩
              walk_at "go"
              refine ⟨by show 2 ≤ sizeLine; decide, fun t ht => ?_⟩
              have I1 := I.same (same_new (o := .tup [.str (S z), .int k]) ht)
              have rl : ∀ b o, b ≠ v → H b = some o → upd H t (.tup [.str (S z), .int k]) b = some o := fun b o _ h => same_new ht b o h
              have ht2 : upd H t (.tup [.str (S z), .int k]) t = some (.tup [.str (S z), .int k]) := upd_same
              generalize upd H t (.tup [.str (S z), .int k]) = H1 at I1 rl ht2
              clear ht hp hd
              obtain ⟨kn, rfl⟩ := Int.eq_ofNat_of_zero_le h1
              refine ⟨v, _, rfl, DPut.t (k := Po.kk (z, kn)) I1.v_ ht2 (by rw [Po.enc_len]; exact Nat.lt_of_le_of_lt vl (by decide)), ?_⟩
              rw [Po.putK_enc]
              obtain ⟨xs, hp, hd⟩ := I1.p_
              have kp : KeepT H1 (upd H1 v (.dT (Po.enc (Po.pt vt (z, kn) u)))) := KeepT.put I1.v_ ⟨fun _ e => (by cases e), fun _ _ e => (by cases e)⟩
              have nx : x ≠ v := ne_of I1.x_ I1.v_ (by intro z; cases z)
              have nn : n ≠ v := ne_of I1.n_ I1.v_ (by intro z; cases z)
              have ndd : d ≠ v := ne_of I1.d_ I1.v_ (by intro z; cases z)
              have np : p ≠ v := ne_of hp I1.v_ (by intro z; cases z)
              exact q5 rfl hz h1 h2 hu _ ⟨(upd_ne nx).trans I1.x_, (upd_ne nn).trans I1.n_, (upd_ne ndd).trans I1.d_, ⟨xs, (upd_ne np).trans hp, dpAll_keep kp _ (noL_prs pr) hd⟩, upd_same⟩ fun b o hb h => (upd_ne hb).trans (rl b o hb h)
            · refine ite_y (by rw [decide_eq_false hu]; rfl) ?_
              walk_at "go"
              exact q4 rfl hz h1 h2 hu
        · walk_at "go"
          refine iteT ?_
          walk_at "go"
          exact mk_NoSuch T tk ((q3 rfl hz fun z => h1 z.1).mk (Same.refl H))
      · refine ite_y (by simp [hz]) ?_
        walk_at "go"
        exact mk_NoSuch T (.str _ (by rw [S_len]; exact zl)) ((q2 rfl hz).mk (Same.refl H))
end
section
variable {P : Program} {w : World} {K : PySem.W.Frag} {mg : Str → Option Value} {base : Heap} {a : Adr}
def sp_Poll_tally (K : PySem.W.Frag) (a : Adr) : Sp := fun vs H Q E => ∃ (x dx n d p v : Addr) (nm nd : List (List Nat)) (pr : List (Nat × Nat)) (vt : Po.VD) (c : Bool) (k : Int), vs = [.ref x, .int k] ∧ Pl K a x dx n d p v nm nd pr vt c H ∧ nm.length ≤ 100 ∧ Told (.int k) ∧
  (¬ (0 ≤ k ∧ k < pr.length) → Lacks a E H (.int k)) ∧
  (0 ≤ k → k < pr.length → ∀ H' t, Same H H' → H' t = some (.tup [.int (Po.cnt vt nm k.toNat Po.YES : Nat), .int (Po.cnt vt nm k.toNat Po.MAYBE : Nat), .int (Po.cnt vt nm k.toNat Po.NO : Nat)]) → Q (.ref t) H')
theorem ok_Poll_tally (T : Txt K mg a) : FnOk P w K mg base (L2.CX P w) 3 a.f_Poll_tally a.d_Poll_tally ["self", "number"] (sp_Poll_tally K a) := by
  refine T.F_Poll_tally.okX sc_Poll_tally (fun vs H Q E h => ?_) (fun cdv A outer s H vs Q E hr h => ?_)
  · obtain ⟨x, dx, n, d, p, v, nm, nd, pr, vt, c, k, rfl, _⟩ := h
    rfl
  · obtain ⟨x, dx, n, d, p, v, nm, nd, pr, vt, c, k, rfl, I, nl, tk, q1, q2⟩ := h
    refine ⟨_, (pss_cons (ps_if (pt_not (pt_chain op_le op_lt pe_int (pv 1) (pe_callB call_len_seq (by rfl) T.z_len (by decide +kernel) (pa_cons (pe_fld (pv 0) rfl) pa_nil))))
       (pss_one (ps_raise rfl (takes_of rfl rfl rfl rfl) (pmk_oex T.x_NoSuch T.i_NoSuch T.u_NoSuch (ok_NoSuch_init T) (hr.mono (by decide)) T.b_NoSuch_init .nil pass0 rfl T.g_NoSuch (pa_cons (pv 1) pa_nil))))
       pss_nil)
       (pss_cons (ps_set (i := 2) sc_Poll_tally.nd rfl (.inr rfl) (pe_lc (own := [("name", 3)]) (g := (gName 3)) rfl sc_Poll_tally.nd (pi_tup (pe_fld (pv 0) rfl)) (blkOk_by (own := [("name", 3)]) (N := ["self", "number", "words", "name", "vote", "word"]) (sc := defScope s_Poll_tally) (by decide +kernel)) (fun _ _ _ _ _ => (pg_name (i := 3) sc_Poll_tally.nd rfl (.inl rfl))) (fun _ _ _ _ _ => pts_nil) (fun _ _ _ _ _ => (pe_meth (pv 0) T.c_Poll T.m_Poll_word (ok_Poll_word T) (hr.mono (by decide)) T.b_Poll_word .nil pass0 (pa_cons (pv 3) (pa_cons (pv 1) pa_nil))))))
       (pss_one (ps_ret (pe_callTy call_tuple_of (by rfl) T.z_tuple (by decide +kernel) (pa_cons (pe_lc (own := [("vote", 4)]) (g := (gName 4)) rfl sc_Poll_tally.nd (pi_tup (pe_glob (v := .ref a.A_VOTES) (by rfl) T.g_VOTES rfl)) (blkOk_by (own := [("vote", 4)]) (N := ["self", "number", "words", "name", "vote", "word"]) (sc := defScope s_Poll_tally) (by decide +kernel)) (fun _ _ _ _ _ => (pg_name (i := 4) sc_Poll_tally.nd rfl (.inr rfl))) (fun _ _ _ _ _ => pts_nil) (fun _ _ _ _ _ => (pe_callB (show CallR _ _ (rLenSeq K) from call_len_seqK) (by rfl) T.z_len (by decide +kernel) (pa_cons (pe_lc (own := [("word", 5)]) (g := (gName 5)) rfl sc_Poll_tally.nd (show PI _ _ _ (iList K _) from pi_list (pv 2)) (by first | exact (blkOk_by (own := [("word", 5)]) (N := ["self", "number", "words", "name", "vote", "word"]) (sc := { kind := ScopeKind.function, names := [(".0", NameKind.local), ("vote", NameKind.cell), ("len", NameKind.globalImplicit), ("words", NameKind.cell)], isGenerator := false, isCoroutine := false }) (by decide +kernel)) | exact (blkOk_by (own := [("word", 5)]) (N := ["self", "number", "words", "name", "vote", "word"]) (sc := { kind := ScopeKind.function, names := [(".0", NameKind.local), ("vote", NameKind.cell), ("len", NameKind.globalImplicit), ("words", NameKind.free)], isGenerator := false, isCoroutine := false }) (by decide +kernel))) (fun _ _ _ _ _ => (pg_name (i := 5) sc_Poll_tally.nd rfl (.inl rfl))) (fun _ _ _ _ _ => (pts_one (pt_cmpR op_eq (pv 5) (pv 4) (nomark _)))) (fun _ _ _ _ _ => (pv 5))) pa_nil)))) pa_nil)))))), ?_⟩
    refine red (σ' := [some (.ref x), some (.int k), none, none, none, none]) rfl ?_
    dsimp only [cxOf]
    walk_at "go"
    refine iteK (fun h1 => ?_) (fun h1 => ?_)
    · walk_at "go"
      refine ⟨x, _, _, _, _, rfl, I.x_, T.c_Poll, T.n_Poll_proposals, wf_p, ?_⟩
      obtain ⟨xs, hp, hd⟩ := I.p_
      have hxl := dpAll_len hd
      rw [List.length_map] at hxl
      walk_at "go"
      rw [hxl]
      refine iteNK (fun h2 => ?_) (fun h2 => ?_)
      · walk_at "go"
        exact mk_NoSuch T tk ((q1 fun z => h2 z.2).mk (Same.refl H))
      · obtain ⟨kn, rfl⟩ := Int.eq_ofNat_of_zero_le h1
        walk_at "go"
        refine ⟨x, _, _, _, _, rfl, I.x_, T.c_Poll, T.n_Poll_names, wf_n, ?_⟩
        refine ⟨n, rfl, ⟨_, SqT.of I.n_⟩, fun D hD => ?_⟩
        refine lc_tup (K := K) (a := n) (xs := sv nm) (fun i H' => Same H H' ∧ H' D = some (.lst (sv (Po.words vt (nm.take i) kn)))) ⟨same_new hD, upd_same⟩ (fun i H' _ h => SqT.of (h.1 _ _ I.n_)) ?_ ?_
        · rintro i y H1 hi ⟨s1, hD1⟩
          obtain ⟨z, hz, rfl⟩ := sv_get hi
          walk_at "go"
          refine ⟨rfl, ?_⟩
          refine g_yes (iteT ?_)
          walk_at "go"
          refine ⟨x, _, _, rfl, (I.same s1).x_, wf_no (by decide +kernel) (by decide +kernel) (by decide +kernel) (by decide +kernel) (by decide +kernel), ?_⟩
          walk_at "go"
          refine ⟨x, dx, n, d, p, v, nm, nd, pr, vt, c, z, kn, rfl, I.same s1, fun H2 s2 => ?_⟩
          refine ⟨_, s2 _ _ hD1, by have := sizeBig; unfold Po.words; rw [List.length_map, List.length_map, List.length_take]; omega, same_put hD (s1.trans s2), ?_⟩
          unfold Po.words
          rw [upd_same, take_more hz, List.map_append]
          exact congrArg (fun z => some (HO.lst z)) (sv_app _ [Po.wd vt z kn])
        rintro H1 ⟨s1, hD1⟩
        rw [List.length_map, List.take_length] at hD1
        walk_at "go"
        refine ⟨a.A_VOTES, rfl, ⟨_, T.h_VOTES H1⟩, fun D2 hD2 => ?_⟩
        have nD : D ≠ D2 := ne_of_none hD1 hD2
        refine lc_tup (K := K) (a := a.A_VOTES) (xs := sv VTS) (fun i H' => Same H1 H' ∧ H' D2 = some (.lst (((VTS.take i).map fun u => (Po.cnt vt nm kn u : Int)).map V.int))) ⟨same_new hD2, upd_same⟩ (fun i H' _ h => T.h_VOTES H') ?_ ?_
        · rintro i y H2 hi ⟨s2, hD3⟩
          obtain ⟨u, hu, rfl⟩ := sv_get hi
          have hi3 : i < 3 := (List.getElem?_eq_some_iff.mp hu).1
          walk_at "go"
          refine ⟨rfl, ?_⟩
          refine g_yes (iteT ?_)
          walk_at "go"
          refine ⟨D, rfl, ⟨_, SqL.of (s2 _ _ hD1)⟩, fun D4 hD4 => ?_⟩
          refine lc_list (K := K) (a := D) (xs := sv (Po.words vt nm kn)) (fun i H' => Same H2 H' ∧ H' D4 = some (.lst (sv (((Po.words vt nm kn).take i).filter (· == u))))) ⟨same_new hD4, upd_same⟩ (fun i H' _ h => SqL.of (h.1 _ _ (s2 _ _ hD1))) ?_ ?_
          · rintro j y H3 hj ⟨s3, hD5⟩
            obtain ⟨z, hz, rfl⟩ := sv_get hj
            walk_at "go"
            refine ⟨rfl, ?_⟩
            walk_at "go"
            rw [dec_str z u, take_more hz, List.filter_append]
            refine iteK (fun h => ?_) (fun h => ?_)
            · walk_at "go"
              rw [List.filter_cons_of_pos (by simpa using h)]
              have hle := List.length_filter_le (· == u) ((Po.words vt nm kn).take j)
              have hw : (Po.words vt nm kn).length = nm.length := List.length_map ..
              rw [List.length_take, hw] at hle
              refine ⟨_, hD5, by have := sizeBig; rw [List.length_map]; omega, same_put hD4 s3, ?_⟩
              rw [upd_same]
              exact congrArg (fun z => some (HO.lst z)) (sv_app _ [z])
            · rw [List.filter_cons_of_neg (by simpa using h)]
              exact ⟨s3, by rw [List.filter_nil, List.append_nil]; exact hD5⟩
          · rintro H3 ⟨s3, hD5⟩
            rw [List.length_map, List.take_length] at hD5
            walk_at "go"
            refine ⟨D4, _, rfl, .inl (SqL.of hD5), ?_⟩
            rw [List.length_map]
            have ec : ((Po.words vt nm kn).filter (· == u)).length = Po.cnt vt nm kn u := (List.count_eq_length_filter).symm
            rw [ec]
            refine ⟨_, s3 _ _ hD3, by have := sizeBig; rw [List.length_map, List.length_map, List.length_take]; omega, same_put hD2 (s2.trans s3), ?_⟩
            rw [upd_same, take_more hu, List.map_append, List.map_append]; rfl
        · rintro H2 ⟨s2, hD3⟩
          rw [List.length_map, List.take_length] at hD3
          walk_at "go"
          refine ⟨D2, _, rfl, .inl ⟨SqL.of hD3, fun t ht => ?_⟩⟩
          exact q2 h1 h2 _ t ((s1.trans s2).trans (same_new ht)) upd_same
    · walk_at "go"
      refine iteT ?_
      walk_at "go"
      exact mk_NoSuch T tk ((q1 fun z => h1 z.1).mk (Same.refl H))
end
section
variable {P : Program} {w : World} {K : PySem.W.Frag} {mg : Str → Option Value} {base : Heap} {a : Adr}
def sp_Poll_possible (K : PySem.W.Frag) (a : Adr) : Sp := fun vs H Q _ => ∃ (x dx n d p v : Addr) (nm nd : List (List Nat)) (pr : List (Nat × Nat)) (vt : Po.VD) (c : Bool) (k : Nat), vs = [.ref x, .int k] ∧ Pl K a x dx n d p v nm nd pr vt c H ∧ nd.length ≤ 100 ∧
  ∀ H', Same H H' → Q (.bl (Po.poss vt nd k)) H'
theorem ok_Poll_possible (T : Txt K mg a) : FnOk P w K mg base CX0 2 a.f_Poll_possible a.d_Poll_possible ["self", "number"] (sp_Poll_possible K a) := by
  refine T.F_Poll_possible.ok sc_Poll_possible (fun vs H Q E h => ?_) (fun cdv A outer s H vs Q E hr h => ?_)
  · obtain ⟨x, dx, n, d, p, v, nm, nd, pr, vt, c, k, rfl, _⟩ := h
    rfl
  · obtain ⟨x, dx, n, d, p, v, nm, nd, pr, vt, c, k, rfl, I, nl, q⟩ := h
    refine ⟨_, (pss_one (ps_ret (pe_callB (cr_all rfl) (by rfl) T.z_all (by decide +kernel) (pa_cons (pe_lc (own := [("name", 2)]) (g := (gName 2)) rfl sc_Poll_possible.nd (pi_tup (pe_fld (pv 0) rfl)) (blkOk_by (own := [("name", 2)]) (N := ["self", "number", "name"]) (sc := defScope s_Poll_possible) (by decide +kernel)) (fun _ _ _ _ _ => (pg_name (i := 2) sc_Poll_possible.nd rfl (.inl rfl))) (fun _ _ _ _ _ => pts_nil) (fun _ _ _ _ _ => (pe_cmpR (show OpR _ _ (rIn K false) from op_in_seq) (pe_meth (pv 0) T.c_Poll T.m_Poll_word (ok_Poll_word T) (hr.mono (by decide)) T.b_Poll_word .nil pass0 (pa_cons (pv 2) (pa_cons (pv 1) pa_nil))) (pe_tup (pa_cons pe_str (pa_cons pe_str pa_nil))) rfl))) pa_nil)))), ?_⟩
    refine red (σ' := [some (.ref x), some (.int k), none]) rfl ?_
    dsimp only [cxOf]
    walk_at "go"
    refine ⟨x, _, _, _, _, rfl, I.x_, T.c_Poll, T.n_Poll_needed, wf_d, ?_⟩
    refine ⟨d, rfl, ⟨_, SqT.of I.d_⟩, fun D hD => ?_⟩
    refine lc_tup (K := K) (a := d) (xs := sv nd) (fun i H' => Same H H' ∧ H' D = some (.lst (((nd.take i).map fun z => decide (Po.wd vt z k ∈ [Po.YES, Po.MAYBE])).map V.bl))) ⟨same_new hD, upd_same⟩ (fun i H' _ h => SqT.of (h.1 _ _ I.d_)) ?_ ?_
    · rintro i y H1 hi ⟨s1, hD1⟩
      obtain ⟨z, hz, rfl⟩ := sv_get hi
      walk_at "go"
      refine ⟨rfl, ?_⟩
      refine g_yes (iteT ?_)
      walk_at "go"
      refine ⟨x, _, _, rfl, (I.same s1).x_, wf_no (by decide +kernel) (by decide +kernel) (by decide +kernel) (by decide +kernel) (by decide +kernel), ?_⟩
      walk_at "go"
      refine ⟨x, dx, n, d, p, v, nm, nd, pr, vt, c, z, k, rfl, I.same s1, fun H2 s2 => ?_⟩
      walk_at "go"
      refine nwT (ys := sv [Po.YES, Po.MAYBE]) rfl (by show 2 ≤ 1000000; decide) fun t H3 _ s3 ht => ?_
      refine ⟨t, _, rfl, .inr (SqT.of ht), rfl, flat_sv _, ?_⟩
      rw [if_neg (by decide : ¬ (false = true)), inV_sv]
      have s13 := s1.trans (s2.trans s3)
      refine ⟨_, s3 _ _ (s2 _ _ hD1), by have := sizeBig; rw [List.length_map, List.length_map, List.length_take]; omega, same_put hD s13, ?_⟩
      rw [upd_same, take_more hz, List.map_append, List.map_append]; rfl
    rintro H1 ⟨s1, hD1⟩
    rw [List.length_map, List.take_length] at hD1
    walk_at "go"
    refine ⟨D, _, rfl, SqL.of hD1, ?_⟩
    rw [all_id]
    exact q H1 s1
end
section
variable {P : Program} {w : World} {K : PySem.W.Frag} {mg : Str → Option Value} {base : Heap} {a : Adr}
theorem Pl.putF {x dx n d p v F : Addr} {nm nd : List (List Nat)} {pr : List (Nat × Nat)} {vt : Po.VD} {c : Bool} {H : Hp} {fv gv : List V} (I : Pl K a x dx n d p v nm nd pr vt c H) (hF : H F = some (.lst fv)) (hp : F ≠ p) : Pl K a x dx n d p v nm nd pr vt c (upd H F (.lst gv)) := by
  obtain ⟨h1, h2, h3, ⟨xs, h4, h5⟩, h6⟩ := I
  have n1 : x ≠ F := ne_of h1 hF (by intro z; cases z)
  have n2 : n ≠ F := ne_of h2 hF (by intro z; cases z)
  have n3 : d ≠ F := ne_of h3 hF (by intro z; cases z)
  have n4 : v ≠ F := ne_of h6 hF (by intro z; cases z)
  exact ⟨(upd_ne n1).trans h1, (upd_ne n2).trans h2, (upd_ne n3).trans h3, ⟨xs, (upd_ne hp.symm).trans h4, dpAll_keep (KeepT.putL hF) _ (noL_prs pr) h5⟩, (upd_ne n4).trans h6⟩
theorem noL_rws (vt : Po.VD) (nm : List (List Nat)) (pr : List (Nat × Nat)) (cs : List Nat) : noLAll (cs.map (Po.row vt nm pr)) = true := noLAll_of fun x hx => by
  obtain ⟨e, _, rfl⟩ := List.mem_map.mp hx
  simp [Po.row, noL, noLAll]
theorem row_inv {H : Hp} {u : V} {vt : Po.VD} {nm : List (List Nat)} {pr : List (Nat × Nat)} {k : Nat} (h : Dp K H u (Po.row vt nm pr k)) : ∃ t, u = .ref t ∧ SqT K H t [.int (-(Po.cnt vt nm k Po.YES : Nat)), .int (Po.cnt vt nm k Po.NO : Nat), .int (pr.getD k (0, 0)).1, .int (pr.getD k (0, 0)).2, .int (k : Nat)] := by
  unfold Po.row at h
  cases h with
  | tup s d =>
    cases d with
    | cons d1 d =>
      cases d with
      | cons d2 d =>
        cases d with
        | cons d3 d =>
          cases d with
          | cons d4 d =>
            cases d with
            | cons d5 d =>
              cases d
              cases d1
              cases d2
              cases d3
              cases d4
              cases d5
              exact ⟨_, rfl, s⟩
def bestV (o : Option Nat) : V := match o with | none => .non | some k => .int (k : Nat)
def sp_Poll_best (K : PySem.W.Frag) (a : Adr) : Sp := fun vs H Q _ => ∃ (x dx n d p v : Addr) (nm nd : List (List Nat)) (pr : List (Nat × Nat)) (vt : Po.VD) (c : Bool), vs = [.ref x] ∧ Pl K a x dx n d p v nm nd pr vt c H ∧ nm.length ≤ 100 ∧ nd.length ≤ 100 ∧ pr.length ≤ 1000 ∧
  ∀ H', Same H H' → Q (bestV (Po.best vt nm nd pr)) H'
theorem ok_Poll_best (T : Txt K mg a) : FnOk P w K mg base CX0 4 a.f_Poll_best a.d_Poll_best ["self"] (sp_Poll_best K a) := by
  refine T.F_Poll_best.ok sc_Poll_best (fun vs H Q E h => ?_) (fun cdv A outer s H vs Q E hr h => ?_)
  · obtain ⟨x, dx, n, d, p, v, nm, nd, pr, vt, c, rfl, _⟩ := h
    rfl
  · obtain ⟨x, dx, n, d, p, v, nm, nd, pr, vt, c, rfl, I, nl, dl, pn, q⟩ := h
    refine ⟨_, (pss_cons (ps_set (i := 1) sc_Poll_best.nd rfl (.inl rfl) (pe_lst pa_nil))
       (pss_cons (ps_for PassesOwn.never rfl (pi_enum (by rfl) T.z_enumerate (pa_cons (pe_fld (pv 0) rfl) pa_nil)) (pg_tup (by rfl) (pgs_cons (pg_name (i := 2) sc_Poll_best.nd rfl (.inl rfl)) (pgs_cons (pg_tup (by rfl) (pgs_cons (pg_name (i := 3) sc_Poll_best.nd rfl (.inl rfl)) (pgs_cons (pg_name (i := 4) sc_Poll_best.nd rfl (.inl rfl)) pgs_nil))) pgs_nil)))
       (pss_cons (ps_asg (pe_meth (pv 0) T.c_Poll T.m_Poll_tally (ok_Poll_tally T) (hr.mono (by decide)) T.b_Poll_tally .nil passL (pa_cons (pv 2) pa_nil)) (pg_tup (by rfl) (pgs_cons (pg_name (i := 5) sc_Poll_best.nd rfl (.inl rfl)) (pgs_cons (pg_name (i := 6) sc_Poll_best.nd rfl (.inl rfl)) (pgs_cons (pg_name (i := 7) sc_Poll_best.nd rfl (.inl rfl)) pgs_nil)))))
       (pss_one (ps_if (pt_val (pe_meth (pv 0) T.c_Poll T.m_Poll_possible (ok_Poll_possible T) (hr.mono (by decide)) T.b_Poll_possible .nil pass0 (pa_cons (pv 2) pa_nil)))
       (pss_one (ps_expr (pe_bm PySem.F.plainAttrs_list PySem.F.slot_list_append PySem.F.type_list_append mt_append (pv 1) (pa_cons (pe_tup (pa_cons (pe_un un_neg (pv 5)) (pa_cons (pv 7) (pa_cons (pv 3) (pa_cons (pv 4) (pa_cons (pv 2) pa_nil)))))) pa_nil))))
       pss_nil))))
       (pss_one (ps_ret (pe_ifExp (pt_cmpR op_gt (pe_callB call_len_seq (by rfl) T.z_len (by decide +kernel) (pa_cons (pv 1) pa_nil)) pe_int (nomark _)) (pe_ix ix_tup (pe_callB (cr_minD rfl hr.units) (by rfl) T.z_min (by decide +kernel) (pa_cons (pv 1) pa_nil)) pe_int (fun _ _ => rfl)) pe_non))))), ?_⟩
    refine red (σ' := [some (.ref x), none, none, none, none, none, none, none]) rfl ?_
    dsimp only [cxOf]
    walk_at "go"
    refine nwL (ys := []) rfl (by decide) fun F H1 hF0 s1 hF => ?_
    walk_at "go"
    have I1 := I.same s1
    refine ⟨x, _, _, _, _, rfl, I1.x_, T.c_Poll, T.n_Poll_proposals, wf_p, ?_⟩
    obtain ⟨xs, hp, hd⟩ := I1.p_
    have hxl := dpAll_len hd
    rw [List.length_map] at hxl
    have hFp : F ≠ p := by
      obtain ⟨y, h, _⟩ := I.p_
      exact (ne_of_none h hF0).symm
    walk_at "go"
    refine ⟨p, xs, rfl, SqL.of hp, ?_⟩
    refine for_it (walk_enum (K := K) (a := p) (xs := xs)) (fun i σ' H' => ∃ (fv : List V) (y2 y3 y4 y5 y6 y7 : Option V), σ' = [some (.ref x), some (.ref F), y2, y3, y4, y5, y6, y7] ∧ (∀ b o, b ≠ F → H1 b = some o → H' b = some o) ∧ Pl K a x dx n d p v nm nd pr vt c H' ∧ H' F = some (.lst fv) ∧ DpAll K H' fv ((Po.cand vt nd i).map (Po.row vt nm pr)))
      ⟨[], _, _, _, _, _, _, rfl, fun b o _ h => h, I1, hF, .nil⟩ (fun i σ' H' _ h => ?_) ?_ ?_
    · obtain ⟨fv, _, _, _, _, _, _, _, rl, _⟩ := h
      exact SqL.of (rl _ _ hFp.symm hp)
    · rintro i u σ' H3 H4 hi ⟨fv, y2, y3, y4, y5, y6, y7, rfl, rl, I3, hF3, hd3⟩ ⟨t, e1, e2, rfl, ht, rfl, hx1, hy1⟩
      cases hx1
      have hy1 : xs[i]? = some e2 := hy1
      obtain ⟨xs2, hp2, hd2⟩ := I3.p_
      have exs : xs2 = xs := by
        have := hp2.symm.trans (rl _ _ hFp.symm hp)
        cases this; rfl
      subst exs
      obtain ⟨e, he, hde⟩ := dpAll_at' hd2 hy1
      obtain ⟨⟨s, l⟩, hsl, rfl⟩ : ∃ sl, pr[i]? = some sl ∧ e = prD sl := by
        rw [List.getElem?_map] at he
        cases z : pr[i]? with
        | none => rw [z] at he; cases he
        | some r => rw [z] at he; exact ⟨r, rfl, (Option.some.inj he).symm⟩
      have hip := (List.getElem?_eq_some_iff.mp hsl).1
      obtain ⟨tp, rfl, hst⟩ := pr_inv hde
      have s4 := same_new (o := .tup [.int (i : Nat), .ref tp]) ht
      have htt : upd H3 t (.tup [.int (i : Nat), .ref tp]) t = some (.tup [.int (i : Nat), .ref tp]) := upd_same
      replace hst := hst.ext s4
      replace I3 := I3.same s4
      replace hF3 := s4 _ _ hF3
      replace hd3 := dpAll_same s4 _ hd3
      replace rl := fun b o hb h => s4 b o (rl b o hb h)
      generalize upd H3 t (.tup [.int (i : Nat), .ref tp]) = H4 at hst I3 hF3 hd3 rl htt
      refine g_gtup ⟨t, _, rfl, SqT.of htt, rfl, ?_⟩
      walk_at "go"
      refine g_gtup ⟨tp, _, rfl, hst, rfl, ?_⟩
      walk_at "go"
      refine ⟨x, _, _, rfl, I3.x_, wf_no (by decide +kernel) (by decide +kernel) (by decide +kernel) (by decide +kernel) (by decide +kernel), ?_⟩
      walk_at "go"
      refine ⟨x, dx, n, d, p, v, nm, nd, pr, vt, c, (i : Nat), rfl, I3, nl, .num i (by omega), fun h => absurd ⟨by omega, by omega⟩ h, fun _ _ H5 tt s5 htt2 => ?_⟩
      rw [Int.toNat_natCast] at htt2
      replace I3 := I3.same s5
      replace hF3 := s5 _ _ hF3
      replace hd3 := dpAll_same s5 _ hd3
      replace rl := fun b o hb h => s5 b o (rl b o hb h)
      clear s5 hst htt s4
      refine g_gtup ⟨tt, _, rfl, SqT.of htt2, rfl, ?_⟩
      walk_at "go"
      refine ⟨x, _, _, rfl, I3.x_, wf_no (by decide +kernel) (by decide +kernel) (by decide +kernel) (by decide +kernel) (by decide +kernel), ?_⟩
      walk_at "go"
      refine ⟨x, dx, n, d, p, v, nm, nd, pr, vt, c, i, rfl, I3, dl, fun H6 s6 => ?_⟩
      replace I3 := I3.same s6
      replace hF3 := s6 _ _ hF3
      replace hd3 := dpAll_same s6 _ hd3
      replace rl := fun b o hb h => s6 b o (rl b o hb h)
      clear s6 htt2
      have ec : Po.cand vt nd (i + 1) = Po.cand vt nd i ++ (if Po.poss vt nd i = true then [i] else []) := by
        unfold Po.cand
        rw [List.range_succ, List.filter_append]
        by_cases h : Po.poss vt nd i = true
        · rw [List.filter_cons_of_pos h, if_pos h]; rfl
        · rw [List.filter_cons_of_neg h, if_neg h]; rfl
      walk_at "go"
      cases hb : Po.poss vt nd i with
      | false =>
        rw [hb] at ec
        rw [if_neg (by decide), List.append_nil] at ec
        rw [ec]
        refine iteF ?_
        walk_at "go"
        exact ⟨fv, _, _, _, _, _, _, rfl, rl, I3, hF3, hd3⟩
      | true =>
        rw [hb] at ec
        rw [if_pos rfl] at ec
        rw [ec]
        refine iteT ?_
        walk_at "go"
        refine ⟨.inl ⟨rfl, _, SqL.of hF3⟩, ?_⟩
        walk_at "go"
        refine nwT (ys := [.int (-(Po.cnt vt nm i Po.YES : Nat)), .int (Po.cnt vt nm i Po.NO : Nat), .int (s : Nat), .int (l : Nat), .int (i : Nat)]) rfl (by show 5 ≤ 1000000; decide) fun rw_ H7 _ s7 hrw => ?_
        replace I3 := I3.same s7
        replace hF3 := s7 _ _ hF3
        replace hd3 := dpAll_same s7 _ hd3
        replace rl := fun b o hb h => s7 b o (rl b o hb h)
        walk_at "go"
        have hfl := dpAll_len hd3
        rw [List.length_map] at hfl
        have hcl : (Po.cand vt nd i).length ≤ i := by
          have := List.length_filter_le (fun k => Po.poss vt nd k) (List.range i)
          rw [List.length_range] at this
          exact this
        have eg : pr.getD i (0, 0) = (s, l) := by rw [List.getD_eq_getElem?_getD, hsl]; rfl
        refine ⟨F, _, _, rfl, rfl, hF3, by have := sizeBig; omega, ?_⟩
        have kp : KeepT H7 (upd H7 F (.lst (fv ++ [.ref rw_]))) := KeepT.putL hF3
        refine ⟨fv ++ [.ref rw_], _, _, _, _, _, _, rfl, fun b o hb h => (upd_ne hb).trans (rl b o hb h), I3.putF hF3 hFp, upd_same, ?_⟩
        rw [List.map_append]
        refine dpAll_app (dpAll_keep kp _ (noL_rws vt nm pr _) hd3) (.cons ?_ .nil)
        unfold Po.row
        rw [eg]
        exact .tup (sqT_keep (SqT.of hrw) kp) (.cons (.int _) (.cons (.int _) (.cons (.int _) (.cons (.int _) (.cons (.int _) .nil)))))
    · rintro σ' H2 ⟨fv, y2, y3, y4, y5, y6, y7, rfl, rl, I3, hF3, hd3⟩
      rw [hxl] at hd3
      have sH : Same H H2 := fun b o h => rl b o (ne_of_none h hF0) (s1 b o h)
      replace q := q H2 sH
      have hfl := dpAll_len hd3
      rw [List.length_map] at hfl
      walk_at "go"
      rw [hfl]
      unfold Po.best at q
      cases ec : Po.cand vt nd pr.length with
      | nil =>
        rw [ec] at q
        refine iteK (fun h => absurd h (by decide)) (fun _ => ?_)
        walk_at "go"
        exact q
      | cons k0 ks =>
        rw [ec] at q hd3
        refine iteK (fun _ => ?_) (fun h => absurd (by show (0 : Int) < ((k0 :: ks).length : Nat); rw [List.length_cons]; omega) h)
        walk_at "go"
        refine ⟨F, fv, Po.row vt nm pr k0, ks.map (Po.row vt nm pr), rfl, SqL.of hF3, hd3, Po.row_alike vt nm pr (k0 :: ks), Po.row_depth vt nm pr (k0 :: ks), fun u hu => ?_⟩
        rw [Po.min_row] at hu
        obtain ⟨ta, rfl, hta⟩ := row_inv hu
        walk_at "go"
        exact q
end
section
variable {P : Program} {w : World} {K : PySem.W.Frag} {mg : Str → Option Value} {base : Heap} {a : Adr}
def sp_Poll_missing (K : PySem.W.Frag) (a : Adr) : Sp := fun vs H Q _ => ∃ (x dx n d p v : Addr) (nm nd : List (List Nat)) (pr : List (Nat × Nat)) (vt : Po.VD) (c : Bool), vs = [.ref x] ∧ Pl K a x dx n d p v nm nd pr vt c H ∧ nm.length ≤ 100 ∧ pr.length ≤ 1000 ∧
  ∀ L H', Same H H' → H' L = some (.lst (sv (Po.miss vt nm pr.length))) → Q (.ref L) H'
theorem ok_Poll_missing (T : Txt K mg a) : FnOk P w K mg base CX0 2 a.f_Poll_missing a.d_Poll_missing ["self"] (sp_Poll_missing K a) := by
  refine T.F_Poll_missing.ok sc_Poll_missing (fun vs H Q E h => ?_) (fun cdv A outer s H vs Q E hr h => ?_)
  · obtain ⟨x, dx, n, d, p, v, nm, nd, pr, vt, c, rfl, _⟩ := h
    rfl
  · obtain ⟨x, dx, n, d, p, v, nm, nd, pr, vt, c, rfl, I, nl, pn, q⟩ := h
    refine ⟨_, (pss_cons (ps_set (i := 1) sc_Poll_missing.nd rfl (.inl rfl) (pe_lst pa_nil))
       (pss_cons (ps_for PassesOwn.never rfl (pi_tup (pe_fld (pv 0) rfl)) (pg_name (i := 2) sc_Poll_missing.nd rfl (.inr rfl))
       (pss_one (ps_if (pt_val (pe_callB (cr_any rfl) (by rfl) T.z_any (by decide +kernel) (pa_cons (pe_lc (own := [("number", 3)]) (g := (gName 3)) rfl sc_Poll_missing.nd (pi_range1 (by rfl) T.z_range (pa_cons (pe_callB call_len_seq (by rfl) T.z_len (by decide +kernel) (pa_cons (pe_fld (pv 0) rfl) pa_nil)) pa_nil)) (blkOk_by (own := [("number", 3)]) (N := ["self", "found", "name", "number"]) (sc := defScope s_Poll_missing) (by decide +kernel)) (fun _ _ _ _ _ => (pg_name (i := 3) sc_Poll_missing.nd rfl (.inl rfl))) (fun _ _ _ _ _ => pts_nil) (fun _ _ _ _ _ => (pe_cmpR op_eq (pe_meth (pv 0) T.c_Poll T.m_Poll_word (ok_Poll_word T) (hr.mono (by decide)) T.b_Poll_word .nil pass0 (pa_cons (pv 2) (pa_cons (pv 3) pa_nil))) pe_str (nomark _)))) pa_nil)))
       (pss_one (ps_expr (pe_bm PySem.F.plainAttrs_list PySem.F.slot_list_append PySem.F.type_list_append mt_append (pv 1) (pa_cons (pv 2) pa_nil))))
       pss_nil)))
       (pss_one (ps_ret (pv 1))))), ?_⟩
    refine red (σ' := [some (.ref x), none, none, none]) rfl ?_
    dsimp only [cxOf]
    walk_at "go"
    refine nwL (ys := []) rfl (by decide) fun F H1 hF0 s1 hF => ?_
    walk_at "go"
    have I1 := I.same s1
    refine ⟨x, _, _, _, _, rfl, I1.x_, T.c_Poll, T.n_Poll_names, wf_n, ?_⟩
    have hnF : n ≠ F := ne_of_none I.n_ hF0
    have hpF : F ≠ p := by
      obtain ⟨y, h, _⟩ := I.p_
      exact (ne_of_none h hF0).symm
    refine ⟨n, rfl, ⟨_, SqT.of I1.n_⟩, ?_⟩
    refine for_tup (K := K) (a := n) (xs := sv nm) (fun i σ' H' => ∃ (y2 : Option V), σ' = [some (.ref x), some (.ref F), y2, none] ∧ (∀ b o, b ≠ F → H1 b = some o → H' b = some o) ∧ Pl K a x dx n d p v nm nd pr vt c H' ∧ H' F = some (.lst (sv (Po.miss vt (nm.take i) pr.length))))
      ⟨_, rfl, fun b o _ h => h, I1, hF⟩ (fun i σ' H' _ h => ?_) ?_ ?_
    · obtain ⟨_, _, rl, _⟩ := h
      exact SqT.of (rl _ _ hnF I1.n_)
    · rintro i u σ' H2 hi ⟨y2, rfl, rl, I2, hF2⟩
      obtain ⟨z, hz, rfl⟩ := sv_get hi
      have hil := (List.getElem?_eq_some_iff.mp hz).1
      walk_at "go"
      refine ⟨x, _, _, _, _, rfl, I2.x_, T.c_Poll, T.n_Poll_proposals, wf_p, ?_⟩
      obtain ⟨xs, hp, hd⟩ := I2.p_
      have hxl := dpAll_len hd
      rw [List.length_map] at hxl
      walk_at "go"
      rw [hxl]
      refine ⟨_, rfl, by omega, by omega, fun D hD => ?_⟩
      rw [Int.toNat_natCast]
      refine lc_range (fun j H' => Same H2 H' ∧ H' D = some (.lst (((List.range j).map fun k => decide (Po.wd vt z k = [])).map V.bl))) ⟨same_new hD, upd_same⟩ ?_ ?_
      · rintro j H3 hj ⟨s3, hD3⟩
        walk_at "go"
        refine ⟨rfl, ?_⟩
        refine g_yes (iteT ?_)
        walk_at "go"
        refine ⟨x, _, _, rfl, (I2.same s3).x_, wf_no (by decide +kernel) (by decide +kernel) (by decide +kernel) (by decide +kernel) (by decide +kernel), ?_⟩
        walk_at "go"
        rw [show (0 : Int) + (j : Nat) = ((j : Nat) : Int) by omega]
        refine ⟨x, dx, n, d, p, v, nm, nd, pr, vt, c, z, j, rfl, I2.same s3, fun H4 s4 => ?_⟩
        walk_at "go"
        rw [show decide (V.str (S (Po.wd vt z j)) = V.str (Str.ofString "")) = decide (Po.wd vt z j = []) from dec_str _ []]
        refine ⟨_, s4 _ _ hD3, by have := sizeBig; rw [List.length_map, List.length_map, List.length_range]; omega, same_put hD (s3.trans s4), ?_⟩
        rw [upd_same, List.range_succ, List.map_append, List.map_append]; rfl
      · rintro H3 ⟨s3, hD3⟩
        walk_at "go"
        refine ⟨D, _, rfl, SqL.of hD3, ?_⟩
        have ea : ((List.range pr.length).map fun k => decide (Po.wd vt z k = [])).any id = (List.range pr.length).any fun k => decide (Po.wd vt z k = []) := by
          rw [List.any_map]; rfl
        rw [ea]
        have em : Po.miss vt (nm.take (i + 1)) pr.length = Po.miss vt (nm.take i) pr.length ++ (if ((List.range pr.length).any fun k => decide (Po.wd vt z k = [])) = true then [z] else []) := by
          unfold Po.miss
          rw [take_more hz, List.filter_append]
          by_cases h : ((List.range pr.length).any fun k => decide (Po.wd vt z k = [])) = true
          · rw [if_pos h, List.filter_cons, if_pos h]; rfl
          · rw [if_neg h, List.filter_cons, if_neg h]; rfl
        rw [em]
        replace I2 := I2.same s3
        replace hF2 := s3 _ _ hF2
        replace rl := fun b o hb h => s3 b o (rl b o hb h)
        have hml : (Po.miss vt (nm.take i) pr.length).length ≤ 100 := by
          have := List.length_filter_le (fun x => (List.range pr.length).any fun k => decide (Po.wd vt x k = [])) (nm.take i)
          rw [List.length_take] at this
          unfold Po.miss
          omega
        generalize ((List.range pr.length).any fun k => decide (Po.wd vt z k = [])) = bb
        cases bb with
        | true =>
          rw [if_pos rfl]
          walk_at "go"
          refine iteT ?_
          walk_at "go"
          refine ⟨.inl ⟨rfl, _, SqL.of hF2⟩, ?_⟩
          walk_at "go"
          refine ⟨F, _, _, rfl, rfl, hF2, by have := sizeBig; rw [List.length_map]; omega, ?_⟩
          refine ⟨_, rfl, fun b o hb h => (upd_ne hb).trans (rl b o hb h), ?_, ?_⟩
          · exact I2.putF hF2 hpF
          · rw [upd_same]; exact congrArg (fun z => some (HO.lst z)) (sv_app _ [z])
        | false =>
          rw [if_neg (by decide), List.append_nil]
          walk_at "go"
          refine iteF ?_
          walk_at "go"
          exact ⟨_, rfl, rl, I2, hF2⟩
    · rintro σ' H2 ⟨y2, rfl, rl, I2, hF2⟩
      rw [List.length_map, List.take_length] at hF2
      walk_at "go"
      exact q F H2 (fun b o h => rl b o (ne_of_none h hF0) (s1 b o h)) hF2
end
section
variable {P : Program} {w : World} {K : PySem.W.Frag} {mg : Str → Option Value} {base : Heap} {a : Adr}
def bestD (o : Option Nat) (pr : List (Nat × Nat)) : PyData := match o with | none => .none | some k => prD (pr.getD k (0, 0))
def sp_Poll_close (K : PySem.W.Frag) (a : Adr) : Sp := fun vs H Q _ => ∃ (x dx n d p v : Addr) (nm nd : List (List Nat)) (pr : List (Nat × Nat)) (vt : Po.VD) (c : Bool), vs = [.ref x] ∧ Pl K a x dx n d p v nm nd pr vt c H ∧ nm.length ≤ 100 ∧ nd.length ≤ 100 ∧ pr.length ≤ 1000 ∧
  ∀ H' r, Pl K a x dx n d p v nm nd pr vt true H' → (∀ b o, b ≠ x → H b = some o → H' b = some o) → Dp K H' r (bestD (Po.best vt nm nd pr) pr) → Q r H'
theorem ok_Poll_close (T : Txt K mg a) : FnOk P w K mg base CX0 5 a.f_Poll_close a.d_Poll_close ["self"] (sp_Poll_close K a) := by
  refine T.F_Poll_close.ok sc_Poll_close (fun vs H Q E h => ?_) (fun cdv A outer s H vs Q E hr h => ?_)
  · obtain ⟨x, dx, n, d, p, v, nm, nd, pr, vt, c, rfl, _⟩ := h
    rfl
  · obtain ⟨x, dx, n, d, p, v, nm, nd, pr, vt, c, rfl, I, nl, dl, pn, q⟩ := h
    refine ⟨_, (pss_cons (ps_fld (pv 0) pe_bl rfl)
       (pss_cons (ps_set (i := 1) sc_Poll_close.nd rfl (.inl rfl) (pe_meth0 (pv 0) T.c_Poll T.m_Poll_best (ok_Poll_best T) (hr.mono (by decide)) T.b_Poll_best .nil pass0))
       (pss_one (ps_ret (pe_ifExp (pt_cmpR op_notN (pv 1) pe_non (nomark _)) (pe_ix ix_list (pe_fld (pv 0) rfl) (pv 1) (fun _ _ => rfl)) pe_non))))), ?_⟩
    refine red (σ' := [some (.ref x), none]) rfl ?_
    dsimp only [cxOf]
    walk_at "go"
    refine ⟨x, a.C_Poll, dx, _, rfl, I.x_, T.c_Poll, T.n_Poll_closed, by show 5 < 1000; decide, ?_⟩
    rw [wf_close]
    obtain ⟨xs, hp, hd⟩ := I.p_
    have kp : KeepT H (upd H x (.ins a.C_Poll dx (wf n d p v true))) := KeepT.put I.x_ ⟨fun _ e => (by cases e), fun _ _ e => (by cases e)⟩
    have nn : n ≠ x := ne_of I.n_ I.x_ (by intro z; cases z)
    have ndd : d ≠ x := ne_of I.d_ I.x_ (by intro z; cases z)
    have np : p ≠ x := ne_of hp I.x_ (by intro z; cases z)
    have nv : v ≠ x := ne_of I.v_ I.x_ (by intro z; cases z)
    have I1 : Pl K a x dx n d p v nm nd pr vt true (upd H x (.ins a.C_Poll dx (wf n d p v true))) := ⟨upd_same, (upd_ne nn).trans I.n_, (upd_ne ndd).trans I.d_, ⟨xs, (upd_ne np).trans hp, dpAll_keep kp _ (noL_prs pr) hd⟩, (upd_ne nv).trans I.v_⟩
    have rl : ∀ b o, b ≠ x → H b = some o → upd H x (.ins a.C_Poll dx (wf n d p v true)) b = some o := fun b o hb h => (upd_ne hb).trans h
    generalize upd H x (.ins a.C_Poll dx (wf n d p v true)) = H1 at I1 rl
    clear kp nn ndd np nv hp hd I
    walk_at "go"
    refine ⟨x, _, _, rfl, I1.x_, wf_no (by decide +kernel) (by decide +kernel) (by decide +kernel) (by decide +kernel) (by decide +kernel), ?_⟩
    walk_at "go"
    refine ⟨x, dx, n, d, p, v, nm, nd, pr, vt, true, rfl, I1, nl, dl, pn, fun H2 s2 => ?_⟩
    replace I1 := I1.same s2
    replace rl := fun b o hb h => s2 b o (rl b o hb h)
    replace q := fun r => q H2 r I1 rl
    obtain ⟨xs, hp, hd⟩ := I1.p_
    have hlt := fun k (h : Po.best vt nm nd pr = some k) => Po.best_lt h
    cases hb : Po.best vt nm nd pr with
    | none =>
      rw [hb] at q
      show gName 1 .non _ _ _
      walk_at "go"
      refine iteF ?_
      walk_at "go"
      exact q .non .non
    | some k =>
      rw [hb] at q
      have hk := hlt k hb
      show gName 1 (.int (k : Nat)) _ _ _
      walk_at "go"
      refine iteT ?_
      walk_at "go"
      refine ⟨x, _, _, _, _, rfl, I1.x_, T.c_Poll, T.n_Poll_proposals, wf_p, ?_⟩
      obtain ⟨u, hu, du⟩ := dpAll_at (i := k) hd (d := prD (pr.getD k (0, 0))) (by rw [List.getElem?_map, List.getElem?_eq_getElem hk, List.getD_eq_getElem?_getD, List.getElem?_eq_getElem hk]; rfl)
      walk_at "go"
      refine g_ixL (SqL.of hp) (atI_nat hu) ?_
      exact q u du
/-! ### the law's helpers -/
theorem g_makeS {C : Addr} {sp : Sp} {E : L2.St → XK} {t : TA} {σ : L2.St} {H : Hp} {Q : VK} (q : t σ H fun vs H1 => ∀ x dx, H1 x = none → H1 dx = none → dx ≠ x → sp (.ref x :: (vs ++ [])) (upd (upd H1 dx (.own x)) x (.ins C dx [])) (fun v H2 => v = .non ∧ Q (.ref x) H2) (E σ)) : tMakeS C sp E t σ H Q := q
theorem told_tup {C : Addr} {D : Ends} {Wo : WX} {r : List (Value × Option Nat × Suite)} {σ : L2.St} {H : Hp} {y : V} {tag : Str} {i : Nat} {f : Addr} (e : PySem.W.exmOne K (.ref C) (.ref C) = some true) (hi : i < σ.length) (hf : H f = some (.xd [("what", y)]))
    (q : ∀ H' r, Same H H' → H' r = some (.tup [.str tag, y]) → D.rt (.ref r) H') :
    WE (wCl K Wo D ((Value.ref C, some i, fun x cls d => tRet (tTup (tCons (tC (.str tag)) (tCons (tXf x cls d C "what" (tVar i)) tNil)))) :: r)) σ (.ref C) (some f) H := by
  refine ⟨true, e, fun _ b hb => ?_, fun z => by cases z⟩
  refine g_ret (g_tup (g_cons (g_c (g_cons (g_var (show (σ.set i (some (V.ref b)))[i]? = _ by rw [List.getElem?_set_self hi]) ⟨rfl, rfl, f, _, y, rfl, hf, lk_hd, g_nil ⟨by show 2 ≤ sizeLine; decide, fun r hr => ?_⟩⟩)))))
  exact q _ r (same_new hr) upd_same
def propD (cl : Bool) (pr : List (Nat × Nat)) (s l : Nat) : PyData := if cl = true then .str ("closed" : Str) else if l < 1 then .str ("bad" : Str) else if (s, l) ∈ pr then .tuple [.str ("taken" : Str), prD (s, l)] else .int (pr.length : Nat)
def propR (cl : Bool) (pr : List (Nat × Nat)) (s l : Nat) : List (Nat × Nat) := if cl = true ∨ l < 1 ∨ (s, l) ∈ pr then pr else pr ++ [(s, l)]
def sp_law_proposed (K : PySem.W.Frag) (a : Adr) : Sp := fun vs H Q _ => ∃ (x dx n d p v : Addr) (nm nd : List (List Nat)) (pr : List (Nat × Nat)) (vt : Po.VD) (c : Bool) (s l : Nat), vs = [.ref x, .int s, .int l] ∧ Pl K a x dx n d p v nm nd pr vt c H ∧ s < 1000000 ∧ l < 1000000 ∧ pr.length ≤ 1000 ∧
  ∀ H' r, Pl K a x dx n d p v nm nd (propR c pr s l) vt c H' → (∀ b o, b ≠ p → H b = some o → H' b = some o) → Dp K H' r (propD c pr s l) → Q r H'
theorem ok_law_proposed (T : Txt K mg a) : FnOk P w K mg base CX0 5 a.f_law_proposed a.d_law_proposed ["poll", "start", "length"] (sp_law_proposed K a) := by
  refine T.F_law_proposed.ok sc_law_proposed (fun vs H Q E h => ?_) (fun cdv A outer s H vs Q E hr h => ?_)
  · obtain ⟨x, dx, n, d, p, v, nm, nd, pr, vt, c, s, l, rfl, _⟩ := h
    rfl
  · obtain ⟨x, dx, n, d, p, v, nm, nd, pr, vt, c, s, l, rfl, I, s1, l1, pn, q⟩ := h
    refine ⟨_, (pss_one (ps_try_cl rfl rfl sc_law_proposed.nd takes0 (fun W pn xe tk _ => (pss_one (ps_ret (by exact (pe_methX (pv 0) T.c_Poll T.m_Poll_propose (ok_Poll_propose T) (hr.mono (by decide)) T.b_Poll_propose (fun σ => passAt tk σ) (by exact (pa_cons (pv 1) (pa_cons (pv 2) pa_nil)))))))) (ClOk.bare ⟨rfl, by decide, .inl T.g_NotAllowed⟩ (fun x oe cls d pn hz hf => (pss_one (ps_ret pe_str))) (ClOk.bare ⟨rfl, by decide, .inl T.g_BadSeries⟩ (fun x oe cls d pn hz hf => (pss_one (ps_ret pe_str))) (ClOk.named (i := 3) ⟨rfl, by decide, .inl T.g_Taken⟩ rfl rfl (fun x oe cls d pn hz hf => (pss_one (ps_ret (pe_tup (pa_cons pe_str (pa_cons (pe_xf T.y_Taken (T.n_Taken_what) hz hf (pv 3)) pa_nil)))))) ClOk.nil))))), ?_⟩
    refine red (σ' := [some (.ref x), some (.int s), some (.int l), none]) rfl ?_
    dsimp only [cxOf]
    walk_at "go"
    refine ⟨x, _, _, rfl, I.x_, wf_no (by decide +kernel) (by decide +kernel) (by decide +kernel) (by decide +kernel) (by decide +kernel), ?_⟩
    walk_at "go"
    refine ⟨x, dx, n, d, p, v, nm, nd, pr, vt, c, s, l, rfl, I, s1, l1, pn, fun hc => ?_, fun hc hl => ?_, fun hc hl hm H' f t sm hf ht => ?_, fun hc hl hm H' I2 rl => ?_⟩
    · refine ⟨true, T.e_NotAllowed_NotAllowed, fun _ b hb => ?_, (fun z => nomatch z)⟩
      refine q H (.str "closed") ?_ (fun b o _ h => h) ?_
      · unfold propR; rw [if_pos (.inl hc)]; exact I
      · unfold propD; rw [if_pos hc]; exact .str _
    · refine ⟨false, T.e_BadSeries_NotAllowed, (fun z => nomatch z), fun _ => ⟨true, T.e_BadSeries_BadSeries, fun _ b hb => ?_, (fun z => nomatch z)⟩⟩
      refine q H (.str "bad") ?_ (fun b o _ h => h) ?_
      · unfold propR; rw [if_pos (.inr (.inl (by omega)))]; exact I
      · unfold propD; rw [hc, if_neg (by decide), if_pos (by omega)]; exact .str _
    · refine ⟨false, T.e_Taken_NotAllowed, (fun z => nomatch z), fun _ => ⟨false, T.e_Taken_BadSeries, (fun z => nomatch z), fun _ => ?_⟩⟩
      refine told_tup T.e_Taken_Taken (by show 3 < 4; decide) hf fun H2 r s2 hr => ?_
      refine q H2 (.ref r) ?_ (fun b o _ h => s2 _ _ (sm _ _ h)) ?_
      · unfold propR; rw [if_pos (.inr (.inr hm))]; exact (I.same sm).same s2
      · unfold propD; rw [hc, if_neg (by decide), if_neg (by omega), if_pos hm]
        exact .tup (SqT.of hr) (.cons (.str _) (.cons (.tup (SqT.of (s2 _ _ ht)) (.cons (.int _) (.cons (.int _) .nil))) .nil))
    · refine q H' _ ?_ rl ?_
      · unfold propR; rw [if_neg (fun z => z.elim (fun z => by rw [hc] at z; cases z) fun z => z.elim (fun z => by omega) hm)]; exact I2
      · unfold propD; rw [hc, if_neg (by decide), if_neg (by omega), if_neg hm]; exact .int _
def voteD (cl : Bool) (nm : List (List Nat)) (m : Nat) (z : List Nat) (k : Int) (u : List Nat) : PyData := if cl = true then .str ("closed" : Str) else if z ∉ nm then .tuple [.str ("none" : Str), .str (S z)] else if ¬ (0 ≤ k ∧ k < (m : Nat)) then .tuple [.str ("none" : Str), .int k] else if u ∉ VTS then .str ("bad" : Str) else .none
def voteR (cl : Bool) (nm : List (List Nat)) (m : Nat) (vt : Po.VD) (z : List Nat) (k : Int) (u : List Nat) : Po.VD := if cl = false ∧ z ∈ nm ∧ (0 ≤ k ∧ k < (m : Nat)) ∧ u ∈ VTS then Po.pt vt (z, k.toNat) u else vt
def sp_law_voted (K : PySem.W.Frag) (a : Adr) : Sp := fun vs H Q _ => ∃ (x dx n d p v : Addr) (nm nd : List (List Nat)) (pr : List (Nat × Nat)) (vt : Po.VD) (c : Bool) (z : List Nat) (k : Int) (u : List Nat), vs = [.ref x, .str (S z), .int k, .str (S u)] ∧ Pl K a x dx n d p v nm nd pr vt c H ∧
  z.length ≤ 1000 ∧ Told (.int k) ∧ vt.length ≤ 100000 ∧
  ∀ H' r, Pl K a x dx n d p v nm nd pr (voteR c nm pr.length vt z k u) c H' → (∀ b o, b ≠ v → H b = some o → H' b = some o) → Dp K H' r (voteD c nm pr.length z k u) → Q r H'
theorem ok_law_voted (T : Txt K mg a) : FnOk P w K mg base CX0 5 a.f_law_voted a.d_law_voted ["poll", "name", "number", "word"] (sp_law_voted K a) := by
  refine T.F_law_voted.ok sc_law_voted (fun vs H Q E h => ?_) (fun cdv A outer s H vs Q E hr h => ?_)
  · obtain ⟨x, dx, n, d, p, v, nm, nd, pr, vt, c, z, k, u, rfl, _⟩ := h
    rfl
  · obtain ⟨x, dx, n, d, p, v, nm, nd, pr, vt, c, z, k, u, rfl, I, zl, tk, vl, q⟩ := h
    refine ⟨_, (pss_one (ps_try_cl rfl rfl sc_law_voted.nd takes0 (fun W pn xe tk _ => (pss_one (ps_ret (by exact (pe_methX (pv 0) T.c_Poll T.m_Poll_vote (ok_Poll_vote T) (hr.mono (by decide)) T.b_Poll_vote (fun σ => passAt tk σ) (by exact (pa_cons (pv 1) (pa_cons (pv 2) (pa_cons (pv 3) pa_nil))))))))) (ClOk.bare ⟨rfl, by decide, .inl T.g_NotAllowed⟩ (fun x oe cls d pn hz hf => (pss_one (ps_ret pe_str))) (ClOk.bare ⟨rfl, by decide, .inl T.g_BadName⟩ (fun x oe cls d pn hz hf => (pss_one (ps_ret pe_str))) (ClOk.named (i := 4) ⟨rfl, by decide, .inl T.g_NoSuch⟩ rfl rfl (fun x oe cls d pn hz hf => (pss_one (ps_ret (pe_tup (pa_cons pe_str (pa_cons (pe_xf T.y_NoSuch (T.n_NoSuch_what) hz hf (pv 4)) pa_nil)))))) ClOk.nil))))), ?_⟩
    refine red (σ' := [some (.ref x), some (.str (S z)), some (.int k), some (.str (S u)), none]) rfl ?_
    dsimp only [cxOf]
    walk_at "go"
    refine ⟨x, _, _, rfl, I.x_, wf_no (by decide +kernel) (by decide +kernel) (by decide +kernel) (by decide +kernel) (by decide +kernel), ?_⟩
    walk_at "go"
    refine ⟨x, dx, n, d, p, v, nm, nd, pr, vt, c, z, k, u, rfl, I, zl, tk, vl, fun hc => ?_, fun hc hz => ?_, fun hc hz hk => ?_, fun hc hz h0 h1 hu => ?_, fun hc hz h0 h1 hu H' I2 rl => ?_⟩
    · refine ⟨true, T.e_NotAllowed_NotAllowed, fun _ b hb => ?_, (fun z => nomatch z)⟩
      refine q H (.str "closed") ?_ (fun b o _ h => h) ?_
      · unfold voteR; rw [if_neg (fun z => by rw [hc] at z; exact absurd z.1 (by decide))]; exact I
      · unfold voteD; rw [if_pos hc]; exact .str _
    · intro H' f sm hf
      refine ⟨false, T.e_NoSuch_NotAllowed, (fun z => nomatch z), fun _ => ⟨false, T.e_NoSuch_BadName, (fun z => nomatch z), fun _ => ?_⟩⟩
      refine told_tup T.e_NoSuch_NoSuch (by show 4 < 5; decide) hf fun H2 r s2 hr => ?_
      refine q H2 (.ref r) ?_ (fun b o _ h => s2 _ _ (sm _ _ h)) ?_
      · unfold voteR; rw [if_neg (fun y => hz y.2.1)]; exact (I.same sm).same s2
      · unfold voteD; rw [hc, if_neg (by decide), if_pos hz]
        exact .tup (SqT.of hr) (.cons (.str _) (.cons (.str _) .nil))
    · intro H' f sm hf
      refine ⟨false, T.e_NoSuch_NotAllowed, (fun z => nomatch z), fun _ => ⟨false, T.e_NoSuch_BadName, (fun z => nomatch z), fun _ => ?_⟩⟩
      refine told_tup T.e_NoSuch_NoSuch (by show 4 < 5; decide) hf fun H2 r s2 hr => ?_
      refine q H2 (.ref r) ?_ (fun b o _ h => s2 _ _ (sm _ _ h)) ?_
      · unfold voteR; rw [if_neg (fun y => hk y.2.2.1)]; exact (I.same sm).same s2
      · unfold voteD; rw [hc, if_neg (by decide), if_neg (fun y => y hz), if_pos hk]
        exact .tup (SqT.of hr) (.cons (.str _) (.cons (.int _) .nil))
    · refine ⟨false, T.e_BadName_NotAllowed, (fun z => nomatch z), fun _ => ⟨true, T.e_BadName_BadName, fun _ b hb => ?_, (fun z => nomatch z)⟩⟩
      refine q H (.str "bad") ?_ (fun b o _ h => h) ?_
      · unfold voteR; rw [if_neg (fun y => hu y.2.2.2)]; exact I
      · unfold voteD; rw [hc, if_neg (by decide), if_neg (fun y => y hz), if_neg (fun y => y ⟨h0, h1⟩), if_pos hu]; exact .str _
    · refine q H' .non ?_ rl ?_
      · unfold voteR; rw [if_pos ⟨hc, hz, ⟨h0, h1⟩, hu⟩]; exact I2
      · unfold voteD; rw [hc, if_neg (by decide), if_neg (fun y => y hz), if_neg (fun y => y ⟨h0, h1⟩), if_neg (fun y => y hu)]; exact .non
def sp_law_made_poll (K : PySem.W.Frag) : Sp := fun vs H Q _ => ∃ (ln ld : Addr) (nm nd : List (List Nat)), vs = [.ref ln, .ref ld] ∧ H ln = some (.lst (sv nm)) ∧ H ld = some (.lst (sv nd)) ∧ nm.length ≤ 100 ∧ nd.length ≤ 100 ∧ (∀ z ∈ nm, z.length ≤ 100) ∧ ¬ nmsOk nm nd ∧
  ∀ H', Same H H' → Q .non H'
theorem ok_law_made_poll (T : Txt K mg a) : FnOk P w K mg base CX0 5 a.f_law_made_poll a.d_law_made_poll ["names", "needed"] (sp_law_made_poll K) := by
  refine T.F_law_made_poll.ok sc_law_made_poll (fun vs H Q E h => ?_) (fun cdv A outer s H vs Q E hr h => ?_)
  · obtain ⟨ln, ld, nm, nd, rfl, _⟩ := h
    rfl
  · obtain ⟨ln, ld, nm, nd, rfl, hln, hld, n1, n2, nl, bad, q⟩ := h
    refine ⟨_, (pss_one (ps_try_cl rfl rfl sc_law_made_poll.nd takes0 (fun W pn xe tk _ => (pss_one (ps_ret (by exact (pe_makeS T.M_Poll (ok_Poll_init T) (hr.mono (by decide)) (by rfl) T.g_Poll T.b_Poll_init (fun σ => passAt tk σ) (by exact (pa_cons (pv 0) (pa_cons (pv 1) pa_nil)))))))) (ClOk.bare ⟨rfl, by decide, .inl T.g_BadName⟩ (fun x oe cls d pn hz hf => (pss_one (ps_ret pe_non))) ClOk.nil))), ?_⟩
    refine red (σ' := [some (.ref ln), some (.ref ld)]) rfl ?_
    dsimp only [cxOf]
    walk_at "go"
    refine g_makeS ?_
    walk_at "go"
    intro x dx hx hdx hne
    have sm : Same H (upd (upd H dx (.own x)) x (.ins a.C_Poll dx [])) := (same_new hdx).trans (same_new ((upd_ne hne.symm).trans hx))
    refine ⟨x, dx, ln, ld, nm, nd, rfl, upd_same, sm _ _ hln, sm _ _ hld, n1, n2, nl, fun _ H' rl => ?_, fun z => absurd z bad⟩
    refine ⟨true, T.e_BadName_BadName, fun _ b hb => ?_, (fun z => nomatch z)⟩
    exact q H' fun b o h => rl b o (ne_of_none h hx) (sm b o h)
end
section
variable {P : Program} {w : World} {K : PySem.W.Frag} {mg : Str → Option Value} {base : Heap} {a : Adr}
def RelT (t : Addr) (H H' : Hp) : Prop := ∀ b o, b ≠ t → H b = some o → H' b = some o
theorem RelT.refl (t : Addr) (H : Hp) : RelT t H H := fun _ _ _ h => h
theorem RelT.of {t : Addr} {H H' : Hp} (h : Same H H') : RelT t H H' := fun b o _ e => h b o e
theorem RelT.trans {t : Addr} {H H1 H2 : Hp} (h : RelT t H H1) (g : RelT t H1 H2) : RelT t H H2 := fun b o n e => g b o n (h b o n e)
/-! ### the tape -/
def Tp (t c : Addr) (ns : List Int) (H : Hp) : Prop := (∃ k r, 0 ≤ k ∧ 0 ≤ r ∧ H t = some (tp c k r)) ∧ H c = some (.lst (ns.map V.int))
theorem Tp.same {t c : Addr} {ns : List Int} {H H' : Hp} (h : Tp t c ns H) (g : Same H H') : Tp t c ns H' := by
  obtain ⟨⟨k, r, k0, r0, ht⟩, hc⟩ := h
  exact ⟨⟨k, r, k0, r0, g _ _ ht⟩, g _ _ hc⟩
theorem Tp.new {t c : Addr} {ns : List Int} {H : Hp} (h : Tp t c ns H) {p : Addr} {o : HO} (hp : H p = none) : Tp t c ns (upd H p o) := h.same (same_new hp)
theorem ne_ints {c k r} {ns : List Int} : HO.lst (ns.map V.int) ≠ tp c k r := by intro z; unfold tp at z; cases ns <;> simp at z
theorem Tp.draw {K : PySem.W.Frag} {t c : Addr} {ns : List Int} {H : Hp} (I : Tp t c ns H) {n : Int} (n0 : 0 < n) (n1 : n < 1073741824) {Q : VK} {X : XK}
    (q : ∀ d H', 0 ≤ d → d < n → Tp t c ns H' → RelT t H H' → Q (.int d) H') : sp_law_draw K [.ref t, .int n] H Q X := by
  obtain ⟨⟨k, r, k0, r0, ht⟩, hc⟩ := I
  exact ⟨t, c, n, k, r, ns, rfl, n0, n1, ht, hc, k0, r0, fun d k' r' d0 d1 k0' r0' => q d _ d0 d1 ⟨⟨k', r', k0', r0', upd_same⟩, (upd_ne (ne_of hc ht ne_ints)).trans hc⟩ fun b o hb h => (upd_ne hb).trans h⟩
theorem Tp.ne {t c : Addr} {ns : List Int} {H : Hp} (I : Tp t c ns H) {b : Addr} {o : HO} (h : H b = some o) (hn : ∀ k r, o ≠ tp c k r) : b ≠ t := by
  obtain ⟨⟨k, r, _, _, ht⟩, _⟩ := I
  exact ne_of h ht (hn k r)
theorem Tp.ne_none {t c : Addr} {ns : List Int} {H : Hp} (I : Tp t c ns H) {b : Addr} (h : H b = none) : b ≠ t := by
  obtain ⟨⟨k, r, _, _, ht⟩, _⟩ := I
  exact (ne_of_none ht h).symm
theorem Tp.made {t c : Addr} {ns : List Int} {H : Hp} (hc : H c = none) (ht : H t = none) (ct : c ≠ t) : Tp t c ns (upd (upd H c (.lst (ns.map V.int))) t (tp c 0 0)) :=
  ⟨⟨0, 0, by decide, by decide, upd_same⟩, (upd_ne ct).trans upd_same⟩
def sp_law_same (K : PySem.W.Frag) : Sp := fun vs H Q _ => ∃ b : Bool, vs = [.bl b, .bl b] ∧ Q (.bl true) H
theorem ok_law_same (T : Txt K mg a) : FnOk P w K mg base CX0 1 a.f_law_same a.d_law_same ["told", "due"] (sp_law_same K) := by
  refine T.F_law_same.ok sc_law_same (fun vs H Q E h => ?_) (fun cdv A outer s H vs Q E hr h => ?_)
  · obtain ⟨b, rfl, _⟩ := h
    rfl
  · obtain ⟨b, rfl, q⟩ := h
    refine ⟨_, (pss_one (ps_ret (pe_and (pe_callB (show CallR _ _ (rIsi K) from call_isi) (by rfl) T.z_isinstance (by decide +kernel) (pa_cons (pv 0) (pa_cons (pe_bltn (v := .ty "bool") (by rfl) T.z_bool (by decide +kernel) rfl) pa_nil))) (pe_one (pe_cmpR (op_eqD (hr.units)) (pv 0) (pv 1) (nomark _)))))), ?_⟩
    refine red (σ' := [some (.bl b), some (.bl b)]) rfl ?_
    dsimp only [cxOf]
    walk_at "go"
    refine ⟨.bl b, .ty "bool", .type "bool", .type "bool", true, rfl, .ty "bool", .base (.bl b), by unfold PySem.W.kitOne; rw [if_pos (beq_self_eq_true _)], ?_⟩
    refine ⟨true, rfl, ?_⟩
    rw [if_pos rfl]
    walk_at "go"
    exact ⟨.bool b, .bool b, .bl b, .bl b, by cases b <;> rfl, by cases b <;> rfl, by rw [show PyData.eqv (.bool b) (.bool b) = true by cases b <;> rfl]; exact q⟩
abbrev SIX : List (List Nat) := [[97, 110, 110], [98, 111, 98], [99, 121], [100, 101, 101], [101, 118, 101, 50], [120, 57]]
theorem sv_erase : ∀ (l : List (List Nat)) (k : Nat), (sv l).eraseIdx k = sv (l.eraseIdx k)
  | [], _ => rfl
  | _ :: _, 0 => rfl
  | x :: l, k + 1 => by
    show V.str (S x) :: (sv l).eraseIdx k = V.str (S x) :: sv (l.eraseIdx k)
    rw [sv_erase l k]
theorem erase_perm {l : List (List Nat)} {k : Nat} (h : k < l.length) : (l[k] :: l.eraseIdx k).Perm l := by
  rw [List.eraseIdx_eq_take_drop_succ]
  have e : l = l.take k ++ l[k] :: l.drop (k + 1) := by rw [List.getElem_cons_drop h, List.take_append_drop]
  exact List.perm_middle.symm.trans (by rw [← e])
theorem ne_sv {c : Addr} {k r : Int} {ws : List (List Nat)} : HO.lst (sv ws) ≠ tp c k r := by intro z; unfold tp at z; cases ws <;> simp at z
def sp_law_names (K : PySem.W.Frag) : Sp := fun vs H Q _ => ∃ (t c : Addr) (ns : List Int) (m : Nat), vs = [.ref t, .int m] ∧ Tp t c ns H ∧ m ≤ 4 ∧
  ∀ H' L nm, Tp t c ns H' → RelT t H H' → H' L = some (.lst (sv nm)) → H L = none → nm.length = m → nm.Nodup → (∀ z ∈ nm, z ∈ SIX) → Q (.ref L) H'
theorem ok_law_names (T : Txt K mg a) : FnOk P w K mg base CX0 2 a.f_law_names a.d_law_names ["tape", "many"] (sp_law_names K) := by
  refine T.F_law_names.ok sc_law_names (fun vs H Q E h => ?_) (fun cdv A outer s H vs Q E hr h => ?_)
  · obtain ⟨t, c, ns, m, rfl, _⟩ := h
    rfl
  · obtain ⟨t, c, ns, m, rfl, I, m4, q⟩ := h
    refine ⟨_, (pss_cons (ps_set (i := 2) sc_law_names.nd rfl (.inl rfl) (pe_lst (pa_cons pe_str (pa_cons pe_str (pa_cons pe_str (pa_cons pe_str (pa_cons pe_str (pa_cons pe_str pa_nil))))))))
       (pss_cons (ps_set (i := 3) sc_law_names.nd rfl (.inl rfl) (pe_lst pa_nil))
       (pss_cons (ps_for PassesOwn.never rfl (pi_range1 (by rfl) T.z_range (pa_cons (pv 1) pa_nil)) (pg_name (i := 4) sc_law_names.nd rfl (.inl rfl))
       (pss_one (ps_expr (pe_bm PySem.F.plainAttrs_list PySem.F.slot_list_append PySem.F.type_list_append mt_append (pv 3) (pa_cons (pe_bm PySem.F.plainAttrs_list PySem.F.slot_list_pop PySem.F.type_list_pop mt_popAt (pv 2) (pa_cons (pe_call (ok_law_draw T) (hr.mono (by decide)) (by rfl) T.g_law_draw T.F_law_draw.kp T.b_law_draw .nil pass0 (pa_cons (pv 0) (pa_cons (pe_callB call_len_seq (by rfl) T.z_len (by decide +kernel) (pa_cons (pv 2) pa_nil)) pa_nil))) pa_nil)) pa_nil)))))
       (pss_one (ps_ret (pv 3)))))), ?_⟩
    refine red (σ' := [some (.ref t), some (.int m), none, none, none]) rfl ?_
    dsimp only [cxOf]
    walk_at "go"
    refine nwL (ys := sv SIX) rfl (by show 6 ≤ 1000000; decide) fun L H1 hL0 s1 hL => ?_
    walk_at "go"
    refine nwL (ys := sv []) rfl (by decide) fun F H2 hF0 s2 hF => ?_
    have nLF : L ≠ F := ne_of_none hL hF0
    have I2 := (I.same s1).same s2
    have tL : L ≠ t := (I.ne_none hL0)
    have hFH : H F = none := by
      cases e : H F with
      | none => rfl
      | some o => rw [s1 _ _ e] at hF0; cases hF0
    have tF : F ≠ t := (I.ne_none hFH)
    have cL : c ≠ L := ne_of_none I.2 hL0
    have cF : c ≠ F := ne_of_none I.2 hFH
    walk_at "go"
    refine ⟨_, rfl, by omega, by omega, ?_⟩
    rw [Int.toNat_natCast]
    refine for_range (lo := 0) (n := m) (fun i σ' H' => ∃ (pl fd : List (List Nat)) (y4 : Option V), σ' = [some (.ref t), some (.int m), some (.ref L), some (.ref F), y4] ∧ Tp t c ns H' ∧ (∀ b o, b ≠ t → b ≠ L → b ≠ F → H2 b = some o → H' b = some o) ∧ H' L = some (.lst (sv pl)) ∧ H' F = some (.lst (sv fd)) ∧ (fd ++ pl).Nodup ∧ (∀ z ∈ fd ++ pl, z ∈ SIX) ∧ fd.length = i ∧ pl.length + i = 6)
      ⟨SIX, [], _, rfl, I2, fun b o _ _ _ h => h, s2 _ _ hL, hF, by decide, fun z h => h, rfl, rfl⟩ ?_ ?_
    · rintro i σ' H3 hi ⟨pl, fd, y4, rfl, I3, rl, hL3, hF3, nd, six, fl, pll⟩
      walk_at "go"
      refine ⟨.inl ⟨rfl, _, SqL.of hF3⟩, ?_⟩
      walk_at "go"
      refine ⟨.inl ⟨rfl, _, SqL.of hL3⟩, ?_⟩
      walk_at "go"
      rw [List.length_map]
      refine I3.draw (by omega) (by omega) fun d H4 d0 d1 I4 rel => ?_
      obtain ⟨k, rfl⟩ := Int.eq_ofNat_of_zero_le d0
      have hk : k < pl.length := by omega
      have hL4 := rel _ _ tL hL3
      have hF4 := rel _ _ tF hF3
      walk_at "go"
      refine ⟨L, sv pl, (k : Nat), k, .str (S pl[k]), rfl, rfl, hL4, by omega, by omega, ?_, ?_, ?_⟩
      · unfold seqIndex?
        rw [List.length_map]
        simp
        omega
      · rw [List.getElem?_map, List.getElem?_eq_getElem hk]; rfl
      · rw [sv_erase]
        walk_at "go"
        refine ⟨F, _, _, rfl, rfl, (upd_ne nLF.symm).trans hF4, by have := sizeBig; rw [List.length_map]; omega, ?_⟩
        have e1 : (sv fd ++ [V.str (S pl[k])]) = sv (fd ++ [pl[k]]) := sv_app fd [pl[k]]
        rw [e1]
        have pm : (fd ++ [pl[k]] ++ pl.eraseIdx k).Perm (fd ++ pl) := by
          rw [List.append_assoc]
          exact (erase_perm hk).append_left fd
        refine ⟨pl.eraseIdx k, fd ++ [pl[k]], _, rfl, ?_, fun b o h1 h2 h3 h => (upd_ne h3).trans ((upd_ne h2).trans (rel _ _ h1 (rl b o h1 h2 h3 h))), (upd_ne nLF).trans upd_same, upd_same, pm.nodup_iff.mpr nd, fun z hz => six z (pm.mem_iff.mp hz), by rw [List.length_append, fl]; rfl, by rw [List.length_eraseIdx, if_pos hk]; omega⟩
        obtain ⟨⟨k1, r1, k0, r0, ht⟩, hc⟩ := I4
        exact ⟨⟨k1, r1, k0, r0, (upd_ne tF.symm).trans ((upd_ne tL.symm).trans ht)⟩, (upd_ne cF).trans ((upd_ne cL).trans hc)⟩
    · rintro σ' H3 ⟨pl, fd, y4, rfl, I3, rl, hL3, hF3, nd, six, fl, pll⟩
      walk_at "go"
      exact q H3 F fd I3 (fun b o hb h => rl b o hb (ne_of_none h hL0) (ne_of_none h hFH) (s2 _ _ (s1 _ _ h))) hF3 hFH fl (List.Nodup.sublist (List.sublist_append_left _ _) nd) fun z hz => six z (List.mem_append_left _ hz)
end
section
variable {P : Program} {w : World} {K : PySem.W.Frag} {mg : Str → Option Value} {base : Heap} {a : Adr}
theorem wd_val (vt : Po.VD) (z : List Nat) (k : Nat) : (Option.map (fun z => V.str (S z)) (Po.gt vt (z, k))).getD (V.str (Str.ofString "")) = .str (S (Po.wd vt z k)) := by
  unfold Po.wd
  cases Po.gt vt (z, k) with
  | none => rfl
  | some y => rfl
theorem words_more {vt : Po.VD} {nm : List (List Nat)} {i k : Nat} {z : List Nat} (h : nm[i]? = some z) : sv (Po.words vt (nm.take (i + 1)) k) = sv (Po.words vt (nm.take i) k) ++ [.str (S (Po.wd vt z k))] := by
  unfold Po.words
  rw [take_more h, List.map_append]
  exact (sv_app _ [Po.wd vt z k]).symm
theorem words_len (vt : Po.VD) (nm : List (List Nat)) (k : Nat) : (sv (Po.words vt nm k)).length = nm.length := by
  unfold Po.words
  rw [List.length_map, List.length_map]
theorem words_S (vt : Po.VD) (nm : List (List Nat)) (k : Nat) : sv (Po.words vt nm k) = ((Po.words vt nm k).map S).map V.str := by
  rw [List.map_map]; rfl
theorem count_S (ws : List (List Nat)) (u : List Nat) : (ws.map S).count (S u) = ws.count u := by
  rw [List.count_eq_countP, List.countP_map, List.count_eq_countP]
  apply List.countP_congr
  intro x _
  simp only [Function.comp, beq_iff_eq]
  exact ⟨fun h => S_inj h, fun h => by rw [h]⟩
theorem poss_in (b : Bool) : (inV (V.bl false) ([b].map V.bl)) = !b := by cases b <;> rfl
theorem inV_bl (f : List Nat → Bool) : ∀ ws : List (List Nat), inV (.bl false) ((ws.map f).map V.bl) = !(ws.all f)
  | [] => rfl
  | x :: ws => by
    have ih := inV_bl f ws
    unfold inV at ih ⊢
    rw [List.map_cons, List.map_cons, List.any_cons, ih, List.all_cons]
    cases f x <;> rfl
def sp_law_best (K : PySem.W.Frag) : Sp := fun vs H Q _ => ∃ (r v n d : Addr) (nm nd : List (List Nat)) (pr : List (Nat × Nat)) (vt : Po.VD) (rs : List V), vs = [.ref r, .ref v, .ref n, .ref d] ∧ H r = some (.lst rs) ∧ DpAll K H rs (pr.map prD) ∧ H v = some (.dT (Po.enc vt)) ∧
  H n = some (.lst (sv nm)) ∧ H d = some (.lst (sv nd)) ∧ nm.length ≤ 100 ∧ nd.length ≤ 100 ∧ pr.length ≤ 1000 ∧ ∀ H', Same H H' → Q (bestV (Po.best vt nm nd pr)) H'
theorem ok_law_best (T : Txt K mg a) : FnOk P w K mg base CX0 2 a.f_law_best a.d_law_best ["rows", "votes", "names", "needed"] (sp_law_best K) := by
  refine T.F_law_best.ok sc_law_best (fun vs H Q E h => ?_) (fun cdv A outer s H vs Q E hr h => ?_)
  · obtain ⟨r, v, n, d, nm, nd, pr, vt, rs, rfl, _⟩ := h
    rfl
  · obtain ⟨r, v, n, d, nm, nd, pr, vt, rs, rfl, hr1, hrs, hv, hn, hd, nl, dl, pn, q⟩ := h
    refine ⟨_, (pss_cons (ps_set (i := 4) sc_law_best.nd rfl (.inl rfl) (pe_lst pa_nil))
       (pss_cons (ps_for PassesOwn.never rfl (pi_range1 (by rfl) T.z_range (pa_cons (pe_callB call_len_seq (by rfl) T.z_len (by decide +kernel) (pa_cons (pv 0) pa_nil)) pa_nil)) (pg_name (i := 5) sc_law_best.nd rfl (.inr rfl))
       (pss_cons (ps_setLc (i := 6) (own := [("name", 7)]) (g := (gName 7)) rfl sc_law_best.nd rfl rfl (sw_true rfl rfl rfl (by decide +kernel)) (pi_list (pv 2)) (blkOk_by (own := [("name", 7)]) (N := ["rows", "votes", "names", "needed", "found", "k", "words", "name"]) (sc := defScope s_law_best) (by decide +kernel)) (fun _ _ _ _ _ => (pg_name (i := 7) sc_law_best.nd rfl (.inl rfl))) (fun _ _ _ _ _ => pts_nil) (fun _ _ _ _ _ => (pe_dget2 (hu_of hr) (pv 1) (pe_tup (pa_cons (pv 7) (pa_cons (pv 5) pa_nil))) pe_str ⟨rfl, rfl, rfl, rfl⟩)))
       (pss_one (ps_if (pt_cmpR op_notIn_seq pe_bl (pe_lc (own := [("name", 7)]) (g := (gName 7)) rfl sc_law_best.nd (pi_list (pv 3)) (blkOk_by (own := [("name", 7)]) (N := ["rows", "votes", "names", "needed", "found", "k", "words", "name"]) (sc := defScope s_law_best) (by decide +kernel)) (fun _ _ _ _ _ => (pg_name (i := 7) sc_law_best.nd rfl (.inl rfl))) (fun _ _ _ _ _ => pts_nil) (fun _ _ _ _ _ => (pe_cmpR (show OpR _ _ (rIn K false) from op_in_seq) (pe_dget2 (hu_of hr) (pv 1) (pe_tup (pa_cons (pv 7) (pa_cons (pv 5) pa_nil))) pe_str ⟨rfl, rfl, rfl, rfl⟩) (pe_lst (pa_cons pe_str (pa_cons pe_str pa_nil))) rfl))) rfl)
       (pss_one (ps_expr (pe_bm PySem.F.plainAttrs_list PySem.F.slot_list_append PySem.F.type_list_append mt_append (pv 4) (pa_cons (pe_tup (pa_cons (pe_op op_sub pe_int (pe_bm PySem.F.plainAttrs_list PySem.F.slot_list_count PySem.F.type_list_count mt_lcountS (pv 6) (pa_cons pe_str pa_nil))) (pa_cons (pe_bm PySem.F.plainAttrs_list PySem.F.slot_list_count PySem.F.type_list_count mt_lcountS (pv 6) (pa_cons pe_str pa_nil)) (pa_cons (pe_ix ix_tup (pe_ix ix_list (pv 0) (pv 5) (fun _ _ => rfl)) pe_int (fun _ _ => rfl)) (pa_cons (pe_ix ix_tup (pe_ix ix_list (pv 0) (pv 5) (fun _ _ => rfl)) pe_int (fun _ _ => rfl)) (pa_cons (pv 5) pa_nil)))))) pa_nil))))
       pss_nil))))
       (pss_one (ps_ret (pe_ifExp (pt_cmpR op_gt (pe_callB call_len_seq (by rfl) T.z_len (by decide +kernel) (pa_cons (pv 4) pa_nil)) pe_int (nomark _)) (pe_ix ix_tup (pe_callB (cr_minD rfl hr.units) (by rfl) T.z_min (by decide +kernel) (pa_cons (pv 4) pa_nil)) pe_int (fun _ _ => rfl)) pe_non))))), ?_⟩
    refine red (σ' := [some (.ref r), some (.ref v), some (.ref n), some (.ref d), none, none, none, none]) rfl ?_
    dsimp only [cxOf]
    walk_at "go"
    refine nwL (ys := []) rfl (by decide) fun F H1 hF0 s1 hF => ?_
    have rF : r ≠ F := ne_of_none hr1 hF0
    have vF : v ≠ F := ne_of_none hv hF0
    have nF : n ≠ F := ne_of_none hn hF0
    have dF : d ≠ F := ne_of_none hd hF0
    have hrl := dpAll_len hrs
    rw [List.length_map] at hrl
    walk_at "go"
    refine ⟨r, rs, rfl, .inl (SqL.of (s1 _ _ hr1)), ?_⟩
    walk_at "go"
    rw [hrl]
    refine ⟨_, rfl, by omega, by omega, ?_⟩
    rw [Int.toNat_natCast]
    refine for_range (lo := 0) (n := pr.length) (fun i σ' H' => ∃ (fv : List V) (y5 y6 y7 : Option V), σ' = [some (.ref r), some (.ref v), some (.ref n), some (.ref d), some (.ref F), y5, y6, y7] ∧ (∀ b o, b ≠ F → H1 b = some o → H' b = some o) ∧ H' F = some (.lst fv) ∧ DpAll K H' fv ((Po.cand vt nd i).map (Po.row vt nm pr)))
      ⟨[], _, _, _, rfl, fun b o _ h => h, hF, .nil⟩ ?_ ?_
    · rintro i σ' H2 hi ⟨fv, y5, y6, y7, rfl, rl, hF2, hd2⟩
      have hr2 := rl _ _ rF (s1 _ _ hr1)
      have hv2 := rl _ _ vF (s1 _ _ hv)
      have hn2 := rl _ _ nF (s1 _ _ hn)
      have hdd2 := rl _ _ dF (s1 _ _ hd)
      have kp2 : KeepT H1 H2 := fun b o h ht => rl b o (fun e => by
        rw [e, hF] at h
        cases h
        rcases ht with ⟨_, e⟩ | ⟨_, _, e⟩ <;> cases e) h
      have hrs2 := dpAll_keep kp2 _ (noL_prs pr) (dpAll_same s1 _ hrs)
      walk_at "go"
      rw [show (0 : Int) + (i : Nat) = ((i : Nat) : Int) by omega]
      refine ⟨n, rfl, ⟨_, SqL.of hn2⟩, fun D hD => ?_⟩
      refine lc_list (K := K) (a := n) (xs := sv nm) (fun j H' => Same H2 H' ∧ H' D = some (.lst (sv (Po.words vt (nm.take j) i)))) ⟨same_new hD, upd_same⟩ (fun j H' _ h => SqL.of (h.1 _ _ hn2)) ?_ ?_
      · rintro j y H3 hj ⟨s3, hD3⟩
        obtain ⟨z, hz, rfl⟩ := sv_get hj
        have hjl := (List.getElem?_eq_some_iff.mp hz).1
        walk_at "go"
        refine ⟨rfl, ?_⟩
        refine g_yes (iteT ?_)
        walk_at "go"
        refine ⟨v, rfl, .inr ⟨_, .inl (s3 _ _ hv2)⟩, ?_⟩
        walk_at "go"
        refine ⟨by show 2 ≤ sizeLine; decide, fun t ht => ?_⟩
        walk_at "go"
        refine ⟨_, DGet.t (k := Po.kk (z, i)) ((upd_ne (ne_of_none (s3 _ _ hv2) ht)).trans (s3 _ _ hv2)) upd_same, ?_⟩
        rw [Po.valV_enc, wd_val]
        refine ⟨_, same_new ht _ _ hD3, by have := sizeBig; rw [words_len, List.length_take]; omega, same_put hD (s3.trans (same_new ht)), ?_⟩
        rw [upd_same, words_more hz]
      · rintro H3 ⟨s3, hD3⟩
        rw [List.length_map, List.take_length] at hD3
        walk_at "go"
        refine ⟨d, rfl, ⟨_, SqL.of (s3 _ _ hdd2)⟩, fun D2 hD2 => ?_⟩
        refine lc_list (K := K) (a := d) (xs := sv nd) (fun j H' => Same H3 H' ∧ H' D2 = some (.lst (((nd.take j).map fun z => decide (Po.wd vt z i ∈ [Po.YES, Po.MAYBE])).map V.bl))) ⟨same_new hD2, upd_same⟩ (fun j H' _ h => SqL.of (h.1 _ _ (s3 _ _ hdd2))) ?_ ?_
        · rintro j y H4 hj ⟨s4, hD4⟩
          obtain ⟨z, hz, rfl⟩ := sv_get hj
          have hjl := (List.getElem?_eq_some_iff.mp hz).1
          have hv4 := s4 _ _ (s3 _ _ hv2)
          walk_at "go"
          refine ⟨rfl, ?_⟩
          refine g_yes (iteT ?_)
          walk_at "go"
          refine ⟨v, rfl, .inr ⟨_, .inl hv4⟩, ?_⟩
          walk_at "go"
          refine ⟨by show 2 ≤ sizeLine; decide, fun t ht => ?_⟩
          walk_at "go"
          refine ⟨_, DGet.t (k := Po.kk (z, i)) ((upd_ne (ne_of_none hv4 ht)).trans hv4) upd_same, ?_⟩
          rw [Po.valV_enc, wd_val]
          walk_at "go"
          refine nwL (ys := sv [Po.YES, Po.MAYBE]) rfl (by show 2 ≤ 1000000; decide) fun t2 H5 _ s5 ht2 => ?_
          refine ⟨t2, _, rfl, .inl (SqL.of ht2), rfl, flat_sv _, ?_⟩
          rw [if_neg (by decide : ¬ (false = true)), inV_sv]
          have s45 := s4.trans ((same_new ht).trans s5)
          refine ⟨_, s5 _ _ (same_new ht _ _ hD4), by have := sizeBig; rw [List.length_map, List.length_map, List.length_take]; omega, same_put hD2 s45, ?_⟩
          rw [upd_same, take_more hz, List.map_append, List.map_append]; rfl
        · rintro H4 ⟨s4, hD4⟩
          rw [List.length_map, List.take_length] at hD4
          refine ⟨D2, _, rfl, .inl (SqL.of hD4), rfl, by rw [List.all_map]; simp [flatV, Function.comp_def], ?_⟩
          refine ⟨_, rfl, ?_⟩
          rw [inV_bl, Bool.not_not]
          have s24 := s3.trans s4
          have hD3' := s4 _ _ hD3
          replace rl := fun b o hb h => s24 b o (rl b o hb h)
          replace hF2 := s24 _ _ hF2
          replace hd2 := dpAll_same s24 _ hd2
          replace hr2 := s24 _ _ hr2
          replace hrs2 := dpAll_same s24 _ hrs2
          clear hD4 hD3 hv2 hn2 hdd2 kp2
          have ec : Po.cand vt nd (i + 1) = Po.cand vt nd i ++ (if Po.poss vt nd i = true then [i] else []) := by
            unfold Po.cand
            rw [List.range_succ, List.filter_append]
            by_cases h : Po.poss vt nd i = true
            · rw [List.filter_cons_of_pos h, if_pos h]; rfl
            · rw [List.filter_cons_of_neg h, if_neg h]; rfl
          rw [show (nd.all fun z => decide (Po.wd vt z i ∈ [Po.YES, Po.MAYBE])) = Po.poss vt nd i from rfl]
          cases hb : Po.poss vt nd i with
          | false =>
            rw [hb, if_neg (by decide), List.append_nil] at ec
            rw [ec]
            refine iteF ?_
            walk_at "go"
            exact ⟨fv, _, _, _, rfl, rl, hF2, hd2⟩
          | true =>
            rw [hb, if_pos rfl] at ec
            rw [ec]
            refine iteT ?_
            walk_at "go"
            refine ⟨.inl ⟨rfl, _, SqL.of hF2⟩, ?_⟩
            walk_at "go"
            refine ⟨.inl ⟨rfl, _, SqL.of hD3'⟩, ?_⟩
            walk_at "go"
            refine ⟨D, _, _, rfl, rfl, by rw [← words_S]; exact SqL.of hD3', ?_⟩
            rw [show (Str.ofString "yes") = S Po.YES from rfl, count_S]
            walk_at "go"
            refine ⟨.inl ⟨rfl, _, SqL.of hD3'⟩, ?_⟩
            walk_at "go"
            refine ⟨D, _, _, rfl, rfl, by rw [← words_S]; exact SqL.of hD3', ?_⟩
            rw [show (Str.ofString "no") = S Po.NO from rfl, count_S]
            obtain ⟨e, he⟩ : ∃ e, pr[i]? = some e := ⟨_, List.getElem?_eq_getElem hi⟩
            obtain ⟨u, hu, du⟩ := dpAll_at (i := i) hrs2 (d := prD e) (by rw [List.getElem?_map, he]; rfl)
            obtain ⟨tp, rfl, htp⟩ := pr_inv du
            walk_at "go"
            refine g_ixL (SqL.of hr2) (atI_nat hu) ?_
            walk_at "go"
            refine g_ixL (SqL.of hr2) (atI_nat hu) ?_
            walk_at "go"
            have eg : pr.getD i (0, 0) = e := by rw [List.getD_eq_getElem?_getD, he]; rfl
            refine nwT (ys := [.int (-(Po.cnt vt nm i Po.YES : Nat)), .int (Po.cnt vt nm i Po.NO : Nat), .int (e.1 : Nat), .int (e.2 : Nat), .int (i : Nat)]) (by rw [Int.zero_sub]; rfl) (by show 5 ≤ 1000000; decide) fun rw_ H7 _ s7 hrw => ?_
            replace hF2 := s7 _ _ hF2
            replace hd2 := dpAll_same s7 _ hd2
            replace rl := fun b o hb h => s7 b o (rl b o hb h)
            have hfl := dpAll_len hd2
            rw [List.length_map] at hfl
            have hcl : (Po.cand vt nd i).length ≤ i := by
              have := List.length_filter_le (fun k => Po.poss vt nd k) (List.range i)
              rw [List.length_range] at this
              exact this
            walk_at "go"
            refine ⟨F, _, _, rfl, rfl, hF2, by have := sizeBig; omega, ?_⟩
            have kp : KeepT H7 (upd H7 F (.lst (fv ++ [.ref rw_]))) := KeepT.putL hF2
            refine ⟨fv ++ [.ref rw_], _, _, _, rfl, fun b o hb h => (upd_ne hb).trans (rl b o hb h), upd_same, ?_⟩
            rw [List.map_append]
            refine dpAll_app (dpAll_keep kp _ (noL_rws vt nm pr _) hd2) (.cons ?_ .nil)
            unfold Po.row
            rw [eg]
            exact .tup (sqT_keep (SqT.of hrw) kp) (.cons (.int _) (.cons (.int _) (.cons (.int _) (.cons (.int _) (.cons (.int _) .nil)))))
    · rintro σ' H2 ⟨fv, y5, y6, y7, rfl, rl, hF2, hd2⟩
      have sH : Same H H2 := fun b o h => rl b o (ne_of_none h hF0) (s1 b o h)
      replace q := q H2 sH
      have hfl := dpAll_len hd2
      rw [List.length_map] at hfl
      walk_at "go"
      rw [hfl]
      unfold Po.best at q
      cases ec : Po.cand vt nd pr.length with
      | nil =>
        rw [ec] at q
        refine iteK (fun h => absurd h (by decide)) (fun _ => ?_)
        walk_at "go"
        exact q
      | cons k0 ks =>
        rw [ec] at q hd2
        refine iteK (fun _ => ?_) (fun h => absurd (by show (0 : Int) < ((k0 :: ks).length : Nat); rw [List.length_cons]; omega) h)
        walk_at "go"
        refine ⟨F, fv, Po.row vt nm pr k0, ks.map (Po.row vt nm pr), rfl, SqL.of hF2, hd2, Po.row_alike vt nm pr (k0 :: ks), Po.row_depth vt nm pr (k0 :: ks), fun u hu => ?_⟩
        rw [Po.min_row] at hu
        obtain ⟨ta, rfl, hta⟩ := row_inv hu
        walk_at "go"
        exact q
end
section
variable {P : Program} {w : World} {K : PySem.W.Frag} {mg : Str → Option Value} {base : Heap} {a : Adr}
structure LI (K : PySem.W.Frag) (a : Adr) (t c N D x dx n d p v R U : Addr) (ns : List Int) (nm nd : List (List Nat)) (pr pr' : List (Nat × Nat)) (vt vt' : Po.VD) (cl : Bool) (H : Hp) : Prop where
  T_ : Tp t c ns H
  N_ : H N = some (.lst (sv nm))
  D_ : H D = some (.lst (sv nd))
  P_ : Pl K a x dx n d p v nm nd pr vt cl H
  R_ : ∃ rs, H R = some (.lst rs) ∧ DpAll K H rs (pr'.map prD)
  U_ : H U = some (.dT (Po.enc vt'))
  tp_ : t ≠ p
  cp_ : c ≠ p
  np_ : N ≠ p
  dp_ : D ≠ p
  rp_ : R ≠ p
  tr_ : t ≠ R
  cr_ : c ≠ R
  nr_ : N ≠ R
  dr_ : D ≠ R
  uv_ : U ≠ v
theorem keep_rel {q : Addr} {u : HO} {H H' : Hp} (hq : H q = some u) (nt : (∀ xs, u ≠ .tup xs) ∧ ∀ z xs, u ≠ .frz z (.tup xs)) (rl : ∀ b o, b ≠ q → H b = some o → H' b = some o) : KeepT H H' := fun b o h ht => rl b o (fun e => by
  rw [e, hq] at h
  cases h
  rcases ht with ⟨_, e⟩ | ⟨_, _, e⟩
  · exact nt.1 _ e
  · exact nt.2 _ _ e) h
section
variable {t c N D x dx n d p v R U : Addr} {ns : List Int} {nm nd : List (List Nat)} {pr pr' : List (Nat × Nat)} {vt vt' : Po.VD} {cl : Bool} {H H' : Hp}
theorem LI.same (I : LI K a t c N D x dx n d p v R U ns nm nd pr pr' vt vt' cl H) (s : Same H H') : LI K a t c N D x dx n d p v R U ns nm nd pr pr' vt vt' cl H' := by
  obtain ⟨h1, h2, h3, h4, ⟨rs, h5, h6⟩, h7, e1, e2, e3, e4, e5, e6, e7, e8, e9, e10⟩ := I
  exact ⟨h1.same s, s _ _ h2, s _ _ h3, h4.same s, ⟨rs, s _ _ h5, dpAll_same s _ h6⟩, s _ _ h7, e1, e2, e3, e4, e5, e6, e7, e8, e9, e10⟩
theorem Pl.rel {q : Addr} (I : Pl K a x dx n d p v nm nd pr vt cl H) (k : KeepT H H') (h1 : x ≠ q) (h2 : n ≠ q) (h3 : d ≠ q) (h4 : p ≠ q) (h5 : v ≠ q) (rl : ∀ b o, b ≠ q → H b = some o → H' b = some o) : Pl K a x dx n d p v nm nd pr vt cl H' := by
  obtain ⟨a1, a2, a3, ⟨xs, a4, a5⟩, a6⟩ := I
  exact ⟨rl _ _ h1 a1, rl _ _ h2 a2, rl _ _ h3 a3, ⟨xs, rl _ _ h4 a4, dpAll_keep k _ (noL_prs pr) a5⟩, rl _ _ h5 a6⟩
theorem LI.turn (I : LI K a t c N D x dx n d p v R U ns nm nd pr pr' vt vt' cl H) (J : Tp t c ns H') (rl : RelT t H H') : LI K a t c N D x dx n d p v R U ns nm nd pr pr' vt vt' cl H' := by
  obtain ⟨h1, h2, h3, h4, ⟨rs, h5, h6⟩, h7, e1, e2, e3, e4, e5, e6, e7, e8, e9, e10⟩ := I
  obtain ⟨k1, r1, _, _, ht⟩ := h1.1
  have kp : KeepT H H' := keep_rel ht ⟨fun _ e => (by unfold tp at e; cases e), fun _ _ e => (by unfold tp at e; cases e)⟩ rl
  exact ⟨J, rl _ _ (h1.ne h2 fun _ _ => ne_sv) h2, rl _ _ (h1.ne h3 fun _ _ => ne_sv) h3,
    h4.rel kp (h1.ne h4.x_ (fun _ _ => by unfold tp; intro z; cases z)) (h1.ne h4.n_ (fun _ _ => by unfold tp; intro z; cases z)) (h1.ne h4.d_ (fun _ _ => by unfold tp; intro z; cases z)) e1.symm (h1.ne h4.v_ (fun _ _ => by unfold tp; intro z; cases z)) rl,
    ⟨rs, rl _ _ e6.symm h5, dpAll_keep kp _ (noL_prs pr') h6⟩, rl _ _ (h1.ne h7 (fun _ _ => by unfold tp; intro z; cases z)) h7, e1, e2, e3, e4, e5, e6, e7, e8, e9, e10⟩
theorem LI.draw (I : LI K a t c N D x dx n d p v R U ns nm nd pr pr' vt vt' cl H) {m : Int} (n0 : 0 < m) (n1 : m < 1073741824) {Q : VK} {X : XK}
    (q : ∀ k H', 0 ≤ k → k < m → LI K a t c N D x dx n d p v R U ns nm nd pr pr' vt vt' cl H' → RelT t H H' → Q (.int k) H') : sp_law_draw K [.ref t, .int m] H Q X :=
  I.T_.draw n0 n1 fun k H' k0 k1 J rl => q k H' k0 k1 (I.turn J rl) rl
theorem Tp.rel {q : Addr} {t c : Addr} {ns : List Int} {H H' : Hp} (I : Tp t c ns H) (h1 : t ≠ q) (h2 : c ≠ q) (rl : ∀ b o, b ≠ q → H b = some o → H' b = some o) : Tp t c ns H' := by
  obtain ⟨⟨k, r, k0, r0, ht⟩, hc⟩ := I
  exact ⟨⟨k, r, k0, r0, rl _ _ h1 ht⟩, rl _ _ h2 hc⟩
/-- the poll's own list is changed -/
theorem LI.setp (I : LI K a t c N D x dx n d p v R U ns nm nd pr pr' vt vt' cl H) {pr2 : List (Nat × Nat)} (J : Pl K a x dx n d p v nm nd pr2 vt cl H') (rl : ∀ b o, b ≠ p → H b = some o → H' b = some o) : LI K a t c N D x dx n d p v R U ns nm nd pr2 pr' vt vt' cl H' ∧ KeepT H H' := by
  obtain ⟨h1, h2, h3, h4, ⟨rs, h5, h6⟩, h7, e1, e2, e3, e4, e5, e6, e7, e8, e9, e10⟩ := I
  obtain ⟨xs, hp, _⟩ := h4.p_
  have kp : KeepT H H' := keep_rel hp ⟨fun _ e => (by cases e), fun _ _ e => (by cases e)⟩ rl
  exact ⟨⟨h1.rel e1 e2 rl, rl _ _ e3 h2, rl _ _ e4 h3, J, ⟨rs, rl _ _ e5 h5, dpAll_keep kp _ (noL_prs pr') h6⟩, rl _ _ (ne_of h7 hp (by intro z; cases z)) h7, e1, e2, e3, e4, e5, e6, e7, e8, e9, e10⟩, kp⟩
/-- the poll's own votes are changed -/
theorem LI.setv (I : LI K a t c N D x dx n d p v R U ns nm nd pr pr' vt vt' cl H) {vt2 : Po.VD} (J : Pl K a x dx n d p v nm nd pr vt2 cl H') (rl : ∀ b o, b ≠ v → H b = some o → H' b = some o) : LI K a t c N D x dx n d p v R U ns nm nd pr pr' vt2 vt' cl H' ∧ KeepT H H' := by
  obtain ⟨h1, h2, h3, h4, ⟨rs, h5, h6⟩, h7, e1, e2, e3, e4, e5, e6, e7, e8, e9, e10⟩ := I
  have hv := h4.v_
  have kp : KeepT H H' := keep_rel hv ⟨fun _ e => (by cases e), fun _ _ e => (by cases e)⟩ rl
  obtain ⟨k1, r1, _, _, ht⟩ := id h1.1
  exact ⟨⟨h1.rel (ne_of ht hv (by intro z; cases z)) (ne_of h1.2 hv (by intro z; cases z)) rl, rl _ _ (ne_of h2 hv (by intro z; cases z)) h2, rl _ _ (ne_of h3 hv (by intro z; cases z)) h3, J, ⟨rs, rl _ _ (ne_of h5 hv (by intro z; cases z)) h5, dpAll_keep kp _ (noL_prs pr') h6⟩, rl _ _ e10 h7, e1, e2, e3, e4, e5, e6, e7, e8, e9, e10⟩, kp⟩
/-- the poll is closed -/
theorem LI.setx (I : LI K a t c N D x dx n d p v R U ns nm nd pr pr' vt vt' cl H) {cl2 : Bool} (J : Pl K a x dx n d p v nm nd pr vt cl2 H') (rl : ∀ b o, b ≠ x → H b = some o → H' b = some o) : LI K a t c N D x dx n d p v R U ns nm nd pr pr' vt vt' cl2 H' ∧ KeepT H H' := by
  obtain ⟨h1, h2, h3, h4, ⟨rs, h5, h6⟩, h7, e1, e2, e3, e4, e5, e6, e7, e8, e9, e10⟩ := I
  have hx := h4.x_
  have kp : KeepT H H' := keep_rel hx ⟨fun _ e => (by cases e), fun _ _ e => (by cases e)⟩ rl
  obtain ⟨k1, r1, _, _, ht⟩ := id h1.1
  exact ⟨⟨h1.rel (ne_of ht hx (by intro z; cases z)) (ne_of h1.2 hx (by intro z; cases z)) rl, rl _ _ (ne_of h2 hx (by intro z; cases z)) h2, rl _ _ (ne_of h3 hx (by intro z; cases z)) h3, J, ⟨rs, rl _ _ (ne_of h5 hx (by intro z; cases z)) h5, dpAll_keep kp _ (noL_prs pr') h6⟩, rl _ _ (ne_of h7 hx (by intro z; cases z)) h7, e1, e2, e3, e4, e5, e6, e7, e8, e9, e10⟩, kp⟩
/-- the law's rows -/
theorem LI.setR (I : LI K a t c N D x dx n d p v R U ns nm nd pr pr' vt vt' cl H) {pr2 : List (Nat × Nat)} {rs : List V} (J : DpAll K (upd H R (.lst rs)) rs (pr2.map prD)) : LI K a t c N D x dx n d p v R U ns nm nd pr pr2 vt vt' cl (upd H R (.lst rs)) := by
  obtain ⟨h1, h2, h3, h4, ⟨rs0, h5, h6⟩, h7, e1, e2, e3, e4, e5, e6, e7, e8, e9, e10⟩ := I
  have rl : ∀ b o, b ≠ R → H b = some o → upd H R (.lst rs) b = some o := fun b o hb h => (upd_ne hb).trans h
  have kp : KeepT H (upd H R (.lst rs)) := KeepT.putL h5
  exact ⟨h1.rel e6 e7 rl, rl _ _ e8 h2, rl _ _ e9 h3, h4.rel kp (ne_of h4.x_ h5 (by intro z; cases z)) (ne_of h4.n_ h5 (by intro z; cases z)) (ne_of h4.d_ h5 (by intro z; cases z)) e5.symm (ne_of h4.v_ h5 (by intro z; cases z)) rl, ⟨rs, upd_same, J⟩, rl _ _ (ne_of h7 h5 (by intro z; cases z)) h7, e1, e2, e3, e4, e5, e6, e7, e8, e9, e10⟩
/-- the law's votes -/
theorem LI.setU (I : LI K a t c N D x dx n d p v R U ns nm nd pr pr' vt vt' cl H) {vt2 : Po.VD} : LI K a t c N D x dx n d p v R U ns nm nd pr pr' vt vt2 cl (upd H U (.dT (Po.enc vt2))) := by
  obtain ⟨h1, h2, h3, h4, ⟨rs, h5, h6⟩, h7, e1, e2, e3, e4, e5, e6, e7, e8, e9, e10⟩ := I
  have rl : ∀ b o, b ≠ U → H b = some o → upd H U (.dT (Po.enc vt2)) b = some o := fun b o hb h => (upd_ne hb).trans h
  have kp : KeepT H (upd H U (.dT (Po.enc vt2))) := KeepT.put h7 ⟨fun _ e => (by cases e), fun _ _ e => (by cases e)⟩
  obtain ⟨k1, r1, _, _, ht⟩ := id h1.1
  obtain ⟨xs, hp, _⟩ := id h4.p_
  exact ⟨h1.rel (ne_of ht h7 (by intro z; cases z)) (ne_of h1.2 h7 (by intro z; cases z)) rl, rl _ _ (ne_of h2 h7 (by intro z; cases z)) h2, rl _ _ (ne_of h3 h7 (by intro z; cases z)) h3, h4.rel kp (ne_of h4.x_ h7 (by intro z; cases z)) (ne_of h4.n_ h7 (by intro z; cases z)) (ne_of h4.d_ h7 (by intro z; cases z)) (ne_of hp h7 (by intro z; cases z)) e10.symm rl,
    ⟨rs, rl _ _ (ne_of h5 h7 (by intro z; cases z)) h5, dpAll_keep kp _ (noL_prs pr') h6⟩, upd_same, e1, e2, e3, e4, e5, e6, e7, e8, e9, e10⟩
end
theorem strOk_lit : PyData.strOk ("closed" : Str) = true ∧ PyData.strOk ("bad" : Str) = true ∧ PyData.strOk ("taken" : Str) = true ∧ PyData.strOk ("none" : Str) = true := by decide +kernel
theorem pl_propD (cl : Bool) (pr : List (Nat × Nat)) (s l : Nat) : pl (propD cl pr s l) = true ∧ (propD cl pr s l).depth ≤ 64 ∧ noL (propD cl pr s l) = true := by
  unfold propD
  split
  · exact ⟨by simp [pl, strOk_lit.1], by simp [PyData.depth], by simp [noL]⟩
  split
  · exact ⟨by simp [pl, strOk_lit.2.1], by simp [PyData.depth], by simp [noL]⟩
  split
  · exact ⟨by simp [pl, plAll, prD, strOk_lit.2.2.1], by simp [PyData.depth, PyData.depthAll, prD], by simp [noL, noLAll, prD]⟩
  · exact ⟨by simp [pl], by simp [PyData.depth], by simp [noL]⟩
theorem pl_voteD (cl : Bool) (nm : List (List Nat)) (m : Nat) (z : List Nat) (k : Int) (u : List Nat) (hz : PyData.strOk (S z) = true) : pl (voteD cl nm m z k u) = true ∧ (voteD cl nm m z k u).depth ≤ 64 ∧ noL (voteD cl nm m z k u) = true := by
  unfold voteD
  split
  · exact ⟨by simp [pl, strOk_lit.1], by simp [PyData.depth], by simp [noL]⟩
  split
  · exact ⟨by simp [pl, plAll, strOk_lit.2.2.2, hz], by simp [PyData.depth, PyData.depthAll], by simp [noL, noLAll]⟩
  split
  · exact ⟨by simp [pl, plAll, strOk_lit.2.2.2], by simp [PyData.depth, PyData.depthAll], by simp [noL, noLAll]⟩
  split
  · exact ⟨by simp [pl, strOk_lit.2.1], by simp [PyData.depth], by simp [noL]⟩
  · exact ⟨by simp [pl], by simp [PyData.depth], by simp [noL]⟩
theorem pl_bestD (o : Option Nat) (pr : List (Nat × Nat)) : pl (bestD o pr) = true ∧ (bestD o pr).depth ≤ 64 := by
  cases o with
  | none => exact ⟨by simp [bestD, pl], by simp [bestD, PyData.depth]⟩
  | some k => exact ⟨pl_prD _, by simp [bestD, prD, PyData.depth, PyData.depthAll]⟩
end
section
variable {P : Program} {w : World} {K : PySem.W.Frag} {mg : Str → Option Value} {base : Heap} {a : Adr}
abbrev ZED : List Nat := [122, 101, 100]
theorem six_ok : ∀ z ∈ SIX, nmOk z = true ∧ z.length ≤ 100 ∧ z ≠ ZED ∧ PyData.strOk (S z) = true := by decide +kernel
theorem bad_twice {nm : List (List Nat)} {nd : List (List Nat)} : ¬ nmsOk (nm ++ nm.take 1) nd := fun ⟨h1, _, h3, _⟩ => by
  cases nm with
  | nil => exact h1 rfl
  | cons z r =>
    rw [List.nodup_append] at h3
    exact h3.2.2 z List.mem_cons_self z List.mem_cons_self rfl
theorem bad_none {nd : List (List Nat)} : ¬ nmsOk [] nd := fun h => h.1 rfl
theorem bad_zed {nm : List (List Nat)} (six : ∀ z ∈ nm, z ∈ SIX) : ¬ nmsOk nm [ZED] := fun h => (six_ok _ (six _ (h.2.2.2 ZED List.mem_cons_self))).2.2.1 rfl
theorem bad_big {nd : List (List Nat)} : ¬ nmsOk [[65, 110, 110]] nd := fun h => absurd (h.2.1 _ List.mem_cons_self) (by decide +kernel)
abbrev WORDS : List (List Nat) := [Po.YES, Po.YES, Po.MAYBE, Po.NO, Po.NO, [89, 101, 115]]
theorem words_ok : ∀ z ∈ WORDS, z ∈ VTS ↔ z ≠ [89, 101, 115] := by decide +kernel
def sp_law (K : PySem.W.Frag) : Sp := fun vs H Q _ => ∃ (a : Addr) (ns : List Int), vs = [.ref a] ∧ SqL K H a (ns.map V.int) ∧ ns.length ≤ 63 ∧ ∀ H', Q (.bl true) H'
theorem ok_law (T : Txt K mg a) : FnOk P w K mg base CX0 8 a.f_law a.d_law ["script"] (sp_law K) := by
  refine T.F_law.ok sc_law (fun vs H Q E h => ?_) (fun cdv A outer s H vs Q E hr h => ?_)
  · obtain ⟨b, ns, rfl, _⟩ := h
    rfl
  · obtain ⟨b, ns, rfl, hb, hl, q⟩ := h
    refine ⟨_, (pss_cons (ps_set (i := 1) sc_law.nd rfl (.inr rfl) (pe_call (ok_law_tape T) (hr.mono (by decide)) (by rfl) T.g_law_tape T.F_law_tape.kp T.b_law_tape .nil pass0 (pa_cons (pv 0) pa_nil)))
       (pss_cons (ps_set (i := 2) sc_law.nd rfl (.inl rfl) (pe_call (ok_law_names T) (hr.mono (by decide)) (by rfl) T.g_law_names T.F_law_names.kp T.b_law_names .nil pass0 (pa_cons (pv 1) (pa_cons (pe_op op_add pe_int (pe_call (ok_law_draw T) (hr.mono (by decide)) (by rfl) T.g_law_draw T.F_law_draw.kp T.b_law_draw .nil pass0 (pa_cons (pv 1) (pa_cons pe_int pa_nil)))) pa_nil))))
       (pss_cons (ps_setLc (i := 3) (own := [("name", 14)]) (g := (gName 14)) rfl sc_law.nd rfl rfl (sw_true rfl rfl rfl (by decide +kernel)) (pi_list (pv 2)) (blkOk_by (own := [("name", 14)]) (N := ["script", "tape", "names", "needed", "poll", "rows", "votes", "closed", "k", "way", "start", "length", "due", "best", "name", "number", "word", "words", "right", "open_ones"]) (sc := defScope s_law) (by decide +kernel)) (fun _ _ _ _ _ => (pg_name (i := 14) sc_law.nd rfl (.inl rfl))) (fun _ _ _ _ _ => (pts_one (pt_cmpR op_eq (pe_call (ok_law_draw T) (hr.mono (by decide)) (by rfl) T.g_law_draw T.F_law_draw.kp T.b_law_draw .nil pass0 (pa_cons (pv 1) (pa_cons pe_int pa_nil))) pe_int (nomark _)))) (fun _ _ _ _ _ => (pv 14)))
       (pss_cons (ps_if (PW.pt (pw_or (pt_cmpR op_notN (pe_call (ok_law_made_poll T) (hr.mono (by decide)) (by rfl) T.g_law_made_poll T.F_law_made_poll.kp T.b_law_made_poll .nil pass0 (pa_cons (pe_op op_cat (pv 2) (pe_slice sl_list (pv 2) po_none (po_some pe_int))) (pa_cons (pv 3) pa_nil))) pe_non (nomark _)) (pw_or1 (pt_cmpR op_notN (pe_call (ok_law_made_poll T) (hr.mono (by decide)) (by rfl) T.g_law_made_poll T.F_law_made_poll.kp T.b_law_made_poll .nil pass0 (pa_cons (pe_lst pa_nil) (pa_cons (pe_lst pa_nil) pa_nil))) pe_non (nomark _)))))
       (pss_one (ps_ret pe_bl))
       pss_nil)
       (pss_cons (ps_if (PW.pt (pw_or (pt_cmpR op_notN (pe_call (ok_law_made_poll T) (hr.mono (by decide)) (by rfl) T.g_law_made_poll T.F_law_made_poll.kp T.b_law_made_poll .nil pass0 (pa_cons (pv 2) (pa_cons (pe_lst (pa_cons pe_str pa_nil)) pa_nil))) pe_non (nomark _)) (pw_or1 (pt_cmpR op_notN (pe_call (ok_law_made_poll T) (hr.mono (by decide)) (by rfl) T.g_law_made_poll T.F_law_made_poll.kp T.b_law_made_poll .nil pass0 (pa_cons (pe_lst (pa_cons pe_str pa_nil)) (pa_cons (pe_lst pa_nil) pa_nil))) pe_non (nomark _)))))
       (pss_one (ps_ret pe_bl))
       pss_nil)
       (pss_cons (ps_set (i := 4) sc_law.nd rfl (.inr rfl) (pe_make T.M_Poll (ok_Poll_init T) (hr.mono (by decide)) (by rfl) T.g_Poll T.b_Poll_init .nil passL (pa_cons (pv 2) (pa_cons (pv 3) pa_nil))))
       (pss_cons (ps_asg (pe_tup (pa_cons (pe_lst pa_nil) (pa_cons pe_dnewT (pa_cons pe_bl pa_nil)))) (pg_tup (by rfl) (pgs_cons (pg_name (i := 5) sc_law.nd rfl (.inr rfl)) (pgs_cons (pg_name (i := 6) sc_law.nd rfl (.inr rfl)) (pgs_cons (pg_name (i := 7) sc_law.nd rfl (.inl rfl)) pgs_nil)))))
       (pss_cons (ps_for PassesOwn.never rfl (pi_range1 (by rfl) T.z_range (pa_cons (pe_call (ok_law_draw T) (hr.mono (by decide)) (by rfl) T.g_law_draw T.F_law_draw.kp T.b_law_draw .nil pass0 (pa_cons (pv 1) (pa_cons pe_int pa_nil))) pa_nil)) (pg_name (i := 8) sc_law.nd rfl (.inr rfl))
       (pss_cons (ps_set (i := 9) sc_law.nd rfl (.inl rfl) (pe_call (ok_law_draw T) (hr.mono (by decide)) (by rfl) T.g_law_draw T.F_law_draw.kp T.b_law_draw .nil pass0 (pa_cons (pv 1) (pa_cons pe_int pa_nil))))
       (pss_one (ps_if (pt_cmpR op_lt (pv 9) pe_int (nomark _))
       (pss_cons (ps_par (i := 10) (j := 11) rfl sc_law.nd rfl rfl (by decide) rfl rfl (pa_cons (pe_op op_mul pe_int (pe_call (ok_law_draw T) (hr.mono (by decide)) (by rfl) T.g_law_draw T.F_law_draw.kp T.b_law_draw .nil pass0 (pa_cons (pv 1) (pa_cons pe_int pa_nil)))) (pa_cons (pe_op op_mul pe_int (pe_call (ok_law_draw T) (hr.mono (by decide)) (by rfl) T.g_law_draw T.F_law_draw.kp T.b_law_draw .nil pass0 (pa_cons (pv 1) (pa_cons pe_int pa_nil)))) pa_nil)) (by rfl))
       (pss_cons (ps_set (i := 12) sc_law.nd rfl (.inl rfl) (pe_callB call_len_seq (by rfl) T.z_len (by decide +kernel) (pa_cons (pv 5) pa_nil)))
       (C8.pss_cut (ps_if (pt_val (pv 7))
       (pss_one (ps_set (i := 12) sc_law.nd rfl (.inl rfl) pe_str))
       (pss_one (ps_if (pt_cmpR op_lt (pv 11) pe_int (nomark _))
       (pss_one (ps_set (i := 12) sc_law.nd rfl (.inl rfl) pe_str))
       (pss_one (ps_if (pt_cmpR (op_inD (hu65 hr)) (pe_tup (pa_cons (pv 10) (pa_cons (pv 11) pa_nil))) (pv 5) rfl)
       (pss_one (ps_set (i := 12) sc_law.nd rfl (.inl rfl) (pe_tup (pa_cons pe_str (pa_cons (pe_tup (pa_cons (pv 10) (pa_cons (pv 11) pa_nil))) pa_nil)))))
       (pss_one (ps_expr (pe_bm PySem.F.plainAttrs_list PySem.F.slot_list_append PySem.F.type_list_append mt_append (pv 5) (pa_cons (pe_tup (pa_cons (pv 10) (pa_cons (pv 11) pa_nil))) pa_nil)))))))))
       (pss_one (ps_if (pt_cmpR (op_neD (hr.units)) (pe_call (ok_law_proposed T) (hr.mono (by decide)) (by rfl) T.g_law_proposed T.F_law_proposed.kp T.b_law_proposed .nil pass0 (pa_cons (pv 4) (pa_cons (pv 10) (pa_cons (pv 11) pa_nil)))) (pv 12) (nomark _))
       (pss_one (ps_ret pe_bl))
       pss_nil)))))
       (pss_one (ps_if (PW.pt (pw_and (pt_cmpR op_eq (pv 9) pe_int (nomark _)) (pw_and1 (pt_cmpR op_eq (pe_call (ok_law_draw T) (hr.mono (by decide)) (by rfl) T.g_law_draw T.F_law_draw.kp T.b_law_draw .nil pass0 (pa_cons (pv 1) (pa_cons pe_int pa_nil))) pe_int (nomark _)))))
       (pss_cons (ps_set (i := 13) sc_law.nd rfl (.inl rfl) (pe_call (ok_law_best T) (hr.mono (by decide)) (by rfl) T.g_law_best T.F_law_best.kp T.b_law_best .nil pass0 (pa_cons (pv 5) (pa_cons (pv 6) (pa_cons (pv 2) (pa_cons (pv 3) pa_nil))))))
       (pss_cons (ps_set (i := 7) sc_law.nd rfl (.inl rfl) pe_bl)
       (pss_one (ps_if (pt_cmpR (op_neD (hr.units)) (pe_meth0 (pv 4) T.c_Poll T.m_Poll_close (ok_Poll_close T) (hr.mono (by decide)) T.b_Poll_close .nil pass0) (pe_ifExp (pt_cmpR op_notN (pv 13) pe_non (nomark _)) (pe_ix ix_list (pv 5) (pv 13) (fun _ _ => rfl)) pe_non) (nomark _))
       (pss_one (ps_ret pe_bl))
       pss_nil))))
       (pss_cons (ps_set (i := 14) sc_law.nd rfl (.inl rfl) (pe_ix ix_list (pe_op op_cat (pv 2) (pe_lst (pa_cons pe_str pa_nil))) (pe_call (ok_law_draw T) (hr.mono (by decide)) (by rfl) T.g_law_draw T.F_law_draw.kp T.b_law_draw .nil pass0 (pa_cons (pv 1) (pa_cons (pe_op op_add (pe_callB call_len_seq (by rfl) T.z_len (by decide +kernel) (pa_cons (pv 2) pa_nil)) pe_int) pa_nil))) (fun _ _ => rfl)))
       (pss_cons (ps_set (i := 15) sc_law.nd rfl (.inl rfl) (pe_op op_sub (pe_call (ok_law_draw T) (hr.mono (by decide)) (by rfl) T.g_law_draw T.F_law_draw.kp T.b_law_draw .nil pass0 (pa_cons (pv 1) (pa_cons (pe_op op_add (pe_callB call_len_seq (by rfl) T.z_len (by decide +kernel) (pa_cons (pv 5) pa_nil)) pe_int) pa_nil))) (pe_callTy call_int1 (by rfl) T.z_int (by decide +kernel) (pa_cons (pe_cmpR op_eq (pe_call (ok_law_draw T) (hr.mono (by decide)) (by rfl) T.g_law_draw T.F_law_draw.kp T.b_law_draw .nil pass0 (pa_cons (pv 1) (pa_cons pe_int pa_nil))) pe_int (nomark _)) pa_nil))))
       (pss_cons (ps_set (i := 16) sc_law.nd rfl (.inl rfl) (pe_ix ix_list (pe_lst (pa_cons pe_str (pa_cons pe_str (pa_cons pe_str (pa_cons pe_str (pa_cons pe_str (pa_cons pe_str pa_nil))))))) (pe_call (ok_law_draw T) (hr.mono (by decide)) (by rfl) T.g_law_draw T.F_law_draw.kp T.b_law_draw .nil pass0 (pa_cons (pv 1) (pa_cons pe_int pa_nil))) (fun _ _ => rfl)))
       (pss_cons (ps_set (i := 12) sc_law.nd rfl (.inl rfl) pe_non)
       (C8.pss_cut (ps_if (pt_val (pv 7))
       (pss_one (ps_set (i := 12) sc_law.nd rfl (.inl rfl) pe_str))
       (pss_one (ps_if (pt_cmpR op_eq (pv 14) pe_str (nomark _))
       (pss_one (ps_set (i := 12) sc_law.nd rfl (.inl rfl) (pe_tup (pa_cons pe_str (pa_cons (pv 14) pa_nil)))))
       (pss_one (ps_if (pt_not (pt_chain op_le op_lt pe_int (pv 15) (pe_callB call_len_seq (by rfl) T.z_len (by decide +kernel) (pa_cons (pv 5) pa_nil))))
       (pss_one (ps_set (i := 12) sc_law.nd rfl (.inl rfl) (pe_tup (pa_cons pe_str (pa_cons (pv 15) pa_nil)))))
       (pss_one (ps_if (pt_cmpR op_eq (pv 16) pe_str (nomark _))
       (pss_one (ps_set (i := 12) sc_law.nd rfl (.inl rfl) pe_str))
       (pss_one (ps_dput (hu_of hr) (pv 6) (pe_tup (pa_cons (pv 14) (pa_cons (pv 15) pa_nil))) (pv 16) rfl)))))))))
       (pss_one (ps_if (pt_cmpR (op_neD (hr.units)) (pe_call (ok_law_voted T) (hr.mono (by decide)) (by rfl) T.g_law_voted T.F_law_voted.kp T.b_law_voted .nil pass0 (pa_cons (pv 4) (pa_cons (pv 14) (pa_cons (pv 15) (pa_cons (pv 16) pa_nil))))) (pv 12) (nomark _))
       (pss_one (ps_ret pe_bl))
       pss_nil)))))))))))))
       (pss_cons (ps_if (PW.pt (pw_or (pt_cmpR (op_neD (hr.units)) (pe_meth0 (pv 4) T.c_Poll T.m_Poll_proposals (ok_Poll_proposals T) (hr.mono (by decide)) T.b_Poll_proposals .nil pass0) (pv 5) (nomark _)) (pw_or1 (pt_not (pt_val (pe_call (ok_law_same T) (hr.mono (by decide)) (by rfl) T.g_law_same T.F_law_same.kp T.b_law_same .nil pass0 (pa_cons (pe_meth0 (pv 4) T.c_Poll T.m_Poll_is_closed (ok_Poll_is_closed T) (hr.mono (by decide)) T.b_Poll_is_closed .nil pass0) (pa_cons (pv 7) pa_nil))))))))
       (pss_one (ps_ret pe_bl))
       pss_nil)
       (pss_cons (ps_for PassesOwn.never rfl (pi_range1 (by rfl) T.z_range (pa_cons (pe_callB call_len_seq (by rfl) T.z_len (by decide +kernel) (pa_cons (pv 5) pa_nil)) pa_nil)) (pg_name (i := 8) sc_law.nd rfl (.inr rfl))
       (pss_cons (ps_setLc (i := 17) (own := [("name", 14)]) (g := (gName 14)) rfl sc_law.nd rfl rfl (sw_true rfl rfl rfl (by decide +kernel)) (pi_list (pv 2)) (blkOk_by (own := [("name", 14)]) (N := ["script", "tape", "names", "needed", "poll", "rows", "votes", "closed", "k", "way", "start", "length", "due", "best", "name", "number", "word", "words", "right", "open_ones"]) (sc := defScope s_law) (by decide +kernel)) (fun _ _ _ _ _ => (pg_name (i := 14) sc_law.nd rfl (.inl rfl))) (fun _ _ _ _ _ => pts_nil) (fun _ _ _ _ _ => (pe_dget2 (hu_of hr) (pv 6) (pe_tup (pa_cons (pv 14) (pa_cons (pv 8) pa_nil))) pe_str ⟨rfl, rfl, rfl, rfl⟩)))
       (pss_cons (ps_if (pt_cmpR (op_neD (hr.units)) (pe_meth (pv 4) T.c_Poll T.m_Poll_tally (ok_Poll_tally T) (hr.mono (by decide)) T.b_Poll_tally .nil passL (pa_cons (pv 8) pa_nil)) (pe_tup (pa_cons (pe_bm PySem.F.plainAttrs_list PySem.F.slot_list_count PySem.F.type_list_count mt_lcountS (pv 17) (pa_cons pe_str pa_nil)) (pa_cons (pe_bm PySem.F.plainAttrs_list PySem.F.slot_list_count PySem.F.type_list_count mt_lcountS (pv 17) (pa_cons pe_str pa_nil)) (pa_cons (pe_bm PySem.F.plainAttrs_list PySem.F.slot_list_count PySem.F.type_list_count mt_lcountS (pv 17) (pa_cons pe_str pa_nil)) pa_nil)))) (nomark _))
       (pss_one (ps_ret pe_bl))
       pss_nil)
       (pss_cons (ps_if (pt_cmpR (op_neD (hr.units)) (pe_lc (own := [("name", 14)]) (g := (gName 14)) rfl sc_law.nd (pi_list (pv 2)) (blkOk_by (own := [("name", 14)]) (N := ["script", "tape", "names", "needed", "poll", "rows", "votes", "closed", "k", "way", "start", "length", "due", "best", "name", "number", "word", "words", "right", "open_ones"]) (sc := defScope s_law) (by decide +kernel)) (fun _ _ _ _ _ => (pg_name (i := 14) sc_law.nd rfl (.inl rfl))) (fun _ _ _ _ _ => pts_nil) (fun _ _ _ _ _ => (pe_meth (pv 4) T.c_Poll T.m_Poll_word (ok_Poll_word T) (hr.mono (by decide)) T.b_Poll_word .nil pass0 (pa_cons (pv 14) (pa_cons (pv 8) pa_nil))))) (pv 17) (nomark _))
       (pss_one (ps_ret pe_bl))
       pss_nil)
       (pss_cons (ps_set (i := 18) sc_law.nd rfl (.inl rfl) (pe_cmpR op_notIn_seq pe_bl (pe_lc (own := [("name", 14)]) (g := (gName 14)) rfl sc_law.nd (pi_list (pv 3)) (blkOk_by (own := [("name", 14)]) (N := ["script", "tape", "names", "needed", "poll", "rows", "votes", "closed", "k", "way", "start", "length", "due", "best", "name", "number", "word", "words", "right", "open_ones"]) (sc := defScope s_law) (by decide +kernel)) (fun _ _ _ _ _ => (pg_name (i := 14) sc_law.nd rfl (.inl rfl))) (fun _ _ _ _ _ => pts_nil) (fun _ _ _ _ _ => (pe_cmpR (show OpR _ _ (rIn K false) from op_in_seq) (pe_dget2 (hu_of hr) (pv 6) (pe_tup (pa_cons (pv 14) (pa_cons (pv 8) pa_nil))) pe_str ⟨rfl, rfl, rfl, rfl⟩) (pe_lst (pa_cons pe_str (pa_cons pe_str pa_nil))) rfl))) rfl))
       (pss_one (ps_if (pt_not (pt_val (pe_call (ok_law_same T) (hr.mono (by decide)) (by rfl) T.g_law_same T.F_law_same.kp T.b_law_same .nil pass0 (pa_cons (pe_meth (pv 4) T.c_Poll T.m_Poll_possible (ok_Poll_possible T) (hr.mono (by decide)) T.b_Poll_possible .nil pass0 (pa_cons (pv 8) pa_nil)) (pa_cons (pv 18) pa_nil)))))
       (pss_one (ps_ret pe_bl))
       pss_nil)))))))
       (pss_cons (ps_setLc (i := 19) (own := [("name", 14)]) (g := (gName 14)) rfl sc_law.nd rfl rfl (sw_true rfl rfl rfl (by decide +kernel)) (pi_list (pv 2)) (blkOk_by (own := [("name", 14)]) (N := ["script", "tape", "names", "needed", "poll", "rows", "votes", "closed", "k", "way", "start", "length", "due", "best", "name", "number", "word", "words", "right", "open_ones"]) (sc := defScope s_law) (by decide +kernel)) (fun _ _ _ _ _ => (pg_name (i := 14) sc_law.nd rfl (.inr rfl))) (fun _ _ _ _ _ => (pts_one (pt_cmpR (show OpR _ _ (rIn K false) from op_in_seq) pe_bl (pe_lc (own := [("k", 8)]) (g := (gName 8)) rfl sc_law.nd (pi_range1 (by rfl) T.z_range (pa_cons (pe_callB (show CallR _ _ (rLenSeq K) from call_len_seqK) (by rfl) T.z_len (by decide +kernel) (pa_cons (pv 5) pa_nil)) pa_nil)) (by first | exact (blkOk_by (own := [("k", 8)]) (N := ["script", "tape", "names", "needed", "poll", "rows", "votes", "closed", "k", "way", "start", "length", "due", "best", "name", "number", "word", "words", "right", "open_ones"]) (sc := { kind := ScopeKind.function, names := [(".0", NameKind.local), ("name", NameKind.cell), ("len", NameKind.globalImplicit), ("range", NameKind.globalImplicit), ("rows", NameKind.cell), ("votes", NameKind.cell)], isGenerator := false, isCoroutine := false }) (by decide +kernel)) | exact (blkOk_by (own := [("k", 8)]) (N := ["script", "tape", "names", "needed", "poll", "rows", "votes", "closed", "k", "way", "start", "length", "due", "best", "name", "number", "word", "words", "right", "open_ones"]) (sc := { kind := ScopeKind.function, names := [(".0", NameKind.local), ("name", NameKind.cell), ("len", NameKind.globalImplicit), ("range", NameKind.globalImplicit), ("rows", NameKind.free), ("votes", NameKind.free)], isGenerator := false, isCoroutine := false }) (by decide +kernel)) | exact (blkOk_by (own := [("k", 8)]) (N := ["script", "tape", "names", "needed", "poll", "rows", "votes", "closed", "k", "way", "start", "length", "due", "best", "name", "number", "word", "words", "right", "open_ones"]) (sc := { kind := ScopeKind.function, names := [(".0", NameKind.local), ("name", NameKind.cell), ("range", NameKind.globalImplicit), ("len", NameKind.globalImplicit), ("rows", NameKind.cell), ("votes", NameKind.cell)], isGenerator := false, isCoroutine := false }) (by decide +kernel)) | exact (blkOk_by (own := [("k", 8)]) (N := ["script", "tape", "names", "needed", "poll", "rows", "votes", "closed", "k", "way", "start", "length", "due", "best", "name", "number", "word", "words", "right", "open_ones"]) (sc := { kind := ScopeKind.function, names := [(".0", NameKind.local), ("name", NameKind.cell), ("range", NameKind.globalImplicit), ("len", NameKind.globalImplicit), ("rows", NameKind.free), ("votes", NameKind.free)], isGenerator := false, isCoroutine := false }) (by decide +kernel))) (fun _ _ _ _ _ => (pg_name (i := 8) sc_law.nd rfl (.inl rfl))) (fun _ _ _ _ _ => pts_nil) (fun _ _ _ _ _ => (pe_cmp (pc_dnotin (hu_of hr) (pe_tup (pa_cons (pv 14) (pa_cons (pv 8) pa_nil))) (pv 6))))) rfl))) (fun _ _ _ _ _ => (pv 14)))
       (pss_one (ps_ret (pe_and (pe_cmpR (op_eqD (hr.units)) (pe_meth0 (pv 4) T.c_Poll T.m_Poll_best (ok_Poll_best T) (hr.mono (by decide)) T.b_Poll_best .nil pass0) (pe_call (ok_law_best T) (hr.mono (by decide)) (by rfl) T.g_law_best T.F_law_best.kp T.b_law_best .nil pass0 (pa_cons (pv 5) (pa_cons (pv 6) (pa_cons (pv 2) (pa_cons (pv 3) pa_nil))))) (nomark _)) (pe_one (pe_cmpR (op_eqD (hr.units)) (pe_meth0 (pv 4) T.c_Poll T.m_Poll_missing (ok_Poll_missing T) (hr.mono (by decide)) T.b_Poll_missing .nil pass0) (pv 19) (nomark _))))))))))))))))), ?_⟩
    refine red (σ' := [some (.ref b), none, none, none, none, none, none, none, none, none, none, none, none, none, none, none, none, none, none, none]) rfl ?_
    try dsimp only [cxOf]
    walk_at "go"
    refine ⟨b, _, rfl, hb, by rw [List.length_map]; omega, fun t c hc ht ct => ?_⟩
    have I : Tp t c ns _ := Tp.made hc ht ct
    generalize upd (upd H c (.lst (ns.map V.int))) t (tp c 0 0) = H1 at I
    clear hc ht
    walk_at "go"
    refine I.draw (by decide) (by decide) fun k0 H2 k00 k01 I rel => ?_
    obtain ⟨k, rfl⟩ := Int.eq_ofNat_of_zero_le k00
    clear rel
    walk_at "go"
    refine ⟨t, c, ns, 1 + k, by simp, I, by omega, fun H3 N nm I rel hN hN0 nml nmd six => ?_⟩
    clear rel hN0
    have tN : N ≠ t := I.ne hN fun _ _ => ne_sv
    walk_at "go"
    refine ⟨N, rfl, ⟨_, SqL.of hN⟩, fun D hD0 => ?_⟩
    have tD : D ≠ t := I.ne_none hD0
    have cD : D ≠ c := (ne_of_none I.2 hD0).symm
    have nD : N ≠ D := ne_of_none hN hD0
    refine lc_list (K := K) (a := N) (xs := sv nm) (fun i H' => ∃ nd : List (List Nat), Tp t c ns H' ∧ H' N = some (.lst (sv nm)) ∧ H' D = some (.lst (sv nd)) ∧ (∀ z ∈ nd, z ∈ nm) ∧ nd.length ≤ i) ⟨[], I.same (same_new hD0), (upd_ne nD).trans hN, upd_same, fun z h => (by cases h), Nat.le_refl 0⟩ (fun i H' _ h => SqL.of h.choose_spec.2.1) ?_ ?_
    · rintro i y H4 hi ⟨nd, I, hN, hD, sub, ndl⟩
      obtain ⟨z, hz, rfl⟩ := sv_get hi
      have hil := (List.getElem?_eq_some_iff.mp hz).1
      walk_at "go"
      refine ⟨rfl, ?_⟩
      show tTest (tOp rEq (tCall (sp_law_draw K) [] E0 (tCons (tVar 1) (tCons (tC (V.int 3)) tNil))) (tC (V.int 0))) _ _ _
      walk_at "go"
      refine I.draw (n := 3) (by decide) (by decide) fun d1 H5 _ _ I rel => ?_
      replace hN := rel _ _ tN hN
      replace hD := rel _ _ tD hD
      walk_at "go"
      refine iteK (fun _ => ?_) (fun _ => ?_)
      · walk_at "go"
        refine ⟨_, hD, by have := sizeBig; rw [List.length_map]; omega, nd ++ [z], ?_, (upd_ne nD).trans hN, ?_, ?_, ?_⟩
        · exact I.rel tD.symm cD.symm fun b o hb h => (upd_ne hb).trans h
        · rw [upd_same]; exact congrArg (fun z => some (HO.lst z)) (sv_app nd [z])
        · intro y hy
          rcases List.mem_append.mp hy with hy | hy
          · exact sub y hy
          · rw [List.mem_singleton.mp hy]; exact List.mem_of_getElem? hz
        · rw [List.length_append]; exact Nat.succ_le_succ ndl
      · exact ⟨nd, I, hN, hD, sub, by omega⟩
    rintro H4 ⟨nd, I, hN, hD, sub, ndl⟩
    rw [List.length_map] at ndl
    have nm0 : nm ≠ [] := fun e => by rw [e] at nml; simp at nml; omega
    have nmS : ∀ z ∈ nm, z.length ≤ 100 := fun z hz => (six_ok z (six z hz)).2.1
    walk_at "go"
    refine g_slL (SqL.of hN) (ys := sv (nm.take 1)) (by rw [show (1 : Int) = ((1 : Nat) : Int) from rfl, cutV_to (by rw [List.length_map]; omega)]; exact List.map_take.symm) fun L1 H5 _ sm hL1 => ?_
    replace I := I.same sm; replace hN := sm _ _ hN; replace hD := sm _ _ hD
    clear sm
    refine g_cat hN hL1 (sv_app nm (nm.take 1)) (by rw [List.length_map, List.length_append, List.length_take]; omega) fun L2 H6 _ sm hL2 => ?_
    replace I := I.same sm; replace hN := sm _ _ hN; replace hD := sm _ _ hD
    clear sm
    walk_at "go"
    refine ⟨L2, D, _, nd, rfl, hL2, hD, by rw [List.length_append, List.length_take]; omega, by omega, fun z hz => nmS z ((List.mem_append.mp hz).elim id fun h => List.mem_of_mem_take h), bad_twice, fun H7 sm => ?_⟩
    replace I := I.same sm; replace hN := sm _ _ hN; replace hD := sm _ _ hD
    clear sm hL2 hL1
    walk_at "go"
    refine iteF ?_
    walk_at "go"
    refine nwL (ys := sv []) rfl (by decide) fun L3 H8 _ sm hL3 => ?_
    replace I := I.same sm; replace hN := sm _ _ hN; replace hD := sm _ _ hD
    clear sm
    walk_at "go"
    refine nwL (ys := sv []) rfl (by decide) fun L4 H9 _ sm hL4 => ?_
    replace I := I.same sm; replace hN := sm _ _ hN; replace hD := sm _ _ hD; replace hL3 := sm _ _ hL3
    clear sm
    walk_at "go"
    refine ⟨L3, L4, [], [], rfl, hL3, hL4, by decide, by decide, fun z h => (by cases h), bad_none, fun H10 sm => ?_⟩
    replace I := I.same sm; replace hN := sm _ _ hN; replace hD := sm _ _ hD
    clear sm hL3 hL4
    walk_at "go"
    refine iteF ?_
    walk_at "go"
    refine nwL (ys := sv [ZED]) rfl (by decide) fun L5 H11 _ sm hL5 => ?_
    replace I := I.same sm; replace hN := sm _ _ hN; replace hD := sm _ _ hD
    clear sm
    walk_at "go"
    refine ⟨N, L5, nm, [ZED], rfl, hN, hL5, by omega, by decide, nmS, bad_zed six, fun H12 sm => ?_⟩
    replace I := I.same sm; replace hN := sm _ _ hN; replace hD := sm _ _ hD
    clear sm hL5
    walk_at "go"
    refine iteF ?_
    walk_at "go"
    refine nwL (ys := sv [[65, 110, 110]]) rfl (by decide) fun L6 H13 _ sm hL6 => ?_
    replace I := I.same sm; replace hN := sm _ _ hN; replace hD := sm _ _ hD
    clear sm
    walk_at "go"
    refine nwL (ys := sv []) rfl (by decide) fun L7 H14 _ sm hL7 => ?_
    replace I := I.same sm; replace hN := sm _ _ hN; replace hD := sm _ _ hD; replace hL6 := sm _ _ hL6
    clear sm
    walk_at "go"
    refine ⟨L6, L7, [[65, 110, 110]], [], rfl, hL6, hL7, by decide, by decide, by decide, bad_big, fun H15 sm => ?_⟩
    replace I := I.same sm; replace hN := sm _ _ hN; replace hD := sm _ _ hD
    clear sm hL6 hL7
    walk_at "go"
    refine iteF ?_
    walk_at "go"
    intro x dx hx hdx hne
    have sm : Same H15 (upd (upd H15 dx (.own x)) x (.ins a.C_Poll dx [])) := (same_new hdx).trans (same_new ((upd_ne hne.symm).trans hx))
    have ok : nmsOk nm nd := ⟨nm0, fun z hz => (six_ok z (six z hz)).1, nmd, sub⟩
    refine ⟨x, dx, N, D, nm, nd, rfl, upd_same, sm _ _ hN, sm _ _ hD, by omega, by omega, nmS, fun z => absurd ok z, fun _ H16 n d p v hx2 hn2 hd2 hp2 hv2 hp0 hv0 rl => ⟨rfl, ?_⟩⟩
    have s16 : Same H15 H16 := fun b o h => rl b o (ne_of_none h hx) (sm b o h)
    have npH : ∀ {b o}, H15 b = some o → b ≠ p := fun {b o} h => ne_of_none (sm b o h) hp0
    obtain ⟨kt, rt, _, _, ht⟩ := id I.1
    have tp_ := npH ht; have cp_ := npH I.2; have np_ := npH hN; have dp_ := npH hD
    replace I := I.same s16; replace hN := s16 _ _ hN; replace hD := s16 _ _ hD
    have J : Pl K a x dx n d p v nm nd [] [] false H16 := ⟨hx2, hn2, hd2, ⟨[], hp2, .nil⟩, hv2⟩
    clear s16 rl sm hx2 hn2 hd2 hp2 hv2 hp0 hv0 hx hdx hne npH ht
    walk_at "go"
    obtain ⟨kt, rt, _, _, ht⟩ := id I.1
    obtain ⟨xp, hp, _⟩ := id J.p_
    refine nwL (ys := []) rfl (by decide) fun R H17 hR0 sm hR => ?_
    have tr_ : t ≠ R := ne_of_none ht hR0
    have cr_ : c ≠ R := ne_of_none I.2 hR0
    have nr_ : N ≠ R := ne_of_none hN hR0
    have dr_ : D ≠ R := ne_of_none hD hR0
    have rp_ : R ≠ p := (ne_of_none hp hR0).symm
    replace I := I.same sm; replace hN := sm _ _ hN; replace hD := sm _ _ hD; replace J := J.same sm
    clear sm hR0 ht hp
    walk_at "go"
    intro U hU0
    have uv_ : U ≠ v := (ne_of_none J.v_ hU0).symm
    have sm := same_new (o := .dT []) hU0
    have hU : upd H17 U (.dT []) U = some (.dT (Po.enc [])) := upd_same
    replace I := I.same sm; replace hN := sm _ _ hN; replace hD := sm _ _ hD; replace J := J.same sm; replace hR := sm _ _ hR
    generalize upd H17 U (.dT []) = H18 at I hN hD J hR hU
    clear sm hU0
    walk_at "go"
    have I : LI K a t c N D x dx n d p v R U ns nm nd [] [] [] [] false H18 := ⟨I, hN, hD, J, ⟨_, hR, .nil⟩, hU, tp_, cp_, np_, dp_, rp_, tr_, cr_, nr_, dr_, uv_⟩
    clear hN hD J hR hU tp_ cp_ np_ dp_ rp_ tr_ cr_ nr_ dr_ uv_
    refine nwT (ys := [.ref R, .ref U, .bl false]) rfl (by show 3 ≤ 1000000; decide) fun T3 H19 _ sm hT3 => ?_
    replace I := I.same sm
    clear sm
    refine g_gtup ⟨T3, _, rfl, SqT.of hT3, rfl, ?_⟩
    walk_at "go"
    refine I.draw (by decide) (by decide) fun m0 H20 m00 m01 I _ => ?_
    obtain ⟨m, rfl⟩ := Int.eq_ofNat_of_zero_le m00
    walk_at "go"
    refine ⟨_, rfl, by omega, by omega, ?_⟩
    rw [Int.toNat_natCast]
    have nml5 : nm.length ≤ 4 := by omega
    have ndl5 : nd.length ≤ 4 := by omega
    refine for_range (lo := 0) (n := m) (fun i σ' H' => ∃ (pr : List (Nat × Nat)) (vt : Po.VD) (cl : Bool) (y8 y9 y10 y11 y12 y13 y14 y15 y16 : Option V), σ' = [some (.ref b), some (.ref t), some (.ref N), some (.ref D), some (.ref x), some (.ref R), some (.ref U), some (.bl cl), y8, y9, y10, y11, y12, y13, y14, y15, y16, none, none, none] ∧
      LI K a t c N D x dx n d p v R U ns nm nd pr pr vt vt cl H' ∧ pr.length ≤ i ∧ vt.length ≤ i ∧ Po.VOk vt)
      ⟨[], [], false, _, _, _, _, _, _, _, _, _, rfl, I, Nat.le_refl 0, Nat.le_refl 0, fun e he => by cases he⟩ ?_ ?_
    · clear I
      rintro i σ' H21 hi ⟨pr, vt, cl, y8, y9, y10, y11, y12, y13, y14, y15, y16, rfl, I, prl, vtl, vo⟩
      walk_at "go"
      refine I.draw (by decide) (by decide) fun way H22 w0 w1 I _ => ?_
      walk_at "go"
      refine iteK (fun h1 => ?_) (fun h1 => ?_)
      · walk_at "go"
        refine I.draw (by decide) (by decide) fun d1 H23 d10 d11 I _ => ?_
        obtain ⟨d1, rfl⟩ := Int.eq_ofNat_of_zero_le d10
        walk_at "go"
        refine I.draw (by decide) (by decide) fun d2 H24 d20 d21 I _ => ?_
        obtain ⟨d2, rfl⟩ := Int.eq_ofNat_of_zero_le d20
        walk_at "go"
        obtain ⟨s, hs⟩ : ∃ s : Nat, s = 60 * d1 := ⟨_, rfl⟩
        obtain ⟨l, hl2⟩ : ∃ l : Nat, l = 30 * d2 := ⟨_, rfl⟩
        rw [show (60 : Int) * (d1 : Nat) = ((s : Nat) : Int) by omega, show (30 : Int) * (d2 : Nat) = ((l : Nat) : Int) by omega]
        have s1 : s < 1000000 := by omega
        have l1 : l < 1000000 := by omega
        obtain ⟨rs, hR, hrs⟩ := I.R_
        have hrl := dpAll_len hrs
        rw [List.length_map] at hrl
        refine ⟨_, _, rfl, ?_⟩
        walk_at "go"
        rw [hrl]
        refine ⟨fun σ' H' => ∃ (w12 : V), σ' = [some (.ref b), some (.ref t), some (.ref N), some (.ref D), some (.ref x), some (.ref R), some (.ref U), some (.bl cl), some (.int (0 + i)), some (.int way), some (.int s), some (.int l), some w12, y13, y14, y15, y16, none, none, none] ∧
          LI K a t c N D x dx n d p v R U ns nm nd pr (propR cl pr s l) vt vt cl H' ∧ Dp K H' w12 (propD cl pr s l), ?_, ?_⟩
        · unfold propD propR
          walk_at "go"
          cases cl with
          | true =>
            refine iteT ?_
            walk_at "go"
            refine ⟨_, rfl, ?_, ?_⟩
            · rw [if_pos (.inl rfl)]; exact I
            · rw [if_pos rfl]; exact .str _
          | false =>
            refine iteF ?_
            walk_at "go"
            rw [if_neg (show ¬ (false = true) by decide)]
            refine iteK (fun h2 => ?_) (fun h2 => ?_)
            · walk_at "go"
              refine ⟨_, rfl, ?_, ?_⟩
              · rw [if_pos (.inr (.inl (by omega)))]; exact I
              · rw [if_pos (by omega)]; exact .str _
            · rw [if_neg (show ¬ l < 1 by omega)]
              walk_at "go"
              refine nwT (ys := [.int s, .int l]) rfl (by show 2 ≤ 1000000; decide) fun tq H25 _ sm htq => ?_
              replace I := I.same sm; replace hR := sm _ _ hR; replace hrs := dpAll_same sm _ hrs
              clear sm
              walk_at "go"
              refine ⟨prD (s, l), pr.map prD, .tup (SqT.of htq) (.cons (.int _) (.cons (.int _) .nil)), .lst (SqL.of hR) hrs, shaped_of (pl_prD _) (by simp [prD, PyData.depth, PyData.depthAll]), shaped_of (pl_prs pr) (dp_prs pr), ?_⟩
              rw [any_prs]
              by_cases hm : (s, l) ∈ pr
              · rw [decide_eq_true hm]
                refine ⟨true, rfl, ?_⟩
                rw [if_pos rfl]
                walk_at "go"
                refine nwT (ys := [.int s, .int l]) rfl (by show 2 ≤ 1000000; decide) fun t2 H26 _ sm ht2 => ?_
                replace I := I.same sm
                clear sm
                walk_at "go"
                refine nwT (ys := [.str ("taken" : Str), .ref t2]) rfl (by show 2 ≤ 1000000; decide) fun t3 H27 _ sm ht3 => ?_
                replace I := I.same sm; replace ht2 := sm _ _ ht2
                walk_at "go"
                refine ⟨_, rfl, ?_, ?_⟩
                · rw [if_pos (.inr (.inr hm))]; exact I
                · rw [if_pos hm]; exact .tup (SqT.of ht3) (.cons (.str _) (.cons (.tup (SqT.of ht2) (.cons (.int _) (.cons (.int _) .nil))) .nil))
              · rw [decide_eq_false hm]
                refine ⟨false, rfl, ?_⟩
                rw [if_neg (show ¬ (false = true) by decide), if_neg hm, if_neg (fun z => z.elim (fun z => by cases z) fun z => z.elim (fun z => by omega) hm)]
                walk_at "go"
                refine ⟨.inl ⟨rfl, _, SqL.of hR⟩, ?_⟩
                walk_at "go"
                refine nwT (ys := [.int s, .int l]) rfl (by show 2 ≤ 1000000; decide) fun t2 H26 _ sm ht2 => ?_
                replace I := I.same sm; replace hR := sm _ _ hR; replace hrs := dpAll_same sm _ hrs
                clear sm
                walk_at "go"
                refine ⟨R, _, _, rfl, rfl, hR, by have := sizeBig; omega, ?_⟩
                have kp : KeepT H26 (upd H26 R (.lst (rs ++ [.ref t2]))) := KeepT.putL hR
                refine ⟨_, rfl, I.setR ?_, .int _⟩
                rw [List.map_append]
                exact dpAll_app (dpAll_keep kp _ (noL_prs pr) hrs) (.cons (.tup (sqT_keep (SqT.of ht2) kp) (.cons (.int _) (.cons (.int _) .nil))) .nil)
        · clear I hR hrs
          rintro σ' H25 ⟨w12, rfl, I, dw⟩
          walk_at "go"
          refine ⟨x, dx, n, d, p, v, nm, nd, pr, vt, cl, s, l, rfl, I.P_, s1, l1, by omega, fun H26 r J rl dr => ?_⟩
          obtain ⟨I2, kp⟩ := I.setp J rl
          obtain ⟨p1, p2, p3⟩ := pl_propD cl pr s l
          replace dw := dp_keep kp _ p3 dw
          walk_at "go"
          refine g_neD dr dw p1 p1 p2 p2 (fun _ => ?_) (fun h => absurd rfl h)
          refine ⟨_, rfl, ?_⟩
          refine iteF ?_
          walk_at "go"
          refine ⟨propR cl pr s l, vt, cl, _, _, _, _, _, _, _, _, _, rfl, I2, ?_, by omega, vo⟩
          unfold propR
          split
          · omega
          · rw [List.length_append]; exact Nat.succ_le_succ prl
      · walk_at "go"
        rw [dec_int]
        obtain ⟨rs, hR, hrs⟩ := I.R_
        refine iteK (fun h7 => ?A) (fun h7 => ?B)
        case' A =>
          walk_at "go"
          refine I.draw (by decide) (by decide) fun d3 H23 _ _ I rel => ?_
          replace hR := rel _ _ I.tr_.symm hR
          walk_at "go"
          rw [dec_int]
          refine iteK (fun h8 => ?C) (fun h8 => ?D)
        case' C =>
          clear hrs hR
          obtain ⟨rs, hR, hrs⟩ := I.R_
          walk_at "go"
          refine ⟨R, U, N, D, nm, nd, pr, vt, rs, rfl, hR, hrs, I.U_, I.N_, I.D_, by omega, by omega, by omega, fun H24 sm => ?_⟩
          replace I := I.same sm; replace hR := sm _ _ hR; replace hrs := dpAll_same sm _ hrs
          clear sm
          have hlt := fun k (h : Po.best vt nm nd pr = some k) => Po.best_lt h
          have fin : ∀ {H25 : Hp} {r u : V} {Q : VK}, Dp K H25 r (bestD (Po.best vt nm nd pr) pr) → Dp K H25 u (bestD (Po.best vt nm nd pr) pr) → Q (.bl false) H25 → rNeD K r u H25 Q := fun dr du q =>
            g_neD dr du (pl_bestD _ _).1 (pl_bestD _ _).1 (pl_bestD _ _).2 (pl_bestD _ _).2 (fun _ => q) (fun h => absurd rfl h)
          cases hb : Po.best vt nm nd pr with
          | none =>
            show gName 13 .non _ _ _
            walk_at "go"
            refine ⟨x, _, _, rfl, I.P_.x_, wf_no (by decide +kernel) (by decide +kernel) (by decide +kernel) (by decide +kernel) (by decide +kernel), ?_⟩
            walk_at "go"
            refine ⟨x, dx, n, d, p, v, nm, nd, pr, vt, cl, rfl, I.P_, by omega, by omega, by omega, fun H25 r J rl dr => ?_⟩
            obtain ⟨I2, kp⟩ := I.setx J rl
            walk_at "go"
            refine iteF ?_
            walk_at "go"
            refine fin dr (by rw [hb]; exact .non) ?_
            refine ⟨_, rfl, ?_⟩
            refine iteF ?_
            walk_at "go"
            exact ⟨pr, vt, true, _, _, _, _, _, _, _, _, _, rfl, I2, by omega, by omega, vo⟩
          | some k =>
            have hk := hlt k hb
            show gName 13 (.int (k : Nat)) _ _ _
            walk_at "go"
            refine ⟨x, _, _, rfl, I.P_.x_, wf_no (by decide +kernel) (by decide +kernel) (by decide +kernel) (by decide +kernel) (by decide +kernel), ?_⟩
            walk_at "go"
            refine ⟨x, dx, n, d, p, v, nm, nd, pr, vt, cl, rfl, I.P_, by omega, by omega, by omega, fun H25 r J rl dr => ?_⟩
            obtain ⟨I2, kp⟩ := I.setx J rl
            clear hrs hR
            obtain ⟨rs, hR, hrs⟩ := I2.R_
            obtain ⟨u, hu, du⟩ := dpAll_at (i := k) hrs (d := prD (pr.getD k (0, 0))) (by rw [List.getElem?_map, List.getElem?_eq_getElem hk, List.getD_eq_getElem?_getD, List.getElem?_eq_getElem hk]; rfl)
            walk_at "go"
            refine iteT ?_
            walk_at "go"
            refine g_ixL (SqL.of hR) (atI_nat hu) ?_
            refine fin dr (by rw [hb]; exact du) ?_
            refine ⟨_, rfl, ?_⟩
            refine iteF ?_
            walk_at "go"
            exact ⟨pr, vt, true, _, _, _, _, _, _, _, _, _, rfl, I2, by omega, by omega, vo⟩
        case' B => refine iteF ?_
        all_goals
          have hN := I.N_
          have hrl := dpAll_len hrs
          rw [List.length_map] at hrl
          clear hrs
          walk_at "go"
          refine nwL (ys := sv [ZED]) rfl (by decide) fun L1 H30 _ sm hL1 => ?_
          replace I := I.same sm; replace hN := sm _ _ hN; replace hR := sm _ _ hR
          clear sm
          walk_at "go"
          refine g_cat hN hL1 (sv_app nm [ZED]) (by rw [List.length_map, List.length_append]; show _ + 1 ≤ _; omega) fun L2 H31 _ sm hL2 => ?_
          replace I := I.same sm; replace hN := sm _ _ hN; replace hR := sm _ _ hR
          clear sm
          walk_at "go"
          have tL2 : L2 ≠ t := I.T_.ne hL2 fun _ _ => ne_sv
          refine I.draw (by omega) (by rw [List.length_map]; omega) fun d4 H32 d40 d41 I rel => ?_
          replace hL2 := rel _ _ tL2 hL2; replace hR := rel _ _ I.tr_.symm hR
          clear rel
          rw [List.length_map] at d41
          obtain ⟨j, rfl⟩ := Int.eq_ofNat_of_zero_le d40
          obtain ⟨z, hz⟩ : ∃ z, (nm ++ [ZED])[j]? = some z := ⟨_, List.getElem?_eq_getElem (by rw [List.length_append]; show j < nm.length + 1; omega)⟩
          refine g_ixL (v := .str (S z)) (SqL.of hL2) (atI_nat (by rw [List.getElem?_map, hz]; rfl)) ?_
          have hzm : z ∈ nm ∨ z = ZED := (List.mem_append.mp (List.mem_of_getElem? hz)).imp id fun h => List.mem_singleton.mp h
          have zok : z.length ≤ 100 ∧ PyData.strOk (S z) = true := by
            rcases hzm with h | h
            · exact ⟨(six_ok z (six z h)).2.1, (six_ok z (six z h)).2.2.2⟩
            · subst h; decide +kernel
          have znm : z ∉ nm ↔ z = ZED := ⟨fun h => hzm.resolve_left h, fun h hm => (six_ok z (six z hm)).2.2.1 h⟩
          clear hz hL2 hL1 tL2 hN
          walk_at "go"
          rw [hrl]
          refine I.draw (by omega) (by omega) fun d5 H33 d50 d51 I rel => ?_
          replace hR := rel _ _ I.tr_.symm hR
          clear rel
          walk_at "go"
          refine I.draw (by decide) (by decide) fun d6 H34 d60 d61 I rel => ?_
          clear rel hR
          walk_at "go"
          obtain ⟨kk, hkk⟩ : ∃ kk, d5 - (if decide (V.int d6 = V.int 0) = true then 1 else 0) = kk := ⟨_, rfl⟩
          rw [hkk]
          have hk1 : -1 ≤ kk ∧ kk < 1000 := by split at hkk <;> omega
          clear hkk
          refine nwL (ys := sv WORDS) rfl (by show 6 ≤ 1000000; decide) fun L3 H35 _ sm hL3 => ?_
          replace I := I.same sm
          clear sm
          walk_at "go"
          have tL3 : L3 ≠ t := I.T_.ne hL3 fun _ _ => ne_sv
          refine I.draw (by decide) (by decide) fun d7 H36 d70 d71 I rel => ?_
          replace hL3 := rel _ _ tL3 hL3
          clear rel
          obtain ⟨j7, rfl⟩ := Int.eq_ofNat_of_zero_le d70
          obtain ⟨u, hu⟩ : ∃ u, WORDS[j7]? = some u := ⟨_, List.getElem?_eq_getElem (by show j7 < 6; omega)⟩
          refine g_ixL (v := .str (S u)) (SqL.of hL3) (atI_nat (by rw [List.getElem?_map, hu]; rfl)) ?_
          have huw : u ∈ VTS ↔ u ≠ [89, 101, 115] := words_ok u (List.mem_of_getElem? hu)
          clear hu hL3 tL3
          walk_at "go"
          refine ⟨fun σ' H' => ∃ (w12 : V), σ' = [some (.ref b), some (.ref t), some (.ref N), some (.ref D), some (.ref x), some (.ref R), some (.ref U), some (.bl cl), some (.int (0 + i)), some (.int way), y10, y11, some w12, y13, some (.str (S z)), some (.int kk), some (.str (S u)), none, none, none] ∧
            LI K a t c N D x dx n d p v R U ns nm nd pr pr vt (voteR cl nm pr.length vt z kk u) cl H' ∧ Dp K H' w12 (voteD cl nm pr.length z kk u), ?_, ?_⟩
          · unfold voteD voteR
            walk_at "go"
            cases cl with
            | true =>
              refine iteT ?_
              walk_at "go"
              refine ⟨_, rfl, ?_, ?_⟩
              · rw [if_neg (fun z => by cases z.1)]; exact I
              · rw [if_pos rfl]; exact .str _
            | false =>
              refine iteF ?_
              walk_at "go"
              rw [if_neg (show ¬ (false = true) by decide)]
              rw [show decide (V.str (S z) = V.str (Str.ofString "zed")) = decide (z = ZED) from dec_str z ZED]
              refine iteK (fun h2 => ?_) (fun h2 => ?_)
              · walk_at "go"
                refine nwT (ys := [.str ("none" : Str), .str (S z)]) rfl (by show 2 ≤ 1000000; decide) fun t3 H40 _ sm ht3 => ?_
                walk_at "go"
                refine ⟨_, rfl, ?_, ?_⟩
                · rw [if_neg (fun y => znm.mpr h2 y.2.1)]; exact I.same sm
                · rw [if_pos (znm.mpr h2)]; exact .tup (SqT.of ht3) (.cons (.str _) (.cons (.str _) .nil))
              · have hz : z ∈ nm := hzm.resolve_right h2
                rw [if_neg (show ¬ (z ∉ nm) from fun y => y hz)]
                obtain ⟨rs, hR, hrs⟩ := I.R_
                have hrl := dpAll_len hrs
                rw [List.length_map] at hrl
                clear hrs
                walk_at "go"
                refine iteK (fun h3 => ?_) (fun h3 => ?_)
                · walk_at "go"
                  rw [hrl]
                  refine iteNK (fun h4 => ?_) (fun h4 => ?_)
                  · walk_at "go"
                    refine nwT (ys := [.str ("none" : Str), .int kk]) rfl (by show 2 ≤ 1000000; decide) fun t3 H40 _ sm ht3 => ?_
                    walk_at "go"
                    refine ⟨_, rfl, ?_, ?_⟩
                    · rw [if_neg (fun y => h4 y.2.2.1.2)]; exact I.same sm
                    · rw [if_pos (fun y => h4 y.2)]; exact .tup (SqT.of ht3) (.cons (.str _) (.cons (.int _) .nil))
                  · rw [if_neg (show ¬ ¬ (0 ≤ kk ∧ kk < (pr.length : Nat)) from fun y => y ⟨h3, h4⟩)]
                    walk_at "go"
                    rw [show decide (V.str (S u) = V.str (Str.ofString "Yes")) = decide (u = [89, 101, 115]) from dec_str u _]
                    refine iteK (fun h5 => ?_) (fun h5 => ?_)
                    · walk_at "go"
                      refine ⟨_, rfl, ?_, ?_⟩
                      · rw [if_neg (fun y => huw.mp y.2.2.2 h5)]; exact I
                      · rw [if_pos (fun y => huw.mp y h5)]; exact .str _
                    · have huv := huw.mpr h5
                      rw [if_neg (show ¬ (u ∉ VTS) from fun y => y huv), if_pos (show false = false ∧ z ∈ nm ∧ (0 ≤ kk ∧ kk < (pr.length : Nat)) ∧ u ∈ VTS from ⟨rfl, hz, ⟨h3, h4⟩, huv⟩)]
                      walk_at "go"
                      refine nwT (ys := [.str (S z), .int kk]) rfl (by show 2 ≤ 1000000; decide) fun t3 H40 _ sm ht3 => ?_
                      replace I := I.same sm
                      obtain ⟨kn, rfl⟩ := Int.eq_ofNat_of_zero_le h3
                      refine ⟨U, _, rfl, DPut.t (k := Po.kk (z, kn)) I.U_ ht3 (by rw [Po.enc_len]; exact Nat.lt_of_le_of_lt (show _ ≤ 1000 by omega) (by decide)), ?_⟩
                      rw [Po.putK_enc]
                      exact ⟨_, rfl, I.setU, .non⟩
                · walk_at "go"
                  refine iteT ?_
                  walk_at "go"
                  refine nwT (ys := [.str ("none" : Str), .int kk]) rfl (by show 2 ≤ 1000000; decide) fun t3 H40 _ sm ht3 => ?_
                  walk_at "go"
                  refine ⟨_, rfl, ?_, ?_⟩
                  · rw [if_neg (fun y => h3 y.2.2.1.1)]; exact I.same sm
                  · rw [if_pos (fun y => h3 y.1)]; exact .tup (SqT.of ht3) (.cons (.str _) (.cons (.int _) .nil))
          · clear I
            rintro σ' H40 ⟨w12, rfl, I, dw⟩
            walk_at "go"
            have htold : Told (.int kk) := by
              by_cases h : kk = -1
              · rw [h]; exact .neg
              · obtain ⟨kn, rfl⟩ := Int.eq_ofNat_of_zero_le (show 0 ≤ kk by omega)
                exact .num kn (by omega)
            refine ⟨x, dx, n, d, p, v, nm, nd, pr, vt, cl, z, kk, u, rfl, I.P_, by omega, htold, by omega, fun H41 r J rl dr => ?_⟩
            obtain ⟨I2, kp⟩ := I.setv J rl
            obtain ⟨p1, p2, p3⟩ := pl_voteD cl nm pr.length z kk u zok.2
            replace dw := dp_keep kp _ p3 dw
            walk_at "go"
            refine g_neD dr dw p1 p1 p2 p2 (fun _ => ?_) (fun h => absurd rfl h)
            refine ⟨_, rfl, ?_⟩
            refine iteF ?_
            walk_at "go"
            refine ⟨pr, voteR cl nm pr.length vt z kk u, cl, _, _, _, _, _, _, _, _, _, rfl, I2, by omega, ?_, ?_⟩
            · unfold voteR
              split
              · exact Nat.le_trans (Po.pt_len _ _ _) (Nat.succ_le_succ vtl)
              · omega
            · unfold voteR
              split
              · next h => exact vo.put h.2.2.2
              · exact vo
    · rintro σ' H21 ⟨pr, vt, cl, y8, y9, y10, y11, y12, y13, y14, y15, y16, rfl, I, prl, vtl, vo⟩
      have meth : ∀ {f : Str}, ¬ f = "names" → ¬ f = "needed" → ¬ f = "_proposals" → ¬ f = "_votes" → ¬ f = "_closed" → (wf n d p v cl).lookup f = none := fun h1 h2 h3 h4 h5 => wf_no h1 h2 h3 h4 h5
      walk_at "go"
      refine ⟨x, _, _, rfl, I.P_.x_, meth (by decide +kernel) (by decide +kernel) (by decide +kernel) (by decide +kernel) (by decide +kernel), ?_⟩
      walk_at "go"
      refine ⟨x, dx, n, d, p, v, nm, nd, pr, vt, cl, rfl, I.P_, fun L1 H22 xs sm hL1 hxs => ?_⟩
      replace I := I.same sm
      clear sm
      obtain ⟨rs, hR, hrs⟩ := I.R_
      walk_at "go"
      refine g_neD (.lst (SqL.of hL1) hxs) (.lst (SqL.of hR) hrs) (pl_prs pr) (pl_prs pr) (dp_prs pr) (dp_prs pr) (fun _ => ?_) (fun h => absurd rfl h)
      refine ⟨_, rfl, ?_⟩
      refine iteF ?_
      walk_at "go"
      refine ⟨x, _, _, rfl, I.P_.x_, meth (by decide +kernel) (by decide +kernel) (by decide +kernel) (by decide +kernel) (by decide +kernel), ?_⟩
      walk_at "go"
      refine ⟨x, dx, n, d, p, v, nm, nd, pr, vt, cl, rfl, I.P_, ?_⟩
      walk_at "go"
      refine ⟨cl, rfl, ?_⟩
      refine ⟨true, rfl, ?_⟩
      refine iteF ?_
      have hrl := dpAll_len hrs
      rw [List.length_map] at hrl
      walk_at "go"
      rw [hrl]
      refine ⟨_, rfl, by omega, by omega, ?_⟩
      rw [Int.toNat_natCast]
      clear hR hrs hrl hL1 hxs
      refine for_range (lo := 0) (n := pr.length) (fun i σ' H' => ∃ (y8 y9 y10 y11 y12 y13 y14 y15 y16 y17 y18 : Option V), σ' = [some (.ref b), some (.ref t), some (.ref N), some (.ref D), some (.ref x), some (.ref R), some (.ref U), some (.bl cl), y8, y9, y10, y11, y12, y13, y14, y15, y16, y17, y18, none] ∧
        LI K a t c N D x dx n d p v R U ns nm nd pr pr vt vt cl H')
        ⟨_, _, _, _, _, _, _, _, _, _, _, rfl, I⟩ ?_ ?_
      · clear I
        rintro k σ' H23 hk ⟨y8, y9, y10, y11, y12, y13, y14, y15, y16, y17, y18, rfl, I⟩
        walk_at "go"
        rw [show (0 : Int) + (k : Nat) = ((k : Nat) : Int) by omega]
        have hN := I.N_
        have hU := I.U_
        refine ⟨N, rfl, ⟨_, SqL.of hN⟩, fun L2 hL2 => ?_⟩
        refine lc_list (K := K) (a := N) (xs := sv nm) (fun j H' => Same H23 H' ∧ H' L2 = some (.lst (sv (Po.words vt (nm.take j) k)))) ⟨same_new hL2, upd_same⟩ (fun j H' _ h => SqL.of (h.1 _ _ hN)) ?_ ?_
        · rintro j y H3 hj ⟨s3, hD3⟩
          obtain ⟨z, hz, rfl⟩ := sv_get hj
          have hjl := (List.getElem?_eq_some_iff.mp hz).1
          walk_at "go"
          refine ⟨rfl, ?_⟩
          refine g_yes (iteT ?_)
          walk_at "go"
          refine ⟨U, rfl, .inr ⟨_, .inl (s3 _ _ hU)⟩, ?_⟩
          walk_at "go"
          refine ⟨by show 2 ≤ sizeLine; decide, fun tq ht => ?_⟩
          walk_at "go"
          refine ⟨_, DGet.t (k := Po.kk (z, k)) ((upd_ne (ne_of_none (s3 _ _ hU) ht)).trans (s3 _ _ hU)) upd_same, ?_⟩
          rw [Po.valV_enc, wd_val]
          refine ⟨_, same_new ht _ _ hD3, by have := sizeBig; rw [words_len, List.length_take]; omega, same_put hL2 (s3.trans (same_new ht)), ?_⟩
          rw [upd_same, words_more hz]
        rintro H24 ⟨s3, hL2⟩
        rw [List.length_map, List.take_length] at hL2
        replace I := I.same s3; replace hN := s3 _ _ hN; replace hU := s3 _ _ hU
        clear s3
        walk_at "go"
        refine ⟨x, _, _, rfl, I.P_.x_, meth (by decide +kernel) (by decide +kernel) (by decide +kernel) (by decide +kernel) (by decide +kernel), ?_⟩
        walk_at "go"
        refine ⟨x, dx, n, d, p, v, nm, nd, pr, vt, cl, (k : Nat), rfl, I.P_, by omega, .num k (by omega), fun h => absurd ⟨by omega, by omega⟩ h, fun _ _ H25 tt s5 htt => ?_⟩
        rw [Int.toNat_natCast] at htt
        replace I := I.same s5; replace hN := s5 _ _ hN; replace hU := s5 _ _ hU; replace hL2 := s5 _ _ hL2
        clear s5
        have cnt : ∀ {u : List Nat} {Q : VK} {H' : Hp}, H' L2 = some (.lst (sv (Po.words vt nm k))) → Q (.int (Po.cnt vt nm k u : Nat)) H' → rCntS K (.ref L2) [.str (S u)] H' Q := fun {u Q H'} h q =>
          ⟨L2, _, _, rfl, rfl, by rw [← words_S]; exact SqL.of h, by rw [count_S]; exact q⟩
        walk_at "go"
        refine ⟨.inl ⟨rfl, _, SqL.of hL2⟩, ?_⟩
        walk_at "go"
        refine cnt (u := Po.YES) hL2 ?_
        walk_at "go"
        refine ⟨.inl ⟨rfl, _, SqL.of hL2⟩, ?_⟩
        walk_at "go"
        refine cnt (u := Po.MAYBE) hL2 ?_
        walk_at "go"
        refine ⟨.inl ⟨rfl, _, SqL.of hL2⟩, ?_⟩
        walk_at "go"
        refine cnt (u := Po.NO) hL2 ?_
        walk_at "go"
        refine nwT (ys := [.int (Po.cnt vt nm k Po.YES : Nat), .int (Po.cnt vt nm k Po.MAYBE : Nat), .int (Po.cnt vt nm k Po.NO : Nat)]) rfl (by show 3 ≤ 1000000; decide) fun t2 H26 _ sm ht2 => ?_
        replace I := I.same sm; replace hN := sm _ _ hN; replace hU := sm _ _ hU; replace hL2 := sm _ _ hL2; replace htt := sm _ _ htt
        clear sm
        have e3 : pl (.tuple [.int (Po.cnt vt nm k Po.YES : Nat), .int (Po.cnt vt nm k Po.MAYBE : Nat), .int (Po.cnt vt nm k Po.NO : Nat)]) = true ∧ (PyData.tuple [.int (Po.cnt vt nm k Po.YES : Nat), .int (Po.cnt vt nm k Po.MAYBE : Nat), .int (Po.cnt vt nm k Po.NO : Nat)]).depth ≤ 64 := ⟨by simp [pl, plAll], by simp [PyData.depth, PyData.depthAll]⟩
        refine g_neD (.tup (SqT.of htt) (.cons (.int _) (.cons (.int _) (.cons (.int _) .nil)))) (.tup (SqT.of ht2) (.cons (.int _) (.cons (.int _) (.cons (.int _) .nil)))) e3.1 e3.1 e3.2 e3.2 (fun _ => ?_) (fun h => absurd rfl h)
        refine ⟨_, rfl, ?_⟩
        refine iteF ?_
        clear htt ht2 e3
        walk_at "go"
        refine ⟨N, rfl, ⟨_, SqL.of hN⟩, fun L3 hL3 => ?_⟩
        refine lc_list (K := K) (a := N) (xs := sv nm) (fun j H' => Same H26 H' ∧ H' L3 = some (.lst (sv (Po.words vt (nm.take j) k)))) ⟨same_new hL3, upd_same⟩ (fun j H' _ h => SqL.of (h.1 _ _ hN)) ?_ ?_
        · rintro j y H3 hj ⟨s3, hD3⟩
          obtain ⟨z, hz, rfl⟩ := sv_get hj
          have hjl := (List.getElem?_eq_some_iff.mp hz).1
          have J := I.P_.same s3
          walk_at "go"
          refine ⟨rfl, ?_⟩
          refine g_yes (iteT ?_)
          walk_at "go"
          refine ⟨x, _, _, rfl, J.x_, meth (by decide +kernel) (by decide +kernel) (by decide +kernel) (by decide +kernel) (by decide +kernel), ?_⟩
          walk_at "go"
          refine ⟨x, dx, n, d, p, v, nm, nd, pr, vt, cl, z, k, rfl, J, fun H4 s4 => ?_⟩
          refine ⟨_, s4 _ _ hD3, by have := sizeBig; rw [words_len, List.length_take]; omega, same_put hL3 (s3.trans s4), ?_⟩
          rw [upd_same, words_more hz]
        rintro H27 ⟨s3, hL3⟩
        rw [List.length_map, List.take_length] at hL3
        replace I := I.same s3; replace hN := s3 _ _ hN; replace hU := s3 _ _ hU; replace hL2 := s3 _ _ hL2
        clear s3
        walk_at "go"
        have wp : pl (.list ((Po.words vt nm k).map fun z => PyData.str (S z))) = true := by
          simp only [pl]
          refine plAll_of fun y hy => ?_
          obtain ⟨z, hz, rfl⟩ := List.mem_map.mp hy
          obtain ⟨nn, _, rfl⟩ := List.mem_map.mp hz
          simp only [pl]
          unfold Po.wd
          cases e : Po.gt vt (nn, k) with
          | none => decide +kernel
          | some r =>
            have hr : r ∈ [Po.YES, Po.MAYBE, Po.NO] := vo _ (Po.gt_mem e)
            have : ∀ r ∈ [Po.YES, Po.MAYBE, Po.NO], PyData.strOk (S r) = true := by decide +kernel
            exact this r hr
        have wdp : (PyData.list ((Po.words vt nm k).map fun z => PyData.str (S z))).depth ≤ 64 := by
          simp only [PyData.depth]
          have : PyData.depthAll ((Po.words vt nm k).map fun z => PyData.str (S z)) ≤ 0 := depthAll_le fun y hy => by
            obtain ⟨z, _, rfl⟩ := List.mem_map.mp hy
            simp [PyData.depth]
          omega
        refine g_neD (.lst (SqL.of hL3) (dpAll_strs _)) (.lst (SqL.of hL2) (dpAll_strs _)) wp wp wdp wdp (fun _ => ?_) (fun h => absurd rfl h)
        refine ⟨_, rfl, ?_⟩
        refine iteF ?_
        clear hL3 hL2 wp wdp
        walk_at "go"
        have hD := I.D_
        refine ⟨D, rfl, ⟨_, SqL.of hD⟩, fun L4 hL4 => ?_⟩
        refine lc_list (K := K) (a := D) (xs := sv nd) (fun j H' => Same H27 H' ∧ H' L4 = some (.lst (((nd.take j).map fun z => decide (Po.wd vt z k ∈ [Po.YES, Po.MAYBE])).map V.bl))) ⟨same_new hL4, upd_same⟩ (fun j H' _ h => SqL.of (h.1 _ _ hD)) ?_ ?_
        · rintro j y H4 hj ⟨s4, hD4⟩
          obtain ⟨z, hz, rfl⟩ := sv_get hj
          have hjl := (List.getElem?_eq_some_iff.mp hz).1
          have hv4 := s4 _ _ hU
          walk_at "go"
          refine ⟨rfl, ?_⟩
          refine g_yes (iteT ?_)
          walk_at "go"
          refine ⟨U, rfl, .inr ⟨_, .inl hv4⟩, ?_⟩
          walk_at "go"
          refine ⟨by show 2 ≤ sizeLine; decide, fun t ht => ?_⟩
          walk_at "go"
          refine ⟨_, DGet.t (k := Po.kk (z, k)) ((upd_ne (ne_of_none hv4 ht)).trans hv4) upd_same, ?_⟩
          rw [Po.valV_enc, wd_val]
          walk_at "go"
          refine nwL (ys := sv [Po.YES, Po.MAYBE]) rfl (by show 2 ≤ 1000000; decide) fun t2 H5 _ s5 ht2 => ?_
          refine ⟨t2, _, rfl, .inl (SqL.of ht2), rfl, flat_sv _, ?_⟩
          rw [if_neg (by decide : ¬ (false = true)), inV_sv]
          have s45 := s4.trans ((same_new ht).trans s5)
          refine ⟨_, s5 _ _ (same_new ht _ _ hD4), by have := sizeBig; rw [List.length_map, List.length_map, List.length_take]; omega, same_put hL4 s45, ?_⟩
          rw [upd_same, take_more hz, List.map_append, List.map_append]; rfl
        rintro H28 ⟨s4, hL4⟩
        rw [List.length_map, List.take_length] at hL4
        replace I := I.same s4
        clear s4
        refine ⟨L4, _, rfl, .inl (SqL.of hL4), rfl, by rw [List.all_map]; simp [flatV, Function.comp_def], ?_⟩
        rw [inV_bl, if_pos rfl, Bool.not_not]
        rw [show (nd.all fun z => decide (Po.wd vt z k ∈ [Po.YES, Po.MAYBE])) = Po.poss vt nd k from rfl]
        walk_at "go"
        refine ⟨x, _, _, rfl, I.P_.x_, meth (by decide +kernel) (by decide +kernel) (by decide +kernel) (by decide +kernel) (by decide +kernel), ?_⟩
        walk_at "go"
        refine ⟨x, dx, n, d, p, v, nm, nd, pr, vt, cl, k, rfl, I.P_, by omega, fun H29 s5 => ?_⟩
        walk_at "go"
        refine ⟨Po.poss vt nd k, rfl, ?_⟩
        refine ⟨true, rfl, ?_⟩
        refine iteF ?_
        walk_at "go"
        exact ⟨_, _, _, _, _, _, _, _, _, _, _, rfl, I.same s5⟩
      · clear I
        rintro σ' H23 ⟨y8, y9, y10, y11, y12, y13, y14, y15, y16, y17, y18, rfl, I⟩
        have hN := I.N_
        have hU := I.U_
        obtain ⟨rs, hR, hrs⟩ := I.R_
        have hrl := dpAll_len hrs
        rw [List.length_map] at hrl
        walk_at "go"
        refine ⟨N, rfl, ⟨_, SqL.of hN⟩, fun L2 hL2 => ?_⟩
        refine lc_list (K := K) (a := N) (xs := sv nm) (fun j H' => Same H23 H' ∧ H' L2 = some (.lst (sv (Po.miss vt (nm.take j) pr.length)))) ⟨same_new hL2, upd_same⟩ (fun j H' _ h => SqL.of (h.1 _ _ hN)) ?_ ?_
        · rintro j y H24 hj ⟨s3, hD3⟩
          obtain ⟨z, hz, rfl⟩ := sv_get hj
          have hjl := (List.getElem?_eq_some_iff.mp hz).1
          walk_at "go"
          refine ⟨rfl, ?_⟩
          walk_at "go"
          have hR3 := s3 _ _ hR
          have hU3 := s3 _ _ hU
          refine ⟨R, rs, rfl, .inl (SqL.of hR3), ?_⟩
          rw [hrl]
          walk_at "go"
          refine ⟨_, rfl, by omega, by omega, fun D2 hD2 => ?_⟩
          rw [Int.toNat_natCast]
          refine lc_range (lo := 0) (n := pr.length) (fun j H' => Same H24 H' ∧ H' D2 = some (.lst (((List.range j).map fun k => !(Po.gt vt (z, k)).isSome).map V.bl))) ⟨same_new hD2, upd_same⟩ ?_ ?_
          · rintro j H3 hj ⟨s4, hD4⟩
            walk_at "go"
            rw [show (0 : Int) + (j : Nat) = ((j : Nat) : Int) by omega]
            refine ⟨rfl, ?_⟩
            refine g_yes (iteT ?_)
            walk_at "go"
            refine nwT (ys := [.str (S z), .int j]) rfl (by show 2 ≤ 1000000; decide) fun t2 H5 _ s5 ht2 => ?_
            walk_at "go"
            refine ⟨U, _, rfl, DGet.t (k := Po.kk (z, j)) (s5 _ _ (s4 _ _ hU3)) ht2, ?_⟩
            rw [Po.valV_enc, Option.isSome_map]
            refine ⟨_, s5 _ _ hD4, by have := sizeBig; rw [List.length_map, List.length_map, List.length_range]; omega, same_put hD2 (s4.trans s5), ?_⟩
            rw [upd_same, List.range_succ, List.map_append, List.map_append]; rfl
          rintro H3 ⟨s4, hD4⟩
          refine ⟨D2, _, rfl, .inl (SqL.of hD4), rfl, by rw [List.all_map]; simp [flatV, Function.comp_def], ?_⟩
          rw [if_neg (by decide : ¬ (false = true))]
          have ea : inV (.bl true) (((List.range pr.length).map fun k => !(Po.gt vt (z, k)).isSome).map V.bl) = (List.range pr.length).any fun k => decide (Po.wd vt z k = []) := by
            generalize List.range pr.length = ks
            induction ks with
            | nil => rfl
            | cons k ks ih =>
              unfold inV at ih ⊢
              rw [List.map_cons, List.map_cons, List.any_cons, ih, List.any_cons]
              have e := vo.none z k
              cases h : Po.gt vt (z, k) with
              | none => rw [decide_eq_true (e.mpr h)]; rfl
              | some r => rw [decide_eq_false (fun y => by rw [e.mp y] at h; cases h)]; rfl
          rw [ea]
          have em : Po.miss vt (nm.take (j + 1)) pr.length = Po.miss vt (nm.take j) pr.length ++ (if ((List.range pr.length).any fun k => decide (Po.wd vt z k = [])) = true then [z] else []) := by
            unfold Po.miss
            rw [take_more hz, List.filter_append]
            by_cases h : ((List.range pr.length).any fun k => decide (Po.wd vt z k = [])) = true
            · rw [if_pos h, List.filter_cons, if_pos h]; rfl
            · rw [if_neg h, List.filter_cons, if_neg h]; rfl
          have hml : (Po.miss vt (nm.take j) pr.length).length ≤ 100 := by
            have := List.length_filter_le (fun x => (List.range pr.length).any fun k => decide (Po.wd vt x k = [])) (nm.take j)
            rw [List.length_take] at this
            unfold Po.miss
            omega
          rw [em]
          generalize ((List.range pr.length).any fun k => decide (Po.wd vt z k = [])) = bb
          replace hD3 := s4 _ _ hD3
          have s34 := s3.trans s4
          cases bb with
          | true =>
            rw [if_pos rfl]
            refine ⟨true, rfl, iteT ?_⟩
            walk_at "go"
            refine ⟨_, hD3, by have := sizeBig; rw [List.length_map]; omega, same_put hL2 s34, ?_⟩
            rw [upd_same]; exact congrArg (fun z => some (HO.lst z)) (sv_app _ [z])
          | false =>
            rw [if_neg (by decide), List.append_nil]
            exact ⟨false, rfl, iteF ⟨s34, hD3⟩⟩
        · rintro H24 ⟨s3, hL2⟩
          rw [List.length_map, List.take_length] at hL2
          replace I := I.same s3; replace hN := s3 _ _ hN; replace hU := s3 _ _ hU; replace hR := s3 _ _ hR; replace hrs := dpAll_same s3 _ hrs
          clear s3
          walk_at "go"
          refine ⟨x, _, _, rfl, I.P_.x_, meth (by decide +kernel) (by decide +kernel) (by decide +kernel) (by decide +kernel) (by decide +kernel), ?_⟩
          walk_at "go"
          refine ⟨x, dx, n, d, p, v, nm, nd, pr, vt, cl, rfl, I.P_, by omega, by omega, by omega, fun H25 sm => ?_⟩
          replace I := I.same sm; replace hN := sm _ _ hN; replace hU := sm _ _ hU; replace hR := sm _ _ hR; replace hrs := dpAll_same sm _ hrs; replace hL2 := sm _ _ hL2
          clear sm
          walk_at "go"
          refine ⟨R, U, N, D, nm, nd, pr, vt, rs, rfl, hR, hrs, hU, hN, I.D_, by omega, by omega, by omega, fun H26 sm => ?_⟩
          replace I := I.same sm; replace hL2 := sm _ _ hL2
          clear sm
          have fin : ∀ {o : Option Nat} {Q : VK}, Q (.bl true) H26 → rEqD K (bestV o) (bestV o) H26 Q := fun {o Q} q => by
            cases o with
            | none => exact g_eqD .non .non (by simp [pl]) (by simp [pl]) (by simp [PyData.depth]) (by simp [PyData.depth]) (fun _ => q) (fun h => absurd rfl h)
            | some k => exact g_eqD (.int _) (.int _) (by simp [pl]) (by simp [pl]) (by simp [PyData.depth]) (by simp [PyData.depth]) (fun _ => q) (fun h => absurd rfl h)
          refine fin ?_
          refine ⟨true, rfl, ?_⟩
          rw [if_pos rfl]
          walk_at "go"
          refine ⟨x, _, _, rfl, I.P_.x_, meth (by decide +kernel) (by decide +kernel) (by decide +kernel) (by decide +kernel) (by decide +kernel), ?_⟩
          walk_at "go"
          refine ⟨x, dx, n, d, p, v, nm, nd, pr, vt, cl, rfl, I.P_, by omega, by omega, fun L3 H27 sm hL3 => ?_⟩
          replace hL2 := sm _ _ hL2
          walk_at "go"
          have wp : pl (.list ((Po.miss vt nm pr.length).map fun z => PyData.str (S z))) = true := by
            simp only [pl]
            refine plAll_of fun y hy => ?_
            obtain ⟨z, hz, rfl⟩ := List.mem_map.mp hy
            simp only [pl]
            exact (six_ok z (six z (List.mem_filter.mp hz).1)).2.2.2
          have wdp : (PyData.list ((Po.miss vt nm pr.length).map fun z => PyData.str (S z))).depth ≤ 64 := by
            simp only [PyData.depth]
            have : PyData.depthAll ((Po.miss vt nm pr.length).map fun z => PyData.str (S z)) ≤ 0 := depthAll_le fun y hy => by
              obtain ⟨z, _, rfl⟩ := List.mem_map.mp hy
              simp [PyData.depth]
            omega
          refine g_eqD (.lst (SqL.of hL3) (dpAll_strs _)) (.lst (SqL.of hL2) (dpAll_strs _)) wp wp wdp wdp (fun _ => ?_) (fun h => absurd rfl h)
          exact q _
end
theorem all_mk {l : PySem.W.OpenLaw} {w : World} {K : PySem.W.Frag} {h : Heap} {mg : Str → Option Value} {fa : Addr} (X : K.In h) (G : h.Ns mainGlobals mg) (hfa : mg "law" = some (.ref fa))
    {f_Taken_init : Addr} {oc_Taken_init : Value} {od_Taken_init an_Taken_init : Option Addr} {sl_Taken_init : Array (Option Value)} {kV_Taken_init dc_Taken_init pm_Taken_init cd_Taken_init ct_Taken_init : Value}
    {f_NoSuch_init : Addr} {oc_NoSuch_init : Value} {od_NoSuch_init an_NoSuch_init : Option Addr} {sl_NoSuch_init : Array (Option Value)} {kV_NoSuch_init dc_NoSuch_init pm_NoSuch_init cd_NoSuch_init ct_NoSuch_init : Value}
    {f_is_name : Addr} {oc_is_name : Value} {od_is_name an_is_name : Option Addr} {sl_is_name : Array (Option Value)} {kV_is_name dc_is_name pm_is_name cd_is_name ct_is_name : Value}
    {f_Poll_init : Addr} {oc_Poll_init : Value} {od_Poll_init an_Poll_init : Option Addr} {sl_Poll_init : Array (Option Value)} {kV_Poll_init dc_Poll_init pm_Poll_init cd_Poll_init ct_Poll_init : Value}
    {f_Poll_propose : Addr} {oc_Poll_propose : Value} {od_Poll_propose an_Poll_propose : Option Addr} {sl_Poll_propose : Array (Option Value)} {kV_Poll_propose dc_Poll_propose pm_Poll_propose cd_Poll_propose ct_Poll_propose : Value}
    {f_Poll_proposals : Addr} {oc_Poll_proposals : Value} {od_Poll_proposals an_Poll_proposals : Option Addr} {sl_Poll_proposals : Array (Option Value)} {kV_Poll_proposals dc_Poll_proposals pm_Poll_proposals cd_Poll_proposals ct_Poll_proposals : Value}
    {f_Poll_vote : Addr} {oc_Poll_vote : Value} {od_Poll_vote an_Poll_vote : Option Addr} {sl_Poll_vote : Array (Option Value)} {kV_Poll_vote dc_Poll_vote pm_Poll_vote cd_Poll_vote ct_Poll_vote : Value}
    {f_Poll_word : Addr} {oc_Poll_word : Value} {od_Poll_word an_Poll_word : Option Addr} {sl_Poll_word : Array (Option Value)} {kV_Poll_word dc_Poll_word pm_Poll_word cd_Poll_word ct_Poll_word : Value}
    {f_Poll_tally : Addr} {oc_Poll_tally : Value} {od_Poll_tally an_Poll_tally : Option Addr} {sl_Poll_tally : Array (Option Value)} {kV_Poll_tally dc_Poll_tally pm_Poll_tally cd_Poll_tally ct_Poll_tally : Value}
    {f_Poll_possible : Addr} {oc_Poll_possible : Value} {od_Poll_possible an_Poll_possible : Option Addr} {sl_Poll_possible : Array (Option Value)} {kV_Poll_possible dc_Poll_possible pm_Poll_possible cd_Poll_possible ct_Poll_possible : Value}
    {f_Poll_best : Addr} {oc_Poll_best : Value} {od_Poll_best an_Poll_best : Option Addr} {sl_Poll_best : Array (Option Value)} {kV_Poll_best dc_Poll_best pm_Poll_best cd_Poll_best ct_Poll_best : Value}
    {f_Poll_close : Addr} {oc_Poll_close : Value} {od_Poll_close an_Poll_close : Option Addr} {sl_Poll_close : Array (Option Value)} {kV_Poll_close dc_Poll_close pm_Poll_close cd_Poll_close ct_Poll_close : Value}
    {f_Poll_is_closed : Addr} {oc_Poll_is_closed : Value} {od_Poll_is_closed an_Poll_is_closed : Option Addr} {sl_Poll_is_closed : Array (Option Value)} {kV_Poll_is_closed dc_Poll_is_closed pm_Poll_is_closed cd_Poll_is_closed ct_Poll_is_closed : Value}
    {f_Poll_missing : Addr} {oc_Poll_missing : Value} {od_Poll_missing an_Poll_missing : Option Addr} {sl_Poll_missing : Array (Option Value)} {kV_Poll_missing dc_Poll_missing pm_Poll_missing cd_Poll_missing ct_Poll_missing : Value}
    {f_law_draw : Addr} {oc_law_draw : Value} {od_law_draw an_law_draw : Option Addr} {sl_law_draw : Array (Option Value)} {kV_law_draw dc_law_draw pm_law_draw cd_law_draw ct_law_draw : Value}
    {f_law_tape : Addr} {oc_law_tape : Value} {od_law_tape an_law_tape : Option Addr} {sl_law_tape : Array (Option Value)} {kV_law_tape dc_law_tape pm_law_tape cd_law_tape ct_law_tape : Value}
    {f_law_same : Addr} {oc_law_same : Value} {od_law_same an_law_same : Option Addr} {sl_law_same : Array (Option Value)} {kV_law_same dc_law_same pm_law_same cd_law_same ct_law_same : Value}
    {f_law_names : Addr} {oc_law_names : Value} {od_law_names an_law_names : Option Addr} {sl_law_names : Array (Option Value)} {kV_law_names dc_law_names pm_law_names cd_law_names ct_law_names : Value}
    {f_law_made_poll : Addr} {oc_law_made_poll : Value} {od_law_made_poll an_law_made_poll : Option Addr} {sl_law_made_poll : Array (Option Value)} {kV_law_made_poll dc_law_made_poll pm_law_made_poll cd_law_made_poll ct_law_made_poll : Value}
    {f_law_proposed : Addr} {oc_law_proposed : Value} {od_law_proposed an_law_proposed : Option Addr} {sl_law_proposed : Array (Option Value)} {kV_law_proposed dc_law_proposed pm_law_proposed cd_law_proposed ct_law_proposed : Value}
    {f_law_voted : Addr} {oc_law_voted : Value} {od_law_voted an_law_voted : Option Addr} {sl_law_voted : Array (Option Value)} {kV_law_voted dc_law_voted pm_law_voted cd_law_voted ct_law_voted : Value}
    {f_law_best : Addr} {oc_law_best : Value} {od_law_best an_law_best : Option Addr} {sl_law_best : Array (Option Value)} {kV_law_best dc_law_best pm_law_best cd_law_best ct_law_best : Value}
    {f_law : Addr} {oc_law : Value} {od_law an_law : Option Addr} {sl_law : Array (Option Value)} {kV_law dc_law pm_law cd_law ct_law : Value}
    {C_Poll : Addr}
    {C_NoSuch : Addr}
    {nm_NoSuch q_NoSuch : Str} {N_NoSuch : Addr} {bs_NoSuch : List Value} {sn_NoSuch : List Str} {sub_NoSuch : List Value} {ab_NoSuch : Bool} {col_NoSuch : Option Bool} {dd_NoSuch : Option Addr} {m0_NoSuch m1_NoSuch m2_NoSuch m3_NoSuch m5_NoSuch : Option Value}
    {C_Taken : Addr}
    {nm_Taken q_Taken : Str} {N_Taken : Addr} {bs_Taken : List Value} {sn_Taken : List Str} {sub_Taken : List Value} {ab_Taken : Bool} {col_Taken : Option Bool} {dd_Taken : Option Addr} {m0_Taken m1_Taken m2_Taken m3_Taken m5_Taken : Option Value}
    {C_BadSeries : Addr}
    {C_BadName : Addr}
    {C_NotAllowed : Addr}
    {C_DaysError : Addr} {M_DaysError : Value}
    {A_VOTES : Addr} {o_VOTES : Obj}
    {tk_LETTERS : Tok}
    {tk_DIGITS : Tok}
    (a_Taken_init : PySem.W.findIn K (.ref C_Taken) "__init__" = some (some (.ref f_Taken_init)))
    (l_Taken_init : K.lookup f_Taken_init = some ⟨oc_Taken_init, od_Taken_init, .func (PySem.W.fnOf "__init__" "Taken.__init__" (defArgs s_Taken_init) (defBody s_Taken_init) (defScope s_Taken_init) .none kV_Taken_init dc_Taken_init pm_Taken_init an_Taken_init cd_Taken_init ct_Taken_init), sl_Taken_init⟩)
    (c_Taken_init : PySem.W.codeIn K cd_Taken_init "Taken.__init__" = true)
    (k_Taken_init : PySem.W.keepIn K (.ref f_Taken_init) = true)
    (i_Taken_init : PySem.W.isFn K (.ref f_Taken_init) = true)
    (a_NoSuch_init : PySem.W.findIn K (.ref C_NoSuch) "__init__" = some (some (.ref f_NoSuch_init)))
    (l_NoSuch_init : K.lookup f_NoSuch_init = some ⟨oc_NoSuch_init, od_NoSuch_init, .func (PySem.W.fnOf "__init__" "NoSuch.__init__" (defArgs s_NoSuch_init) (defBody s_NoSuch_init) (defScope s_NoSuch_init) .none kV_NoSuch_init dc_NoSuch_init pm_NoSuch_init an_NoSuch_init cd_NoSuch_init ct_NoSuch_init), sl_NoSuch_init⟩)
    (c_NoSuch_init : PySem.W.codeIn K cd_NoSuch_init "NoSuch.__init__" = true)
    (k_NoSuch_init : PySem.W.keepIn K (.ref f_NoSuch_init) = true)
    (i_NoSuch_init : PySem.W.isFn K (.ref f_NoSuch_init) = true)
    (a_is_name : PySem.W.nsIn K mainGlobals "is_name" = some (some (.ref f_is_name)))
    (l_is_name : K.lookup f_is_name = some ⟨oc_is_name, od_is_name, .func (PySem.W.fnOf "is_name" "is_name" (defArgs s_is_name) (defBody s_is_name) (defScope s_is_name) .none kV_is_name dc_is_name pm_is_name an_is_name cd_is_name ct_is_name), sl_is_name⟩)
    (c_is_name : PySem.W.codeIn K cd_is_name "is_name" = true)
    (k_is_name : PySem.W.keepIn K (.ref f_is_name) = true)
    (a_Poll_init : PySem.W.findIn K (.ref C_Poll) "__init__" = some (some (.ref f_Poll_init)))
    (l_Poll_init : K.lookup f_Poll_init = some ⟨oc_Poll_init, od_Poll_init, .func (PySem.W.fnOf "__init__" "Poll.__init__" (defArgs s_Poll_init) (defBody s_Poll_init) (defScope s_Poll_init) .none kV_Poll_init dc_Poll_init pm_Poll_init an_Poll_init cd_Poll_init ct_Poll_init), sl_Poll_init⟩)
    (c_Poll_init : PySem.W.codeIn K cd_Poll_init "Poll.__init__" = true)
    (k_Poll_init : PySem.W.keepIn K (.ref f_Poll_init) = true)
    (i_Poll_init : PySem.W.isFn K (.ref f_Poll_init) = true)
    (a_Poll_propose : PySem.W.findIn K (.ref C_Poll) "propose" = some (some (.ref f_Poll_propose)))
    (l_Poll_propose : K.lookup f_Poll_propose = some ⟨oc_Poll_propose, od_Poll_propose, .func (PySem.W.fnOf "propose" "Poll.propose" (defArgs s_Poll_propose) (defBody s_Poll_propose) (defScope s_Poll_propose) .none kV_Poll_propose dc_Poll_propose pm_Poll_propose an_Poll_propose cd_Poll_propose ct_Poll_propose), sl_Poll_propose⟩)
    (c_Poll_propose : PySem.W.codeIn K cd_Poll_propose "Poll.propose" = true)
    (k_Poll_propose : PySem.W.keepIn K (.ref f_Poll_propose) = true)
    (i_Poll_propose : PySem.W.isFn K (.ref f_Poll_propose) = true)
    (a_Poll_proposals : PySem.W.findIn K (.ref C_Poll) "proposals" = some (some (.ref f_Poll_proposals)))
    (l_Poll_proposals : K.lookup f_Poll_proposals = some ⟨oc_Poll_proposals, od_Poll_proposals, .func (PySem.W.fnOf "proposals" "Poll.proposals" (defArgs s_Poll_proposals) (defBody s_Poll_proposals) (defScope s_Poll_proposals) .none kV_Poll_proposals dc_Poll_proposals pm_Poll_proposals an_Poll_proposals cd_Poll_proposals ct_Poll_proposals), sl_Poll_proposals⟩)
    (c_Poll_proposals : PySem.W.codeIn K cd_Poll_proposals "Poll.proposals" = true)
    (k_Poll_proposals : PySem.W.keepIn K (.ref f_Poll_proposals) = true)
    (i_Poll_proposals : PySem.W.isFn K (.ref f_Poll_proposals) = true)
    (a_Poll_vote : PySem.W.findIn K (.ref C_Poll) "vote" = some (some (.ref f_Poll_vote)))
    (l_Poll_vote : K.lookup f_Poll_vote = some ⟨oc_Poll_vote, od_Poll_vote, .func (PySem.W.fnOf "vote" "Poll.vote" (defArgs s_Poll_vote) (defBody s_Poll_vote) (defScope s_Poll_vote) .none kV_Poll_vote dc_Poll_vote pm_Poll_vote an_Poll_vote cd_Poll_vote ct_Poll_vote), sl_Poll_vote⟩)
    (c_Poll_vote : PySem.W.codeIn K cd_Poll_vote "Poll.vote" = true)
    (k_Poll_vote : PySem.W.keepIn K (.ref f_Poll_vote) = true)
    (i_Poll_vote : PySem.W.isFn K (.ref f_Poll_vote) = true)
    (a_Poll_word : PySem.W.findIn K (.ref C_Poll) "word" = some (some (.ref f_Poll_word)))
    (l_Poll_word : K.lookup f_Poll_word = some ⟨oc_Poll_word, od_Poll_word, .func (PySem.W.fnOf "word" "Poll.word" (defArgs s_Poll_word) (defBody s_Poll_word) (defScope s_Poll_word) .none kV_Poll_word dc_Poll_word pm_Poll_word an_Poll_word cd_Poll_word ct_Poll_word), sl_Poll_word⟩)
    (c_Poll_word : PySem.W.codeIn K cd_Poll_word "Poll.word" = true)
    (k_Poll_word : PySem.W.keepIn K (.ref f_Poll_word) = true)
    (i_Poll_word : PySem.W.isFn K (.ref f_Poll_word) = true)
    (a_Poll_tally : PySem.W.findIn K (.ref C_Poll) "tally" = some (some (.ref f_Poll_tally)))
    (l_Poll_tally : K.lookup f_Poll_tally = some ⟨oc_Poll_tally, od_Poll_tally, .func (PySem.W.fnOf "tally" "Poll.tally" (defArgs s_Poll_tally) (defBody s_Poll_tally) (defScope s_Poll_tally) .none kV_Poll_tally dc_Poll_tally pm_Poll_tally an_Poll_tally cd_Poll_tally ct_Poll_tally), sl_Poll_tally⟩)
    (c_Poll_tally : PySem.W.codeIn K cd_Poll_tally "Poll.tally" = true)
    (k_Poll_tally : PySem.W.keepIn K (.ref f_Poll_tally) = true)
    (i_Poll_tally : PySem.W.isFn K (.ref f_Poll_tally) = true)
    (a_Poll_possible : PySem.W.findIn K (.ref C_Poll) "possible" = some (some (.ref f_Poll_possible)))
    (l_Poll_possible : K.lookup f_Poll_possible = some ⟨oc_Poll_possible, od_Poll_possible, .func (PySem.W.fnOf "possible" "Poll.possible" (defArgs s_Poll_possible) (defBody s_Poll_possible) (defScope s_Poll_possible) .none kV_Poll_possible dc_Poll_possible pm_Poll_possible an_Poll_possible cd_Poll_possible ct_Poll_possible), sl_Poll_possible⟩)
    (c_Poll_possible : PySem.W.codeIn K cd_Poll_possible "Poll.possible" = true)
    (k_Poll_possible : PySem.W.keepIn K (.ref f_Poll_possible) = true)
    (i_Poll_possible : PySem.W.isFn K (.ref f_Poll_possible) = true)
    (a_Poll_best : PySem.W.findIn K (.ref C_Poll) "best" = some (some (.ref f_Poll_best)))
    (l_Poll_best : K.lookup f_Poll_best = some ⟨oc_Poll_best, od_Poll_best, .func (PySem.W.fnOf "best" "Poll.best" (defArgs s_Poll_best) (defBody s_Poll_best) (defScope s_Poll_best) .none kV_Poll_best dc_Poll_best pm_Poll_best an_Poll_best cd_Poll_best ct_Poll_best), sl_Poll_best⟩)
    (c_Poll_best : PySem.W.codeIn K cd_Poll_best "Poll.best" = true)
    (k_Poll_best : PySem.W.keepIn K (.ref f_Poll_best) = true)
    (i_Poll_best : PySem.W.isFn K (.ref f_Poll_best) = true)
    (a_Poll_close : PySem.W.findIn K (.ref C_Poll) "close" = some (some (.ref f_Poll_close)))
    (l_Poll_close : K.lookup f_Poll_close = some ⟨oc_Poll_close, od_Poll_close, .func (PySem.W.fnOf "close" "Poll.close" (defArgs s_Poll_close) (defBody s_Poll_close) (defScope s_Poll_close) .none kV_Poll_close dc_Poll_close pm_Poll_close an_Poll_close cd_Poll_close ct_Poll_close), sl_Poll_close⟩)
    (c_Poll_close : PySem.W.codeIn K cd_Poll_close "Poll.close" = true)
    (k_Poll_close : PySem.W.keepIn K (.ref f_Poll_close) = true)
    (i_Poll_close : PySem.W.isFn K (.ref f_Poll_close) = true)
    (a_Poll_is_closed : PySem.W.findIn K (.ref C_Poll) "is_closed" = some (some (.ref f_Poll_is_closed)))
    (l_Poll_is_closed : K.lookup f_Poll_is_closed = some ⟨oc_Poll_is_closed, od_Poll_is_closed, .func (PySem.W.fnOf "is_closed" "Poll.is_closed" (defArgs s_Poll_is_closed) (defBody s_Poll_is_closed) (defScope s_Poll_is_closed) .none kV_Poll_is_closed dc_Poll_is_closed pm_Poll_is_closed an_Poll_is_closed cd_Poll_is_closed ct_Poll_is_closed), sl_Poll_is_closed⟩)
    (c_Poll_is_closed : PySem.W.codeIn K cd_Poll_is_closed "Poll.is_closed" = true)
    (k_Poll_is_closed : PySem.W.keepIn K (.ref f_Poll_is_closed) = true)
    (i_Poll_is_closed : PySem.W.isFn K (.ref f_Poll_is_closed) = true)
    (a_Poll_missing : PySem.W.findIn K (.ref C_Poll) "missing" = some (some (.ref f_Poll_missing)))
    (l_Poll_missing : K.lookup f_Poll_missing = some ⟨oc_Poll_missing, od_Poll_missing, .func (PySem.W.fnOf "missing" "Poll.missing" (defArgs s_Poll_missing) (defBody s_Poll_missing) (defScope s_Poll_missing) .none kV_Poll_missing dc_Poll_missing pm_Poll_missing an_Poll_missing cd_Poll_missing ct_Poll_missing), sl_Poll_missing⟩)
    (c_Poll_missing : PySem.W.codeIn K cd_Poll_missing "Poll.missing" = true)
    (k_Poll_missing : PySem.W.keepIn K (.ref f_Poll_missing) = true)
    (i_Poll_missing : PySem.W.isFn K (.ref f_Poll_missing) = true)
    (a_law_draw : PySem.W.nsIn K mainGlobals "_law_draw" = some (some (.ref f_law_draw)))
    (l_law_draw : K.lookup f_law_draw = some ⟨oc_law_draw, od_law_draw, .func (PySem.W.fnOf "_law_draw" "_law_draw" (defArgs s_law_draw) (defBody s_law_draw) (defScope s_law_draw) .none kV_law_draw dc_law_draw pm_law_draw an_law_draw cd_law_draw ct_law_draw), sl_law_draw⟩)
    (c_law_draw : PySem.W.codeIn K cd_law_draw "_law_draw" = true)
    (k_law_draw : PySem.W.keepIn K (.ref f_law_draw) = true)
    (a_law_tape : PySem.W.nsIn K mainGlobals "_law_tape" = some (some (.ref f_law_tape)))
    (l_law_tape : K.lookup f_law_tape = some ⟨oc_law_tape, od_law_tape, .func (PySem.W.fnOf "_law_tape" "_law_tape" (defArgs s_law_tape) (defBody s_law_tape) (defScope s_law_tape) .none kV_law_tape dc_law_tape pm_law_tape an_law_tape cd_law_tape ct_law_tape), sl_law_tape⟩)
    (c_law_tape : PySem.W.codeIn K cd_law_tape "_law_tape" = true)
    (k_law_tape : PySem.W.keepIn K (.ref f_law_tape) = true)
    (a_law_same : PySem.W.nsIn K mainGlobals "_law_same" = some (some (.ref f_law_same)))
    (l_law_same : K.lookup f_law_same = some ⟨oc_law_same, od_law_same, .func (PySem.W.fnOf "_law_same" "_law_same" (defArgs s_law_same) (defBody s_law_same) (defScope s_law_same) .none kV_law_same dc_law_same pm_law_same an_law_same cd_law_same ct_law_same), sl_law_same⟩)
    (c_law_same : PySem.W.codeIn K cd_law_same "_law_same" = true)
    (k_law_same : PySem.W.keepIn K (.ref f_law_same) = true)
    (a_law_names : PySem.W.nsIn K mainGlobals "_law_names" = some (some (.ref f_law_names)))
    (l_law_names : K.lookup f_law_names = some ⟨oc_law_names, od_law_names, .func (PySem.W.fnOf "_law_names" "_law_names" (defArgs s_law_names) (defBody s_law_names) (defScope s_law_names) .none kV_law_names dc_law_names pm_law_names an_law_names cd_law_names ct_law_names), sl_law_names⟩)
    (c_law_names : PySem.W.codeIn K cd_law_names "_law_names" = true)
    (k_law_names : PySem.W.keepIn K (.ref f_law_names) = true)
    (a_law_made_poll : PySem.W.nsIn K mainGlobals "_law_made_poll" = some (some (.ref f_law_made_poll)))
    (l_law_made_poll : K.lookup f_law_made_poll = some ⟨oc_law_made_poll, od_law_made_poll, .func (PySem.W.fnOf "_law_made_poll" "_law_made_poll" (defArgs s_law_made_poll) (defBody s_law_made_poll) (defScope s_law_made_poll) .none kV_law_made_poll dc_law_made_poll pm_law_made_poll an_law_made_poll cd_law_made_poll ct_law_made_poll), sl_law_made_poll⟩)
    (c_law_made_poll : PySem.W.codeIn K cd_law_made_poll "_law_made_poll" = true)
    (k_law_made_poll : PySem.W.keepIn K (.ref f_law_made_poll) = true)
    (a_law_proposed : PySem.W.nsIn K mainGlobals "_law_proposed" = some (some (.ref f_law_proposed)))
    (l_law_proposed : K.lookup f_law_proposed = some ⟨oc_law_proposed, od_law_proposed, .func (PySem.W.fnOf "_law_proposed" "_law_proposed" (defArgs s_law_proposed) (defBody s_law_proposed) (defScope s_law_proposed) .none kV_law_proposed dc_law_proposed pm_law_proposed an_law_proposed cd_law_proposed ct_law_proposed), sl_law_proposed⟩)
    (c_law_proposed : PySem.W.codeIn K cd_law_proposed "_law_proposed" = true)
    (k_law_proposed : PySem.W.keepIn K (.ref f_law_proposed) = true)
    (a_law_voted : PySem.W.nsIn K mainGlobals "_law_voted" = some (some (.ref f_law_voted)))
    (l_law_voted : K.lookup f_law_voted = some ⟨oc_law_voted, od_law_voted, .func (PySem.W.fnOf "_law_voted" "_law_voted" (defArgs s_law_voted) (defBody s_law_voted) (defScope s_law_voted) .none kV_law_voted dc_law_voted pm_law_voted an_law_voted cd_law_voted ct_law_voted), sl_law_voted⟩)
    (c_law_voted : PySem.W.codeIn K cd_law_voted "_law_voted" = true)
    (k_law_voted : PySem.W.keepIn K (.ref f_law_voted) = true)
    (a_law_best : PySem.W.nsIn K mainGlobals "_law_best" = some (some (.ref f_law_best)))
    (l_law_best : K.lookup f_law_best = some ⟨oc_law_best, od_law_best, .func (PySem.W.fnOf "_law_best" "_law_best" (defArgs s_law_best) (defBody s_law_best) (defScope s_law_best) .none kV_law_best dc_law_best pm_law_best an_law_best cd_law_best ct_law_best), sl_law_best⟩)
    (c_law_best : PySem.W.codeIn K cd_law_best "_law_best" = true)
    (k_law_best : PySem.W.keepIn K (.ref f_law_best) = true)
    (a_law : PySem.W.nsIn K mainGlobals "law" = some (some (.ref f_law)))
    (l_law : K.lookup f_law = some ⟨oc_law, od_law, .func (PySem.W.fnOf "law" "law" (defArgs s_law) (defBody s_law) (defScope s_law) .none kV_law dc_law pm_law an_law cd_law ct_law), sl_law⟩)
    (c_law : PySem.W.codeIn K cd_law "law" = true)
    (k_law : PySem.W.keepIn K (.ref f_law) = true)
    (aC_Poll : PySem.W.nsIn K mainGlobals "Poll" = some (some (.ref C_Poll)))
    (pg_Poll : PySem.W.plainGet K C_Poll Str.empty = true)
    (hd_Poll : PySem.W.hasDictIn K C_Poll = true)
    (po_Poll : PySem.W.plainOver K C_Poll = true)
    (sa_Poll : PySem.W.findIn K (.ref C_Poll) "__setattr__" = some (some (.builtin "object.__setattr__")))
    (mk_Poll : PySem.W.makesIn K C_Poll = true)
    (kc_Poll : PySem.W.keepIn K (.ref C_Poll) = true)
    (n_Poll_names : PySem.W.findIn K (.ref C_Poll) "names" = some none)
    (n_Poll_needed : PySem.W.findIn K (.ref C_Poll) "needed" = some none)
    (n_Poll_proposals : PySem.W.findIn K (.ref C_Poll) "_proposals" = some none)
    (n_Poll_votes : PySem.W.findIn K (.ref C_Poll) "_votes" = some none)
    (n_Poll_closed : PySem.W.findIn K (.ref C_Poll) "_closed" = some none)
    (aC_NoSuch : PySem.W.nsIn K mainGlobals "NoSuch" = some (some (.ref C_NoSuch)))
    (r_NoSuch : PySem.W.subIn K (.ref C_NoSuch) (.type "BaseException") = some true)
    (t_NoSuch : PySem.W.typeIn K (.ref C_NoSuch) = some (.type "type"))
    (k_NoSuch : PySem.W.keepIn K (.ref C_NoSuch) = true)
    (ic_NoSuch : PySem.W.isClsIn K C_NoSuch = true)
    (xL_NoSuch : K.lookup C_NoSuch = some (excClassObj nm_NoSuch q_NoSuch C_NoSuch N_NoSuch bs_NoSuch [.ref C_DaysError, .type "ValueError", .type "Exception", .type "BaseException", .type "object"] true sn_NoSuch sub_NoSuch ab_NoSuch col_NoSuch dd_NoSuch m0_NoSuch m1_NoSuch m2_NoSuch m3_NoSuch m5_NoSuch "ValueError.__new__"))
    (sa_NoSuch : PySem.W.findIn K (.ref C_NoSuch) "__setattr__" = some (some (.builtin "object.__setattr__")))
    (ga_NoSuch : PySem.W.findIn K (.ref C_NoSuch) "__getattribute__" = some (some (.builtin "BaseException.__getattribute__")))
    (gg_NoSuch : PySem.W.findIn K (.ref C_NoSuch) "__getattr__" = some none)
    (hd_NoSuch : PySem.W.hasDictIn K C_NoSuch = true)
    (tf_NoSuch : PySem.W.typeIn K (.ref f_NoSuch_init) = some (.type "function"))
    (n_NoSuch_what : PySem.W.findIn K (.ref C_NoSuch) "what" = some none)
    (aC_Taken : PySem.W.nsIn K mainGlobals "Taken" = some (some (.ref C_Taken)))
    (r_Taken : PySem.W.subIn K (.ref C_Taken) (.type "BaseException") = some true)
    (t_Taken : PySem.W.typeIn K (.ref C_Taken) = some (.type "type"))
    (k_Taken : PySem.W.keepIn K (.ref C_Taken) = true)
    (ic_Taken : PySem.W.isClsIn K C_Taken = true)
    (xL_Taken : K.lookup C_Taken = some (excClassObj nm_Taken q_Taken C_Taken N_Taken bs_Taken [.ref C_DaysError, .type "ValueError", .type "Exception", .type "BaseException", .type "object"] true sn_Taken sub_Taken ab_Taken col_Taken dd_Taken m0_Taken m1_Taken m2_Taken m3_Taken m5_Taken "ValueError.__new__"))
    (sa_Taken : PySem.W.findIn K (.ref C_Taken) "__setattr__" = some (some (.builtin "object.__setattr__")))
    (ga_Taken : PySem.W.findIn K (.ref C_Taken) "__getattribute__" = some (some (.builtin "BaseException.__getattribute__")))
    (gg_Taken : PySem.W.findIn K (.ref C_Taken) "__getattr__" = some none)
    (hd_Taken : PySem.W.hasDictIn K C_Taken = true)
    (tf_Taken : PySem.W.typeIn K (.ref f_Taken_init) = some (.type "function"))
    (n_Taken_what : PySem.W.findIn K (.ref C_Taken) "what" = some none)
    (aC_BadSeries : PySem.W.nsIn K mainGlobals "BadSeries" = some (some (.ref C_BadSeries)))
    (r_BadSeries : PySem.W.subIn K (.ref C_BadSeries) (.type "BaseException") = some true)
    (t_BadSeries : PySem.W.typeIn K (.ref C_BadSeries) = some (.type "type"))
    (k_BadSeries : PySem.W.keepIn K (.ref C_BadSeries) = true)
    (ic_BadSeries : PySem.W.isClsIn K C_BadSeries = true)
    (xI_BadSeries : PySem.W.excIn K C_BadSeries [.type "ValueError", .type "Exception", .type "BaseException", .type "object"] "ValueError.__new__" = true)
    (aC_BadName : PySem.W.nsIn K mainGlobals "BadName" = some (some (.ref C_BadName)))
    (r_BadName : PySem.W.subIn K (.ref C_BadName) (.type "BaseException") = some true)
    (t_BadName : PySem.W.typeIn K (.ref C_BadName) = some (.type "type"))
    (k_BadName : PySem.W.keepIn K (.ref C_BadName) = true)
    (ic_BadName : PySem.W.isClsIn K C_BadName = true)
    (xI_BadName : PySem.W.excIn K C_BadName [.type "ValueError", .type "Exception", .type "BaseException", .type "object"] "ValueError.__new__" = true)
    (aC_NotAllowed : PySem.W.nsIn K mainGlobals "NotAllowed" = some (some (.ref C_NotAllowed)))
    (r_NotAllowed : PySem.W.subIn K (.ref C_NotAllowed) (.type "BaseException") = some true)
    (t_NotAllowed : PySem.W.typeIn K (.ref C_NotAllowed) = some (.type "type"))
    (k_NotAllowed : PySem.W.keepIn K (.ref C_NotAllowed) = true)
    (ic_NotAllowed : PySem.W.isClsIn K C_NotAllowed = true)
    (xI_NotAllowed : PySem.W.excIn K C_NotAllowed [.type "ValueError", .type "Exception", .type "BaseException", .type "object"] "ValueError.__new__" = true)
    (s_BadName_BadName : PySem.W.subIn K (.ref C_BadName) (.ref C_BadName) = some true)
    (s_NotAllowed_NotAllowed : PySem.W.subIn K (.ref C_NotAllowed) (.ref C_NotAllowed) = some true)
    (s_BadSeries_NotAllowed : PySem.W.subIn K (.ref C_BadSeries) (.ref C_NotAllowed) = some false)
    (s_BadSeries_BadSeries : PySem.W.subIn K (.ref C_BadSeries) (.ref C_BadSeries) = some true)
    (s_Taken_NotAllowed : PySem.W.subIn K (.ref C_Taken) (.ref C_NotAllowed) = some false)
    (s_Taken_BadSeries : PySem.W.subIn K (.ref C_Taken) (.ref C_BadSeries) = some false)
    (s_Taken_Taken : PySem.W.subIn K (.ref C_Taken) (.ref C_Taken) = some true)
    (s_NoSuch_NotAllowed : PySem.W.subIn K (.ref C_NoSuch) (.ref C_NotAllowed) = some false)
    (s_NoSuch_BadName : PySem.W.subIn K (.ref C_NoSuch) (.ref C_BadName) = some false)
    (s_NoSuch_NoSuch : PySem.W.subIn K (.ref C_NoSuch) (.ref C_NoSuch) = some true)
    (s_BadName_NotAllowed : PySem.W.subIn K (.ref C_BadName) (.ref C_NotAllowed) = some false)
    (aC_DaysError : PySem.W.nsIn K mainGlobals "DaysError" = some (some (.ref C_DaysError)))
    (ty_DaysError : PySem.W.typeIn K (.ref C_DaysError) = some M_DaysError)
    (rd_DaysError : PySem.W.readsIn K C_DaysError M_DaysError = true)
    (gs_DaysError : PySem.W.specialIn K (.ref C_DaysError) "__getattribute__" = some (some (.builtin "type.__getattribute__")))
    (fc_DaysError : PySem.W.findCls K (.ref C_DaysError) M_DaysError "__init__" = some (.val (.builtin "ValueError.__init__")))
    (z_len : PySem.W.nsIn K mainGlobals "len" = some none)
    (z_int : PySem.W.nsIn K mainGlobals "int" = some none)
    (z_tuple : PySem.W.nsIn K mainGlobals "tuple" = some none)
    (z_list : PySem.W.nsIn K mainGlobals "list" = some none)
    (z_range : PySem.W.nsIn K mainGlobals "range" = some none)
    (z_set : PySem.W.nsIn K mainGlobals "set" = some none)
    (z_all : PySem.W.nsIn K mainGlobals "all" = some none)
    (z_any : PySem.W.nsIn K mainGlobals "any" = some none)
    (z_min : PySem.W.nsIn K mainGlobals "min" = some none)
    (z_enumerate : PySem.W.nsIn K mainGlobals "enumerate" = some none)
    (z_isinstance : PySem.W.nsIn K mainGlobals "isinstance" = some none)
    (z_bool : PySem.W.nsIn K mainGlobals "bool" = some none)
    (g_VOTES : PySem.W.nsIn K mainGlobals "VOTES" = some (some (.ref A_VOTES)))
    (h_VOTES : K.lookup A_VOTES = some o_VOTES)
    (hs_VOTES : absT o_VOTES = some (([[121, 101, 115], [109, 97, 121, 98, 101], [110, 111]] : List (List Nat)).map fun z => V.str (S z)))
    (ht_VOTES : o_VOTES.cls = .type "tuple")
    (hu_VOTES : o_VOTES.dict = none)
    (g_LETTERS : PySem.W.nsIn K mainGlobals "LETTERS" = some (some (.str "abcdefghijklmnopqrstuvwxyz" tk_LETTERS)))
    (g_DIGITS : PySem.W.nsIn K mainGlobals "DIGITS" = some (some (.str "0123456789" tk_DIGITS))) :
    ∃ fd : FuncData, (∀ (s : Shared) (v : Value), BindsTo s fd ⟨[v], []⟩ [("script", v)]) ∧ ∀ base : Heap, K.In base → base.Ns mainGlobals mg → FnOk l.prog w K mg base CX0 8 fa fd ["script"] (sp_law K) := by
  have e := hfa.symm.trans (PySem.W.mg_of X G a_law)
  cases e
  have T : Txt K mg { f_Taken_init := f_Taken_init, d_Taken_init := (PySem.W.fnOf "__init__" "Taken.__init__" (defArgs s_Taken_init) (defBody s_Taken_init) (defScope s_Taken_init) .none kV_Taken_init dc_Taken_init pm_Taken_init an_Taken_init cd_Taken_init ct_Taken_init), f_NoSuch_init := f_NoSuch_init, d_NoSuch_init := (PySem.W.fnOf "__init__" "NoSuch.__init__" (defArgs s_NoSuch_init) (defBody s_NoSuch_init) (defScope s_NoSuch_init) .none kV_NoSuch_init dc_NoSuch_init pm_NoSuch_init an_NoSuch_init cd_NoSuch_init ct_NoSuch_init), f_is_name := f_is_name, d_is_name := (PySem.W.fnOf "is_name" "is_name" (defArgs s_is_name) (defBody s_is_name) (defScope s_is_name) .none kV_is_name dc_is_name pm_is_name an_is_name cd_is_name ct_is_name), f_Poll_init := f_Poll_init, d_Poll_init := (PySem.W.fnOf "__init__" "Poll.__init__" (defArgs s_Poll_init) (defBody s_Poll_init) (defScope s_Poll_init) .none kV_Poll_init dc_Poll_init pm_Poll_init an_Poll_init cd_Poll_init ct_Poll_init), f_Poll_propose := f_Poll_propose, d_Poll_propose := (PySem.W.fnOf "propose" "Poll.propose" (defArgs s_Poll_propose) (defBody s_Poll_propose) (defScope s_Poll_propose) .none kV_Poll_propose dc_Poll_propose pm_Poll_propose an_Poll_propose cd_Poll_propose ct_Poll_propose), f_Poll_proposals := f_Poll_proposals, d_Poll_proposals := (PySem.W.fnOf "proposals" "Poll.proposals" (defArgs s_Poll_proposals) (defBody s_Poll_proposals) (defScope s_Poll_proposals) .none kV_Poll_proposals dc_Poll_proposals pm_Poll_proposals an_Poll_proposals cd_Poll_proposals ct_Poll_proposals), f_Poll_vote := f_Poll_vote, d_Poll_vote := (PySem.W.fnOf "vote" "Poll.vote" (defArgs s_Poll_vote) (defBody s_Poll_vote) (defScope s_Poll_vote) .none kV_Poll_vote dc_Poll_vote pm_Poll_vote an_Poll_vote cd_Poll_vote ct_Poll_vote), f_Poll_word := f_Poll_word, d_Poll_word := (PySem.W.fnOf "word" "Poll.word" (defArgs s_Poll_word) (defBody s_Poll_word) (defScope s_Poll_word) .none kV_Poll_word dc_Poll_word pm_Poll_word an_Poll_word cd_Poll_word ct_Poll_word), f_Poll_tally := f_Poll_tally, d_Poll_tally := (PySem.W.fnOf "tally" "Poll.tally" (defArgs s_Poll_tally) (defBody s_Poll_tally) (defScope s_Poll_tally) .none kV_Poll_tally dc_Poll_tally pm_Poll_tally an_Poll_tally cd_Poll_tally ct_Poll_tally), f_Poll_possible := f_Poll_possible, d_Poll_possible := (PySem.W.fnOf "possible" "Poll.possible" (defArgs s_Poll_possible) (defBody s_Poll_possible) (defScope s_Poll_possible) .none kV_Poll_possible dc_Poll_possible pm_Poll_possible an_Poll_possible cd_Poll_possible ct_Poll_possible), f_Poll_best := f_Poll_best, d_Poll_best := (PySem.W.fnOf "best" "Poll.best" (defArgs s_Poll_best) (defBody s_Poll_best) (defScope s_Poll_best) .none kV_Poll_best dc_Poll_best pm_Poll_best an_Poll_best cd_Poll_best ct_Poll_best), f_Poll_close := f_Poll_close, d_Poll_close := (PySem.W.fnOf "close" "Poll.close" (defArgs s_Poll_close) (defBody s_Poll_close) (defScope s_Poll_close) .none kV_Poll_close dc_Poll_close pm_Poll_close an_Poll_close cd_Poll_close ct_Poll_close), f_Poll_is_closed := f_Poll_is_closed, d_Poll_is_closed := (PySem.W.fnOf "is_closed" "Poll.is_closed" (defArgs s_Poll_is_closed) (defBody s_Poll_is_closed) (defScope s_Poll_is_closed) .none kV_Poll_is_closed dc_Poll_is_closed pm_Poll_is_closed an_Poll_is_closed cd_Poll_is_closed ct_Poll_is_closed), f_Poll_missing := f_Poll_missing, d_Poll_missing := (PySem.W.fnOf "missing" "Poll.missing" (defArgs s_Poll_missing) (defBody s_Poll_missing) (defScope s_Poll_missing) .none kV_Poll_missing dc_Poll_missing pm_Poll_missing an_Poll_missing cd_Poll_missing ct_Poll_missing), f_law_draw := f_law_draw, d_law_draw := (PySem.W.fnOf "_law_draw" "_law_draw" (defArgs s_law_draw) (defBody s_law_draw) (defScope s_law_draw) .none kV_law_draw dc_law_draw pm_law_draw an_law_draw cd_law_draw ct_law_draw), f_law_tape := f_law_tape, d_law_tape := (PySem.W.fnOf "_law_tape" "_law_tape" (defArgs s_law_tape) (defBody s_law_tape) (defScope s_law_tape) .none kV_law_tape dc_law_tape pm_law_tape an_law_tape cd_law_tape ct_law_tape), f_law_same := f_law_same, d_law_same := (PySem.W.fnOf "_law_same" "_law_same" (defArgs s_law_same) (defBody s_law_same) (defScope s_law_same) .none kV_law_same dc_law_same pm_law_same an_law_same cd_law_same ct_law_same), f_law_names := f_law_names, d_law_names := (PySem.W.fnOf "_law_names" "_law_names" (defArgs s_law_names) (defBody s_law_names) (defScope s_law_names) .none kV_law_names dc_law_names pm_law_names an_law_names cd_law_names ct_law_names), f_law_made_poll := f_law_made_poll, d_law_made_poll := (PySem.W.fnOf "_law_made_poll" "_law_made_poll" (defArgs s_law_made_poll) (defBody s_law_made_poll) (defScope s_law_made_poll) .none kV_law_made_poll dc_law_made_poll pm_law_made_poll an_law_made_poll cd_law_made_poll ct_law_made_poll), f_law_proposed := f_law_proposed, d_law_proposed := (PySem.W.fnOf "_law_proposed" "_law_proposed" (defArgs s_law_proposed) (defBody s_law_proposed) (defScope s_law_proposed) .none kV_law_proposed dc_law_proposed pm_law_proposed an_law_proposed cd_law_proposed ct_law_proposed), f_law_voted := f_law_voted, d_law_voted := (PySem.W.fnOf "_law_voted" "_law_voted" (defArgs s_law_voted) (defBody s_law_voted) (defScope s_law_voted) .none kV_law_voted dc_law_voted pm_law_voted an_law_voted cd_law_voted ct_law_voted), f_law_best := f_law_best, d_law_best := (PySem.W.fnOf "_law_best" "_law_best" (defArgs s_law_best) (defBody s_law_best) (defScope s_law_best) .none kV_law_best dc_law_best pm_law_best an_law_best cd_law_best ct_law_best), f_law := fa, d_law := (PySem.W.fnOf "law" "law" (defArgs s_law) (defBody s_law) (defScope s_law) .none kV_law dc_law pm_law an_law cd_law ct_law), C_Poll := C_Poll, C_NoSuch := C_NoSuch, C_Taken := C_Taken, C_BadSeries := C_BadSeries, C_BadName := C_BadName, C_NotAllowed := C_NotAllowed, C_DaysError := C_DaysError, A_VOTES := A_VOTES, M_DaysError := M_DaysError } := {
    F_Taken_init := fun_mk (st := s_Taken_init) l_Taken_init c_Taken_init k_Taken_init
    b_Taken_init := (fun_mk (st := s_Taken_init) l_Taken_init c_Taken_init k_Taken_init).binds (ps := ["self", "what"]) fun _ _ _ _ _ _ us hl => match us, hl with | [_, _], _ => rfl
    F_NoSuch_init := fun_mk (st := s_NoSuch_init) l_NoSuch_init c_NoSuch_init k_NoSuch_init
    b_NoSuch_init := (fun_mk (st := s_NoSuch_init) l_NoSuch_init c_NoSuch_init k_NoSuch_init).binds (ps := ["self", "what"]) fun _ _ _ _ _ _ us hl => match us, hl with | [_, _], _ => rfl
    F_is_name := fun_mk (st := s_is_name) l_is_name c_is_name k_is_name
    b_is_name := (fun_mk (st := s_is_name) l_is_name c_is_name k_is_name).binds (ps := ["text"]) fun _ _ _ _ _ _ us hl => match us, hl with | [_], _ => rfl
    g_is_name := PySem.W.mg_of X G a_is_name
    F_Poll_init := fun_mk (st := s_Poll_init) l_Poll_init c_Poll_init k_Poll_init
    b_Poll_init := (fun_mk (st := s_Poll_init) l_Poll_init c_Poll_init k_Poll_init).binds (ps := ["self", "names", "needed"]) fun _ _ _ _ _ _ us hl => match us, hl with | [_, _, _], _ => rfl
    M_Poll := ⟨mk_Poll, a_Poll_init, i_Poll_init, kc_Poll⟩
    F_Poll_propose := fun_mk (st := s_Poll_propose) l_Poll_propose c_Poll_propose k_Poll_propose
    b_Poll_propose := (fun_mk (st := s_Poll_propose) l_Poll_propose c_Poll_propose k_Poll_propose).binds (ps := ["self", "start", "length"]) fun _ _ _ _ _ _ us hl => match us, hl with | [_, _, _], _ => rfl
    m_Poll_propose := ⟨a_Poll_propose, i_Poll_propose, k_Poll_propose⟩
    F_Poll_proposals := fun_mk (st := s_Poll_proposals) l_Poll_proposals c_Poll_proposals k_Poll_proposals
    b_Poll_proposals := (fun_mk (st := s_Poll_proposals) l_Poll_proposals c_Poll_proposals k_Poll_proposals).binds (ps := ["self"]) fun _ _ _ _ _ _ us hl => match us, hl with | [_], _ => rfl
    m_Poll_proposals := ⟨a_Poll_proposals, i_Poll_proposals, k_Poll_proposals⟩
    F_Poll_vote := fun_mk (st := s_Poll_vote) l_Poll_vote c_Poll_vote k_Poll_vote
    b_Poll_vote := (fun_mk (st := s_Poll_vote) l_Poll_vote c_Poll_vote k_Poll_vote).binds (ps := ["self", "name", "number", "word"]) fun _ _ _ _ _ _ us hl => match us, hl with | [_, _, _, _], _ => rfl
    m_Poll_vote := ⟨a_Poll_vote, i_Poll_vote, k_Poll_vote⟩
    F_Poll_word := fun_mk (st := s_Poll_word) l_Poll_word c_Poll_word k_Poll_word
    b_Poll_word := (fun_mk (st := s_Poll_word) l_Poll_word c_Poll_word k_Poll_word).binds (ps := ["self", "name", "number"]) fun _ _ _ _ _ _ us hl => match us, hl with | [_, _, _], _ => rfl
    m_Poll_word := ⟨a_Poll_word, i_Poll_word, k_Poll_word⟩
    F_Poll_tally := fun_mk (st := s_Poll_tally) l_Poll_tally c_Poll_tally k_Poll_tally
    b_Poll_tally := (fun_mk (st := s_Poll_tally) l_Poll_tally c_Poll_tally k_Poll_tally).binds (ps := ["self", "number"]) fun _ _ _ _ _ _ us hl => match us, hl with | [_, _], _ => rfl
    m_Poll_tally := ⟨a_Poll_tally, i_Poll_tally, k_Poll_tally⟩
    F_Poll_possible := fun_mk (st := s_Poll_possible) l_Poll_possible c_Poll_possible k_Poll_possible
    b_Poll_possible := (fun_mk (st := s_Poll_possible) l_Poll_possible c_Poll_possible k_Poll_possible).binds (ps := ["self", "number"]) fun _ _ _ _ _ _ us hl => match us, hl with | [_, _], _ => rfl
    m_Poll_possible := ⟨a_Poll_possible, i_Poll_possible, k_Poll_possible⟩
    F_Poll_best := fun_mk (st := s_Poll_best) l_Poll_best c_Poll_best k_Poll_best
    b_Poll_best := (fun_mk (st := s_Poll_best) l_Poll_best c_Poll_best k_Poll_best).binds (ps := ["self"]) fun _ _ _ _ _ _ us hl => match us, hl with | [_], _ => rfl
    m_Poll_best := ⟨a_Poll_best, i_Poll_best, k_Poll_best⟩
    F_Poll_close := fun_mk (st := s_Poll_close) l_Poll_close c_Poll_close k_Poll_close
    b_Poll_close := (fun_mk (st := s_Poll_close) l_Poll_close c_Poll_close k_Poll_close).binds (ps := ["self"]) fun _ _ _ _ _ _ us hl => match us, hl with | [_], _ => rfl
    m_Poll_close := ⟨a_Poll_close, i_Poll_close, k_Poll_close⟩
    F_Poll_is_closed := fun_mk (st := s_Poll_is_closed) l_Poll_is_closed c_Poll_is_closed k_Poll_is_closed
    b_Poll_is_closed := (fun_mk (st := s_Poll_is_closed) l_Poll_is_closed c_Poll_is_closed k_Poll_is_closed).binds (ps := ["self"]) fun _ _ _ _ _ _ us hl => match us, hl with | [_], _ => rfl
    m_Poll_is_closed := ⟨a_Poll_is_closed, i_Poll_is_closed, k_Poll_is_closed⟩
    F_Poll_missing := fun_mk (st := s_Poll_missing) l_Poll_missing c_Poll_missing k_Poll_missing
    b_Poll_missing := (fun_mk (st := s_Poll_missing) l_Poll_missing c_Poll_missing k_Poll_missing).binds (ps := ["self"]) fun _ _ _ _ _ _ us hl => match us, hl with | [_], _ => rfl
    m_Poll_missing := ⟨a_Poll_missing, i_Poll_missing, k_Poll_missing⟩
    F_law_draw := fun_mk (st := s_law_draw) l_law_draw c_law_draw k_law_draw
    b_law_draw := (fun_mk (st := s_law_draw) l_law_draw c_law_draw k_law_draw).binds (ps := ["tape", "many"]) fun _ _ _ _ _ _ us hl => match us, hl with | [_, _], _ => rfl
    g_law_draw := PySem.W.mg_of X G a_law_draw
    F_law_tape := fun_mk (st := s_law_tape) l_law_tape c_law_tape k_law_tape
    b_law_tape := (fun_mk (st := s_law_tape) l_law_tape c_law_tape k_law_tape).binds (ps := ["script"]) fun _ _ _ _ _ _ us hl => match us, hl with | [_], _ => rfl
    g_law_tape := PySem.W.mg_of X G a_law_tape
    F_law_same := fun_mk (st := s_law_same) l_law_same c_law_same k_law_same
    b_law_same := (fun_mk (st := s_law_same) l_law_same c_law_same k_law_same).binds (ps := ["told", "due"]) fun _ _ _ _ _ _ us hl => match us, hl with | [_, _], _ => rfl
    g_law_same := PySem.W.mg_of X G a_law_same
    F_law_names := fun_mk (st := s_law_names) l_law_names c_law_names k_law_names
    b_law_names := (fun_mk (st := s_law_names) l_law_names c_law_names k_law_names).binds (ps := ["tape", "many"]) fun _ _ _ _ _ _ us hl => match us, hl with | [_, _], _ => rfl
    g_law_names := PySem.W.mg_of X G a_law_names
    F_law_made_poll := fun_mk (st := s_law_made_poll) l_law_made_poll c_law_made_poll k_law_made_poll
    b_law_made_poll := (fun_mk (st := s_law_made_poll) l_law_made_poll c_law_made_poll k_law_made_poll).binds (ps := ["names", "needed"]) fun _ _ _ _ _ _ us hl => match us, hl with | [_, _], _ => rfl
    g_law_made_poll := PySem.W.mg_of X G a_law_made_poll
    F_law_proposed := fun_mk (st := s_law_proposed) l_law_proposed c_law_proposed k_law_proposed
    b_law_proposed := (fun_mk (st := s_law_proposed) l_law_proposed c_law_proposed k_law_proposed).binds (ps := ["poll", "start", "length"]) fun _ _ _ _ _ _ us hl => match us, hl with | [_, _, _], _ => rfl
    g_law_proposed := PySem.W.mg_of X G a_law_proposed
    F_law_voted := fun_mk (st := s_law_voted) l_law_voted c_law_voted k_law_voted
    b_law_voted := (fun_mk (st := s_law_voted) l_law_voted c_law_voted k_law_voted).binds (ps := ["poll", "name", "number", "word"]) fun _ _ _ _ _ _ us hl => match us, hl with | [_, _, _, _], _ => rfl
    g_law_voted := PySem.W.mg_of X G a_law_voted
    F_law_best := fun_mk (st := s_law_best) l_law_best c_law_best k_law_best
    b_law_best := (fun_mk (st := s_law_best) l_law_best c_law_best k_law_best).binds (ps := ["rows", "votes", "names", "needed"]) fun _ _ _ _ _ _ us hl => match us, hl with | [_, _, _, _], _ => rfl
    g_law_best := PySem.W.mg_of X G a_law_best
    F_law := fun_mk (st := s_law) l_law c_law k_law
    b_law := (fun_mk (st := s_law) l_law c_law k_law).binds (ps := ["script"]) fun _ _ _ _ _ _ us hl => match us, hl with | [_], _ => rfl
    g_law := PySem.W.mg_of X G a_law
    c_Poll := ⟨pg_Poll, hd_Poll, po_Poll, sa_Poll⟩
    g_Poll := PySem.W.mg_of X G aC_Poll
    n_Poll_names := n_Poll_names
    n_Poll_needed := n_Poll_needed
    n_Poll_proposals := n_Poll_proposals
    n_Poll_votes := n_Poll_votes
    n_Poll_closed := n_Poll_closed
    r_NoSuch := r_NoSuch
    t_NoSuch := t_NoSuch
    k_NoSuch := k_NoSuch
    g_NoSuch := PySem.W.mg_of X G aC_NoSuch
    x_NoSuch := ⟨⟨nm_NoSuch, q_NoSuch, N_NoSuch, bs_NoSuch, _, sn_NoSuch, sub_NoSuch, ab_NoSuch, col_NoSuch, dd_NoSuch, m0_NoSuch, m1_NoSuch, m2_NoSuch, m3_NoSuch, m5_NoSuch, xL_NoSuch, rfl⟩, sa_NoSuch, r_NoSuch, t_NoSuch, k_NoSuch⟩
    y_NoSuch := ⟨ga_NoSuch, gg_NoSuch, r_NoSuch, hd_NoSuch⟩
    i_NoSuch := a_NoSuch_init
    u_NoSuch := tf_NoSuch
    n_NoSuch_what := n_NoSuch_what
    r_Taken := r_Taken
    t_Taken := t_Taken
    k_Taken := k_Taken
    g_Taken := PySem.W.mg_of X G aC_Taken
    x_Taken := ⟨⟨nm_Taken, q_Taken, N_Taken, bs_Taken, _, sn_Taken, sub_Taken, ab_Taken, col_Taken, dd_Taken, m0_Taken, m1_Taken, m2_Taken, m3_Taken, m5_Taken, xL_Taken, rfl⟩, sa_Taken, r_Taken, t_Taken, k_Taken⟩
    y_Taken := ⟨ga_Taken, gg_Taken, r_Taken, hd_Taken⟩
    i_Taken := a_Taken_init
    u_Taken := tf_Taken
    n_Taken_what := n_Taken_what
    r_BadSeries := r_BadSeries
    t_BadSeries := t_BadSeries
    k_BadSeries := k_BadSeries
    g_BadSeries := PySem.W.mg_of X G aC_BadSeries
    x_BadSeries := xI_BadSeries
    r_BadName := r_BadName
    t_BadName := t_BadName
    k_BadName := k_BadName
    g_BadName := PySem.W.mg_of X G aC_BadName
    x_BadName := xI_BadName
    r_NotAllowed := r_NotAllowed
    t_NotAllowed := t_NotAllowed
    k_NotAllowed := k_NotAllowed
    g_NotAllowed := PySem.W.mg_of X G aC_NotAllowed
    x_NotAllowed := xI_NotAllowed
    e_BadName_BadName := exm_sub r_BadName ic_BadName t_BadName s_BadName_BadName
    e_NotAllowed_NotAllowed := exm_sub r_NotAllowed ic_NotAllowed t_NotAllowed s_NotAllowed_NotAllowed
    e_BadSeries_NotAllowed := exm_sub r_NotAllowed ic_NotAllowed t_NotAllowed s_BadSeries_NotAllowed
    e_BadSeries_BadSeries := exm_sub r_BadSeries ic_BadSeries t_BadSeries s_BadSeries_BadSeries
    e_Taken_NotAllowed := exm_sub r_NotAllowed ic_NotAllowed t_NotAllowed s_Taken_NotAllowed
    e_Taken_BadSeries := exm_sub r_BadSeries ic_BadSeries t_BadSeries s_Taken_BadSeries
    e_Taken_Taken := exm_sub r_Taken ic_Taken t_Taken s_Taken_Taken
    e_NoSuch_NotAllowed := exm_sub r_NotAllowed ic_NotAllowed t_NotAllowed s_NoSuch_NotAllowed
    e_NoSuch_BadName := exm_sub r_BadName ic_BadName t_BadName s_NoSuch_BadName
    e_NoSuch_NoSuch := exm_sub r_NoSuch ic_NoSuch t_NoSuch s_NoSuch_NoSuch
    e_BadName_NotAllowed := exm_sub r_NotAllowed ic_NotAllowed t_NotAllowed s_BadName_NotAllowed
    g_DaysError := PySem.W.mg_of X G aC_DaysError
    B_DaysError := ⟨rd_DaysError, gs_DaysError, fc_DaysError⟩
    z_len := PySem.W.mg_none_of X G z_len
    z_int := PySem.W.mg_none_of X G z_int
    z_tuple := PySem.W.mg_none_of X G z_tuple
    z_list := PySem.W.mg_none_of X G z_list
    z_range := PySem.W.mg_none_of X G z_range
    z_set := PySem.W.mg_none_of X G z_set
    z_all := PySem.W.mg_none_of X G z_all
    z_any := PySem.W.mg_none_of X G z_any
    z_min := PySem.W.mg_none_of X G z_min
    z_enumerate := PySem.W.mg_none_of X G z_enumerate
    z_isinstance := PySem.W.mg_none_of X G z_isinstance
    z_bool := PySem.W.mg_none_of X G z_bool
    g_VOTES := PySem.W.mg_of X G g_VOTES
    h_VOTES := fun H => sqT_of h_VOTES hs_VOTES
    k_VOTES := ⟨_, h_VOTES, ht_VOTES, hu_VOTES⟩
    g_LETTERS := ⟨_, PySem.W.mg_of X G g_LETTERS, _, rfl⟩
    g_DIGITS := ⟨_, PySem.W.mg_of X G g_DIGITS, _, rfl⟩ }
  exact ⟨_, fun s v => .of_eq rfl, fun base _ _ => ok_law T⟩

end Q
open PySem PySem.W PyProof.Rows in
set_option maxRecDepth 100000 in
set_option maxHeartbeats 0 in
theorem PySem.Challenge.cw_everdays_k89_polls_holds : PySem.Challenge.rw_everdays_k89_polls.Holds := by
  w_on; o_law; k_head; (case hw => w_witness2)
  k_fill
  refine L2.walk_of (l := PySem.Challenge.rw_everdays_k89_polls) (n := 63) (k := 8) (x := "script") (CX := fun _ => L2.CX0) (sp := fun w => Q.sp_law _) rfl (by decide) rfl ⟨rfl, by decide, by decide⟩ (fun w h Y => PySem.W.kIn_of Y) ?F (fun _ _ a ns hl _ hS => ⟨a, ns, rfl, hS, hl, fun _ => rfl⟩) (fun _ _ _ _ _ h => h)
  case F =>
    intro w mg fa h KX G hmg
    refine' Q.all_mk KX G hmg ?a_Taken_init ?l_Taken_init ?c_Taken_init ?k_Taken_init ?i_Taken_init ?a_NoSuch_init ?l_NoSuch_init ?c_NoSuch_init ?k_NoSuch_init ?i_NoSuch_init ?a_is_name ?l_is_name ?c_is_name ?k_is_name ?a_Poll_init ?l_Poll_init ?c_Poll_init ?k_Poll_init ?i_Poll_init ?a_Poll_propose ?l_Poll_propose ?c_Poll_propose ?k_Poll_propose ?i_Poll_propose ?a_Poll_proposals ?l_Poll_proposals ?c_Poll_proposals ?k_Poll_proposals ?i_Poll_proposals ?a_Poll_vote ?l_Poll_vote ?c_Poll_vote ?k_Poll_vote ?i_Poll_vote ?a_Poll_word ?l_Poll_word ?c_Poll_word ?k_Poll_word ?i_Poll_word ?a_Poll_tally ?l_Poll_tally ?c_Poll_tally ?k_Poll_tally ?i_Poll_tally ?a_Poll_possible ?l_Poll_possible ?c_Poll_possible ?k_Poll_possible ?i_Poll_possible ?a_Poll_best ?l_Poll_best ?c_Poll_best ?k_Poll_best ?i_Poll_best ?a_Poll_close ?l_Poll_close ?c_Poll_close ?k_Poll_close ?i_Poll_close ?a_Poll_is_closed ?l_Poll_is_closed ?c_Poll_is_closed ?k_Poll_is_closed ?i_Poll_is_closed ?a_Poll_missing ?l_Poll_missing ?c_Poll_missing ?k_Poll_missing ?i_Poll_missing ?a_law_draw ?l_law_draw ?c_law_draw ?k_law_draw ?a_law_tape ?l_law_tape ?c_law_tape ?k_law_tape ?a_law_same ?l_law_same ?c_law_same ?k_law_same ?a_law_names ?l_law_names ?c_law_names ?k_law_names ?a_law_made_poll ?l_law_made_poll ?c_law_made_poll ?k_law_made_poll ?a_law_proposed ?l_law_proposed ?c_law_proposed ?k_law_proposed ?a_law_voted ?l_law_voted ?c_law_voted ?k_law_voted ?a_law_best ?l_law_best ?c_law_best ?k_law_best ?a_law ?l_law ?c_law ?k_law ?aC_Poll ?pg_Poll ?hd_Poll ?po_Poll ?sa_Poll ?mk_Poll ?kc_Poll ?n_Poll_names ?n_Poll_needed ?n_Poll_proposals ?n_Poll_votes ?n_Poll_closed ?aC_NoSuch ?r_NoSuch ?t_NoSuch ?k_NoSuch ?ic_NoSuch ?xL_NoSuch ?sa_NoSuch ?ga_NoSuch ?gg_NoSuch ?hd_NoSuch ?tf_NoSuch ?n_NoSuch_what ?aC_Taken ?r_Taken ?t_Taken ?k_Taken ?ic_Taken ?xL_Taken ?sa_Taken ?ga_Taken ?gg_Taken ?hd_Taken ?tf_Taken ?n_Taken_what ?aC_BadSeries ?r_BadSeries ?t_BadSeries ?k_BadSeries ?ic_BadSeries ?xI_BadSeries ?aC_BadName ?r_BadName ?t_BadName ?k_BadName ?ic_BadName ?xI_BadName ?aC_NotAllowed ?r_NotAllowed ?t_NotAllowed ?k_NotAllowed ?ic_NotAllowed ?xI_NotAllowed ?s_BadName_BadName ?s_NotAllowed_NotAllowed ?s_BadSeries_NotAllowed ?s_BadSeries_BadSeries ?s_Taken_NotAllowed ?s_Taken_BadSeries ?s_Taken_Taken ?s_NoSuch_NotAllowed ?s_NoSuch_BadName ?s_NoSuch_NoSuch ?s_BadName_NotAllowed ?aC_DaysError ?ty_DaysError ?rd_DaysError ?gs_DaysError ?fc_DaysError ?z_len ?z_int ?z_tuple ?z_list ?z_range ?z_set ?z_all ?z_any ?z_min ?z_enumerate ?z_isinstance ?z_bool ?g_VOTES ?h_VOTES ?hs_VOTES ?ht_VOTES ?hu_VOTES ?g_LETTERS ?g_DIGITS
    (case aC_Poll => k_is)
    (case aC_NoSuch => k_is)
    (case aC_Taken => k_is)
    (case aC_BadSeries => k_is)
    (case aC_BadName => k_is)
    (case aC_NotAllowed => k_is)
    (case aC_DaysError => k_is)
    (case ty_DaysError => k_is)
    (case a_Taken_init => k_is)
    (case l_Taken_init => k_is)
    (case c_Taken_init => k_is)
    (case k_Taken_init => k_is)
    (case i_Taken_init => k_is)
    (case a_NoSuch_init => k_is)
    (case l_NoSuch_init => k_is)
    (case c_NoSuch_init => k_is)
    (case k_NoSuch_init => k_is)
    (case i_NoSuch_init => k_is)
    (case a_is_name => k_is)
    (case l_is_name => k_is)
    (case c_is_name => k_is)
    (case k_is_name => k_is)
    (case a_Poll_init => k_is)
    (case l_Poll_init => k_is)
    (case c_Poll_init => k_is)
    (case k_Poll_init => k_is)
    (case i_Poll_init => k_is)
    (case a_Poll_propose => k_is)
    (case l_Poll_propose => k_is)
    (case c_Poll_propose => k_is)
    (case k_Poll_propose => k_is)
    (case i_Poll_propose => k_is)
    (case a_Poll_proposals => k_is)
    (case l_Poll_proposals => k_is)
    (case c_Poll_proposals => k_is)
    (case k_Poll_proposals => k_is)
    (case i_Poll_proposals => k_is)
    (case a_Poll_vote => k_is)
    (case l_Poll_vote => k_is)
    (case c_Poll_vote => k_is)
    (case k_Poll_vote => k_is)
    (case i_Poll_vote => k_is)
    (case a_Poll_word => k_is)
    (case l_Poll_word => k_is)
    (case c_Poll_word => k_is)
    (case k_Poll_word => k_is)
    (case i_Poll_word => k_is)
    (case a_Poll_tally => k_is)
    (case l_Poll_tally => k_is)
    (case c_Poll_tally => k_is)
    (case k_Poll_tally => k_is)
    (case i_Poll_tally => k_is)
    (case a_Poll_possible => k_is)
    (case l_Poll_possible => k_is)
    (case c_Poll_possible => k_is)
    (case k_Poll_possible => k_is)
    (case i_Poll_possible => k_is)
    (case a_Poll_best => k_is)
    (case l_Poll_best => k_is)
    (case c_Poll_best => k_is)
    (case k_Poll_best => k_is)
    (case i_Poll_best => k_is)
    (case a_Poll_close => k_is)
    (case l_Poll_close => k_is)
    (case c_Poll_close => k_is)
    (case k_Poll_close => k_is)
    (case i_Poll_close => k_is)
    (case a_Poll_is_closed => k_is)
    (case l_Poll_is_closed => k_is)
    (case c_Poll_is_closed => k_is)
    (case k_Poll_is_closed => k_is)
    (case i_Poll_is_closed => k_is)
    (case a_Poll_missing => k_is)
    (case l_Poll_missing => k_is)
    (case c_Poll_missing => k_is)
    (case k_Poll_missing => k_is)
    (case i_Poll_missing => k_is)
    (case a_law_draw => k_is)
    (case l_law_draw => k_is)
    (case c_law_draw => k_is)
    (case k_law_draw => k_is)
    (case a_law_tape => k_is)
    (case l_law_tape => k_is)
    (case c_law_tape => k_is)
    (case k_law_tape => k_is)
    (case a_law_same => k_is)
    (case l_law_same => k_is)
    (case c_law_same => k_is)
    (case k_law_same => k_is)
    (case a_law_names => k_is)
    (case l_law_names => k_is)
    (case c_law_names => k_is)
    (case k_law_names => k_is)
    (case a_law_made_poll => k_is)
    (case l_law_made_poll => k_is)
    (case c_law_made_poll => k_is)
    (case k_law_made_poll => k_is)
    (case a_law_proposed => k_is)
    (case l_law_proposed => k_is)
    (case c_law_proposed => k_is)
    (case k_law_proposed => k_is)
    (case a_law_voted => k_is)
    (case l_law_voted => k_is)
    (case c_law_voted => k_is)
    (case k_law_voted => k_is)
    (case a_law_best => k_is)
    (case l_law_best => k_is)
    (case c_law_best => k_is)
    (case k_law_best => k_is)
    (case a_law => k_is)
    (case l_law => k_is)
    (case c_law => k_is)
    (case k_law => k_is)
    (case pg_Poll => k_is)
    (case hd_Poll => k_is)
    (case po_Poll => k_is)
    (case sa_Poll => k_is)
    (case mk_Poll => k_is)
    (case kc_Poll => k_is)
    (case n_Poll_names => k_is)
    (case n_Poll_needed => k_is)
    (case n_Poll_proposals => k_is)
    (case n_Poll_votes => k_is)
    (case n_Poll_closed => k_is)
    (case r_NoSuch => k_is)
    (case t_NoSuch => k_is)
    (case k_NoSuch => k_is)
    (case ic_NoSuch => k_is)
    (case xL_NoSuch => k_is)
    (case sa_NoSuch => k_is)
    (case ga_NoSuch => k_is)
    (case gg_NoSuch => k_is)
    (case hd_NoSuch => k_is)
    (case tf_NoSuch => k_is)
    (case n_NoSuch_what => k_is)
    (case r_Taken => k_is)
    (case t_Taken => k_is)
    (case k_Taken => k_is)
    (case ic_Taken => k_is)
    (case xL_Taken => k_is)
    (case sa_Taken => k_is)
    (case ga_Taken => k_is)
    (case gg_Taken => k_is)
    (case hd_Taken => k_is)
    (case tf_Taken => k_is)
    (case n_Taken_what => k_is)
    (case r_BadSeries => k_is)
    (case t_BadSeries => k_is)
    (case k_BadSeries => k_is)
    (case ic_BadSeries => k_is)
    (case xI_BadSeries => k_exc)
    (case r_BadName => k_is)
    (case t_BadName => k_is)
    (case k_BadName => k_is)
    (case ic_BadName => k_is)
    (case xI_BadName => k_exc)
    (case r_NotAllowed => k_is)
    (case t_NotAllowed => k_is)
    (case k_NotAllowed => k_is)
    (case ic_NotAllowed => k_is)
    (case xI_NotAllowed => k_exc)
    (case s_BadName_BadName => first | rfl | k_is)
    (case s_NotAllowed_NotAllowed => first | rfl | k_is)
    (case s_BadSeries_NotAllowed => first | rfl | k_is)
    (case s_BadSeries_BadSeries => first | rfl | k_is)
    (case s_Taken_NotAllowed => first | rfl | k_is)
    (case s_Taken_BadSeries => first | rfl | k_is)
    (case s_Taken_Taken => first | rfl | k_is)
    (case s_NoSuch_NotAllowed => first | rfl | k_is)
    (case s_NoSuch_BadName => first | rfl | k_is)
    (case s_NoSuch_NoSuch => first | rfl | k_is)
    (case s_BadName_NotAllowed => first | rfl | k_is)
    (case rd_DaysError => k_is)
    (case gs_DaysError => k_is)
    (case fc_DaysError => k_is)
    (case z_len => k_is)
    (case z_int => k_is)
    (case z_tuple => k_is)
    (case z_list => k_is)
    (case z_range => k_is)
    (case z_set => k_is)
    (case z_all => k_is)
    (case z_any => k_is)
    (case z_min => k_is)
    (case z_enumerate => k_is)
    (case z_isinstance => k_is)
    (case z_bool => k_is)
    (case g_VOTES => k_is)
    (case h_VOTES => k_is)
    (case hs_VOTES => first | rfl | decide +kernel | k_is)
    (case ht_VOTES => rfl)
    (case hu_VOTES => rfl)
    (case g_LETTERS => k_is)
    (case g_DIGITS => k_is)

