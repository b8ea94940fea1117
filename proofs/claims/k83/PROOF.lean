import PyProof.Rows.All
import Wide.All
import OpenK.AllK
import Wide.FinOn
import HandS.ForMost
import HandS.Style
import HandS.ExcOwn
import HandS.Exc
import HandS.TryMany
import HandS.ExcInit
import HandS.ExcField
import HandS.WordsExc
import HandS.Conv
import HandS.Codes
import HandS.FStr
import HandS.TryOnly
import HandS.Walk
import HandS.Iter
import HandS.Strs
import HandS.Text
import HandS.SetFor
import HandS.Deep
import HandS.OwnEq
import HandS.StrMore
import PyProof.Rows.StrCut
import HandS.IsInst
import PySem.Challenge.RW_everdays_k83_pages
set_option Elab.async false
set_option linter.all false
set_option maxRecDepth 100000
set_option maxHeartbeats 4000000
namespace Q
open PySem PySem.Spec PyProof.Rows L2
theorem op_fdivE {X : Cx} : OpR X (binaryOp .FloorDiv) (rI CDiv fun i j => .int (i / j)) := op_fdiv
theorem op_modE {X : Cx} : OpR X (binaryOp .Mod) (rI (fun _ j => 0 < j) fun i j => .int (i % j)) := op_mod
theorem cmul_r {i j : Int} (h1 : -(2 ^ 64) < j) (h2 : j < 2 ^ 64) : CMul i j := .inr ⟨h1, h2⟩
theorem cmul_l {i j : Int} (h1 : -(2 ^ 64) < i) (h2 : i < 2 ^ 64) : CMul i j := .inl ⟨h1, h2⟩
theorem iteK {c A B : Prop} {inst : Decidable c} (h1 : c → A) (h2 : ¬ c → B) : if decide c = true then A else B := by
  by_cases h : c
  · rw [if_pos (decide_eq_true h)]; exact h1 h
  · rw [if_neg (by simpa using h)]; exact h2 h
theorem ite_y {c : Bool} {A B : Prop} (hc : c = true) (h : A) : if c = true then A else B := by
  rw [if_pos hc]; exact h
theorem ite_n {c : Bool} {A B : Prop} (hc : c = false) (h : B) : if c = true then A else B := by
  rw [if_neg (by rw [hc]; decide)]; exact h
end Q
namespace Q
open PySem PySem.Spec PyProof.Rows L2
section
variable {K : PySem.W.Frag} {σ : L2.St} {H H' : Hp} {i j : Nat} {v x y z : V} {Q : VK} {R : Bool → Hp → Prop} {ta tb te : TE} {D : Ends} {t u : TS} {p : Addr} {xs : List V}
theorem red {σ' : L2.St} (e : σ = σ') (h : t D σ' H) : t D σ H := e ▸ h
theorem g_var (h : σ[i]? = some (some v)) (q : Q v H) : tVar i σ H Q := ⟨v, h, q⟩
theorem g_c (q : Q v H) : tC v σ H Q := q
theorem g_op {r : R2} (q : ta σ H fun x H1 => tb σ H1 fun y H2 => r x y H2 Q) : tOp r ta tb σ H Q := q
theorem g_un {r : V → Hp → VK → Prop} (q : ta σ H fun x H1 => r x H1 Q) : tUn r ta σ H Q := q
theorem g_tt (q : te σ H fun x H' => ∃ k, x = .bl k ∧ R k H') : tTest te σ H R := q
theorem g_tB (q : te σ H fun x H' => ∃ k, x = .bl k ∧ R k H') : tB te σ H R := q
theorem g_ifs {c : TT} (q : c σ H fun b H1 => if b = true then t D σ H1 else u D σ H1) : tIfS c t u D σ H := q
theorem g_seq (q : t { D with nx := u D } σ H) : tSeq t u D σ H := q
theorem g_next (q : D.nx σ H) : tNext D σ H := q
theorem g_asg {g : TG} (q : te σ H fun x H1 => g x σ H1 D.nx) : tAsg te g D σ H := q
theorem g_name {R : L2.St → Hp → Prop} (q : R (σ.set i (some v)) H) : gName i v σ H R := q
theorem g_ret (q : te σ H D.rt) : tRet te D σ H := q
theorem g_drop (q : te σ H fun _ H1 => D.nx σ H1) : tDrop te D σ H := q
theorem g_nil {R : List V → Hp → Prop} (q : R [] H) : tNil σ H R := q
theorem g_cons {tr : TA} {R : List V → Hp → Prop} (q : te σ H fun x H1 => tr σ H1 fun xs H2 => R (x :: xs) H2) : tCons te tr σ H R := q
theorem g_cb {r : List V → Hp → VK → Prop} {ta : TA} (q : ta σ H fun vs H1 => r vs H1 Q) : tCB r ta σ H Q := q
theorem g_sub {to ti : TE} {ts : TSet} {R : L2.St → Hp → Prop} (q : to σ H fun o H1 => ti σ H1 fun i H2 => ts o i v H2 fun H3 => R σ H3) : gSub to ti ts v σ H R := q
theorem g_call {sp : Sp} {dvs : List V} {E : XK} {ta : TA} (q : ta σ H fun vs H1 => sp (vs ++ dvs) H1 Q E) : tCall sp dvs E ta σ H Q := q
theorem g_if {c : TT} (q : c σ H fun b H1 => if b = true then ta σ H1 Q else tb σ H1 Q) : tIf c ta tb σ H Q := q
theorem g_and {c d : TT} (q : c σ H fun b H1 => if b = true then d σ H1 R else R false H1) : tAnd c d σ H R := q
theorem g_or {c d : TT} (q : c σ H fun b H1 => if b = true then R true H1 else d σ H1 R) : tOr c d σ H R := q
theorem g_not {c : TT} (q : c σ H fun b H1 => R (!b) H1) : tNot c σ H R := q
theorem g_tup {ta : TA} (q : ta σ H fun xs H1 => xs.length ≤ sizeLine ∧ ∀ p, H1 p = none → Q (.ref p) (upd H1 p (.tup xs))) : tTup ta σ H Q := q
theorem g_lst {ta : TA} (q : ta σ H fun xs H1 => xs.length ≤ sizeLine ∧ ∀ p, H1 p = none → Q (.ref p) (upd H1 p (.lst xs))) : tLst ta σ H Q := q
theorem g_vei {ta : TA} (q : ta σ H fun vs H1 => ∃ (a C : Addr) (ws : List V), vs = .ref a :: ws ∧ ws.length ≤ 1000 ∧ OexC K C ∧ H1 a = some (exo a C none) ∧ Q .non H1) : tVeI K ta σ H Q := q
theorem g_jc {t : TE} {ts : List TE} {acc : Str} {R : Str → Hp → Prop} (q : t σ H fun x H1 => ∃ y : Str, x = .str y ∧ (acc ++ y).length ≤ sizeLine ∧ tJs ts (acc ++ y) σ H1 R) : tJs (t :: ts) acc σ H R := q
theorem g_jn {acc : Str} {R : Str → Hp → Prop} (q : R acc H) : tJs [] acc σ H R := q
theorem g_fmt (q : te σ H fun x H1 => (∃ y : Str, x = .str y ∧ y.length ≤ sizeLine ∧ Q (.str y) H1) ∨ ∃ i : Int, x = .int i ∧ i.natAbs.log2 < 1920 ∧ Q (.str (toString i)) H1) : tFmt te σ H Q := q
theorem g_ost {f : Str} {to : TE} (q : te σ H fun y H1 => to σ H1 fun x H2 => ∃ a C : Addr, x = .ref a ∧ OexC K C ∧ PySem.W.findIn K (.ref C) f = some none ∧
  ((H2 a = some (exo a C none) ∧ ∀ dx, H2 dx = none → dx ≠ a → D.nx σ (upd (upd H2 dx (exd dx [(f, y)])) a (exo a C (some dx)))) ∨
    ∃ (dx : Addr) (fs : List (Str × V)), H2 a = some (exo a C (some dx)) ∧ H2 dx = some (exd dx fs) ∧ fs.length ≤ 900 ∧ D.nx σ (upd H2 dx (exd dx ((f, y) :: fs))))) : tOst K f to te D σ H := q
theorem g_mko {C : Addr} {sp : Sp} {dvs : List V} {ta : TA} {R : XK} (q : ta σ H fun vs H1 => vs.length ≤ 1000 ∧ ∀ a, H1 a = none → sp (.ref a :: (vs ++ dvs)) (upd H1 a (exo a C none))
  (fun v H2 => v = .non ∧ ∃ (d : Addr) (fs : List (Str × V)), H2 a = some (exo a C (some d)) ∧ H2 d = some (exd d fs) ∧ H1 d = none ∧ R (.ref C) (some d) (upd (del H2 a) d (.xd fs))) (fun _ _ _ => False)) : tMkO C sp dvs ta σ H R := q
theorem g_fld {f : Str} (q : ta σ H fun x H1 => ∃ a C dx fs v, x = .ref a ∧ H1 a = some (.ins C dx fs) ∧ Cls K C ∧ NoAttr K C f ∧ fs.lookup f = some v ∧ Q v H1) : tFld K ta f σ H Q := q
theorem g_sfld {f : Str} {tv : TE} (q : tv σ H fun y H1 => ta σ H1 fun x H2 => ∃ a C dx fs, x = .ref a ∧ H2 a = some (.ins C dx fs) ∧ Cls K C ∧ NoAttr K C f ∧ fs.length < 1000 ∧ D.nx σ (upd H2 a (.ins C dx (putF f y fs)))) : sFld K ta tv f D σ H := q
theorem g_meth {C : Addr} {m : Str} {sp : Sp} {dvs : List V} {E : XK} {tr : TA} (q : ta σ H fun x H1 => ∃ a dx fs, x = .ref a ∧ H1 a = some (.ins C dx fs) ∧ fs.lookup m = none ∧ tr σ H1 fun vs H2 => sp (x :: (vs ++ dvs)) H2 Q E) : tMeth C m sp dvs E ta tr σ H Q := q
theorem g_make {C : Addr} {sp : Sp} {dvs : List V} {E : XK} {tr : TA} (q : tr σ H fun vs H1 => ∀ x dx, H1 x = none → H1 dx = none → dx ≠ x → sp (.ref x :: (vs ++ dvs)) (upd (upd H1 dx (.own x)) x (.ins C dx [])) (fun v H2 => v = .non ∧ Q (.ref x) H2) E) : tMake C sp dvs E tr σ H Q := q
theorem g_ofld {f : Str} {C dx : Addr} {fs : List (Str × V)} (h : H p = some (.ins C dx fs)) (c : Cls K C) (n : NoAttr K C f) (l : fs.lookup f = some v) {R : V → Prop} (q : R v) : ∃ a C dx fs v, V.ref p = .ref a ∧ H a = some (.ins C dx fs) ∧ Cls K C ∧ NoAttr K C f ∧ fs.lookup f = some v ∧ R v := ⟨p, C, dx, fs, v, rfl, h, c, n, l, q⟩
theorem g_omet {m : Str} {C dx : Addr} {fs : List (Str × V)} (h : H p = some (.ins C dx fs)) (l : fs.lookup m = none) {R : Prop} (q : R) : ∃ a dx fs, V.ref p = .ref a ∧ H a = some (.ins C dx fs) ∧ fs.lookup m = none ∧ R := ⟨p, dx, fs, rfl, h, l, q⟩
theorem g_dget {td ty : TE} (q : td σ H fun x H1 => ty σ H1 fun y H2 => ∃ a v, x = .ref a ∧ DGet H2 a y (some v) ∧ Q v H2) : tDGet td ty σ H Q := q
theorem g_din {td ty : TE} (q : ty σ H fun y H1 => td σ H1 fun x H2 => ∃ a o, x = .ref a ∧ DGet H2 a y o ∧ Q (.bl o.isSome) H2) : tDIn ty td σ H Q := q
theorem g_dni {td ty : TE} (q : ty σ H fun y H1 => td σ H1 fun x H2 => ∃ a o, x = .ref a ∧ DGet H2 a y o ∧ Q (.bl (!o.isSome)) H2) : tDNotIn ty td σ H Q := q
theorem g_dput {td ty tv : TE} (q : tv σ H fun v H1 => td σ H1 fun x H2 => ty σ H2 fun y H3 => ∃ a H4, x = .ref a ∧ DPut H3 a y v H4 ∧ D.nx σ H4) : sDPut td ty tv D σ H := q
theorem g_dg1 {td ty : TE} (q : td σ H fun x H1 => ∃ a, x = .ref a ∧ IsD H1 a ∧ ty σ H1 fun y H2 => ∃ o, DGet H2 a y o ∧ Q (o.getD .non) H2) : tDGet1 td ty σ H Q := q
theorem g_dg2 {td ty tx : TE} (q : td σ H fun x H1 => ∃ a, x = .ref a ∧ IsD H1 a ∧ ty σ H1 fun y H2 => tx σ H2 fun z H3 => ∃ o, DGet H3 a y o ∧ Q (o.getD z) H3) : tDGet2 td ty tx σ H Q := q
theorem g_or2 {c d : TE} (q : c σ H fun x H1 => ∃ k, x = .bl k ∧ if k = true then Q (.bl true) H1 else d σ H1 Q) : tOrV c d σ H Q := q
theorem g_an2 {c d : TE} (q : c σ H fun x H1 => ∃ k, x = .bl k ∧ if k = true then d σ H1 Q else Q (.bl false) H1) : tAndV c d σ H Q := q
theorem g_no2 {c : TE} (q : c σ H fun x H1 => ∃ k, x = .bl k ∧ Q (.bl (!k)) H1) : tNotV c σ H Q := q
theorem g_I0 {g : Int → Int → V} {m n : Int} (q : Q (g m n) H) : rI0 g (.int m) (.int n) H Q := ⟨m, n, rfl, rfl, q⟩
theorem g_I {C : Int → Int → Prop} {g : Int → Int → V} {m n : Int} (c : C m n) (q : Q (g m n) H) : rI C g (.int m) (.int n) H Q := ⟨m, n, rfl, rfl, c, q⟩
theorem g_U {g : Int → V} {m : Int} (q : Q (g m) H) : rU g (.int m) H Q := ⟨m, rfl, q⟩
theorem g_eq (c : scal x y = true) (q : Q (.bl (decide (x = y))) H) : rEq x y H Q := ⟨c, q⟩
theorem g_ne (c : scal x y = true) (q : Q (.bl (!decide (x = y))) H) : rNe x y H Q := ⟨c, q⟩
theorem g_ixL {n : Int} (h : SqL K H p xs) (a : atI xs n = some v) (q : Q v H) : rIxL K (.ref p) (.int n) H Q := ⟨p, xs, n, v, rfl, rfl, h, a, q⟩
theorem g_ixT {n : Int} (h : SqT K H p xs) (a : atI xs n = some v) (q : Q v H) : rIxT K (.ref p) (.int n) H Q := ⟨p, xs, n, v, rfl, rfl, h, a, q⟩
theorem g_setL {n : Int} (h : H p = some (.lst xs)) (a : ixN xs.length n = some j) {Q : Hp → Prop} (q : Q (upd H p (.lst (xs.set j v)))) : rSetL (.ref p) (.int n) v H Q := ⟨p, xs, n, j, rfl, rfl, h, a, q⟩
theorem g_test {b : Bool} {R : Bool → Prop} (q : R b) : (∃ k, V.bl b = .bl k ∧ R k) := ⟨b, rfl, q⟩
theorem g_int1 {n : Int} {R : Int → Prop} {S : Bool → Prop} (q : R n) : (∃ i, [V.int n] = [V.int i] ∧ R i) ∨ (∃ k, [V.int n] = [V.bl k] ∧ S k) := .inl ⟨n, rfl, q⟩
theorem g_bl1 {b : Bool} {R : Int → Prop} {S : Bool → Prop} (q : S b) : (∃ i, [V.bl b] = [V.int i] ∧ R i) ∨ (∃ k, [V.bl b] = [V.bl k] ∧ S k) := .inr ⟨b, rfl, q⟩
theorem g_lenL {R : List V → Prop} (h : SqL K H p xs) (q : R xs) : ∃ p' ys, [V.ref p] = [V.ref p'] ∧ (SqL K H p' ys ∨ SqT K H p' ys) ∧ R ys := ⟨p, xs, rfl, .inl h, q⟩
theorem g_lenT {R : List V → Prop} (h : SqT K H p xs) (q : R xs) : ∃ p' ys, [V.ref p] = [V.ref p'] ∧ (SqL K H p' ys ∨ SqT K H p' ys) ∧ R ys := ⟨p, xs, rfl, .inr h, q⟩
end
section
variable {K : PySem.W.Frag} {σ : L2.St} {H : Hp} {te : TE} {ta : TA} {wi : TI} {g : TG} {gs : TGs} {tt : TT} {tb t : TS} {D : Ends} {Q : VK} {R : It → Hp → Prop} {v : V}
theorem g_itup (q : te σ H fun x H1 => ∃ a, x = .ref a ∧ (∃ xs, SqT K H1 a xs) ∧ R (Itt K a) H1) : iTup K te σ H R := q
theorem g_ilist (q : te σ H fun x H1 => ∃ a, x = .ref a ∧ (∃ xs, SqL K H1 a xs) ∧ R (Itl K a) H1) : iList K te σ H R := q
theorem g_ikeys (q : te σ H fun x H1 => ∃ d o, x = .ref d ∧ ((∃ kvs, H1 d = some (.frz o (.dK kvs)) ∧ R (Itk d o kvs) H1) ∨ ∃ kvs, H1 d = some (.frz o (.dT kvs)) ∧ R (Itkt d o kvs) H1)) : iKeys te σ H R := q
theorem g_irng1 (q : ta σ H fun vs H1 => ∃ j : Int, vs = [.int j] ∧ -(2 ^ 62) ≤ j ∧ j < 2 ^ 62 ∧ R (Itr 0 j.toNat) H1) : iRng1 ta σ H R := q
theorem g_irng2 (q : ta σ H fun vs H1 => ∃ i j : Int, vs = [.int i, .int j] ∧ (-(2 ^ 62) ≤ i ∧ i < 2 ^ 62 ∧ -(2 ^ 62) ≤ j ∧ j < 2 ^ 62) ∧ R (Itr i (j - i).toNat) H1) : iRng2 ta σ H R := q
theorem g_for (q : wi σ H fun J H1 => ∃ W : Nat → Nat → L2.St → Hp → Prop, (∃ m, W 0 m σ H1) ∧ ∀ i m σ H, W i m σ H →
  (J.stop i H ∧ D.nx σ H) ∨ (J.go i H ∧ ∃ N : L2.St → Hp → Prop, (∀ σ' H', N σ' H' → ∃ m', m' < m ∧ W (i + 1) m' σ' H') ∧ ∀ x H', J.yld i H x H' → g x σ H' fun σ2 H2 => tb { D with nx := N, ct := N, bk := D.nx } σ2 H2)) : tFor wi g tb D σ H := q
theorem g_lc {vs : List Nat} (q : wi σ H fun J H1 => ∀ D, H1 D = none → ∃ W : Nat → Nat → Hp → Prop, (∃ m, W 0 m (upd H1 D (.lst []))) ∧ ∀ i m H, W i m H →
  (J.stop i H ∧ Q (.ref D) H) ∨ (J.go i H ∧ ∃ Nx : Hp → Prop, (∀ H', Nx H' → ∃ m', m' < m ∧ W (i + 1) m' H') ∧ ∀ x H', J.yld i H x H' → g x (wipe σ vs) H' fun σ2 H2 => wipe σ2 vs = wipe σ vs ∧ tt σ2 H2 fun b H3 =>
    if b = true then te σ2 H3 fun y H4 => ∃ acc, H4 D = some (.lst acc) ∧ acc.length < sizeLine ∧ Nx (upd H4 D (.lst (acc ++ [y]))) else Nx H3)) : tLc wi g tt te vs σ H Q := q
theorem g_lock (q : ∃ d u, H d = some u ∧ Mut (some u) ∧ ∀ od, t ⟨fun σ' H' => H' d = some (.frz od u) ∧ D.nx σ' (upd H' d u), fun v H' => H' d = some (.frz od u) ∧ D.rt v (upd H' d u), fun σ' H' => H' d = some (.frz od u) ∧ D.bk σ' (upd H' d u), fun σ' H' => H' d = some (.frz od u) ∧ D.ct σ' (upd H' d u)⟩ σ (upd H d (.frz od u))) : tLock t D σ H := q
theorem g_gtup {n : Nat} {R : L2.St → Hp → Prop} (q : ∃ a xs, v = .ref a ∧ SqT K H a xs ∧ xs.length = n ∧ gs xs σ H R) : gTup K n gs v σ H R := q
theorem g_gcons {vs : List V} {R : L2.St → Hp → Prop} (q : g v σ H fun σ' H' => gs vs σ' H' R) : gCons g gs (v :: vs) σ H R := ⟨v, vs, rfl, q⟩
theorem g_gnil {R : L2.St → Hp → Prop} (q : R σ H) : gNil [] σ H R := ⟨rfl, q⟩
theorem g_sl {r : V → Option Int → Option Int → Hp → VK → Prop} {tl th : TO} (q : te σ H fun x H1 => tl σ H1 fun l H2 => th σ H2 fun u H3 => r x l u H3 Q) : tSl r te tl th σ H Q := q
theorem g_npart {R : Option Int → Hp → Prop} (q : R none H) : tNoPart σ H R := q
theorem g_part {R : Option Int → Hp → Prop} (q : te σ H fun x H1 => ∃ i, x = .int i ∧ R (some i) H1) : tPart te σ H R := q
theorem g_dnt (q : ∀ p, H p = none → Q (.ref p) (upd H p (.dT []))) : tDNewT σ H Q := q
theorem g_dnk (q : ∀ p, H p = none → Q (.ref p) (upd H p (.dK []))) : tDNewK σ H Q := q
theorem g_yes {R : Bool → Hp → Prop} (q : R true H) : tYes σ H R := q
theorem g_par {i j : Nat} (q : ta σ H fun vs H1 => ∃ v w, vs = [v, w] ∧ D.nx ((σ.set i (some v)).set j (some w)) H1) : tPar i j ta D σ H := q
theorem g_par3 {i j l : Nat} (q : ta σ H fun vs H1 => ∃ u v w, vs = [u, v, w] ∧ D.nx (((σ.set i (some u)).set j (some v)).set l (some w)) H1) : tPar3 i j l ta D σ H := q
theorem g_calls {sp : Sp} {E : L2.St → XK} (q : ta σ H fun vs H1 => sp vs H1 Q (E σ)) : tCallS sp E ta σ H Q := q
end
end Q
namespace Q
open PySem PySem.Spec PyProof.Rows L2
/-- what the written part says of a class of the program whose __init__ is ValueError's own, read off the class: D.__init__ -/
structure BaseInit (K : PySem.W.Frag) (D : Addr) (mc : Value) : Prop where
  rd : PySem.W.readsIn K D mc = true
  ga : PySem.W.specialIn K (.ref D) "__getattribute__" = some (some (.builtin "type.__getattribute__"))
  at_ : PySem.W.findCls K (.ref D) mc "__init__" = some (.val (.builtin "ValueError.__init__"))
/-- D.__init__(self, ..), D a class of the program: the same as ValueError.__init__ -/
theorem pe_deinit {X : Cx} {e : Expr} {es : List Expr} {ta : TA} {x : Str} {D : Addr} {mc : Value} {p1 p2 pos : PySem.Pos} {pl : Sem Bool} (hg : Gl X x) (hm : X.mg x = some (.ref D)) (B : BaseInit X.K D mc) (ha : PA X (e :: es) ta)
    (hdb : (x == ("__debug__" : Str)) = false := by decide)
    (hc : eval (.Call (.Attribute (.Name x p1) "__init__" p2) (e :: es) [] pos) X.env = (do
      let ov ← eval (.Name x p1) X.env
      standAt p2.atName
      let (f, first) ← holding [ov] (getMethod ov "__init__" pl)
      callWith pos f first (backTo pos (starEach (e :: es) X.env)) (backToKw pos (keywordEach [] X.env))) := by rfl)
    (he : starEach (e :: es) X.env = (false, eval e X.env) :: starEach es X.env := by rfl) (hpl : (backTo pos (starEach es X.env)).any (·.1) = false := by rfl) :
    PE X (.Call (.Attribute (.Name x p1) "__init__" p2) (e :: es) [] pos) (tVeI X.K ta) := by
  refine ⟨fun pins s σ H Q I h => ?_⟩
  refine PySem.W.methodCall_KW (ld_glob I hg hm ?_ hdb) hc
  refine PySem.W.method_cls I.kIn B.ga (PySem.W.cls_value I.kIn B.rd B.at_ (by decide +kernel) ?_)
  show wpAny _ _ (callWith pos (Value.builtin "ValueError.__init__") [] (backTo pos (starEach (e :: es) X.env)) []) _ _ _
  have I0 : Inv X pins σ H { s with toks := s.toks + 1 } := I.tok _
  refine PyProof.Rows.callWith_method1 (thn (ha.run pos pins _ σ H _ I0 h) fun us s1 hv => ?_) he hpl
  obtain ⟨vs, H1, I1, r1, a, C, ws, ev, hl, T, ea, q⟩ := hv
  subst ev
  cases r1 with
  | @cons _ u0 _ ur ra rw' =>
    obtain rfl : u0 = Value.ref a := ra
    have hlen : ur.length ≤ sizeLine := by
      rw [← Paired.length rw', sizeLine_eq]; omega
    exact oinit_ok T I1 ea hlen fun s' J => ⟨.non, H1, J, rfl, q⟩
end Q
namespace Q
open PySem PySem.Spec PyProof.Rows L2
/-- X(), an own exception class without own __init__ -/
theorem pmk_own0 {X : Cx} {C : Addr} {bmB : List Value} {B newId initId : String} {x : Str} {p pos : PySem.Pos} (F : ExcBaseFacts B newId initId bmB) (q : PySem.W.excIn X.K C bmB newId = true) (gC : X.mg x = some (.ref C))
    (kC : PySem.W.keepIn X.K (.ref C) = true) (r : Raises X (.ref C)) (hg : Gl X x) (hdb : (x == ("__debug__" : Str)) = false := by decide) : PMk X (.Call (.Name x p) [] [] pos) (fun _ H Q => Q (.ref C) none H) := by
  intro pins s σ H Q I h
  refine wpAny_Call_Name_kw (ld_glob I hg gC ?_ hdb)
  refine PySem.W.callWith_K0 I.kIn kC ?_
  obtain ⟨bm, N, nm, qn, bs, hdct, sn, sub, ab, col, dd, k0, k1, k2, k3, k5, mN, hC, hN, hni, T⟩ := exc_obj I.kIn q
  exact wpAny_call_exc_subT F T hC hN hni (fun h' e hm => mk_of I hm r h (I.hok.gone hm.new)) (Nat.zero_le _)
end Q
namespace Q
/-- does «except D» take an error of the class C -/
theorem exm_sub {K : PySem.W.Frag} {C D : PySem.Addr} {b : Bool} (h1 : PySem.W.subIn K (.ref D) (.type "BaseException") = some true) (h2 : PySem.W.isClsIn K D = true) (h3 : PySem.W.typeIn K (.ref D) = some (.type "type")) (h4 : PySem.W.subIn K (.ref C) (.ref D) = some b) :
    PySem.W.exmOne K (.ref C) (.ref D) = some b := by
  have e1 : (PySem.W.subIn K (.ref D) (.type "BaseException") == some true) = true := by rw [h1]; rfl
  have e2 : ((PySem.W.clsIn K D).isSome && PySem.W.typeIn K (.ref D) == some (.type "type")) = true := by
    have h2' : (PySem.W.clsIn K D).isSome = true := h2
    rw [h2', h3]; rfl
  show (if (PySem.W.subIn K (.ref D) (.type "BaseException") == some true) = true then (if ((PySem.W.clsIn K D).isSome && PySem.W.typeIn K (.ref D) == some (.type "type")) = true then PySem.W.subIn K (.ref C) (.ref D) else none) else none) = some b
  rw [if_pos e1, if_pos e2]
  exact h4
end Q
namespace Q
open PySem PySem.Spec PyProof.Rows L2
/-- o.m(e, ..) where what is raised is wished for at the caller's slots -/
def tMethX (C : Addr) (m : Str) (sp : Sp) (E : L2.St → XK) (ta : TE) (t : TA) : TE := fun σ H Q => ta σ H fun x H1 => ∃ a dx fs, x = .ref a ∧ H1 a = some (.ins C dx fs) ∧ fs.lookup m = none ∧ t σ H1 fun vs H2 => sp (x :: vs) H2 Q (E σ)
theorem g_methx {C : Addr} {m : Str} {sp : Sp} {E : L2.St → XK} {ta : TE} {t : TA} {σ : L2.St} {H : Hp} {Q : VK} (q : ta σ H fun x H1 => ∃ a dx fs, x = .ref a ∧ H1 a = some (.ins C dx fs) ∧ fs.lookup m = none ∧ t σ H1 fun vs H2 => sp (x :: vs) H2 Q (E σ)) : tMethX C m sp E ta t σ H Q := q
theorem pe_methX {X : Cx} {CX : CXT} {k : Nat} {f C : Addr} {fd : FuncData} {ps : List Str} {sp : Sp} {E : L2.St → XK} {m : Str} {apos pos : PySem.Pos} {e o : Expr} {es : List Expr} {ta : TE} {t : TA} {pl : Sem Bool} (he : PE X o ta) (c : Cls X.K C) (hm : Meth X.K C m f)
    (F : FnOk X.prog X.w X.K X.mg X.base CX k f fd ps sp) (hr : Room k X.A) (hb : Binds X.K fd ps []) (hx : ∀ σ, PassesAt CX X σ (E σ)) (ha : PA X (e :: es) t)
    (hst : starEach (e :: es) X.env = (false, eval e X.env) :: starEach es X.env := by rfl) (hpl : (backTo pos (starEach es X.env)).any (·.1) = false := by rfl)
    (ht : eval (.Call (.Attribute o m apos) (e :: es) [] pos) X.env = (do
      let ov ← eval o X.env
      standAt apos.atName
      let (f, first) ← holding [ov] (getMethod ov m pl)
      callWith pos f first (backTo pos (starEach (e :: es) X.env)) (backToKw pos (keywordEach [] X.env))) := by rfl) :
    PE X (.Call (.Attribute o m apos) (e :: es) [] pos) (tMethX C m sp E ta t) := by
  refine ⟨fun pins s σ H Q I h => PySem.W.methodCall_KW (pl := pl) (thn (he.run pins s σ H _ I h) fun u s1 hv => ?_) ht⟩
  obtain ⟨x, H1, I1, rx, a, dx, fs, rfl, ea, l, q⟩ := hv
  obtain rfl : u = Value.ref a := rx
  refine getmeth_ok I1 ea c hm l (PySem.W.callWith_K (first := [.ref a]) (h₀ := X.base) I.ok.mod.kin hm.kp (thn (ha.run pos pins s1 σ H1 _ I1 q) fun us s2 hv => ?_) hst hpl)
  obtain ⟨vs, H2, I2, r, q2⟩ := hv
  exact ⟨I2.kIn, run_fnS (us := .ref a :: us) (vs := .ref a :: vs) F hr hb (hx σ) I2 (.cons rfl r) q2⟩
theorem pe_meth0X {X : Cx} {CX : CXT} {k : Nat} {f C : Addr} {fd : FuncData} {ps : List Str} {sp : Sp} {E : L2.St → XK} {m : Str} {apos pos : PySem.Pos} {o : Expr} {ta : TE} {pl : Sem Bool} (he : PE X o ta) (c : Cls X.K C) (hm : Meth X.K C m f)
    (F : FnOk X.prog X.w X.K X.mg X.base CX k f fd ps sp) (hr : Room k X.A) (hb : Binds X.K fd ps []) (hx : ∀ σ, PassesAt CX X σ (E σ))
    (ht : eval (.Call (.Attribute o m apos) [] [] pos) X.env = (do
      let ov ← eval o X.env
      standAt apos.atName
      let (f, first) ← holding [ov] (getMethod ov m pl)
      callWith pos f first (backTo pos (starEach [] X.env)) (backToKw pos (keywordEach [] X.env))) := by rfl) :
    PE X (.Call (.Attribute o m apos) [] [] pos) (tMethX C m sp E ta tNil) := by
  refine ⟨fun pins s σ H Q I h => PySem.W.methodCall_KW (pl := pl) (thn (he.run pins s σ H _ I h) fun u s1 hv => ?_) ht⟩
  obtain ⟨x, H1, I1, rx, a, dx, fs, rfl, ea, l, q⟩ := hv
  obtain rfl : u = Value.ref a := rx
  exact getmeth_ok I1 ea c hm l (PySem.W.callWith_K0 (first := [.ref a]) I1.kIn hm.kp (run_fnS (us := [.ref a]) (vs := [.ref a]) F hr hb (hx σ) I1 (.cons rfl .nil) q))
end Q
/-! several except clauses, some of them with a name -/
namespace Q
open PySem PySem.Spec PyProof.Rows L2
abbrev Suite := Addr → Value → Option Addr → TS
/-- the ends and the slots of a clause: slot i (if any) is the clause's own name -/
def cEnds (D : Ends) : Option Nat → Ends
  | none => D
  | some i => { nx := fun σ' H' => D.nx (σ'.set i none) H', rt := D.rt, bk := fun σ' H' => D.bk (σ'.set i none) H', ct := fun σ' H' => D.ct (σ'.set i none) H' }
def cSlot (σ : L2.St) (a : Addr) : Option Nat → L2.St
  | none => σ
  | some i => σ.set i (some (.ref a))
def wCl (K : PySem.W.Frag) (Wout : WX) (D : Ends) : List (Value × Option Nat × Suite) → WX
  | [] => Wout
  | (c, o, ts) :: r => fun cls d σ H => ∃ b, PySem.W.exmOne K cls c = some b ∧ (b = true → ∀ a, H a = none → ts a cls d (cEnds D o) (cSlot σ a o) H) ∧ (b = false → wCl K Wout D r cls d σ H)
inductive ClOk (X : Cx) : List ExceptHandler → List (Value × Option Nat × Suite) → Prop
  | nil : ClOk X [] []
  | bare {x : Str} {c : Value} {ts : Suite} {b₀ : Stmt} {su : List Stmt} {np p' : PySem.Pos} {hds : List ExceptHandler} {l : List (Value × Option Nat × Suite)} (hc : Names X x c)
      (hsu : ∀ (a : Addr) (oe : Obj) (cls : Value) (d : Option Addr) (pn : List (Addr × Obj)), Zc cls d oe → (∃ vs, oe.data = .fields vs) → PSs (X.suite a ((a, oe) :: pn)) (b₀ :: su) (ts a cls d)) (r : ClOk X hds l) :
      ClOk X (.ExceptHandler (some (.Name x np)) none (b₀ :: su) p' :: hds) ((c, none, ts) :: l)
  | named {x n : Str} {c : Value} {i : Nat} {ts : Suite} {b₀ : Stmt} {su : List Stmt} {np p' : PySem.Pos} {hds : List ExceptHandler} {l : List (Value × Option Nat × Suite)} (hc : Names X x c) (hi : X.N[i]? = some n) (hln : X.env.kindOf n = some .local)
      (hsu : ∀ (a : Addr) (oe : Obj) (cls : Value) (d : Option Addr) (pn : List (Addr × Obj)), Zc cls d oe → (∃ vs, oe.data = .fields vs) → PSs (X.suite a ((a, oe) :: pn)) (b₀ :: su) (ts a cls d)) (r : ClOk X hds l) :
      ClOk X (.ExceptHandler (some (.Name x np)) (some n) (b₀ :: su) p' :: hds) ((c, some i, ts) :: l)
section
variable {X : Cx} {pins : List (Addr × Obj)} {D : Ends} {Wout : WX} {a : Addr} {B : Heap} {sI s' : Shared} {σ' : L2.St} {H' : Hp} {cls : Value} {d : Option Addr} {h3 : Heap}
/-- the exception on the ground of the try: what is known of it -/
structure Grd (X : Cx) (pins : List (Addr × Obj)) (a : Addr) (B : Heap) (sI s' : Shared) (σ' : L2.St) (H' : Hp) (cls : Value) (d : Option Addr) (h3 : Heap) : Prop where
  J : Inv X pins σ' H' sI
  nb : ∀ b o, sI.heap.get? b = some o → b ∉ frs X.stack → B.get? b = some o
  up : sI.heap.UpToSlots h3
  fl : HandSPX.FlyingZ B (X.env :: X.outer) a (Zc cls d) h3
  na : H' a = none
  os : s'.os = sI.os
  ag : AllBare s'.gens
theorem Grd.inv (g : Grd X pins a B sI s' σ' H' cls d h3) : Inv X pins σ' H' { s' with heap := h3 } := g.J.landed (s' := { s' with heap := h3 }) g.nb g.fl.1 g.up g.os g.ag
theorem Grd.away (g : Grd X pins a B sI s' σ' H' cls d h3) (hf : X.env.frame = some X.env.locals) : a ≠ X.env.locals ∧ a ∉ X.fs := by
  obtain ⟨oe, vs, he, _, hd⟩ := g.fl.there
  have key : a ∉ frs (X.env :: X.outer) := fun hm => by
    obtain ⟨_, o', e', hnf⟩ := g.fl.2.2.1.mem hm
    rw [he] at e'; cases e'
    exact hnf _ hd
  refine ⟨fun z => key (List.mem_filterMap.mpr ⟨X.env, List.mem_cons_self, by rw [hf, z]⟩), fun hm => ?_⟩
  obtain ⟨e, he, q⟩ := List.mem_filterMap.mp hm
  exact key (List.mem_filterMap.mpr ⟨e, List.mem_cons_of_mem _ he, q⟩)
/-- the clauses, one after the other, over an exception on the ground -/
theorem clauses {hds : List ExceptHandler} {l : List (Value × Option Nat × Suite)} (hs : X.stack = X.env :: X.outer) (hf : X.env.frame = some X.env.locals) (hN : X.N.Nodup) (tk : Takes X Wout) (ok : ClOk X hds l) :
    Grd X pins a B sI s' σ' H' cls d h3 → wCl X.K Wout D l cls d σ' H' → wpAny (model X.prog X.w) X.A (handleBy (.ref a) X.env hds) (SP X pins D) X.xe { s' with heap := h3 } := by
  induction ok with
  | nil =>
    intro g w
    refine wpAny_handleBy_nil ?_
    obtain ⟨_, _, _, oe, vs, T, _, _, he, _, hd, h1, _⟩ := id g.fl
    unfold PySem.passOn
    refine wpAny_bind (wpAny_field he hd h1 ?_)
    have no : ¬ ((Value.ref T == Value.none) = true) := by simp
    rw [if_neg no]
    have out : wpAny (model X.prog X.w) X.A (setFlight (.ref a) X.env.frame) (fun _ s4 => wpAny (model X.prog X.w) X.A (throw (.ref a) : Sem Flow) (SP X pins D) X.xe s4) X.xe { s' with heap := h3 } := by
      rw [hf]
      refine HandSPX.setFlight_upZ g.fl fun h4 held up4 => wpAny_throw (tk _ _ ?_)
      refine ⟨a, B, sI, pins, σ', H', cls, d, rfl, g.J, g.nb, g.up.trans up4, .inr (.inr ?_), g.na, g.os, g.ag, w⟩
      rw [hs]; exact held
    first
      | exact wpAny_bind (wpAny_pure (wpAny_bind out))
      | exact wpAny_bind out
  | @bare x c ts b₀ su np p' hds l hc hsu r ih =>
    intro g w
    obtain ⟨b, hb, hy, hn⟩ := w
    obtain ⟨nL, nF⟩ := g.away hf
    obtain ⟨oe, vs, he, hz, hd⟩ := g.fl.there
    have S := g.inv.suite he hd g.na nL nF
    have LM := PySem.W.exm_one (M := model X.prog X.w) (g.inv.kIn) (fun A Q E s k q => wpAny_typeOf_ref (k _ _ he) (by rw [hz.1]; exact q)) hb
    refine wpAny_handleBy_cons (codeAny_handlers_test ?_) (by intro q; cases q)
    have rd : ∀ {Q : Value → Shared → Prop} {E : Value → Shared → Prop}, Q c { s' with heap := h3 } → wpAny (model X.prog X.w) (X.A.mark (some (.ref a))) (eval (.Name x np) X.env) Q E { s' with heap := h3 } := fun {Q E} q => by
      obtain ⟨hg, hdb, hm | ⟨hm, hv, hnn⟩⟩ := hc
      · exact ld_glob (X := X.suite a ((a, oe) :: (X.pn ++ pins))) S hg hm q hdb
      · exact ld_blt (X := X.suite a ((a, oe) :: (X.pn ++ pins))) S hg hm hv q hnn hdb
    refine rd (LM.here ?_)
    cases b with
    | false => exact ih g (hn rfl)
    | true =>
      refine codeAny_handlers_suite (HandSPX.lands_againZ g.fl fun h4 fl4 up4 => ?_)
      have J4 : Inv X pins σ' H' { s' with heap := h4 } := g.J.landed (s' := { s' with heap := h4 }) g.nb fl4.1 (g.up.trans up4) g.os g.ag
      obtain ⟨oe4, vs4, he4, hz4, hd4⟩ := fl4.there
      refine wpAny_mono ((hsu a oe4 cls d (X.pn ++ pins) hz4 ⟨_, hd4⟩).run [] _ _ H' _ (J4.suite he4 hd4 g.na nL nF) (hy rfl a g.na)) (fun f s6 hsp => ?_) (fun _ _ z => False.elim z)
      have ok := g.J.ok
      cases f with
      | next => obtain ⟨σ6, H6, S6, q6⟩ := hsp; exact ⟨_, _, S6.unsuite ok, q6⟩
      | brk => obtain ⟨σ6, H6, S6, q6⟩ := hsp; exact ⟨_, _, S6.unsuite ok, q6⟩
      | cont => obtain ⟨σ6, H6, S6, q6⟩ := hsp; exact ⟨_, _, S6.unsuite ok, q6⟩
      | ret u => obtain ⟨v6, σ6, H6, S6, r6, q6⟩ := hsp; exact ⟨_, _, _, S6.unsuite ok, r6, q6⟩
  | @named x n c i ts b₀ su np p' hds l hc hi hln hsu r ih =>
    intro g w
    obtain ⟨b, hb, hy, hn⟩ := w
    obtain ⟨nL, nF⟩ := g.away hf
    obtain ⟨oe, vs, he, hz, hd⟩ := g.fl.there
    have S := g.inv.suite he hd g.na nL nF
    have LM := PySem.W.exm_one (M := model X.prog X.w) (g.inv.kIn) (fun A Q E s k q => wpAny_typeOf_ref (k _ _ he) (by rw [hz.1]; exact q)) hb
    refine wpAny_handleBy_cons (codeAny_handlers_test ?_) (by intro q; cases q)
    have rd : ∀ {Q : Value → Shared → Prop} {E : Value → Shared → Prop}, Q c { s' with heap := h3 } → wpAny (model X.prog X.w) (X.A.mark (some (.ref a))) (eval (.Name x np) X.env) Q E { s' with heap := h3 } := fun {Q E} q => by
      obtain ⟨hg, hdb, hm | ⟨hm, hv, hnn⟩⟩ := hc
      · exact ld_glob (X := X.suite a ((a, oe) :: (X.pn ++ pins))) S hg hm q hdb
      · exact ld_blt (X := X.suite a ((a, oe) :: (X.pn ++ pins))) S hg hm hv q hnn hdb
    refine rd (LM.here ?_)
    cases b with
    | false => exact ih g (hn rfl)
    | true =>
      refine codeAny_handlers_suite_as (HandSPX.lands_againZ g.fl fun h4 fl4 up4 => ?_)
      have J4 : Inv X pins σ' H' { s' with heap := h4 } := g.J.landed (s' := { s' with heap := h4 }) g.nb fl4.1 (g.up.trans up4) g.os g.ag
      obtain ⟨oe4, vs4, he4, hz4, hd4⟩ := fl4.there
      have S4 := J4.suite he4 hd4 g.na nL nF
      refine store_ok (X := X.suite a ((a, oe4) :: (X.pn ++ pins))) (v := .ref a) S4 hN hi (.inl hln) rfl (fun s5 S5 => ?_) (.inr hln)
      refine wpAny_mono ((hsu a oe4 cls d (X.pn ++ pins) hz4 ⟨_, hd4⟩).run [] s5 _ H' _ S5 (hy rfl a g.na)) (fun f s6 hsp => ?_) (fun _ _ z => False.elim z)
      have ok := g.J.ok
      have out : ∀ {σ6 : L2.St} {H6 : Hp} {Q : Shared → Prop}, Inv (X.suite a ((a, oe4) :: (X.pn ++ pins))) [] σ6 H6 s6 → (∀ s7, Inv X pins (σ6.set i none) H6 s7 → Q s7) →
          wpAny (model X.prog X.w) X.A (do bindName X.env n .none; unbindBehindTheSuite X.env n p') (fun _ s7 => Q s7) X.xe s6 := fun {σ6 H6 Q} S6 hq => gone_ok (S6.unsuite ok) hN hi hln hq
      cases f with
      | next => obtain ⟨σ6, H6, S6, q6⟩ := hsp; exact out S6 fun s7 J7 => ⟨_, _, J7, q6⟩
      | brk => obtain ⟨σ6, H6, S6, q6⟩ := hsp; exact out S6 fun s7 J7 => ⟨_, _, J7, q6⟩
      | cont => obtain ⟨σ6, H6, S6, q6⟩ := hsp; exact out S6 fun s7 J7 => ⟨_, _, J7, q6⟩
      | ret u => obtain ⟨v6, σ6, H6, S6, r6, q6⟩ := hsp; exact out S6 fun s7 J7 => ⟨_, _, _, J7, r6, q6⟩
/-- try: body, any clauses -/
theorem ps_try_cl {body : List Stmt} {h₀ : ExceptHandler} {hds : List ExceptHandler} {l : List (Value × Option Nat × Suite)} {pos : PySem.Pos} {tb : WX → TS} (hs : X.stack = X.env :: X.outer) (hf : X.env.frame = some X.env.locals) (hN : X.N.Nodup) (tk : Takes X Wout)
    (hb : ∀ (W : WX) (pn : List (Addr × Obj)) (xe : Value → Shared → Prop), Takes (X.tr pn xe) W → PassesOwn (model X.prog X.w) X.A X.env xe → PSs (X.tr pn xe) body (tb W))
    (hh : ClOk X (h₀ :: hds) l) : PS X (.Try body (h₀ :: hds) [] [] pos) (fun D σ H => tb (wCl X.K Wout D l) D σ H) := by
  refine ⟨fun pins s σ H D I h => ?_⟩
  have ok := I.ok
  have hfr : X.A.frames = some (X.env :: X.outer) := by rw [ok.frames, hs]
  refine wpAny_Try_except (wpAny_mono ((hb (wCl X.K Wout D l) (X.pn ++ pins) (fun e s₁ => wpAny (model X.prog X.w) X.A (noteFrame e X.env) (fun _ s₂ => wpAny (model X.prog X.w) X.A (setFlight e none) (fun _ s₃ =>
    wpAny (model X.prog X.w) X.A (handleBy e X.env (h₀ :: hds)) (SP X pins D) X.xe s₃) X.xe s₂) X.xe s₁) (fun u s' xx => ?_) PassesOwn.looking).run [] s σ H D (I.toTry _) h) (fun f s1 hsp => ?_) (fun e s1 he => he))
  · obtain ⟨a, B, sI, pins', σ', H', cls, d, rfl, J', nb, up, sky, na, os, ag, w⟩ := xx
    have sky' : Sky B (X.env :: X.outer) a (Zc cls d) X.env.locals s'.heap := by rw [← hs]; exact sky
    show wpAny (model X.prog X.w) X.A (noteFrame (.ref a) X.env) _ _ _
    exact Sky.land Zc.steady hfr hf sky' fun h3 fl3 up3 => clauses hs hf hN tk hh ⟨J'.ofTry ok, nb, up.trans up3, fl3, na, os, ag⟩ w
  · cases f with
    | next => obtain ⟨σ', H', J', q⟩ := hsp; exact wpAny_execs_nil ⟨σ', H', J'.ofTry ok, q⟩
    | brk => obtain ⟨σ', H', J', q⟩ := hsp; exact ⟨σ', H', J'.ofTry ok, q⟩
    | cont => obtain ⟨σ', H', J', q⟩ := hsp; exact ⟨σ', H', J'.ofTry ok, q⟩
    | ret u => obtain ⟨v, σ', H', J', r, q⟩ := hsp; exact ⟨v, σ', H', J'.ofTry ok, r, q⟩
end
end Q
/-! texts as lists of code points; more stepping lemmas -/
namespace Q
open PySem PySem.Spec PyProof.Rows L2 SX
theorem sizeBig : 1000000 ≤ sizeLine := by decide
theorem rep_flat (z : List Nat) : ∀ n : Nat, (List.replicate n z.toArray).foldl (· ++ ·) #[] = ((List.replicate n z).flatten).toArray := by
  have key : ∀ (n : Nat) (acc : List Nat), (List.replicate n z.toArray).foldl (· ++ ·) acc.toArray = (acc ++ (List.replicate n z).flatten).toArray := by
    intro n
    induction n with
    | zero => intro acc; simp
    | succ n ih =>
      intro acc
      rw [List.replicate_succ, List.foldl_cons, show acc.toArray ++ z.toArray = (acc ++ z).toArray by simp, ih, List.replicate_succ, List.flatten_cons, List.append_assoc]
  intro n
  have := key n []
  rw [List.nil_append] at this
  exact this
def rMulS : R2 := fun x y H Q => ∃ (z : List Nat) (n : Int), x = .str (S z) ∧ y = .int n ∧ -1000 ≤ n ∧ n ≤ 1000 ∧ z.length ≤ 1000 ∧ Q (.str (S (List.replicate n.toNat z).flatten)) H
theorem mul_S {z : List Nat} {n : Int} : Txt.mul (S z) n = S (List.replicate n.toNat z).flatten := by
  unfold Txt.mul
  by_cases h : n < 1
  · rw [if_pos h]
    have e : n.toNat = 0 := by omega
    rw [e]; rfl
  · rw [if_neg h]
    by_cases h2 : (n == 1 || (S z).length == 0) = true
    · rw [if_pos h2]
      rw [Bool.or_eq_true, beq_iff_eq, beq_iff_eq] at h2
      rcases h2 with h2 | h2
      · subst h2; show S z = S (List.replicate 1 z).flatten; simp
      · rw [S_len] at h2
        have e : z = [] := List.length_eq_zero_iff.mp h2
        subst e
        congr 1
        have : (List.replicate n.toNat ([] : List Nat)).flatten = [] := by simp
        rw [this]
    · rw [if_neg h2]
      show (⟨(List.replicate n.toNat z.toArray).foldl (· ++ ·) #[]⟩ : Str) = _
      rw [rep_flat]
theorem op_mul_str {X : Cx} : OpR X (binaryOp .Mult) rMulS := by
  intro pins s σ H x y v u Q I rx ry h
  obtain ⟨z, n, rfl, rfl, h1, h2, h3, q⟩ := h
  obtain ⟨t, rfl⟩ := rx
  obtain ⟨t', rfl⟩ := ry
  refine PySem.SB.mul ⟨?_, fun g1 _ => ?_, fun g1 _ => ?_⟩ fun t2 k => ?_
  · have e1 : decide (n < -(2 ^ 63 : Int)) = false := decide_eq_false (by omega)
    have e2 : decide (n ≥ 2 ^ 63) = false := decide_eq_false (by omega)
    rw [e1, e2]; rfl
  · rw [S_len]
    have : (2 ^ 63 - 1 : Int) / 1000 ≤ (2 ^ 63 - 1) / n := by
      apply Int.le_ediv_of_mul_le (by omega)
      calc (2 ^ 63 - 1 : Int) / 1000 * n ≤ (2 ^ 63 - 1 : Int) / 1000 * 1000 := Int.mul_le_mul_of_nonneg_left h2 (by decide)
        _ ≤ 2 ^ 63 - 1 := by decide
    omega
  · rw [S_len]
    have : z.length * n.toNat ≤ 1000 * 1000 := Nat.mul_le_mul h3 (by omega)
    generalize z.length * n.toNat = w at this
    have := sizeBig
    exact decide_eq_false (show ¬ w > sizeLine by omega)
  · rw [mul_S]
    exact ⟨.str _, H, I.tok _, ⟨_, rfl⟩, q⟩
/-- a written tuple's values -/
def absL : List Value → Option (List V)
  | [] => some []
  | v :: r => (absV v).bind fun x => (absL r).map (x :: ·)
theorem relV_of {u : Value} {x : V} (h : absV u = some x) : RelV x u := by
  cases u <;> first
    | (cases h; rfl)
    | (cases h; exact ⟨_, rfl⟩)
    | (cases h; done)
theorem absL_ok : ∀ {us : List Value} {xs : List V}, absL us = some xs → Vals xs us
  | [], xs, h => by cases h; exact .nil
  | v :: r, xs, h => by
    unfold absL at h
    cases e : absV v with
    | none => rw [e] at h; cases h
    | some x =>
      rw [e] at h
      cases e2 : absL r with
      | none => rw [e2] at h; cases h
      | some ys => rw [e2] at h; cases h; exact .cons (relV_of e) (absL_ok e2)
def absT (o : Obj) : Option (List V) := match o.cls, o.data with
  | .type n, .seq its _ => if n = "tuple" ∧ its.size ≤ sizeLine then absL its.toList else none
  | _, _ => none
theorem sqT_of {K : PySem.W.Frag} {A : Addr} {o : Obj} {xs : List V} {H : Hp} (h : K.lookup A = some o) (hs : absT o = some xs) : SqT K H A xs := by
  unfold absT at hs
  split at hs
  · next n its k e1 e2 =>
    split at hs
    · next c => exact .inr ⟨o, its, k, h, by rw [e1, c.1], e2, c.2, absL_ok hs⟩
    · cases hs
  · cases hs
/-- a statement that is never run -/
theorem ps_never {X : Cx} {st : Stmt} : PS X st (fun _ _ _ => False) := ⟨fun _ _ _ _ _ _ h => h.elim⟩
/-- a cut of a list, as a slice does it -/
def cutL (l : List Nat) (lo hi : Option Int) : List Nat := (l.drop (HT.sIx l.length 0 lo)).take (HT.sIx l.length l.length hi - HT.sIx l.length 0 lo)
theorem cutS_S (l : List Nat) (lo hi : Option Int) : cutS (S l) lo hi = S (cutL l lo hi) := by
  unfold cutS cutL
  rw [S_len]
theorem cutL_len (l : List Nat) (lo hi : Option Int) : (cutL l lo hi).length ≤ l.length := by
  unfold cutL
  rw [List.length_take, List.length_drop]
  omega
theorem cutL_to {l : List Nat} {n : Nat} (h : n ≤ l.length) : cutL l none (some (n : Int)) = l.take n := by
  unfold cutL
  rw [HT.sIx_none, HT.sIx_nat, List.drop_zero, Nat.sub_zero, Nat.min_eq_left h]
theorem cutL_from {l : List Nat} {n : Nat} (h : n ≤ l.length) : cutL l (some (n : Int)) none = l.drop n := by
  unfold cutL
  rw [HT.sIx_none, HT.sIx_nat, Nat.min_eq_left h]
  exact List.take_of_length_le (by rw [List.length_drop]; exact Nat.le_refl _)
theorem cutL_mid {l : List Nat} {i j : Nat} (h1 : i ≤ j) (h : j ≤ l.length) : cutL l (some (i : Int)) (some (j : Int)) = (l.drop i).take (j - i) := by
  unfold cutL
  rw [HT.sIx_nat, HT.sIx_nat, Nat.min_eq_left h, Nat.min_eq_left (by omega)]
section
variable {K : PySem.W.Frag} {σ : L2.St} {H : Hp} {te : TE} {ta tb tc : TE} {tas : TA} {g : TG} {gs : TGs} {D : Ends} {Q : VK} {R : It → Hp → Prop} {v x : V} {i : Nat}
theorem g_mulS {z : List Nat} {n : Int} (c : -1000 ≤ n ∧ n ≤ 1000 ∧ z.length ≤ 1000) (q : Q (.str (S (List.replicate n.toNat z).flatten)) H) : rMulS (.str (S z)) (.int n) H Q := ⟨z, n, rfl, rfl, c.1, c.2.1, c.2.2, q⟩
theorem g_catS {a b : List Nat} {R : Str → Str → Prop} (c : a.length + b.length ≤ 1000000) (q : R (S a) (S b)) : ∃ i j, V.str (S a) = .str i ∧ V.str (S b) = .str j ∧ i.length + j.length ≤ sizeLine ∧ R i j :=
  ⟨S a, S b, rfl, rfl, by rw [S_len, S_len]; exact Nat.le_trans c sizeBig, q⟩
theorem g_ixS {l : List Nat} {n : Int} {c : Nat} (hl : l.length ≤ 1000000) (a : atI l n = some c) (q : Q (.str (S [c])) H) : rIxS (.str (S l)) (.int n) H Q := ⟨S l, n, c, rfl, rfl, by rw [S_len]; exact Nat.le_trans hl sizeBig, a, q⟩
theorem g_slS {l : List Nat} {lo hi : Option Int} (hl : l.length ≤ 1000000) (q : Q (.str (S (cutL l lo hi))) H) : rSlS (.str (S l)) lo hi H Q := ⟨S l, rfl, by rw [S_len]; exact Nat.le_trans hl sizeBig, by rw [cutS_S]; exact q⟩
theorem g_lenS {l : List Nat} {R : Str → Prop} (hl : l.length ≤ 1000000) (q : R (S l)) : ∃ z, [V.str (S l)] = [V.str z] ∧ z.length ≤ sizeLine ∧ R z := ⟨S l, rfl, by rw [S_len]; exact Nat.le_trans hl sizeBig, q⟩
theorem g_exi {n : Int} {R : Int → Prop} (q : R n) : ∃ i, V.int n = .int i ∧ R i := ⟨n, rfl, q⟩
theorem g_istr (q : te σ H fun v H1 => ∃ x, v = .str x ∧ R (Its x) H1) : iStr te σ H R := q
theorem g_glst {n : Nat} {R : L2.St → Hp → Prop} (q : ∃ a xs, v = .ref a ∧ SqL K H a xs ∧ xs.length = n ∧ gs xs σ H R) : gLst K n gs v σ H R := q
theorem g_aug {ti : TIp} (h : σ[i]? = some (some x)) (q : te σ H fun y H1 => ti x y H1 fun z H2 => D.nx (σ.set i (some z)) H2) : tAug i te ti D σ H := ⟨x, h, q⟩
theorem g_chain {r r' : R2} (q : ta σ H fun x H1 => tb σ H1 fun y H2 => r x y H2 fun z H3 => ∃ k, z = .bl k ∧ (if k = true then tc σ H3 fun w' H4 => r' y w' H4 Q else Q (.bl false) H3)) : tChain r r' ta tb tc σ H Q := q
theorem g_isN {P : Prop} (q : P) : V.non = .non ∧ P := ⟨rfl, q⟩
theorem log_ok {n : Int} (c : n.natAbs < 10 ^ 60) : n.natAbs.log2 < 1920 := by
  by_cases h : n.natAbs = 0
  · rw [h]; decide
  · exact Nat.lt_trans ((Nat.log2_lt h).mpr (Nat.lt_trans c (by decide : 10 ^ 60 < 2 ^ 200))) (by decide)
theorem g_strI {n : Int} {R : Int → Prop} (c : n.natAbs < 10 ^ 60) (q : R n) : ∃ i : Int, [V.int n] = [V.int i] ∧ i.natAbs.log2 < 1920 ∧ R i := ⟨n, rfl, log_ok c, q⟩
theorem iteNK {c A B : Prop} {inst : Decidable c} (h1 : ¬ c → A) (h2 : c → B) : if (!decide c) = true then A else B := by
  by_cases h : c
  · rw [decide_eq_true h, if_neg (by decide)]; exact h2 h
  · rw [decide_eq_false h, if_pos (by decide)]; exact h1 h
theorem g_inS {c : Nat} {z : Str} {R : Nat → Str → Prop} (q : R c z) : ∃ (c' : Nat) (z' : Str), V.str (S [c]) = .str ⟨#[c']⟩ ∧ V.str z = .str z' ∧ R c' z' := ⟨c, z, rfl, rfl, q⟩
theorem g_ipI {f : Int → Int → Int} {m n : Int} (q : Q (.int (f m n)) H) : ipI f (.int m) (.int n) H Q := ⟨m, n, rfl, rfl, q⟩
end
end Q

namespace Q
open PySem PySem.Spec PyProof.Rows L2
section
variable {K : PySem.W.Frag} {σ : L2.St} {H : Hp} {te to : TE} {t : TA} {Q : VK}
theorem g_bm {T : String} {r : V → List V → Hp → VK → Prop} (q : to σ H fun x H1 => tyV K T x H1 ∧ t σ H1 fun xs H2 => r x xs H2 Q) : tBM K T r to t σ H Q := q
theorem g_bm0 {T : String} {r : V → List V → Hp → VK → Prop} (q : to σ H fun x H1 => tyV K T x H1 ∧ r x [] H1 Q) : tBM0 K T r to σ H Q := q
end
end Q
/-! a method of a tuple that is written where it is asked -/
namespace Q
open PySem PySem.Spec PyProof.Rows L2 SX
section
variable {X : Cx} {e : Expr} {es ts : List Expr} {t tt : TA} {name : Str} {apos cpos tpos : PySem.Pos} {id : String} {r : V → List V → Hp → VK → Prop} {k : Nat}
def tTupM (r : V → List V → Hp → VK → Prop) (tt t : TA) : TE := fun σ H Q => tt σ H fun xs H1 => xs.length ≤ sizeLine ∧ ∀ p, H1 p = none → t σ (upd H1 p (.tup xs)) fun ys H2 => r (.ref p) ys H2 Q
theorem g_tupm {σ : L2.St} {H : Hp} {Q : VK} (q : tt σ H fun xs H1 => xs.length ≤ sizeLine ∧ ∀ p, H1 p = none → t σ (upd H1 p (.tup xs)) fun ys H2 => r (.ref p) ys H2 Q) : tTupM r tt t σ H Q := q
theorem pe_tupM (pa : PlainAttrs "tuple") (slot : Slot "tuple" name id) (hty : typeOf (.builtin id) = pure (.type "method_descriptor")) (hm : MtR X id r) (ho : PA X ts tt) (ha : PA X (e :: es) t)
    (hbase : attributeBase (.Tuple ts k tpos) name X.env (eval (.Tuple ts k tpos) X.env) = eval (.Tuple ts k tpos) X.env := by rfl)
    (hfew : ((backTo cpos (starEach (e :: es) X.env)).all (fun x => !x.1) && (backToKw cpos (keywordEach [] X.env)).all (fun x => x.1.isSome)
      && decide ((e :: es).length + ([] : List Keyword).length + (if ([] : List Keyword).isEmpty then 0 else 1) < 30)) = true := by rfl)
    (hline : (apos.endLine == cpos.line) = true := by rfl) (hs : starEach (e :: es) X.env = (false, eval e X.env) :: starEach es X.env := by rfl) (hplain : (backTo cpos (starEach es X.env)).any (·.1) = false := by rfl) :
    PE X (.Call (.Attribute (.Tuple ts k tpos) name apos) (e :: es) [] cpos) (tTupM r tt t) := by
  refine ⟨fun pins s σ H Q I h => ?_⟩
  refine wpAny_Call_method_late hbase hfew hline rfl ?_
  refine wpAny_Tuple_spliced (thn (ho.run tpos pins s σ H _ I h) fun us s1 ⟨xs, H1, I1, rv, z, q⟩ => ⟨by rw [← rv.length]; exact z, ?_⟩)
  have hf : H1 s1.heap.objs.size = none := I1.hok.fresh (Nat.le_refl _)
  have I2 := I1.laid (t' := s1.toks) (o := .tup xs) (h' := s1.heap.push { cls := .type "tuple", data := .seq us.toArray }) (fun b u e => Heap.get?_push_of_some _ e) (Nat.le_refl _) (by
    exact ⟨z, us, rv, ⟨_, Heap.get?_push_size _ rfl, rfl, _, rfl⟩⟩)
  have hg := Heap.get?_push_size s1.heap (o := { cls := .type "tuple", data := .seq us.toArray }) rfl
  refine ⟨"tuple", id, pa, slot, hty, ⟨_, hg, rfl⟩, fun a ea => ?_, ?_⟩
  · cases ea; exact ⟨_, hg, rfl⟩
  have hA := ha.run cpos pins _ σ _ _ I2 (q _ hf)
  rw [hs] at hA ⊢
  refine Calls.callWith_builtin (by show (false || (backTo cpos (starEach es X.env)).any (·.1)) = false; rw [hplain] <;> rfl) (Calls.evalArgs_plain ?_)
  exact thn hA fun us s2 ⟨vs, H2, I2, r2, q2⟩ => hm pins s2 σ H2 (.ref s1.heap.objs.size) vs _ us Q I2 rfl r2 q2
end
end Q

namespace Q
open PySem PySem.Spec PyProof.Rows L2 SX
section
variable {K : PySem.W.Frag} {σ : L2.St} {H : Hp} {te to ta tv : TE} {D : Ends} {Q : VK}
theorem g_m1 {r : V → List V → Hp → VK → Prop} (q : to σ H fun x H1 => (∃ a, x = .str a) ∧ te σ H1 fun y H2 => r x [y] H2 Q) : tM1 r to te σ H Q := q
theorem g_fldaug {rd : V → V → Hp → VK → Prop} {f : Str} (q : ta σ H fun x H1 => ∃ a C dx fs v, x = .ref a ∧ H1 a = some (.ins C dx fs) ∧ Cls K C ∧ NoAttr K C f ∧ fs.lookup f = some v ∧
  tv σ H1 fun y H2 => rd v y H2 fun z H3 => ∃ dx' fs', H3 a = some (.ins C dx' fs') ∧ fs'.length < 1000 ∧ D.nx σ (upd H3 a (.ins C dx' (putF f z fs')))) : sFldAug K ta tv rd f D σ H := q
end
end Q
/-! the civil calendar, in plain -/
namespace Civ
def isLeap (y : Int) : Bool := decide (y % 4 = 0) && (!decide (y % 100 = 0) || decide (y % 400 = 0))
def LEN : List Int := [31, 28, 31, 30, 31, 30, 31, 31, 30, 31, 30, 31]
def BEF : List Int := [0, 31, 59, 90, 120, 151, 181, 212, 243, 273, 304, 334]
def lenT (k : Int) : Int := LEN.getD k.toNat 0
def bef (k : Int) : Int := BEF.getD k.toNat 0
def lp (y : Int) : Int := if isLeap y = true then 1 else 0
def len (m : Int) : Int := lenT (m % 12) + if m % 12 = 1 then lp (m / 12 + 1) else 0
def yd (p : Int) : Int := 365 * p + p / 4 - p / 100 + p / 400
def fd (m : Int) : Int := yd (m / 12) + bef (m % 12) + if 1 < m % 12 then lp (m / 12 + 1) else 0
theorem lp_eq (y : Int) : (y % 4 = 0 ∧ (y % 100 ≠ 0 ∨ y % 400 = 0) ∧ lp y = 1) ∨ (¬ (y % 4 = 0 ∧ (y % 100 ≠ 0 ∨ y % 400 = 0)) ∧ lp y = 0) := by
  by_cases h : isLeap y = true
  · left
    have e : lp y = 1 := if_pos h
    unfold isLeap at h
    rw [Bool.and_eq_true, decide_eq_true_eq, Bool.or_eq_true, Bool.not_eq_true', decide_eq_false_iff_not, decide_eq_true_eq] at h
    exact ⟨h.1, h.2, e⟩
  · right
    have e : lp y = 0 := if_neg h
    refine ⟨fun k => h ?_, e⟩
    unfold isLeap
    rw [Bool.and_eq_true, decide_eq_true_eq, Bool.or_eq_true, Bool.not_eq_true', decide_eq_false_iff_not, decide_eq_true_eq]
    exact k
theorem yd_succ (p : Int) : yd (p + 1) = yd p + 365 + lp (p + 1) := by
  unfold yd
  rcases lp_eq (p + 1) with ⟨h1, h2, e⟩ | ⟨h, e⟩ <;> rw [e] <;> omega
theorem mod12 (m : Int) : m % 12 = 0 ∨ m % 12 = 1 ∨ m % 12 = 2 ∨ m % 12 = 3 ∨ m % 12 = 4 ∨ m % 12 = 5 ∨ m % 12 = 6 ∨ m % 12 = 7 ∨ m % 12 = 8 ∨ m % 12 = 9 ∨ m % 12 = 10 ∨ m % 12 = 11 := by omega
theorem lp01 (y : Int) : 0 ≤ lp y ∧ lp y ≤ 1 := by
  unfold lp; split <;> omega
theorem fd_succ (m : Int) : fd (m + 1) = fd m + len m := by
  have q := mod12 m
  have ys := yd_succ (m / 12)
  unfold fd len
  rcases q with h | h | h | h | h | h | h | h | h | h | h | h
  all_goals first
    | (have e1 : (m + 1) / 12 = m / 12 := by omega
       have e2 : (m + 1) % 12 = m % 12 + 1 := by omega
       rw [e1, e2, h]
       simp only [bef, lenT, BEF, LEN]
       simp
       try omega)
    | (have e1 : (m + 1) / 12 = m / 12 + 1 := by omega
       have e2 : (m + 1) % 12 = 0 := by omega
       rw [e1, e2, h, ys]
       simp only [bef, lenT, BEF, LEN]
       simp
       try omega)
theorem len_le (m : Int) : 28 ≤ len m ∧ len m ≤ 31 := by
  have q := mod12 m
  have l := lp01 (m / 12 + 1)
  unfold len
  rcases q with h | h | h | h | h | h | h | h | h | h | h | h <;> rw [h] <;> simp only [lenT, LEN] <;> simp <;> omega
theorem fd_add (m : Int) : ∀ n : Nat, fd m + 28 * n ≤ fd (m + n)
  | 0 => by simp
  | n + 1 => by
    have h1 := fd_add m n
    have h2 := fd_succ (m + n)
    have h3 := len_le (m + n)
    have e : m + ((n + 1 : Nat) : Int) = m + n + 1 := by omega
    rw [e, h2]
    omega
theorem fd_lt {m k : Int} (h : m < k) : fd m + 28 ≤ fd k := by
  have := fd_add m (k - m).toNat
  have e : m + ((k - m).toNat : Int) = k := by omega
  rw [e] at this
  omega
theorem fd_le {m k : Int} (h : m ≤ k) : fd m ≤ fd k := by
  rcases Int.lt_or_eq_of_le h with h | h
  · have := fd_lt h; omega
  · rw [h]; omega
/-- the month of a day -/
def IsM (d m : Int) : Prop := fd m ≤ d ∧ d < fd (m + 1)
theorem IsM.uniq {d m k : Int} (h : IsM d m) (g : IsM d k) : m = k := by
  rcases Int.lt_trichotomy m k with l | l | l
  · have := fd_le (show m + 1 ≤ k by omega)
    have h2 := h.2; have g1 := g.1; omega
  · exact l
  · have := fd_le (show k + 1 ≤ m by omega)
    have h2 := g.2; have g1 := h.1; omega
theorem fd_year (p : Int) : fd (12 * p) = yd p := by
  unfold fd
  have e1 : 12 * p / 12 = p := by omega
  have e2 : 12 * p % 12 = 0 := by omega
  rw [e1, e2]
  simp [bef, BEF]
theorem yd_cycle (p c : Int) : yd (p + 400 * c) = yd p + 146097 * c := by
  unfold yd; omega
theorem lp_cycle (y c : Int) : lp (y + 400 * c) = lp y := by
  rcases lp_eq (y + 400 * c) with ⟨h1, h2, e⟩ | ⟨h, e⟩ <;> rcases lp_eq y with ⟨g1, g2, f⟩ | ⟨g, f⟩ <;> rw [e, f] <;> omega
theorem fd_cycle (m c : Int) : fd (m + 4800 * c) = fd m + 146097 * c := by
  unfold fd
  have e1 : (m + 4800 * c) / 12 = m / 12 + 400 * c := by omega
  have e2 : (m + 4800 * c) % 12 = m % 12 := by omega
  have e3 : m / 12 + 400 * c + 1 = m / 12 + 1 + 400 * c := by omega
  rw [e1, e2, yd_cycle, e3, lp_cycle]
  omega
theorem IsM.cycle {d m c : Int} (h : IsM d m) : IsM (d + 146097 * c) (m + 4800 * c) := by
  have e : m + 4800 * c + 1 = m + 1 + 4800 * c := by omega
  unfold IsM
  rw [e, fd_cycle, fd_cycle]
  have h1 := h.1; have h2 := h.2
  omega
/-- a year of the cycle by days, from below -/
theorem yd_mono {p q : Int} (h : p ≤ q) : yd p ≤ yd q := by
  rw [← fd_year, ← fd_year]; exact fd_le (by omega)
/-- day of (year, month, date) -/
def dayOf (y mo d : Int) : Option Int := if (1 ≤ mo ∧ mo ≤ 12) ∧ (1 ≤ d ∧ d ≤ len (12 * (y - 1) + mo - 1)) then some (fd (12 * (y - 1) + mo - 1) + d - 1) else none
theorem dayOf_isM {y mo d k : Int} (h : dayOf y mo d = some k) : IsM k (12 * (y - 1) + mo - 1) ∧ 1 ≤ mo ∧ mo ≤ 12 ∧ d = k - fd (12 * (y - 1) + mo - 1) + 1 := by
  unfold dayOf at h
  split at h
  · next c =>
    cases h
    refine ⟨⟨by omega, ?_⟩, c.1.1, c.1.2, by omega⟩
    rw [fd_succ]
    omega
  · cases h
theorem dayOf_of {d m : Int} (h : IsM d m) : dayOf (m / 12 + 1) (m % 12 + 1) (d - fd m + 1) = some d := by
  have e : 12 * (m / 12 + 1 - 1) + (m % 12 + 1) - 1 = m := by omega
  unfold dayOf
  rw [e]
  have h1 := h.1; have h2 := h.2
  rw [fd_succ] at h2
  rw [if_pos ⟨by omega, by omega⟩]
  congr 1
  omega
end Civ
/-! digits, words of days and of minutes, in plain -/
namespace Dg
open PySem PySem.NumText
theorem val_snoc (l : List Nat) (c : Nat) : digitsVal (l ++ [c]) = digitsVal l * 10 + (c - 48) := by
  unfold digitsVal; rw [List.foldl_append]; rfl
theorem val_cons0 (l : List Nat) : digitsVal (48 :: l) = digitsVal l := rfl
theorem val_rep (l : List Nat) : ∀ j : Nat, digitsVal (List.replicate j 48 ++ l) = digitsVal l
  | 0 => rfl
  | j + 1 => by rw [List.replicate_succ, List.cons_append, val_cons0, val_rep l j]
def dg (n : Nat) : Nat → List Nat
  | 0 => []
  | k + 1 => (48 + n / 10 ^ k % 10) :: dg n k
theorem dg_len (n : Nat) : ∀ k, (dg n k).length = k
  | 0 => rfl
  | k + 1 => by show (dg n k).length + 1 = k + 1; rw [dg_len n k]
theorem dg_dig (n : Nat) : ∀ k, ∀ c ∈ dg n k, 48 ≤ c ∧ c ≤ 57
  | 0, c, h => nomatch h
  | k + 1, c, h => by
    rcases List.mem_cons.mp h with e | h
    · have : n / 10 ^ k % 10 < 10 := Nat.mod_lt _ (by decide)
      omega
    · exact dg_dig n k c h
theorem dg_snoc (n : Nat) : ∀ k, dg n (k + 1) = dg (n / 10) k ++ [48 + n % 10]
  | 0 => by show [48 + n / 10 ^ 0 % 10] = _; rw [Nat.pow_zero, Nat.div_one]; rfl
  | k + 1 => by
    show (48 + n / 10 ^ (k + 1) % 10) :: dg n (k + 1) = (48 + n / 10 / 10 ^ k % 10) :: dg (n / 10) k ++ [48 + n % 10]
    rw [dg_snoc n k, Nat.div_div_eq_div_mul, Nat.pow_succ, Nat.mul_comm (10 ^ k) 10, List.cons_append]
theorem dg_val : ∀ (k n : Nat), digitsVal (dg n k) = n % 10 ^ k
  | 0, n => by rw [Nat.pow_zero, Nat.mod_one]; rfl
  | k + 1, n => by
    rw [dg_snoc, val_snoc, dg_val k (n / 10), Nat.pow_succ, Nat.mul_comm (10 ^ k) 10, Nat.mod_mul]
    have : n % 10 < 10 := Nat.mod_lt _ (by decide)
    omega
theorem snoc_ind {α : Type} {P : List α → Prop} (h0 : P []) (h1 : ∀ l c, P l → P (l ++ [c])) (l : List α) : P l := by
  have : ∀ (n : Nat) (l : List α), l.length = n → P l := by
    intro n
    induction n with
    | zero => intro l h; rw [List.length_eq_zero_iff.mp h]; exact h0
    | succ n ih =>
      intro l h
      have hne : l ≠ [] := fun e => by rw [e] at h; cases h
      rw [← List.dropLast_concat_getLast hne]
      exact h1 _ _ (ih _ (by rw [List.length_dropLast, h]; rfl))
  exact this _ l rfl
theorem dg_of_val (l : List Nat) : (∀ c ∈ l, 48 ≤ c ∧ c ≤ 57) → dg (digitsVal l) l.length = l := by
  refine snoc_ind (P := fun l => (∀ c ∈ l, 48 ≤ c ∧ c ≤ 57) → dg (digitsVal l) l.length = l) (fun _ => rfl) (fun l c ih h => ?_) l
  have hc := h c (List.mem_append_right _ List.mem_cons_self)
  have hl := ih fun d hd => h d (List.mem_append_left _ hd)
  rw [List.length_append, List.length_singleton, val_snoc, dg_snoc]
  have e1 : (digitsVal l * 10 + (c - 48)) / 10 = digitsVal l := by omega
  have e2 : 48 + (digitsVal l * 10 + (c - 48)) % 10 = c := by omega
  rw [e1, e2, hl]
theorem val_lt (l : List Nat) (h : ∀ c ∈ l, 48 ≤ c ∧ c ≤ 57) : digitsVal l < 10 ^ l.length := by
  have e := dg_val l.length (digitsVal l)
  rw [dg_of_val l h] at e
  rw [e]
  exact Nat.mod_lt _ (Nat.pow_pos (by decide))
theorem dg_inj {k m n : Nat} (hm : m < 10 ^ k) (hn : n < 10 ^ k) (h : dg m k = dg n k) : m = n := by
  have := congrArg digitsVal h
  rw [dg_val, dg_val, Nat.mod_eq_of_lt hm, Nat.mod_eq_of_lt hn] at this
  exact this
theorem pad {n k : Nat} (hk : 0 < k) (h : n < 10 ^ k) : List.replicate (k - (TL.numL n).length) 48 ++ TL.numL n = dg n k := by
  have hl := TL.numL_len hk h
  have hd : ∀ c ∈ List.replicate (k - (TL.numL n).length) 48 ++ TL.numL n, 48 ≤ c ∧ c ≤ 57 := fun c hc => by
    rcases List.mem_append.mp hc with q | q
    · rw [List.eq_of_mem_replicate q]; decide
    · exact TL.numL_digits n c q
  have e := dg_of_val _ hd
  rw [val_rep, TL.numL_val, List.length_append, List.length_replicate] at e
  have e2 : k - (TL.numL n).length + (TL.numL n).length = k := by omega
  rw [e2] at e
  exact e.symm
/-! ### words of days -/
def isDig (l : List Nat) : Bool := !l.isEmpty && l.all (fun c => decide (48 ≤ c) && decide (c ≤ 57))
theorem isDig_iff {l : List Nat} : isDig l = true ↔ l ≠ [] ∧ ∀ c ∈ l, 48 ≤ c ∧ c ≤ 57 := by
  unfold isDig
  rw [Bool.and_eq_true, List.all_eq_true]
  constructor
  · rintro ⟨h1, h2⟩
    refine ⟨(fun e => by rw [e] at h1; cases h1), fun c hc => ?_⟩
    have := h2 c hc
    rw [Bool.and_eq_true, decide_eq_true_eq, decide_eq_true_eq] at this
    exact this
  · rintro ⟨h1, h2⟩
    constructor
    · cases l with
      | nil => exact absurd rfl h1
      | cons a l => rfl
    · intro c hc
      rw [Bool.and_eq_true, decide_eq_true_eq, decide_eq_true_eq]
      exact h2 c hc
def dw (d m : Int) : List Nat := dg (m / 12 + 1).toNat 4 ++ 45 :: (dg (m % 12 + 1).toNat 2 ++ 45 :: dg (d - Civ.fd m + 1).toNat 2)
def form (w : List Nat) : Bool := decide (w.length = 10) && (decide (w.getD 4 0 = 45) && decide (w.getD 7 0 = 45)) && (isDig (w.take 4) && (isDig ((w.drop 5).take 2) && isDig (w.drop 8)))
def rday (w : List Nat) : Option Int := Civ.dayOf (digitsVal (w.take 4) : Nat) (digitsVal ((w.drop 5).take 2) : Nat) (digitsVal (w.drop 8) : Nat)
def rdw (w : List Nat) : Option Int := if form w = true then (rday w).bind fun d => if 0 ≤ d then some d else none else none
theorem dw_len (d m : Int) : (dw d m).length = 10 := by
  unfold dw
  rw [List.length_append, List.length_cons, List.length_append, List.length_cons, dg_len, dg_len, dg_len]
theorem fd_top : Civ.fd 119988 = 3652059 := by decide
theorem fd_zero : Civ.fd 0 = 0 := by decide
theorem month_range {d m : Int} (h : Civ.IsM d m) (h0 : 0 ≤ d) (h1 : d < 3652059) : 0 ≤ m ∧ m < 119988 := by
  constructor
  · apply Classical.byContradiction
    intro g
    have := Civ.fd_le (show m + 1 ≤ 0 by omega)
    rw [fd_zero] at this
    have := h.2
    omega
  · apply Classical.byContradiction
    intro g
    have := Civ.fd_le (show 119988 ≤ m by omega)
    rw [fd_top] at this
    have := h.1
    omega
theorem split10 {w : List Nat} (h : w.length = 10) : w = w.take 4 ++ w.getD 4 0 :: ((w.drop 5).take 2 ++ w.getD 7 0 :: w.drop 8) := by
  match w, h with
  | [a, b, c, d, e, f, g, i, j, k], _ => rfl
theorem dw_parts (d m : Int) : (dw d m).take 4 = dg (m / 12 + 1).toNat 4 ∧ (dw d m).getD 4 0 = 45 ∧ ((dw d m).drop 5).take 2 = dg (m % 12 + 1).toNat 2 ∧ (dw d m).getD 7 0 = 45 ∧ (dw d m).drop 8 = dg (d - Civ.fd m + 1).toNat 2 := by
  unfold dw
  have h4 := dg_len (m / 12 + 1).toNat 4
  have h2 := dg_len (m % 12 + 1).toNat 2
  have h3 := dg_len (d - Civ.fd m + 1).toNat 2
  generalize dg (m / 12 + 1).toNat 4 = a at h4
  generalize dg (m % 12 + 1).toNat 2 = b at h2
  generalize dg (d - Civ.fd m + 1).toNat 2 = c at h3
  match a, h4, b, h2, c, h3 with
  | [a, b, c, d], _, [e, f], _, [g, i], _ => exact ⟨rfl, rfl, rfl, rfl, rfl⟩
theorem isDig_dg (n k : Nat) : isDig (dg n (k + 1)) = true := isDig_iff.mpr ⟨(fun h => nomatch h), dg_dig n (k + 1)⟩
theorem day_date {d m : Int} (h : Civ.IsM d m) : 1 ≤ d - Civ.fd m + 1 ∧ d - Civ.fd m + 1 ≤ 31 := by
  have h1 := h.1
  have h2 := h.2
  rw [Civ.fd_succ] at h2
  have := Civ.len_le m
  omega
theorem rdw_dw {d m : Int} (h : Civ.IsM d m) (h0 : 0 ≤ d) (h1 : d < 3652059) : rdw (dw d m) = some d := by
  obtain ⟨p1, p2, p3, p4, p5⟩ := dw_parts d m
  have hm := month_range h h0 h1
  have hd := day_date h
  unfold rdw form rday
  rw [p1, p2, p3, p4, p5, dw_len, isDig_dg, isDig_dg, isDig_dg, dg_val, dg_val, dg_val]
  rw [if_pos (by decide)]
  rw [Nat.mod_eq_of_lt (by omega : (m / 12 + 1).toNat < 10 ^ 4), Nat.mod_eq_of_lt (by omega : (m % 12 + 1).toNat < 10 ^ 2), Nat.mod_eq_of_lt (by omega : (d - Civ.fd m + 1).toNat < 10 ^ 2)]
  rw [Int.toNat_of_nonneg (by omega), Int.toNat_of_nonneg (by omega), Int.toNat_of_nonneg (by omega), Civ.dayOf_of h]
  show (if 0 ≤ d then some d else none) = some d
  rw [if_pos h0]
theorem form_of {w : List Nat} (h : form w = true) : w.length = 10 ∧ w.getD 4 0 = 45 ∧ w.getD 7 0 = 45 ∧ isDig (w.take 4) = true ∧ isDig ((w.drop 5).take 2) = true ∧ isDig (w.drop 8) = true := by
  unfold form at h
  rw [Bool.and_eq_true, Bool.and_eq_true, Bool.and_eq_true, Bool.and_eq_true, Bool.and_eq_true, decide_eq_true_eq, decide_eq_true_eq, decide_eq_true_eq] at h
  exact ⟨h.1.1, h.1.2.1, h.1.2.2, h.2.1, h.2.2.1, h.2.2.2⟩
theorem dw_rdw {w : List Nat} {d : Int} (h : rdw w = some d) : 0 ≤ d ∧ d < 3652059 ∧ ∀ m, Civ.IsM d m → dw d m = w := by
  unfold rdw at h
  split at h
  · next f =>
    obtain ⟨f1, f2, f3, f4, f5, f6⟩ := form_of f
    cases e : rday w with
    | none => rw [e] at h; cases h
    | some k =>
      rw [e] at h
      have h' : (if 0 ≤ k then some k else none) = some d := h
      split at h'
      · next k0 =>
        have hk : k = d := Option.some.inj h'
        subst hk
        unfold rday at e
        obtain ⟨i1, i2, i3, i4⟩ := Civ.dayOf_isM e
        have l4 : (w.take 4).length = 4 := by rw [List.length_take, f1]; rfl
        have l2 : ((w.drop 5).take 2).length = 2 := by rw [List.length_take, List.length_drop, f1]; rfl
        have l3 : (w.drop 8).length = 2 := by rw [List.length_drop, f1]
        have b4 := val_lt _ (isDig_iff.mp f4).2
        have b2 := val_lt _ (isDig_iff.mp f5).2
        have b3 := val_lt _ (isDig_iff.mp f6).2
        have w4 := dg_of_val _ (isDig_iff.mp f4).2
        have w2 := dg_of_val _ (isDig_iff.mp f5).2
        have w3 := dg_of_val _ (isDig_iff.mp f6).2
        rw [l4] at b4 w4
        rw [l2] at b2 w2
        rw [l3] at b3 w3
        have sp := split10 f1
        rw [f2, f3] at sp
        generalize digitsVal (w.take 4) = y at *
        generalize digitsVal ((w.drop 5).take 2) = mo at *
        generalize digitsVal (w.drop 8) = da at *
        refine ⟨k0, ?_, fun m hm => ?_⟩
        · have := Civ.fd_le (show 12 * ((y : Int) - 1) + mo - 1 + 1 ≤ 119988 by omega)
          rw [fd_top] at this
          have := i1.2
          omega
        · have em := Civ.IsM.uniq hm i1
          subst em
          have e1 : ((12 * ((y : Int) - 1) + mo - 1) / 12 + 1).toNat = y := by omega
          have e2 : ((12 * ((y : Int) - 1) + mo - 1) % 12 + 1).toNat = mo := by omega
          have e3 : (k - Civ.fd (12 * ((y : Int) - 1) + mo - 1) + 1).toNat = da := by omega
          unfold dw
          rw [e1, e2, e3, w4, w2, w3]
          exact sp.symm
      · cases h'
  · cases h
/-! ### words of minutes -/
def mw (k : Int) : List Nat := dg (k / 60).toNat 2 ++ 46 :: dg (k % 60).toNat 2
def mform (w : List Nat) : Bool := decide (w.length = 5) && decide (w.getD 2 0 = 46) && (isDig (w.take 2) && isDig (w.drop 3))
def rmw (w : List Nat) : Option Int := if mform w = true then (if (24 < digitsVal (w.take 2) ∨ 59 < digitsVal (w.drop 3)) ∨ (digitsVal (w.take 2) = 24 ∧ 0 < digitsVal (w.drop 3)) then none else some (60 * (digitsVal (w.take 2) : Nat) + (digitsVal (w.drop 3) : Nat))) else none
theorem mw_len (k : Int) : (mw k).length = 5 := by
  unfold mw
  rw [List.length_append, List.length_cons, dg_len, dg_len]
theorem mw_parts (k : Int) : (mw k).take 2 = dg (k / 60).toNat 2 ∧ (mw k).getD 2 0 = 46 ∧ (mw k).drop 3 = dg (k % 60).toNat 2 := by
  unfold mw
  have h4 := dg_len (k / 60).toNat 2
  have h2 := dg_len (k % 60).toNat 2
  generalize dg (k / 60).toNat 2 = a at h4
  generalize dg (k % 60).toNat 2 = b at h2
  match a, h4, b, h2 with
  | [a, b], _, [e, f], _ => exact ⟨rfl, rfl, rfl⟩
theorem rmw_mw {k : Int} (h0 : 0 ≤ k) (h1 : k ≤ 1440) : rmw (mw k) = some k := by
  obtain ⟨p1, p2, p3⟩ := mw_parts k
  unfold rmw mform
  rw [p1, p2, p3, mw_len, isDig_dg, isDig_dg, dg_val, dg_val]
  rw [if_pos (by decide)]
  rw [Nat.mod_eq_of_lt (by omega : (k / 60).toNat < 10 ^ 2), Nat.mod_eq_of_lt (by omega : (k % 60).toNat < 10 ^ 2)]
  rw [if_neg (by omega)]
  congr 1
  omega
theorem split5 {w : List Nat} (h : w.length = 5) : w = w.take 2 ++ w.getD 2 0 :: w.drop 3 := by
  match w, h with
  | [a, b, c, d, e], _ => rfl
theorem mw_rmw {w : List Nat} {k : Int} (h : rmw w = some k) : 0 ≤ k ∧ k ≤ 1440 ∧ mw k = w := by
  unfold rmw at h
  split at h
  · next f =>
    unfold mform at f
    rw [Bool.and_eq_true, Bool.and_eq_true, Bool.and_eq_true, decide_eq_true_eq, decide_eq_true_eq] at f
    obtain ⟨⟨f1, f2⟩, f3, f4⟩ := f
    split at h
    · cases h
    · next c =>
      have l2 : (w.take 2).length = 2 := by rw [List.length_take, f1]; rfl
      have l3 : (w.drop 3).length = 2 := by rw [List.length_drop, f1]
      have w2 := dg_of_val _ (isDig_iff.mp f3).2
      have w3 := dg_of_val _ (isDig_iff.mp f4).2
      rw [l2] at w2
      rw [l3] at w3
      have sp := split5 f1
      rw [f2] at sp
      generalize digitsVal (w.take 2) = y at *
      generalize digitsVal (w.drop 3) = mo at *
      cases h
      refine ⟨by omega, by omega, ?_⟩
      have e1 : ((60 * (y : Int) + mo) / 60).toNat = y := by omega
      have e2 : ((60 * (y : Int) + mo) % 60).toNat = mo := by omega
      unfold mw
      rw [e1, e2, w2, w3]
      exact sp.symm
  · cases h
end Dg
/-! words read one after the other, in plain -/
namespace Wd
open PySem PySem.NumText Dg
abbrev W := List Nat
def WD : List W := [[109, 111, 110], [116, 117, 101], [119, 101, 100], [116, 104, 117], [102, 114, 105], [115, 97, 116], [115, 117, 110]]
def MO : List W := [[106, 97, 110], [102, 101, 98], [109, 97, 114], [97, 112, 114], [109, 97, 121], [106, 117, 110], [106, 117, 108], [97, 117, 103], [115, 101, 112], [111, 99, 116], [110, 111, 118], [100, 101, 99]]
def PL : List W := [[102, 105, 114, 115, 116], [115, 101, 99, 111, 110, 100], [116, 104, 105, 114, 100], [102, 111, 117, 114, 116, 104], [102, 105, 102, 116, 104]]
def UN : List W := [[100, 97, 121, 115], [119, 101, 101, 107, 115], [109, 111, 110, 116, 104, 115], [121, 101, 97, 114, 115]]
def dash (l : W) : W := if l.take 1 = [45] then l.drop 1 else l
def rint (l : W) : Option Int :=
  if dash l = [] ∨ 18 < (dash l).length ∨ isDig (dash l) = false then none
  else if (dash l).getD 0 0 = 48 ∧ l ≠ [48] then none
  else some (if l.take 1 = [45] then -((digitsVal (dash l) : Nat) : Int) else ((digitsVal (dash l) : Nat) : Int))
def one (es : List W) (ws : List W) (p : Nat) : Except Nat (W × Nat) := match ws[p]? with
  | some x => if x ∈ es then .ok (x, p + 1) else .error p
  | none => .error p
def int (lo hi : Int) (ws : List W) (p : Nat) : Except Nat (Int × Nat) := match ws[p]?.bind rint with
  | some n => if lo ≤ n ∧ n ≤ hi then .ok (n, p + 1) else .error p
  | none => .error p
theorem numL_head {n : Nat} (h : n ≠ 0) : ∃ c r, TL.numL n = c :: r ∧ c ≠ 48 := by
  have : ∀ m n : Nat, n ≤ m → n ≠ 0 → ∃ c r, TL.numL n = c :: r ∧ c ≠ 48 := by
    intro m
    induction m with
    | zero => intro n h1 h2; omega
    | succ m ih =>
      intro n h1 h2
      by_cases h : n < 10
      · rw [TL.numL_lt h]
        exact ⟨48 + n, [], rfl, by omega⟩
      · rw [TL.numL_step (by omega)]
        obtain ⟨c, r, e, hc⟩ := ih (n / 10) (by omega) (by omega)
        rw [e]
        exact ⟨c, r ++ [48 + n % 10], rfl, hc⟩
  exact this n n (Nat.le_refl _) h
theorem isDig_num (n : Nat) : isDig (TL.numL n) = true := isDig_iff.mpr ⟨TL.numL_ne n, TL.numL_digits n⟩
theorem dash_dig {l : W} (h : isDig l = true) : dash l = l ∧ ¬ l.take 1 = [45] := by
  have : ¬ l.take 1 = [45] := fun e => by
    cases l with
    | nil => cases e
    | cons c r =>
      have hc := (isDig_iff.mp h).2 c List.mem_cons_self
      have : c = 45 := by simpa using e
      omega
  exact ⟨if_neg this, this⟩
theorem rint_num {n : Nat} (h : n < 10 ^ 18) : rint (TL.numL n) = some (n : Int) := by
  obtain ⟨d1, d2⟩ := dash_dig (isDig_num n)
  have hl := TL.numL_len (k := 18) (by decide) h
  unfold rint
  rw [d1, isDig_num, if_neg (fun z => z.elim (TL.numL_ne n) fun z => z.elim (fun z => by omega) fun z => by cases z), if_neg d2, TL.numL_val]
  refine if_neg fun z => ?_
  by_cases h0 : n = 0
  · subst h0; exact z.2 (by decide)
  · obtain ⟨c, r, e, hc⟩ := numL_head h0
    rw [e] at z
    exact hc z.1
/-- a whole text's words -/
def cutw (t : W) : List W := TL.spl [32] 0 [] t
def txt (ws : List W) : W := TL.joinL [32] ws
theorem cutw_txt {ws : List W} (h : ws ≠ []) (g : ∀ x ∈ ws, 32 ∉ x) : cutw (txt ws) = ws := SX.spl_join h g
end Wd
/-! new objects, cuts of lists, joins -/
namespace Q
open PySem PySem.Spec PyProof.Rows L2 SX
theorem same_new7 {H : Hp} {p : Addr} {o : HO} (h : H p = none) : Same H (upd H p o) := fun b x e => by
  rw [upd_ne (ne_of_none e h)]; exact e
section
variable {K : PySem.W.Frag} {σ : L2.St} {H H' : Hp} {ta : TA} {te to : TE} {Q : VK} {p l b : Addr} {xs ys zs : List V}
/-- a new list, a new tuple -/
abbrev NewL (xs : List V) (H : Hp) (Q : VK) : Prop := xs.length ≤ sizeLine ∧ ∀ p, H p = none → Q (.ref p) (upd H p (.lst xs))
abbrev NewT (xs : List V) (H : Hp) (Q : VK) : Prop := xs.length ≤ sizeLine ∧ ∀ p, H p = none → Q (.ref p) (upd H p (.tup xs))
theorem g_lstN (q : ta σ H fun xs H1 => NewL xs H1 Q) : tLst ta σ H Q := q
theorem g_tupN (q : ta σ H fun xs H1 => NewT xs H1 Q) : tTup ta σ H Q := q
theorem nwL (e : xs = ys) (hn : ys.length ≤ 1000000) (q : ∀ p H', H p = none → Same H H' → H' p = some (.lst ys) → Q (.ref p) H') : NewL xs H Q := by
  subst e
  exact ⟨Nat.le_trans hn sizeBig, fun p hp => q p _ hp (same_new7 hp) upd_same⟩
theorem nwT (e : xs = ys) (hn : ys.length ≤ 1000000) (q : ∀ p H', H p = none → Same H H' → H' p = some (.tup ys) → Q (.ref p) H') : NewT xs H Q := by
  subst e
  exact ⟨Nat.le_trans hn sizeBig, fun p hp => q p _ hp (same_new7 hp) upd_same⟩
theorem g_cat (hl : H l = some (.lst xs)) (hb : H b = some (.lst zs)) (e : xs ++ zs = ys) (hn : ys.length ≤ 1000000) (q : ∀ p H', H p = none → Same H H' → H' p = some (.lst ys) → Q (.ref p) H') : rCat (.ref l) (.ref b) H Q := by
  subst e
  refine ⟨l, b, xs, zs, rfl, rfl, hl, hb, ?_, fun p hp => q p _ hp (same_new7 hp) upd_same⟩
  rw [← List.length_append]
  exact Nat.le_trans hn sizeBig
theorem cutV_to {n : Nat} (h : n ≤ xs.length) : cutV xs none (some (n : Int)) = xs.take n := by
  unfold cutV
  rw [HT.sIx_none, HT.sIx_nat, List.drop_zero, Nat.sub_zero, Nat.min_eq_left h]
theorem cutV_from {n : Nat} (h : n ≤ xs.length) : cutV xs (some (n : Int)) none = xs.drop n := by
  unfold cutV
  rw [HT.sIx_none, HT.sIx_nat, Nat.min_eq_left h]
  exact List.take_of_length_le (by rw [List.length_drop]; exact Nat.le_refl _)
theorem g_slL {lo hi : Option Int} (hl : SqL K H l xs) (e : cutV xs lo hi = ys) (q : ∀ p H', H p = none → Same H H' → H' p = some (.lst ys) → Q (.ref p) H') : rSlL K (.ref l) lo hi H Q := by
  subst e
  exact ⟨l, xs, rfl, hl, fun p hp => q p _ hp (same_new7 hp) upd_same⟩
end
end Q
/-! plain data (Dp) under new objects, equality of plain data; set(tuple of ints) -/
namespace Q
open PySem PySem.Spec PyProof.Rows L2 SX
section
variable {K : PySem.W.Frag} {H H' : Hp}
mutual
theorem dp_same (sm : Same H H') : ∀ (d : PyData) {v : V}, Dp K H v d → Dp K H' v d
  | .none, _, h => by cases h; exact .non
  | .bool b, _, h => by cases h; exact .bl b
  | .int i, _, h => by cases h; exact .int i
  | .str x, _, h => by cases h; exact .str x
  | .list ds, _, h => by cases h with | lst a b => exact .lst (SqL.ext a sm) (dpAll_same sm ds b)
  | .tuple ds, _, h => by cases h with | tup a b => exact .tup (SqT.ext a sm) (dpAll_same sm ds b)
  | .dict _, _, h => by cases h
theorem dpAll_same (sm : Same H H') : ∀ (ds : List PyData) {vs : List V}, DpAll K H vs ds → DpAll K H' vs ds
  | [], _, h => by cases h; exact .nil
  | d :: ds, _, h => by cases h with | cons a b => exact .cons (dp_same sm d a) (dpAll_same sm ds b)
end
theorem dpAll_len : ∀ {vs : List V} {ds : List PyData}, DpAll K H vs ds → vs.length = ds.length
  | _, _, .nil => rfl
  | _, _, .cons _ b => by rw [List.length_cons, List.length_cons, dpAll_len b]
theorem dpAll_at : ∀ {vs : List V} {ds : List PyData} {i : Nat} {d : PyData}, DpAll K H vs ds → ds[i]? = some d → ∃ v, vs[i]? = some v ∧ Dp K H v d
  | _, _, _, _, .nil, e => by cases e
  | _, _, 0, _, .cons a b, e => by cases e; exact ⟨_, rfl, a⟩
  | _, _, i + 1, _, .cons a b, e => dpAll_at (i := i) b e
theorem dpAll_at' : ∀ {vs : List V} {ds : List PyData} {i : Nat} {v : V}, DpAll K H vs ds → vs[i]? = some v → ∃ d, ds[i]? = some d ∧ Dp K H v d
  | _, _, _, _, .nil, e => by cases e
  | _, _, 0, _, .cons a b, e => by cases e; exact ⟨_, rfl, a⟩
  | _, _, i + 1, _, .cons a b, e => dpAll_at' (i := i) b e
theorem dpAll_app : ∀ {vs ws : List V} {ds es : List PyData}, DpAll K H vs ds → DpAll K H ws es → DpAll K H (vs ++ ws) (ds ++ es)
  | _, _, _, _, .nil, h => h
  | _, _, _, _, .cons a b, h => .cons a (dpAll_app b h)
theorem dpAll_ints : ∀ ns : List Int, DpAll K H (ns.map V.int) (ns.map PyData.int)
  | [] => .nil
  | n :: r => .cons (.int n) (dpAll_ints r)
theorem dpAll_strs : ∀ ws : List (List Nat), DpAll K H (ws.map fun z => V.str (S z)) (ws.map fun z => PyData.str (S z))
  | [] => .nil
  | n :: r => .cons (.str _) (dpAll_strs r)
theorem dpAll_take : ∀ (n : Nat) {vs : List V} {ds : List PyData}, DpAll K H vs ds → DpAll K H (vs.take n) (ds.take n)
  | 0, _, _, _ => .nil
  | _ + 1, _, _, .nil => .nil
  | n + 1, _, _, .cons a b => .cons a (dpAll_take n b)
theorem dpAll_drop : ∀ (n : Nat) {vs : List V} {ds : List PyData}, DpAll K H vs ds → DpAll K H (vs.drop n) (ds.drop n)
  | 0, _, _, h => h
  | _ + 1, _, _, .nil => .nil
  | n + 1, _, _, .cons a b => dpAll_drop n b
end
/-! plain data: None, ints, texts, lists, tuples -/
mutual
def pl : PyData → Bool
  | .none => true
  | .int _ => true
  | .str x => PyData.strOk x
  | .list xs => plAll xs
  | .tuple xs => plAll xs
  | .bool _ => false
  | .dict _ => false
def plAll : List PyData → Bool
  | [] => true
  | x :: xs => pl x && plAll xs
end
mutual
theorem pl_can : ∀ d : PyData, pl d = true → PyData.canLay0 d = true
  | .none, _ => by simp [PyData.canLay0]
  | .int _, _ => by simp [PyData.canLay0]
  | .str x, h => by simpa [PyData.canLay0, pl] using h
  | .list xs, h => by simpa [PyData.canLay0] using plAll_can xs (by simpa [pl] using h)
  | .tuple xs, h => by simpa [PyData.canLay0] using plAll_can xs (by simpa [pl] using h)
  | .bool _, h => by simp [pl] at h
  | .dict _, h => by simp [pl] at h
theorem plAll_can : ∀ ds : List PyData, plAll ds = true → PyData.canLayAll0 ds = true
  | [], _ => by simp [PyData.canLayAll0]
  | d :: ds, h => by
    have h : (pl d && plAll ds) = true := by simpa [plAll] using h
    rw [Bool.and_eq_true] at h
    simp [PyData.canLayAll0, pl_can d h.1, plAll_can ds h.2]
end
mutual
theorem eqv_iff : ∀ d e : PyData, pl d = true → pl e = true → (PyData.eqv d e = true ↔ d = e)
  | .none, e, _, h => by cases e <;> simp_all [PyData.eqv, pl]
  | .int i, e, _, h => by cases e <;> simp_all [PyData.eqv, pl]
  | .str x, e, _, h => by cases e <;> simp_all [PyData.eqv, pl]
  | .list xs, e, h1, h2 => by
    cases e with
    | list ys =>
      have := eqvAll_iff xs ys (by simpa [pl] using h1) (by simpa [pl] using h2)
      simpa [PyData.eqv] using this
    | _ => simp_all [PyData.eqv, pl]
  | .tuple xs, e, h1, h2 => by
    cases e with
    | tuple ys =>
      have := eqvAll_iff xs ys (by simpa [pl] using h1) (by simpa [pl] using h2)
      simpa [PyData.eqv] using this
    | _ => simp_all [PyData.eqv, pl]
  | .bool _, _, h, _ => by simp [pl] at h
  | .dict _, _, h, _ => by simp [pl] at h
theorem eqvAll_iff : ∀ ds es : List PyData, plAll ds = true → plAll es = true → (PyData.eqvAll ds es = true ↔ ds = es)
  | [], es, _, _ => by cases es <;> simp [PyData.eqvAll]
  | d :: ds, [], _, _ => by simp [PyData.eqvAll]
  | d :: ds, e :: es, h1, h2 => by
    have h1 : (pl d && plAll ds) = true := by simpa [plAll] using h1
    have h2 : (pl e && plAll es) = true := by simpa [plAll] using h2
    rw [Bool.and_eq_true] at h1 h2
    simp [PyData.eqvAll, eqv_iff d e h1.1 h2.1, eqvAll_iff ds es h1.2 h2.2]
end
theorem eqv_t {d : PyData} (h : pl d = true) : PyData.eqv d d = true := (eqv_iff d d h h).mpr rfl
theorem eqv_f {d e : PyData} (h : pl d = true) (g : pl e = true) (n : d ≠ e) : PyData.eqv d e = false := by
  cases q : PyData.eqv d e with
  | false => rfl
  | true => exact absurd ((eqv_iff d e h g).mp q) n
theorem plAll_app : ∀ {xs ys : List PyData}, plAll xs = true → plAll ys = true → plAll (xs ++ ys) = true
  | [], _, _, h => h
  | x :: xs, ys, h, g => by
    have h : (pl x && plAll xs) = true := by simpa [plAll] using h
    rw [Bool.and_eq_true] at h
    show plAll (x :: (xs ++ ys)) = true
    simp [plAll, h.1, plAll_app h.2 g]
theorem plAll_of : ∀ {xs : List PyData}, (∀ x ∈ xs, pl x = true) → plAll xs = true
  | [], _ => by simp [plAll]
  | x :: xs, h => by simp [plAll, h x List.mem_cons_self, plAll_of fun y hy => h y (List.mem_cons_of_mem _ hy)]
theorem plAll_mem : ∀ {xs : List PyData}, plAll xs = true → ∀ x ∈ xs, pl x = true
  | x :: xs, h, y, m => by
    have h : (pl x && plAll xs) = true := by simpa [plAll] using h
    rw [Bool.and_eq_true] at h
    rcases List.mem_cons.mp m with rfl | m
    · exact h.1
    · exact plAll_mem h.2 y m
theorem plAll_ints (ns : List Int) : plAll (ns.map PyData.int) = true := plAll_of fun x hx => by
  obtain ⟨n, _, rfl⟩ := List.mem_map.mp hx
  simp [pl]
theorem depthAll_le {n : Nat} : ∀ {xs : List PyData}, (∀ x ∈ xs, x.depth ≤ n) → PyData.depthAll xs ≤ n
  | [], _ => by simp [PyData.depthAll]
  | x :: xs, h => by
    simp only [PyData.depthAll]
    exact Nat.max_le.mpr ⟨h x List.mem_cons_self, depthAll_le fun y hy => h y (List.mem_cons_of_mem _ hy)⟩
theorem depthAll_ints (ns : List Int) : PyData.depthAll (ns.map PyData.int) ≤ 0 := depthAll_le fun x hx => by
  obtain ⟨n, _, rfl⟩ := List.mem_map.mp hx
  simp [PyData.depth]
theorem shaped_of {d : PyData} (h : pl d = true) (g : d.depth ≤ 64) : SeqAt.shaped d = true := by
  unfold SeqAt.shaped
  rw [pl_can d h, decide_eq_true g]; rfl
section
variable {K : PySem.W.Frag} {H : Hp} {x y : V} {d e : PyData} {Q : VK}
theorem g_eqD (h1 : Dp K H x d) (h2 : Dp K H y e) (s1 : pl d = true) (s2 : pl e = true) (d1 : d.depth ≤ 64) (d2 : e.depth ≤ 64) (qt : d = e → Q (.bl true) H) (qf : d ≠ e → Q (.bl false) H) : rEqD K x y H Q := by
  refine ⟨d, e, h1, h2, shaped_of s1 d1, shaped_of s2 d2, ?_⟩
  by_cases h : d = e
  · subst h; rw [eqv_t s1]; exact qt rfl
  · rw [eqv_f s1 s2 h]; exact qf h
theorem g_neD (h1 : Dp K H x d) (h2 : Dp K H y e) (s1 : pl d = true) (s2 : pl e = true) (d1 : d.depth ≤ 64) (d2 : e.depth ≤ 64) (qt : d = e → Q (.bl false) H) (qf : d ≠ e → Q (.bl true) H) : rNeD K x y H Q := by
  refine ⟨d, e, h1, h2, shaped_of s1 d1, shaped_of s2 d2, ?_⟩
  by_cases h : d = e
  · subst h; rw [eqv_t s1]; exact qt rfl
  · rw [eqv_f s1 s2 h]; exact qf h
end
/-! ### set(t), t a tuple of ints -/
section
variable {X : Cx}
def rSetTupI (K : PySem.W.Frag) (w : World) : List V → Hp → VK → Prop := fun xs H Q => ∃ (l : Addr) (ns : List Int), xs = [V.ref l] ∧ SqT K H l (ns.map V.int) ∧ ns.length ≤ 1000 ∧
  ∀ p n, H p = none → Q (.ref p) (upd H p (SetO w p (fun j => decide (j ∈ ns)) n))
theorem cr_setTupI (hc : X.calm = true) : CallR X (.type "set") (rSetTupI X.K X.w) := by
  intro pins s σ H xs us Q I r h
  obtain ⟨l, ns, rfl, hl, hn, q⟩ := h
  rw [Vals.ref1 r]
  obtain ⟨its, rv, pt, hz⟩ := I.tuple hl
  have new := I.hok.fresh (Nat.le_refl s.heap.objs.size)
  refine call_set_tupI ns (I.ok.hd hc) (show s.heap.IsTuple l its.toArray from pt) (ints_of_vals rv) (by unfold scanBound; omega) fun h' tk c R hcn k => ?_
  exact ⟨.ref s.heap.objs.size, upd H s.heap.objs.size (SetO X.w s.heap.objs.size (fun j => decide (j ∈ ns)) c), I.laid (t' := tk) k (Nat.le_refl _) (setO_new R), rfl, q _ c new⟩
end
/-! ### a //= b, a positive divisor -/
section
variable {X : Cx}
def ipC (C : Int → Int → Prop) (f : Int → Int → Int) : TIp := fun x y H Q => ∃ i j, x = .int i ∧ y = .int j ∧ C i j ∧ Q (.int (f i j)) H
theorem ip_fdiv : PIp X .FloorDiv (ipC CDiv fun i j => i / j) := by
  intro pins s σ H x y v u Q I r1 r2 h
  obtain ⟨i, j, rfl, rfl, hc, q⟩ := h
  obtain ⟨t, rfl⟩ := r1
  obtain ⟨t', rfl⟩ := r2
  have h1 : (0 : Int) < j := hc.1
  have h2 : j < 1073741824 := hc.2
  exact ifloordiv_int (by omega) (by rw [Int.fdiv_eq_ediv_of_nonneg i (by omega)]; exact ⟨.int _, H, I.tok _, ⟨_, rfl⟩, q⟩) (.inl (PyProof.noPylong_small (by omega)))
theorem g_ipC {C : Int → Int → Prop} {f : Int → Int → Int} {m n : Int} {H : Hp} {Q : VK} (c : C m n) (q : Q (.int (f m n)) H) : ipC C f (.int m) (.int n) H Q := ⟨m, n, rfl, rfl, c, q⟩
theorem same_put {H H' : Hp} {L : Addr} {o : HO} (hL : H L = none) (s : Same H H') : Same H (upd H' L o) := fun b u hb => by
  rw [upd_ne (ne_of_none hb hL)]; exact s b u hb
end
/-! ### slices of tuples, tuple(list) -/
section
variable {K : PySem.W.Frag} {H : Hp} {l : Addr} {xs ys zs : List V} {Q : VK}
theorem g_slT {lo hi : Option Int} (ht : SqT K H l xs) (e : cutV xs lo hi = ys) (hn : ¬ (HT.sIx xs.length 0 lo = 0 ∧ HT.sIx xs.length xs.length hi = xs.length)) (q : ∀ p H', H p = none → Same H H' → H' p = some (.tup ys) → Q (.ref p) H') : rSlT K (.ref l) lo hi H Q := by
  subst e
  exact ⟨l, xs, rfl, ht, hn, fun p hp => q p _ hp (same_new7 hp) upd_same⟩
theorem tupOf {R : Addr → Hp → Prop} {o : HO} (q : ∀ p H', H p = none → Same H H' → H' p = some o → R p H') : ∀ p, H p = none → R p (upd H p o) := fun p hp => q p _ hp (same_new7 hp) upd_same
theorem g_catT {b : Addr} (h1 : SqT K H l xs) (h2 : SqT K H b zs) (e : xs ++ zs = ys) (hx : xs ≠ []) (hn : ys.length ≤ 1000000) (q : ∀ p H', Same H H' → SqT K H' p ys → Q (.ref p) H') : rCatT K (.ref l) (.ref b) H Q := by
  subst e
  refine ⟨l, b, xs, zs, rfl, rfl, h1, h2, hx, by rw [← List.length_append]; exact Nat.le_trans hn sizeBig, fun h => ?_, fun _ p hp => q p _ (same_new7 hp) (SqT.of upd_same)⟩
  subst h
  refine q l H (Same.refl H) ?_
  rw [List.append_nil]
  exact h1
end
/-! ### tuples stay, whatever is changed -/
def KeepT (H H' : Hp) : Prop := ∀ b o, H b = some o → ((∃ xs, o = .tup xs) ∨ ∃ q xs, o = .frz q (.tup xs)) → H' b = some o
theorem KeepT.refl (H : Hp) : KeepT H H := fun _ _ h _ => h
theorem KeepT.of {H H' : Hp} (s : Same H H') : KeepT H H' := fun b o h _ => s b o h
theorem KeepT.trans {H H1 H2 : Hp} (h : KeepT H H1) (g : KeepT H1 H2) : KeepT H H2 := fun b o e t => g b o (h b o e t) t
theorem KeepT.put {H : Hp} {L : Addr} {u o : HO} (hL : H L = some u) (nt : (∀ xs, u ≠ .tup xs) ∧ ∀ q xs, u ≠ .frz q (.tup xs)) : KeepT H (upd H L o) := fun b x h t => by
  have : b ≠ L := fun e => by
    subst e
    rw [hL] at h
    cases h
    rcases t with ⟨xs, e⟩ | ⟨q, xs, e⟩
    · exact nt.1 xs e
    · exact nt.2 q xs e
  rw [upd_ne this]; exact h
theorem KeepT.putL {H : Hp} {L : Addr} {xs : List V} {o : HO} (hL : H L = some (.lst xs)) : KeepT H (upd H L o) := KeepT.put hL ⟨fun _ e => (by cases e), fun _ _ e => (by cases e)⟩
theorem sqT_keep {K : PySem.W.Frag} {H H' : Hp} {a : Addr} {xs : List V} (h : SqT K H a xs) (k : KeepT H H') : SqT K H' a xs := by
  rcases h with h | h
  · refine .inl ?_
    rcases h with h | ⟨q, h⟩
    · exact .inl (k _ _ h (.inl ⟨_, rfl⟩))
    · exact .inr ⟨q, k _ _ h (.inr ⟨_, _, rfl⟩)⟩
  · exact .inr h
/-! data without lists -/
mutual
def noL : PyData → Bool
  | .none => true
  | .bool _ => true
  | .int _ => true
  | .str _ => true
  | .list _ => false
  | .tuple xs => noLAll xs
  | .dict _ => false
def noLAll : List PyData → Bool
  | [] => true
  | x :: xs => noL x && noLAll xs
end
section
variable {K : PySem.W.Frag} {H H' : Hp}
mutual
theorem dp_keep (k : KeepT H H') : ∀ (d : PyData) {v : V}, noL d = true → Dp K H v d → Dp K H' v d
  | .none, _, _, h => by cases h; exact .non
  | .bool b, _, _, h => by cases h; exact .bl b
  | .int i, _, _, h => by cases h; exact .int i
  | .str x, _, _, h => by cases h; exact .str x
  | .list ds, _, n, h => by simp [noL] at n
  | .tuple ds, _, n, h => by cases h with | tup a b => exact .tup (sqT_keep a k) (dpAll_keep k ds (by simpa [noL] using n) b)
  | .dict _, _, _, h => by cases h
theorem dpAll_keep (k : KeepT H H') : ∀ (ds : List PyData) {vs : List V}, noLAll ds = true → DpAll K H vs ds → DpAll K H' vs ds
  | [], _, _, h => by cases h; exact .nil
  | d :: ds, _, n, h => by
    have n : (noL d && noLAll ds) = true := by simpa [noLAll] using n
    rw [Bool.and_eq_true] at n
    cases h with | cons a b => exact .cons (dp_keep k d n.1 a) (dpAll_keep k ds n.2 b)
end
theorem noLAll_of : ∀ {xs : List PyData}, (∀ x ∈ xs, noL x = true) → noLAll xs = true
  | [], _ => by simp [noLAll]
  | x :: xs, h => by simp [noLAll, h x List.mem_cons_self, noLAll_of fun y hy => h y (List.mem_cons_of_mem _ hy)]
theorem noLAll_ints (ns : List Int) : noLAll (ns.map PyData.int) = true := noLAll_of fun x hx => by
  obtain ⟨n, _, rfl⟩ := List.mem_map.mp hx
  simp [noL]
theorem dpAll_ints_inv : ∀ {ns : List Int} {vs : List V}, DpAll K H vs (ns.map PyData.int) → vs = ns.map V.int
  | [], _, h => by cases h; rfl
  | n :: r, _, h => by
    cases h with
    | cons a b => cases a; rw [dpAll_ints_inv b]; rfl
end
section
variable {K : PySem.W.Frag} {H : Hp}
theorem dpAll_last : ∀ {ds : List PyData} {d : PyData} {vs : List V}, DpAll K H vs (ds ++ [d]) → ∃ us v, vs = us ++ [v] ∧ DpAll K H us ds ∧ Dp K H v d
  | [], d, _, h => by
    cases h with
    | cons a b => cases b; exact ⟨[], _, rfl, .nil, a⟩
  | e :: ds, d, _, h => by
    cases h with
    | cons a b =>
      obtain ⟨us, v, rfl, h1, h2⟩ := dpAll_last b
      exact ⟨_ :: us, v, rfl, .cons a h1, h2⟩
end
theorem g_ienum {K : PySem.W.Frag} {ta : TA} {σ : L2.St} {H : Hp} {R : It → Hp → Prop} (q : ta σ H fun vs H1 => ∃ a xs, vs = [.ref a] ∧ SqL K H1 a xs ∧ R (Ite K a) H1) : iEnum K ta σ H R := q
/-! ### readings that name K (within a comprehension's block) -/
section
variable {X : Cx}
def rListOf (K : PySem.W.Frag) : List V → Hp → VK → Prop := fun xs H Q => ∃ p ys, xs = [V.ref p] ∧ (SqL K H p ys ∨ SqT K H p ys) ∧ ∀ l, H l = none → Q (.ref l) (upd H l (.lst ys))
theorem call_list_ofK : CallR X (.type "list") (rListOf X.K) := call_list_of
def rTupOf (K : PySem.W.Frag) : List V → Hp → VK → Prop := fun xs H Q => ∃ p ys, xs = [V.ref p] ∧ ((SqL K H p ys ∧ ∀ l, H l = none → Q (.ref l) (upd H l (.tup ys))) ∨ (SqT K H p ys ∧ Q (.ref p) H))
theorem call_tuple_ofK : CallR X (.type "tuple") (rTupOf X.K) := call_tuple_of
def rLenSeq (K : PySem.W.Frag) : List V → Hp → VK → Prop := fun xs H Q => ∃ p ys, xs = [V.ref p] ∧ (SqL K H p ys ∨ SqT K H p ys) ∧ Q (V.int (ys.length : Nat)) H
theorem call_len_seqK : CallR X (.builtin "len") (rLenSeq X.K) := call_len_seq
def rJoin (K : PySem.W.Frag) : V → List V → Hp → VK → Prop := fun x xs H Q => ∃ a p, ∃ ys : List Str, x = .str a ∧ xs = [.ref p] ∧ (SqL K H p (ys.map V.str) ∨ SqT K H p (ys.map V.str)) ∧
  (ys.map (·.length)).sum + ys.length * a.length ≤ 16777216 ∧ Q (.str (Txt.join a ys)) H
theorem g_listOf {K : PySem.W.Frag} {H : Hp} {l : Addr} {ys : List V} {Q : VK} (h : SqL K H l ys ∨ SqT K H l ys) (q : ∀ p H', H p = none → Same H H' → H' p = some (.lst ys) → Q (.ref p) H') : rListOf K [.ref l] H Q := ⟨l, ys, rfl, h, fun p hp => q p _ hp (same_new7 hp) upd_same⟩
theorem g_tupOfL {K : PySem.W.Frag} {H : Hp} {l : Addr} {ys : List V} {Q : VK} (h : SqL K H l ys) (q : ∀ p H', H p = none → Same H H' → H' p = some (.tup ys) → Q (.ref p) H') : rTupOf K [.ref l] H Q := ⟨l, ys, rfl, .inl ⟨h, fun p hp => q p _ hp (same_new7 hp) upd_same⟩⟩
end
theorem ixN_at {n j : Nat} (h : j < n) : ixN n (j : Int) = some j := by
  unfold ixN
  have h1 : (0 : Int) ≤ (j : Int) := by omega
  simp [h1, h]
end Q
/-! days told from today, in plain -/
namespace Civ
theorem climb {f : Nat → Int} {r : Int} (h0 : f 0 ≤ r) : ∀ N : Nat, r < f N → ∃ n, f n ≤ r ∧ r < f (n + 1)
  | 0, h => absurd h0 (by omega)
  | N + 1, h => by
    by_cases g : f N ≤ r
    · exact ⟨N, g, h⟩
    · exact climb h0 N (by omega)
theorem exists_isM (d : Int) : ∃ m, IsM d m := by
  obtain ⟨n, h1, h2⟩ := climb (f := fun n => fd (n : Int)) (r := d % 146097) (by show fd 0 ≤ _; rw [show fd 0 = 0 by decide]; omega) 4800 (by show _ < fd 4800; rw [show fd 4800 = 146097 by decide]; omega)
  have := IsM.cycle (c := d / 146097) (d := d % 146097) (m := n) ⟨h1, h2⟩
  rw [show d % 146097 + 146097 * (d / 146097) = d by omega] at this
  exact ⟨_, this⟩
noncomputable def mOf (d : Int) : Int := Classical.choose (exists_isM d)
theorem mOf_is (d : Int) : IsM d (mOf d) := Classical.choose_spec (exists_isM d)
theorem IsM.eq {d m : Int} (h : IsM d m) : m = mOf d := h.uniq (mOf_is d)
def nthw (m k wd : Int) : Option Int :=
  let day := if k < 0 then fd m + len m - 1 - (fd m + len m - 1 - wd) % 7 + 7 * (k + 1) else fd m + (wd - fd m) % 7 + 7 * (k - 1)
  if k ≠ 0 ∧ fd m ≤ day ∧ day < fd m + len m then some day else none
noncomputable def addm (d k : Int) : Int := fd (mOf d + k) + (if len (mOf d + k) - 1 < d - fd (mOf d) then len (mOf d + k) - 1 else d - fd (mOf d))
end Civ
namespace Wd
open PySem PySem.NumText Dg
def TODAY : W := [116, 111, 100, 97, 121]
def TOMO : W := [116, 111, 109, 111, 114, 114, 111, 119]
def YEST : W := [121, 101, 115, 116, 101, 114, 100, 97, 121]
def NEXT : W := [110, 101, 120, 116]
def LAST : W := [108, 97, 115, 116]
def IN : W := [105, 110]
def AGO : W := [97, 103, 111]
def OF : W := [111, 102]
def DAY : W := [100, 97, 121]
def DAYS : W := [100, 97, 121, 115]
def WEEKS : W := [119, 101, 101, 107, 115]
def MONTHS : W := [109, 111, 110, 116, 104, 115]
def YEARS : W := [121, 101, 97, 114, 115]
def idx (es : List W) (w : W) : Int := (es.idxOf w : Nat)
theorem idx_at {es : List W} {w : W} (h : w ∈ es) : es[es.idxOf w]? = some w := by
  rw [List.getElem?_eq_getElem (List.idxOf_lt_length_of_mem h), List.getElem_idxOf]
theorem idx_no {es : List W} {w : W} {m : Nat} (h : m < es.idxOf w) : es[m]? ≠ some w := fun e => by
  have hm : m < es.length := Nat.lt_of_lt_of_le h (List.idxOf_le_length)
  rw [List.getElem?_eq_getElem hm] at e
  have := List.not_of_lt_findIdx (p := (· == w)) (xs := es) (i := m) h
  rw [Option.some.inj e] at this
  simp at this
noncomputable def later (d n : Int) (u : W) : Int := if u = DAYS then d + n else if u = WEEKS then d + 7 * n else if u = MONTHS then Civ.addm d n else Civ.addm d (12 * n)
def nextw (d wd : Int) : Int := d + 1 + (wd - d - 1) % 7
def lastw (d wd : Int) : Int := d - 1 - (d - 1 - wd) % 7
noncomputable def takeMonth (today : Int) (ws : List W) (p : Nat) : Except Nat (Int × Nat) := match one MO ws p with
  | .error e => .error e
  | .ok (w, p) => match ws[p]? with
    | some _ => match int 1 9999 ws p with
      | .error e => .error e
      | .ok (y, p) => .ok (12 * (y - 1) + idx MO w, p)
    | none => .ok (Civ.mOf today + (idx MO w - Civ.mOf today) % 12, p)
noncomputable def takeIn (today k : Int) (ws : List W) (p : Nat) : Except Nat (Int × Nat) := match one (WD ++ [DAY]) ws p with
  | .error e => .error e
  | .ok (w, p1) => match one [OF] ws p1 with
    | .error e => .error e
    | .ok (_, p2) => match takeMonth today ws p2 with
      | .error e => .error e
      | .ok (m, p3) => if w = DAY then .ok ((if k < 0 then Civ.fd m + Civ.len m + k else Civ.fd m + k - 1), p3) else match Civ.nthw m k (idx WD w) with
        | some d => .ok (d, p3)
        | none => .error p
noncomputable def inUnits (today : Int) (ws : List W) : Except Nat (Int × Nat) := match int 0 100000 ws 1 with
  | .error e => .error e
  | .ok (n, p) => match one UN ws p with
    | .error e => .error e
    | .ok (u, p) => .ok (later today n u, p)
noncomputable def ago (today n : Int) (ws : List W) : Except Nat (Int × Nat) := match one UN ws 1 with
  | .error e => .error e
  | .ok (u, p) => match one [AGO] ws p with
    | .error e => .error e
    | .ok (_, p) => .ok (later today (-n) u, p)
def nextWd (today : Int) (ws : List W) : Except Nat (Int × Nat) := match one WD ws 1 with
  | .error e => .error e
  | .ok (v, p) => .ok (nextw today (idx WD v), p)
def lastOk (ws : List W) : Bool := decide (ws.length = 2) && decide (ws.getD 1 [] ∈ WD)
def numOk (w : W) : Option Int := (rint w).bind fun n => if 0 ≤ n ∧ n ≤ 100000 then some n else none
noncomputable def when (today : Int) (ws : List W) : Except Nat (Int × Nat) := match ws[0]? with
  | none => .error 0
  | some w =>
    if w ∈ [TODAY, TOMO, YEST] then .ok (today + idx [YEST, TODAY, TOMO] w - 1, 1)
    else if w = NEXT then nextWd today ws
    else if w = LAST ∧ lastOk ws = true then .ok (lastw today (idx WD (ws.getD 1 [])), 2)
    else if w = LAST then takeIn today (-1) ws 1
    else if w ∈ PL then takeIn today (idx PL w + 1) ws 1
    else if w = IN then inUnits today ws
    else if w ∈ WD then .ok (today + (idx WD w - today % 7) % 7, 1)
    else match numOk w with
      | some n => ago today n ws
      | none => match rdw w with
        | some d => .ok (d, 1)
        | none => .error 0
noncomputable def readw (today : Int) (ws : List W) : Except Nat Int := match when today ws with
  | .error e => .error e
  | .ok (d, p) => if p < ws.length then .error p else .ok d
theorem one_le {es ws : List W} {p p' : Nat} {v : W} (h : one es ws p = .ok (v, p')) : p' = p + 1 := by
  unfold one at h
  split at h
  · split at h
    · cases h; rfl
    · cases h
  · cases h
theorem int_le {lo hi : Int} {ws : List W} {p p' : Nat} {v : Int} (h : int lo hi ws p = .ok (v, p')) : p' = p + 1 := by
  unfold int at h
  split at h
  · split at h
    · cases h; rfl
    · cases h
  · cases h
theorem month_le {today : Int} {ws : List W} {p p' : Nat} {v : Int} (h : takeMonth today ws p = .ok (v, p')) : p' ≤ p + 2 := by
  unfold takeMonth at h
  split at h
  · cases h
  · next w p1 e =>
    have := one_le e
    split at h
    · split at h
      · cases h
      · next y p2 e2 => have := int_le e2; cases h; omega
    · cases h; omega
theorem in_le {today k : Int} {ws : List W} {p p' : Nat} {v : Int} (h : takeIn today k ws p = .ok (v, p')) : p' ≤ p + 4 := by
  unfold takeIn at h
  split at h
  · cases h
  · next w p1 e1 =>
    have := one_le e1
    split at h
    · cases h
    · next w2 p2 e2 =>
      have := one_le e2
      split at h
      · cases h
      · next m p3 e3 =>
        have := month_le e3
        split at h
        · cases h; omega
        · split at h
          · cases h; omega
          · cases h
theorem when_le {today : Int} {ws : List W} {p : Nat} {v : Int} (h : when today ws = .ok (v, p)) : p ≤ 10 := by
  unfold when at h
  split at h
  · cases h
  · split at h
    · cases h; omega
    split at h
    · unfold nextWd at h
      split at h
      · cases h
      · next e => have := one_le e; cases h; omega
    split at h
    · cases h; omega
    split at h
    · have := in_le h; omega
    split at h
    · have := in_le h; omega
    split at h
    · unfold inUnits at h
      split at h
      · cases h
      · next e =>
        have := int_le e
        split at h
        · cases h
        · next e2 => have := one_le e2; cases h; omega
    split at h
    · cases h; omega
    split at h
    · unfold ago at h
      split at h
      · cases h
      · next e =>
        have := one_le e
        split at h
        · cases h
        · next e2 => have := one_le e2; cases h; omega
    split at h
    · cases h; omega
    · cases h
end Wd
/-! periodic sets of days, in plain: primes, shrinking, tidying -/
namespace Per
/-! ### primes -/
def Pr (p : Nat) : Prop := 2 ≤ p ∧ ∀ d, 2 ≤ d → d < p → ¬ d ∣ p
def strip (p n : Nat) : Nat := if h : 2 ≤ p ∧ 1 ≤ n ∧ n % p = 0 then strip p (n / p) else n
termination_by n
decreasing_by exact Nat.div_lt_self (by omega) (by omega)
theorem strip_le (p n : Nat) : strip p n ≤ n := by
  induction n using Nat.strongRecOn with
  | ind n ih =>
    rw [strip]
    split
    · next h =>
      have hl := Nat.div_lt_self (show 0 < n by omega) (show 1 < p by omega)
      have := ih _ hl
      omega
    · exact Nat.le_refl _
theorem sq_le {p n : Nat} (h : p * p ≤ n) (hp : 2 ≤ p) : p ≤ n := Nat.le_trans (Nat.le_mul_of_pos_left p (by omega)) h
def prGo (p n : Nat) (found : List Nat) : List Nat :=
  if h : 2 ≤ p ∧ p * p ≤ n then (if n % p = 0 then prGo (p + 1) (strip p n) (found ++ [p]) else prGo (p + 1) n found)
  else if 1 < n then found ++ [n] else found
termination_by n + 1 - p
decreasing_by
  · have := strip_le p n
    have := sq_le h.2 h.1
    omega
  · have := sq_le h.2 h.1
    omega
def primes (n : Nat) : List Nat := prGo 2 n []
theorem euclid {p q m : Nat} (hp : Pr p) (hq : Pr q) (h : q ∣ p * m) : q = p ∨ q ∣ m := by
  have g1 : Nat.gcd q p ∣ q := Nat.gcd_dvd_left q p
  have g2 : Nat.gcd q p ∣ p := Nat.gcd_dvd_right q p
  have hg0 : 0 < Nat.gcd q p := Nat.gcd_pos_of_pos_left _ (by have := hq.1; omega)
  by_cases hg : Nat.gcd q p = 1
  · exact .inr (Nat.Coprime.dvd_of_dvd_mul_left hg h)
  · have g3 : 2 ≤ Nat.gcd q p := by omega
    have eq1 : Nat.gcd q p = q := by
      have := Nat.le_of_dvd (by have := hq.1; omega) g1
      by_cases e : Nat.gcd q p = q
      · exact e
      · exact absurd g1 (hq.2 _ g3 (by omega))
    have eq2 : Nat.gcd q p = p := by
      have := Nat.le_of_dvd (by have := hp.1; omega) g2
      by_cases e : Nat.gcd q p = p
      · exact e
      · exact absurd g2 (hp.2 _ g3 (by omega))
    exact .inl (eq1.symm.trans eq2)
structure Inv (n0 p n : Nat) (found : List Nat) : Prop where
  pos : 1 ≤ n
  dv : n ∣ n0
  p2 : 2 ≤ p
  low : ∀ d, 2 ≤ d → d < p → ¬ d ∣ n
  fnd : ∀ q ∈ found, Pr q ∧ q ∣ n0
  cov : ∀ q, Pr q → q ∣ n0 → q ∈ found ∨ q ∣ n
theorem strip_ok {n0 p : Nat} (hp : Pr p) : ∀ {n : Nat} {found : List Nat}, 1 ≤ n → n ∣ n0 → (∀ d, 2 ≤ d → d < p → ¬ d ∣ n) → p ∈ found → (∀ q ∈ found, Pr q ∧ q ∣ n0) → (∀ q, Pr q → q ∣ n0 → q ∈ found ∨ q ∣ n) →
    Inv n0 (p + 1) (strip p n) found := by
  intro n
  induction n using Nat.strongRecOn with
  | ind n ih =>
    intro found h1 h2 h3 h4 h5 h6
    have hp2 := hp.1
    rw [strip]
    split
    · next h =>
      have hd : p ∣ n := Nat.dvd_of_mod_eq_zero h.2.2
      obtain ⟨m, rfl⟩ := hd
      rw [Nat.mul_div_cancel_left m (by omega)]
      have hm : 1 ≤ m := by
        rcases Nat.eq_zero_or_pos m with z | z
        · subst z; simp at h1
        · exact z
      have hlt : m < p * m := by
        have := Nat.mul_le_mul_right m hp2
        omega
      refine ih m hlt hm (Nat.dvd_trans (Nat.dvd_mul_left m p) h2) (fun d a b c => h3 d a b (Nat.dvd_trans c (Nat.dvd_mul_left m p))) h4 h5 fun q hq hd => ?_
      rcases h6 q hq hd with g | g
      · exact .inl g
      · rcases euclid hp hq g with g | g
        · subst g; exact .inl h4
        · exact .inr g
    · next h =>
      refine ⟨h1, h2, by omega, fun d a b c => ?_, h5, h6⟩
      by_cases e : d = p
      · subst e
        exact h ⟨hp2, h1, Nat.mod_eq_zero_of_dvd c⟩
      · exact h3 d a (by omega) c
theorem prGo_ok {n0 : Nat} (h0 : 1 ≤ n0) : ∀ (k p n : Nat) (found : List Nat), n + 1 - p ≤ k → Inv n0 p n found → ∀ q, q ∈ prGo p n found ↔ Pr q ∧ q ∣ n0 := by
  intro k
  induction k with
  | zero =>
    intro p n found hk I
    have hp2 := I.p2
    have : ¬ p * p ≤ n := fun h => by have := sq_le h hp2; omega
    rw [prGo, dif_neg (fun z => this z.2)]
    intro q
    have hn : n = 1 := by
      have := I.pos
      by_cases e : n = 1
      · exact e
      · exact absurd (Nat.dvd_refl n) (I.low n (by omega) (by omega))
    rw [if_neg (by omega)]
    refine ⟨I.fnd q, fun h => ?_⟩
    rcases I.cov q h.1 h.2 with g | g
    · exact g
    · have := Nat.le_of_dvd I.pos g
      have := h.1.1
      omega
  | succ k ih =>
    intro p n found hk I
    have hp2 := I.p2
    rw [prGo]
    split
    · next h =>
      have hpn := sq_le h.2 hp2
      by_cases hm : n % p = 0
      · rw [if_pos hm]
        have hd := Nat.dvd_of_mod_eq_zero hm
        have hp : Pr p := ⟨hp2, fun d a b c => I.low d a b (Nat.dvd_trans c hd)⟩
        refine ih _ _ _ (by have := strip_le p n; omega) (strip_ok hp I.pos I.dv I.low (List.mem_append_right _ List.mem_cons_self) (fun q hq => ?_) fun q hq hd => ?_)
        · rcases List.mem_append.mp hq with g | g
          · exact I.fnd q g
          · rw [List.mem_singleton.mp g]; exact ⟨hp, Nat.dvd_trans hd I.dv⟩
        · exact (I.cov q hq hd).elim (fun g => .inl (List.mem_append_left _ g)) .inr
      · rw [if_neg hm]
        refine ih _ _ _ (by omega) ⟨I.pos, I.dv, by omega, fun d a b c => ?_, I.fnd, I.cov⟩
        by_cases e : d = p
        · subst e; exact hm (Nat.mod_eq_zero_of_dvd c)
        · exact I.low d a (by omega) c
    · next h =>
      have hsq : n < p * p := by
        have : ¬ p * p ≤ n := fun z => h ⟨hp2, z⟩
        omega
      have hpos := I.pos
      intro q
      by_cases h1 : 1 < n
      · rw [if_pos h1]
        have hn : Pr n := by
          refine ⟨by omega, fun d a b c => ?_⟩
          obtain ⟨e, he⟩ := c
          have hd : p ≤ d := by
            by_cases g : p ≤ d
            · exact g
            · exact absurd ⟨e, he⟩ (I.low d a (by omega))
          have he2 : 2 ≤ e := by
            rcases Nat.lt_or_ge e 2 with g | g
            · have : e = 0 ∨ e = 1 := by omega
              rcases this with rfl | rfl
              · simp at he; omega
              · simp at he; omega
            · exact g
          have hep : p ≤ e := by
            by_cases g : p ≤ e
            · exact g
            · exact absurd (he ▸ Nat.dvd_mul_left e d : e ∣ n) (I.low e he2 (by omega))
          have := Nat.mul_le_mul hd hep
          omega
        constructor
        · intro hq
          rcases List.mem_append.mp hq with g | g
          · exact I.fnd q g
          · rw [List.mem_singleton.mp g]; exact ⟨hn, I.dv⟩
        · intro hq
          rcases I.cov q hq.1 hq.2 with g | g
          · exact List.mem_append_left _ g
          · refine List.mem_append_right _ (List.mem_singleton.mpr ?_)
            have := Nat.le_of_dvd (by omega) g
            by_cases e : q = n
            · exact e
            · exact absurd g (hn.2 q hq.1.1 (by omega))
      · rw [if_neg h1]
        refine ⟨I.fnd q, fun hq => ?_⟩
        rcases I.cov q hq.1 hq.2 with g | g
        · exact g
        · have := Nat.le_of_dvd hpos g
          have := hq.1.1
          omega
theorem mem_primes {n q : Nat} (h : 1 ≤ n) : q ∈ primes n ↔ Pr q ∧ q ∣ n :=
  prGo_ok h (n + 1) 2 n [] (by omega) ⟨h, Nat.dvd_refl n, Nat.le_refl 2, fun d a b => by omega, fun q hq => (by cases hq), fun q _ hd => .inr hd⟩ q
/-! ### repeating -/
def rep (P : Nat) (R : List Nat) (st : Nat) : Bool := decide (R.length % (P / st) = 0) && R.all fun r => decide ((r + st) % P ∈ R)
structure Ok (P : Nat) (R : List Nat) : Prop where
  pos : 1 ≤ P
  asc : R.Pairwise (· < ·)
  bd : ∀ r ∈ R, r < P
theorem Ok.nd {P : Nat} {R : List Nat} (h : Ok P R) : R.Nodup := h.asc.imp fun hab => Nat.ne_of_lt hab
/-- closed under a step -/
def Cl (P : Nat) (R : List Nat) (st : Nat) : Prop := ∀ d, d % P ∈ R → (d + st) % P ∈ R
theorem cl_of {P : Nat} {R : List Nat} {st : Nat} (h : ∀ r ∈ R, (r + st) % P ∈ R) : Cl P R st := fun d hd => by
  have := h _ hd
  rwa [Nat.mod_add_mod] at this
theorem Cl.mul {P : Nat} {R : List Nat} {st : Nat} (h : Cl P R st) : ∀ k, Cl P R (k * st)
  | 0 => fun d hd => by rwa [Nat.zero_mul, Nat.add_zero]
  | k + 1 => fun d hd => by
    have := h _ (Cl.mul h k d hd)
    rwa [Nat.add_assoc, ← Nat.succ_mul] at this
/-- membership goes by the shorter period -/
theorem cut_mem {p s : Nat} {R : List Nat} (hp : 1 ≤ p) (hs : 1 ≤ s) (hb : ∀ r ∈ R, r < p * s) (h : Cl (p * s) R s) (d : Nat) : d % s ∈ R.filter (fun r => decide (r < s)) ↔ d % (p * s) ∈ R := by
  have e1 : d % (p * s) % s = d % s := Nat.mod_mul_left_mod d p s
  have hps : 0 < p * s := Nat.mul_pos (by omega) (by omega)
  have ha : d % (p * s) < p * s := Nat.mod_lt _ hps
  generalize d % (p * s) = a at e1 ha
  rw [← e1]
  have hlt : a % s < s := Nat.mod_lt _ (by omega)
  rw [List.mem_filter, decide_eq_true_eq]
  have hdm := Nat.div_add_mod a s
  have hk : a / s < p := Nat.div_lt_of_lt_mul (by rw [Nat.mul_comm]; exact ha)
  have hble : a % s < p * s := Nat.lt_of_le_of_lt (Nat.mod_le _ _) ha
  constructor
  · rintro ⟨h1, _⟩
    have := h.mul (a / s) (a % s) (by rw [Nat.mod_eq_of_lt hble]; exact h1)
    rw [Nat.mul_comm, Nat.add_comm, hdm, Nat.mod_eq_of_lt ha] at this
    exact this
  · intro h1
    refine ⟨?_, hlt⟩
    have := h.mul (p - a / s) a (by rw [Nat.mod_eq_of_lt ha]; exact h1)
    have e2 : a + (p - a / s) * s = a % s + p * s := by
      have : (p - a / s) * s + a / s * s = p * s := by rw [← Nat.add_mul, Nat.sub_add_cancel (Nat.le_of_lt hk)]
      have : s * (a / s) = a / s * s := Nat.mul_comm _ _
      omega
    rw [e2, Nat.add_mod_right, Nat.mod_eq_of_lt hble] at this
    exact this
theorem ok_cut {p s : Nat} {R : List Nat} (h : Ok (p * s) R) (hs : 1 ≤ s) : Ok s (R.filter fun r => decide (r < s)) :=
  ⟨hs, h.asc.filter _, fun r hr => by simpa using (List.mem_filter.mp hr).2⟩
/-- how many -/
theorem len_range {P : Nat} {R : List Nat} (h : Ok P R) : R.length = ((List.range P).filter fun d => decide (d % P ∈ R)).length := by
  refine ((List.perm_ext_iff_of_nodup h.nd (List.nodup_range.filter _)).mpr fun r => ?_).length_eq
  rw [List.mem_filter, List.mem_range, decide_eq_true_eq]
  constructor
  · intro hr
    have := h.bd r hr
    exact ⟨this, by rw [Nat.mod_eq_of_lt this]; exact hr⟩
  · rintro ⟨h1, h2⟩
    rwa [Nat.mod_eq_of_lt h1] at h2
theorem count_mul (f : Nat → Bool) {s : Nat} (hf : ∀ d, f (d + s) = f d) : ∀ p, ((List.range (p * s)).filter f).length = p * ((List.range s).filter f).length
  | 0 => by simp
  | p + 1 => by
    have hk : ∀ k d, f (k * s + d) = f d := by
      intro k
      induction k with
      | zero => intro d; simp
      | succ k ih => intro d; rw [show (k + 1) * s + d = (k * s + d) + s by rw [Nat.succ_mul]; omega, hf, ih]
    rw [Nat.succ_mul, List.range_add, List.filter_append, List.length_append, count_mul f hf p, Nat.succ_mul]
    congr 1
    rw [List.filter_map, List.length_map]
    congr 1
    apply List.filter_congr
    intro d _
    exact hk p d
theorem len_cut {p s : Nat} {R : List Nat} (h : Ok (p * s) R) (hp : 1 ≤ p) (hs : 1 ≤ s) (hc : Cl (p * s) R s) : R.length = p * (R.filter fun r => decide (r < s)).length := by
  rw [len_range h, len_range (ok_cut h hs)]
  have e : ((List.range s).filter fun d => decide (d % s ∈ R.filter fun r => decide (r < s))) = (List.range s).filter fun d => decide (d % (p * s) ∈ R) := by
    apply List.filter_congr
    intro d _
    exact decide_eq_decide.mpr (cut_mem hp hs h.bd hc d)
  rw [e]
  refine count_mul _ (fun d => decide_eq_decide.mpr ⟨fun g => ?_, fun g => hc d g⟩) p
  have := (cut_mem hp hs h.bd hc (d + s)).mpr g
  rw [Nat.add_mod_right] at this
  exact (cut_mem hp hs h.bd hc d).mp this
/-! ### shrinking -/
def shGo (p P : Nat) (R : List Nat) : Nat × List Nat := if h : (2 ≤ p ∧ 1 ≤ P) ∧ P % p = 0 ∧ rep P R (P / p) = true then shGo p (P / p) (R.filter fun r => decide (r < P / p)) else (P, R)
termination_by P
decreasing_by exact Nat.div_lt_self (by omega) (by omega)
def shr (P : Nat) (R : List Nat) : Nat × List Nat := (primes P).foldl (fun s p => shGo p s.1 s.2) (P, R)
/-- p does not shrink it -/
def Stuck (p P : Nat) (R : List Nat) : Prop := ¬ (P % p = 0 ∧ rep P R (P / p) = true)
theorem rep_iff {P : Nat} {R : List Nat} {st : Nat} : rep P R st = true ↔ R.length % (P / st) = 0 ∧ ∀ r ∈ R, (r + st) % P ∈ R := by
  unfold rep
  rw [Bool.and_eq_true, decide_eq_true_eq, List.all_eq_true]
  simp only [decide_eq_true_eq]
/-- one shrinking keeps all that matters -/
structure Step (P : Nat) (R : List Nat) (P' : Nat) (R' : List Nat) : Prop where
  ok : Ok P' R'
  dv : P' ∣ P
  mem : ∀ d, d % P' ∈ R' ↔ d % P ∈ R
  stuck : ∀ q, 2 ≤ q → Stuck q P R → P' % q = 0 → Stuck q P' R'
theorem Step.refl {P : Nat} {R : List Nat} (h : Ok P R) : Step P R P R := ⟨h, Nat.dvd_refl P, fun _ => Iff.rfl, fun _ _ g _ => g⟩
theorem Step.trans {P P1 P2 : Nat} {R R1 R2 : List Nat} (h : Step P R P1 R1) (g : Step P1 R1 P2 R2) : Step P R P2 R2 :=
  ⟨g.ok, Nat.dvd_trans g.dv h.dv, fun d => (g.mem d).trans (h.mem d), fun q q2 s m => g.stuck q q2 (h.stuck q q2 s (Nat.mod_eq_zero_of_dvd (Nat.dvd_trans (Nat.dvd_of_mod_eq_zero m) g.dv))) m⟩
theorem step_one {p P : Nat} {R : List Nat} (h : Ok P R) (hp : 2 ≤ p) (hm : P % p = 0) (hr : rep P R (P / p) = true) : Step P R (P / p) (R.filter fun r => decide (r < P / p)) := by
  obtain ⟨s, rfl⟩ := Nat.dvd_of_mod_eq_zero hm
  have hpos := h.pos
  have hs : 1 ≤ s := by
    rcases Nat.eq_zero_or_pos s with z | z
    · subst z; simp at hpos
    · exact z
  rw [Nat.mul_div_cancel_left s (by omega)] at hr ⊢
  have hc : Cl (p * s) R s := cl_of (rep_iff.mp hr).2
  refine ⟨ok_cut h hs, Nat.dvd_mul_left s p, fun d => cut_mem (by omega) hs h.bd hc d, fun q q2 g m z => g ⟨?_, ?_⟩⟩
  · exact Nat.mod_eq_zero_of_dvd (Nat.dvd_trans (Nat.dvd_of_mod_eq_zero m) (Nat.dvd_mul_left s p))
  · obtain ⟨t, rfl⟩ := Nat.dvd_of_mod_eq_zero m
    have hq0 : 0 < q := by omega
    have ht : 1 ≤ t := by
      rcases Nat.eq_zero_or_pos t with z | z
      · subst z; simp at hs
      · exact z
    obtain ⟨_, z2⟩ := z
    rw [Nat.mul_div_cancel_left t hq0] at z2
    rw [rep_iff, Nat.mul_div_cancel _ (by omega : 0 < t)] at z2
    have e1 : p * (q * t) / q = p * t := by
      rw [show p * (q * t) = q * (p * t) by rw [Nat.mul_left_comm]]
      exact Nat.mul_div_cancel_left _ hq0
    rw [e1, rep_iff]
    constructor
    · rw [show p * (q * t) = q * (p * t) by rw [Nat.mul_left_comm], Nat.mul_div_cancel _ (Nat.mul_pos (by omega) (by omega) : 0 < p * t)]
      rw [len_cut h (by omega) hs hc]
      exact Nat.mod_eq_zero_of_dvd (Nat.dvd_trans (Nat.dvd_of_mod_eq_zero z2.1) (Nat.dvd_mul_left _ p))
    · intro r hr2
      have hc2 : Cl (q * t) (R.filter fun r => decide (r < q * t)) t := cl_of z2.2
      have hrm : r % (p * (q * t)) ∈ R := by rw [Nat.mod_eq_of_lt (h.bd r hr2)]; exact hr2
      have := hc2.mul p r ((cut_mem (by omega) hs h.bd hc r).mpr hrm)
      exact (cut_mem (by omega) hs h.bd hc _).mp this
theorem shGo_ok {p : Nat} (hp : 2 ≤ p) : ∀ {P : Nat} {R : List Nat}, Ok P R → Step P R (shGo p P R).1 (shGo p P R).2 ∧ Stuck p (shGo p P R).1 (shGo p P R).2 := by
  intro P
  induction P using Nat.strongRecOn with
  | ind P ih =>
    intro R h
    rw [shGo]
    split
    · next g =>
      have s1 := step_one h hp g.2.1 g.2.2
      have := ih (P / p) (Nat.div_lt_self (by omega) (by omega)) s1.ok
      exact ⟨s1.trans this.1, this.2⟩
    · next g => exact ⟨Step.refl h, fun z => g ⟨⟨hp, h.pos⟩, z⟩⟩
theorem fold_ok : ∀ (l : List Nat), (∀ p ∈ l, 2 ≤ p) → ∀ {P : Nat} {R : List Nat}, Ok P R →
    Step P R (l.foldl (fun s p => shGo p s.1 s.2) (P, R)).1 (l.foldl (fun s p => shGo p s.1 s.2) (P, R)).2 ∧ ∀ q ∈ l, (l.foldl (fun s p => shGo p s.1 s.2) (P, R)).1 % q = 0 → Stuck q (l.foldl (fun s p => shGo p s.1 s.2) (P, R)).1 (l.foldl (fun s p => shGo p s.1 s.2) (P, R)).2
  | [], _, P, R, h => ⟨Step.refl h, fun q hq => by cases hq⟩
  | p :: l, hl, P, R, h => by
    have hp := hl p List.mem_cons_self
    obtain ⟨a, b⟩ := shGo_ok hp h
    obtain ⟨c, d⟩ := fold_ok l (fun q hq => hl q (List.mem_cons_of_mem _ hq)) a.ok
    rw [List.foldl_cons]
    refine ⟨a.trans c, fun q hq m => ?_⟩
    rcases List.mem_cons.mp hq with rfl | hq
    · exact c.stuck q hp b m
    · exact d q hq m
theorem shr_ok {P : Nat} {R : List Nat} (h : Ok P R) : Step P R (shr P R).1 (shr P R).2 ∧ ∀ q, Pr q → q ∣ (shr P R).1 → Stuck q (shr P R).1 (shr P R).2 := by
  obtain ⟨a, b⟩ := fold_ok (primes P) (fun p hp => ((mem_primes h.pos).mp hp).1.1) h
  exact ⟨a, fun q hq hd => b q ((mem_primes h.pos).mpr ⟨hq, Nat.dvd_trans hd a.dv⟩) (Nat.mod_eq_zero_of_dvd hd)⟩
theorem shGo_stuck {p P : Nat} {R : List Nat} (h : Stuck p P R) : shGo p P R = (P, R) := by
  rw [shGo, dif_neg (fun z => h z.2)]
theorem fold_stuck {P : Nat} {R : List Nat} : ∀ l : List Nat, (∀ q ∈ l, Stuck q P R) → l.foldl (fun s p => shGo p s.1 s.2) (P, R) = (P, R)
  | [], _ => rfl
  | p :: l, h => by
    rw [List.foldl_cons, shGo_stuck (h p List.mem_cons_self)]
    exact fold_stuck l fun q hq => h q (List.mem_cons_of_mem _ hq)
/-- shrinking once is enough -/
theorem shr_idem {P : Nat} {R : List Nat} (h : Ok P R) : shr (shr P R).1 (shr P R).2 = shr P R := by
  obtain ⟨a, b⟩ := shr_ok h
  exact fold_stuck _ fun q hq => by
    obtain ⟨c, d⟩ := (mem_primes a.ok.pos).mp hq
    exact b q c d
end Per
/-! patterns of pieces, tidied, in plain -/
namespace Per
abbrev Piece := Nat × Nat × List Nat
def POk (p : Piece) : Prop := Ok p.2.1 p.2.2
def tidStep (acc : List Piece) (p : Piece) : List Piece := if acc.getLast?.map (·.2) = some (shr p.2.1 p.2.2) then acc else acc ++ [(p.1, shr p.2.1 p.2.2)]
def tid (ps : List Piece) : List Piece := ps.foldl tidStep []
theorem tid_snoc (ps : List Piece) (p : Piece) : tid (ps ++ [p]) = tidStep (tid ps) p := by
  unfold tid; rw [List.foldl_append]; rfl
/-- is the day in -/
def inStep (d : Nat) (f : Bool) (p : Piece) : Bool := if p.1 ≤ d then decide (d % p.2.1 ∈ p.2.2) else f
def inP (ps : List Piece) (d : Nat) : Bool := ps.foldl (inStep d) false
theorem inP_snoc (ps : List Piece) (p : Piece) (d : Nat) : inP (ps ++ [p]) d = inStep d (inP ps d) p := by
  unfold inP; rw [List.foldl_append]; rfl
theorem inP_at {ps : List Piece} {d k : Nat} {p : Piece} (h : ps[k]? = some p) (hp : p.1 ≤ d) (hno : ∀ j q, k < j → ps[j]? = some q → d < q.1) : inP ps d = decide (d % p.2.1 ∈ p.2.2) := by
  have hk : k < ps.length := (List.getElem?_eq_some_iff.mp h).1
  have e : ps = ps.take k ++ (p :: ps.drop (k + 1)) := by
    rw [show p = ps[k] from ((List.getElem?_eq_some_iff.mp h).2).symm, List.getElem_cons_drop, List.take_append_drop]
  have key : ∀ (l : List Piece) (f : Bool), (∀ q ∈ l, d < q.1) → l.foldl (inStep d) f = f := by
    intro l
    induction l with
    | nil => intro f _; rfl
    | cons q l ih =>
      intro f hq
      rw [List.foldl_cons]
      have : inStep d f q = f := if_neg (by have := hq q List.mem_cons_self; omega)
      rw [this]
      exact ih f fun x hx => hq x (List.mem_cons_of_mem _ hx)
  unfold inP
  rw [e, List.foldl_append, List.foldl_cons, key _ _ fun q hq => ?_]
  · exact if_pos hp
  · obtain ⟨j, hj⟩ := List.getElem?_of_mem hq
    rw [List.getElem?_drop] at hj
    exact hno (k + 1 + j) q (by omega) hj
/-- starts ascend -/
def Asc (ps : List Piece) : Prop := ps.Pairwise fun p q => p.1 < q.1
structure Tid (ps ts : List Piece) : Prop where
  ok : ∀ t ∈ ts, POk t
  fix : ∀ t ∈ ts, shr t.2.1 t.2.2 = t.2
  adj : ∀ (i : Nat) (p q : Piece), ts[i]? = some p → ts[i + 1]? = some q → p.2 ≠ q.2
  asc : Asc ts
  from_ : ∀ t ∈ ts, ∃ p ∈ ps, t.1 = p.1 ∧ t.2.1 ≤ p.2.1 ∧ t.2.2.length ≤ p.2.2.length
  head : ts.head?.map (·.1) = ps.head?.map (·.1)
  same : ∀ d, inP ts d = inP ps d
  len : ts.length ≤ ps.length
theorem filter_len {α : Type} (f : α → Bool) (l : List α) : (l.filter f).length ≤ l.length := List.length_filter_le f l
theorem shGo_len (p : Nat) : ∀ (P : Nat) (R : List Nat), (shGo p P R).2.length ≤ R.length := by
  intro P
  induction P using Nat.strongRecOn with
  | ind P ih =>
    intro R
    rw [shGo]
    split
    · next g => exact Nat.le_trans (ih (P / p) (Nat.div_lt_self (by omega) (by omega)) _) (filter_len _ _)
    · exact Nat.le_refl _
theorem fold_len : ∀ (l : List Nat) (s : Nat × List Nat), (l.foldl (fun s p => shGo p s.1 s.2) s).2.length ≤ s.2.length
  | [], _ => Nat.le_refl _
  | p :: l, s => Nat.le_trans (fold_len l _) (shGo_len p s.1 s.2)
theorem shr_len (P : Nat) (R : List Nat) : (shr P R).2.length ≤ R.length := fold_len _ _
theorem last_at {α : Type} (l : List α) : l.getLast? = l[l.length - 1]? := List.getLast?_eq_getElem? 
theorem tid_ok : ∀ (ps : List Piece), (∀ p ∈ ps, POk p) → Asc ps → Tid ps (tid ps) := by
  intro ps
  have main : ∀ n, n ≤ ps.length → (∀ p ∈ ps, POk p) → Asc ps → Tid (ps.take n) (tid (ps.take n)) := by
    intro n
    induction n with
    | zero =>
      intro _ _ _
      rw [List.take_zero]
      exact ⟨fun _ h => (by cases h), fun _ h => (by cases h), fun i p q h => (by simp [tid] at h), List.Pairwise.nil, fun _ h => (by cases h), rfl, fun _ => rfl, Nat.le_refl _⟩
    | succ n ih =>
      intro hn ho ha
      have I := ih (by omega) ho ha
      have hlt : n < ps.length := by omega
      have et : ps.take (n + 1) = ps.take n ++ [ps[n]] := (List.take_append_getElem hlt).symm
      have hp := ho ps[n] (List.getElem_mem hlt)
      obtain ⟨st, sk⟩ := shr_ok hp
      have hbelow : ∀ t ∈ tid (ps.take n), t.1 < ps[n].1 := by
        intro t ht
        obtain ⟨p, hp, e, _⟩ := I.from_ t ht
        rw [e]
        have h2 := ha
        rw [Asc, ← List.take_append_drop n ps, List.pairwise_append] at h2
        exact h2.2.2 p hp _ (by rw [List.drop_eq_getElem_cons hlt]; exact List.mem_cons_self)
      have hle : (shr ps[n].2.1 ps[n].2.2).1 ≤ ps[n].2.1 := Nat.le_of_dvd hp.pos st.dv
      rw [et, tid_snoc]
      generalize ps[n] = p at *
      generalize ps.take n = pre at *
      unfold tidStep
      split
      · next h =>
        obtain ⟨t, ht, e⟩ : ∃ t, (tid pre).getLast? = some t ∧ t.2 = shr p.2.1 p.2.2 := by
          cases hg : (tid pre).getLast? with
          | none => rw [hg] at h; cases h
          | some t => rw [hg] at h; exact ⟨t, rfl, Option.some.inj h⟩
        have htm := List.mem_of_getLast? ht
        refine ⟨I.ok, I.fix, I.adj, I.asc, fun t ht => ?_, ?_, fun d => ?_, by rw [List.length_append]; have := I.len; omega⟩
        · obtain ⟨q, hq, r⟩ := I.from_ t ht
          exact ⟨q, List.mem_append_left _ hq, r⟩
        · rw [I.head]
          cases pre with
          | nil => simp [tid] at ht
          | cons x xs => rfl
        · rw [inP_snoc, ← I.same]
          unfold inStep
          split
          · next hd =>
            have hb := hbelow t htm
            rw [last_at] at ht
            rw [inP_at ht (by omega) fun j q hj hq => ?_]
            · rw [e]
              exact decide_eq_decide.mpr (st.mem d)
            · have := (List.getElem?_eq_some_iff.mp hq).1
              have := (List.getElem?_eq_some_iff.mp ht).1
              omega
          · rfl
      · next h =>
        refine ⟨fun t ht => ?_, fun t ht => ?_, fun i x y hx hy => ?_, ?_, fun t ht => ?_, ?_, fun d => ?_, by rw [List.length_append, List.length_append]; have := I.len; simp; omega⟩
        · rcases List.mem_append.mp ht with ht | ht
          · exact I.ok t ht
          · rw [List.mem_singleton.mp ht]; exact st.ok
        · rcases List.mem_append.mp ht with ht | ht
          · exact I.fix t ht
          · rw [List.mem_singleton.mp ht]; exact shr_idem hp
        · by_cases hi : i + 1 < (tid pre).length
          · rw [List.getElem?_append_left (by omega)] at hx
            rw [List.getElem?_append_left hi] at hy
            exact I.adj i x y hx hy
          · have hy2 := (List.getElem?_eq_some_iff.mp hy).1
            rw [List.length_append, List.length_singleton] at hy2
            have hi2 : i + 1 = (tid pre).length := by omega
            rw [List.getElem?_append_right (by omega), hi2, Nat.sub_self] at hy
            cases hy
            rw [List.getElem?_append_left (by omega)] at hx
            intro e
            refine h ?_
            rw [last_at, show (tid pre).length - 1 = i by omega, hx]
            exact congrArg some e
        · rw [Asc, List.pairwise_append]
          exact ⟨I.asc, List.pairwise_singleton _ _, fun x hx y hy => by rw [List.mem_singleton.mp hy]; exact hbelow x hx⟩
        · rcases List.mem_append.mp ht with ht | ht
          · obtain ⟨q, hq, r⟩ := I.from_ t ht
            exact ⟨q, List.mem_append_left _ hq, r⟩
          · rw [List.mem_singleton.mp ht]
            exact ⟨p, List.mem_append_right _ List.mem_cons_self, rfl, hle, shr_len _ _⟩
        · cases pre with
          | nil => rfl
          | cons x xs =>
            have := I.head
            cases ht : tid (x :: xs) with
            | nil => rw [ht] at this; cases this
            | cons y ys => rw [ht] at this; exact this
        · rw [inP_snoc, inP_snoc, ← I.same]
          unfold inStep
          split
          · exact decide_eq_decide.mpr (st.mem d)
          · rfl
  intro ho ha
  have := main ps.length (Nat.le_refl _) ho ha
  rwa [List.take_length] at this
/-- what is tidy stays -/
theorem tid_fix : ∀ (ts : List Piece), (∀ t ∈ ts, shr t.2.1 t.2.2 = t.2) → (∀ (i : Nat) (p q : Piece), ts[i]? = some p → ts[i + 1]? = some q → p.2 ≠ q.2) → tid ts = ts := by
  intro ts hf ha
  have main : ∀ n, n ≤ ts.length → tid (ts.take n) = ts.take n := by
    intro n
    induction n with
    | zero => intro _; rfl
    | succ n ih =>
      intro hn
      have hlt : n < ts.length := by omega
      have et : ts.take (n + 1) = ts.take n ++ [ts[n]] := (List.take_append_getElem hlt).symm
      rw [et, tid_snoc, ih (by omega)]
      unfold tidStep
      rw [hf _ (List.getElem_mem hlt), if_neg]
      intro e
      rw [last_at, List.length_take, Nat.min_eq_left (by omega)] at e
      cases n with
      | zero => simp at e
      | succ m =>
        rw [Nat.add_sub_cancel, List.getElem?_take_of_lt (by omega), List.getElem?_eq_getElem (by omega)] at e
        exact ha m _ _ (List.getElem?_eq_getElem (by omega)) (List.getElem?_eq_getElem hlt) (Option.some.inj e)
  have := main ts.length (Nat.le_refl _)
  rwa [List.take_length] at this
theorem tid_idem {ps : List Piece} (h : ∀ p ∈ ps, POk p) (a : Asc ps) : tid (tid ps) = tid ps := tid_fix _ (tid_ok ps h a).fix (tid_ok ps h a).adj
end Per
/-! zones of eras, pages of months, in plain -/
namespace Zn
abbrev Z := List (Int × Int)
def offStep (d f : Int) (e : Int × Int) : Int := if e.1 ≤ d then e.2 else f
def off (zs : Z) (d : Int) : Int := zs.foldl (offStep d) (zs.headD (0, 0)).2
def beg (zs : Z) (d : Int) : Int := 1440 * d - off zs d
theorem off_snoc {zs : Z} (h : zs ≠ []) (e : Int × Int) (d : Int) : off (zs ++ [e]) d = offStep d (off zs d) e := by
  unfold off
  rw [List.foldl_append]
  cases zs with
  | nil => exact absurd rfl h
  | cons x xs => rfl
structure Gd (zs : Z) (F O : Int) : Prop where
  ne : zs ≠ []
  last : ∀ d, F ≤ d → off zs d = O
  jump : ∀ d, -700 ≤ off zs (d + 1) - off zs d ∧ off zs (d + 1) - off zs d ≤ 700
  bd : ∀ d, -1440 < off zs d ∧ off zs d < 1440
theorem Gd.start {o : Int} (h : -1440 < o ∧ o < 1440) : Gd [(0, o)] 0 o := by
  have e : ∀ d, off [(0, o)] d = o := fun d => by
    show (if (0 : Int) ≤ d then o else o) = o
    split <;> rfl
  refine ⟨by simp, fun d _ => e d, fun d => by rw [e, e]; omega, fun d => by rw [e]; exact h⟩
theorem Gd.snoc {zs : Z} {F O f o : Int} (g : Gd zs F O) (h1 : F < f) (h2 : -700 ≤ o - O ∧ o - O ≤ 700) (h3 : -1440 < o ∧ o < 1440) : Gd (zs ++ [(f, o)]) f o := by
  have e : ∀ d, off (zs ++ [(f, o)]) d = if f ≤ d then o else off zs d := fun d => off_snoc g.ne _ d
  refine ⟨by simp, fun d h => by rw [e, if_pos h], fun d => ?_, fun d => ?_⟩
  · rw [e, e]
    by_cases c : f ≤ d
    · rw [if_pos c, if_pos (by omega)]; omega
    · rw [if_neg c]
      by_cases c2 : f ≤ d + 1
      · rw [if_pos c2, g.last d (by omega)]; exact h2
      · rw [if_neg c2]; exact g.jump d
  · rw [e]
    split
    · exact h3
    · exact g.bd d
structure Ok (zs : Z) : Prop where
  ne : zs ≠ []
  bd : ∀ d, -1440 < off zs d ∧ off zs d < 1440
  inc : ∀ d, beg zs d + 740 ≤ beg zs (d + 1) ∧ beg zs (d + 1) ≤ beg zs d + 2140
theorem Gd.ok {zs : Z} {F O : Int} (g : Gd zs F O) : Ok zs := ⟨g.ne, g.bd, fun d => by
  have := g.jump d
  unfold beg
  omega⟩
theorem Ok.mono {zs : Z} (h : Ok zs) {a b : Int} (hab : a < b) : beg zs a < beg zs b := by
  obtain ⟨n, rfl⟩ : ∃ n : Nat, b = a + (n + 1 : Nat) := ⟨(b - a - 1).toNat, by omega⟩
  clear hab
  induction n with
  | zero => have := (h.inc a).1; rw [show a + ((0 + 1 : Nat) : Int) = a + 1 by omega]; omega
  | succ n ih =>
    have := (h.inc (a + (n + 1 : Nat))).1
    rw [show a + ((n + 1 + 1 : Nat) : Int) = a + ((n + 1 : Nat) : Int) + 1 by omega]
    omega
def At (zs : Z) (m d : Int) : Prop := beg zs d ≤ m ∧ m < beg zs (d + 1)
theorem Ok.uniq {zs : Z} (h : Ok zs) {m a b : Int} (h1 : At zs m a) (h2 : At zs m b) : a = b := by
  rcases Int.lt_trichotomy a b with c | c | c
  · have : beg zs (a + 1) ≤ beg zs b := by
      by_cases e : a + 1 = b
      · rw [e]; exact Int.le_refl _
      · exact Int.le_of_lt (h.mono (by omega))
    have := h1.2; have := h2.1; omega
  · exact c
  · have : beg zs (b + 1) ≤ beg zs a := by
      by_cases e : b + 1 = a
      · rw [e]; exact Int.le_refl _
      · exact Int.le_of_lt (h.mono (by omega))
    have := h2.2; have := h1.1; omega
theorem Ok.day {zs : Z} (h : Ok zs) {m d : Int} (g : At zs m d) : 1440 * d ≤ m + 1439 ∧ m - 2879 ≤ 1440 * d ∧ 0 ≤ m - beg zs d ∧ m - beg zs d < 2140 := by
  have h1 := h.bd d
  have h2 := h.bd (d + 1)
  have h3 := (h.inc d).2
  have h4 := g.1
  have h5 := g.2
  unfold beg at *
  omega
end Zn
namespace Pg
open Wd
/-- the signs behind which goes holds to the end, cut -/
def rsb (goes : Nat → Bool) (l : W) : W := l.take (l.length - (l.reverse.takeWhile goes).length)
def rs (l : W) : W := rsb (· == 32) l
theorem rs_sp (l : W) : rs (l ++ [32]) = rs l := by
  unfold rs rsb
  have e : (l ++ [32]).reverse = 32 :: l.reverse := by simp
  rw [e, List.takeWhile_cons, if_pos (by decide), List.length_append, List.length_singleton, List.length_cons]
  have hle : (l.reverse.takeWhile (· == 32)).length ≤ l.length := by
    have := (List.takeWhile_prefix (l := l.reverse) (p := (· == 32))).length_le
    rwa [List.length_reverse] at this
  rw [show l.length + 1 - ((l.reverse.takeWhile (· == 32)).length + 1) = l.length - (l.reverse.takeWhile (· == 32)).length by omega]
  exact List.take_append_of_le_length (by omega)
theorem takeWhile_congr {f g : Nat → Bool} : ∀ {l : W}, (∀ c ∈ l, f c = g c) → l.takeWhile f = l.takeWhile g
  | [], _ => rfl
  | c :: l, h => by
    rw [List.takeWhile_cons, List.takeWhile_cons, h c List.mem_cons_self, takeWhile_congr fun x hx => h x (List.mem_cons_of_mem _ hx)]
theorem rsb_congr {f g : Nat → Bool} {l : W} (h : ∀ c ∈ l, f c = g c) : rsb f l = rsb g l := by
  unfold rsb
  rw [takeWhile_congr (f := f) (g := g) fun c hc => h c (List.mem_reverse.mp hc)]
/-- the law's row: each cell with a blank behind it -/
def flat (cs : List W) : W := (cs.map (· ++ [32])).flatten
theorem flat_snoc (cs : List W) (c : W) : flat (cs ++ [c]) = flat cs ++ (c ++ [32]) := by
  unfold flat
  rw [List.map_append, List.flatten_append]; simp
theorem flat_txt : ∀ {cs : List W}, cs ≠ [] → flat cs = txt cs ++ [32]
  | [c], _ => by unfold flat txt; simp [TL.joinL]
  | c :: d :: r, _ => by
    have ih := flat_txt (cs := d :: r) (by simp)
    have e1 : flat (c :: d :: r) = c ++ [32] ++ flat (d :: r) := by unfold flat; simp
    have e2 : txt (c :: d :: r) = c ++ ([32] ++ txt (d :: r)) := rfl
    rw [e1, e2, ih]; simp
theorem rs_flat {cs : List W} (h : cs ≠ []) : rs (flat cs) = rs (txt cs) := by rw [flat_txt h, rs_sp]
/-- the weeks of a month, cell by cell -/
def wk (cell : Nat → W) (s : List W × List W) (k : Nat) : List W × List W :=
  if (s.2 ++ [cell k]).length = 7 then (s.1 ++ [rs (txt (s.2 ++ [cell k]))], []) else (s.1, s.2 ++ [cell k])
def wks (cell : Nat → W) (bl : List W) (n : Nat) : List W × List W := (List.range n).foldl (wk cell) ([], bl)
theorem wks_succ (cell : Nat → W) (bl : List W) (n : Nat) : wks cell bl (n + 1) = wk cell (wks cell bl n) n := by
  unfold wks
  rw [List.range_succ, List.foldl_append]; rfl
def fin (s : List W × List W) : List W := if s.2 = [] then s.1 else s.1 ++ [rs (txt s.2)]
def blanks (f : Int) : List W := List.replicate (f % 7).toNat [32, 32, 32]
theorem wks_len (cell : Nat → W) (f : Int) : ∀ n, ((wks cell (blanks f) n).2.length : Int) = (f + n) % 7
  | 0 => by
    show ((blanks f).length : Int) = _
    unfold blanks
    rw [List.length_replicate]; omega
  | n + 1 => by
    have ih := wks_len cell f n
    rw [wks_succ]
    unfold wk
    split
    · next h =>
      rw [List.length_append, List.length_singleton] at h
      show ((0 : Nat) : Int) = _
      omega
    · next h =>
      rw [List.length_append, List.length_singleton] at h
      show (((wks cell (blanks f) n).2 ++ [cell n]).length : Int) = _
      rw [List.length_append, List.length_singleton]
      omega
def title (m : Int) : W := MO.getD (m % 12).toNat [] ++ 32 :: TL.numL (m / 12 + 1).toNat
def HEAD : W := [109, 111, 32, 32, 116, 117, 32, 32, 119, 101, 32, 32, 116, 104, 32, 32, 102, 114, 32, 32, 115, 97, 32, 32, 115, 117]
theorem head_rs : rs (txt (WD.map fun z => z.take 2 ++ [32])) = HEAD := by decide +kernel
def cellT (k : Nat) (b : Bool) : W := List.replicate (2 - (TL.numL k).length) 32 ++ TL.numL k ++ [if b = true then 42 else 32]
def Plain (l : W) : Prop := ∀ c ∈ l, c = 32 ∨ (33 ≤ c ∧ c < 128)
theorem cellT_plain (k : Nat) (b : Bool) : Plain (cellT k b) := fun c hc => by
  unfold cellT at hc
  rcases List.mem_append.mp hc with hc | hc
  · rcases List.mem_append.mp hc with hc | hc
    · exact .inl (List.mem_replicate.mp hc).2
    · have := TL.numL_digits k c hc; omega
  · have := List.mem_singleton.mp hc
    cases b <;> simp at this <;> omega
theorem cellT_len {k : Nat} (b : Bool) (h : k < 100) : (cellT k b).length = 3 := by
  unfold cellT
  have h1 := TL.numL_len (k := 2) (by decide) h
  rw [List.length_append, List.length_append, List.length_replicate, List.length_singleton]
  omega
theorem txt_plain : ∀ {cs : List W}, (∀ c ∈ cs, Plain c) → Plain (txt cs)
  | [], _ => fun c hc => by cases hc
  | [w], h => h w List.mem_cons_self
  | w :: v :: r, h => fun c hc => by
    have hc : c ∈ w ++ ([32] ++ txt (v :: r)) := hc
    rcases List.mem_append.mp hc with hc | hc
    · exact h w List.mem_cons_self c hc
    · rcases List.mem_append.mp hc with hc | hc
      · exact .inl (List.mem_singleton.mp hc)
      · exact txt_plain (fun x hx => h x (List.mem_cons_of_mem _ hx)) c hc
structure Wks (s : List W × List W) (n : Nat) : Prop where
  cells : ∀ c ∈ s.2, Plain c ∧ c.length = 3
  few : s.2.length < 7
  lines : s.1.length ≤ n
  llen : ∀ l ∈ s.1, l.length ≤ 28
theorem rs_len (l : W) : (rs l).length ≤ l.length := by
  unfold rs rsb
  rw [List.length_take]
  exact Nat.min_le_right _ _
theorem txt_len3 : ∀ {cs : List W}, (∀ c ∈ cs, c.length = 3) → (txt cs).length ≤ 4 * cs.length
  | [], _ => by simp [txt, TL.joinL]
  | [w], h => by
    have := h w List.mem_cons_self
    show w.length ≤ _
    simp; omega
  | w :: v :: r, h => by
    have h1 := h w List.mem_cons_self
    have ih := txt_len3 (cs := v :: r) fun x hx => h x (List.mem_cons_of_mem _ hx)
    show (w ++ ([32] ++ txt (v :: r))).length ≤ _
    rw [List.length_append, List.length_append, List.length_singleton, List.length_cons]
    omega
theorem wks_ok {cell : Nat → W} (hc : ∀ k, k < 40 → Plain (cell k) ∧ (cell k).length = 3) (f : Int) : ∀ n, n ≤ 40 → Wks (wks cell (blanks f) n) n
  | 0, _ => by
    refine ⟨fun c hc => ?_, ?_, Nat.le_refl _, fun l hl => by cases hl⟩
    · have := (List.mem_replicate.mp hc).2
      subst this
      exact ⟨fun c hc => by simp at hc; exact .inl hc, rfl⟩
    · show (List.replicate _ _).length < 7
      rw [List.length_replicate]; omega
  | n + 1, hn => by
    have I := wks_ok hc f n (by omega)
    obtain ⟨h1, h2⟩ := hc n (by omega)
    have hcs : ∀ c ∈ (wks cell (blanks f) n).2 ++ [cell n], Plain c ∧ c.length = 3 := fun c hc => by
      rcases List.mem_append.mp hc with hc | hc
      · exact I.cells c hc
      · rw [List.mem_singleton.mp hc]; exact ⟨h1, h2⟩
    rw [wks_succ]
    unfold wk
    split
    · next h =>
      refine ⟨fun c hc => (by cases hc), (by show 0 < 7; decide), ?_, fun l hl => ?_⟩
      · show ((wks cell (blanks f) n).1 ++ [_]).length ≤ n + 1
        rw [List.length_append, List.length_singleton]
        have := I.lines; omega
      · rcases List.mem_append.mp hl with hl | hl
        · exact I.llen l hl
        · rw [List.mem_singleton.mp hl]
          have h3 := txt_len3 fun c hc => (hcs c hc).2
          rw [h] at h3
          exact Nat.le_trans (rs_len _) h3
    · next h =>
      refine ⟨hcs, ?_, Nat.le_trans I.lines (Nat.le_succ n), I.llen⟩
      show ((wks cell (blanks f) n).2 ++ [cell n]).length < 7
      have := I.few
      rw [List.length_append, List.length_singleton] at h ⊢
      omega
end Pg
namespace Pg
open Wd
/-- a moment's text -/
def mtx (d mo k : Int) : W := Dg.dw d mo ++ 32 :: Dg.mw k
def MT (zs : Zn.Z) (m : Int) (t : W) : Prop := ∃ d mo, Zn.At zs m d ∧ Civ.IsM d mo ∧ t = mtx d mo (m - Zn.beg zs d)
theorem MT.uniq {zs : Zn.Z} (h : Zn.Ok zs) {m : Int} {t u : W} (h1 : MT zs m t) (h2 : MT zs m u) : t = u := by
  obtain ⟨d, mo, a1, a2, rfl⟩ := h1
  obtain ⟨e, no, b1, b2, rfl⟩ := h2
  have := h.uniq a1 b1
  subst this
  have := Civ.IsM.uniq a2 b2
  subst this
  rfl
theorem MT.len {zs : Zn.Z} {m : Int} {t : W} (h : MT zs m t) : t.length = 16 := by
  obtain ⟨d, mo, _, _, rfl⟩ := h
  unfold mtx
  rw [List.length_append, Dg.dw_len, List.length_cons, Dg.mw_len]
abbrev Row := Int × Int × Option (W × W × W)
def what : Option (W × W × W) → W
  | none => [98, 117, 115, 121]
  | some (_, y, z) => y ++ 32 :: z
def RT (zs : Zn.Z) (r : Row) (t : W) : Prop := ∃ u, MT zs r.1 u ∧ t = u ++ 32 :: (TL.numL (r.2.1 - r.1).toNat ++ 32 :: what r.2.2)
theorem RT.uniq {zs : Zn.Z} (h : Zn.Ok zs) {r : Row} {t u : W} (h1 : RT zs r t) (h2 : RT zs r u) : t = u := by
  obtain ⟨x, a, rfl⟩ := h1
  obtain ⟨y, b, rfl⟩ := h2
  rw [a.uniq h b]
def RTs (zs : Zn.Z) (rs : List Row) (ts : List W) : Prop := ts.length = rs.length ∧ ∀ (i : Nat) (r : Row) (t : W), rs[i]? = some r → ts[i]? = some t → RT zs r t
theorem RTs.uniq {zs : Zn.Z} (h : Zn.Ok zs) {rs : List Row} {ts us : List W} (h1 : RTs zs rs ts) (h2 : RTs zs rs us) : ts = us := by
  apply List.ext_getElem?
  intro i
  by_cases hi : i < rs.length
  · have l1 : i < ts.length := by rw [h1.1]; exact hi
    have l2 : i < us.length := by rw [h2.1]; exact hi
    have e1 : ts[i]? = some ts[i] := List.getElem?_eq_getElem l1
    have e2 : us[i]? = some us[i] := List.getElem?_eq_getElem l2
    rw [e1, e2]
    exact congrArg some ((h1.2 i _ _ (List.getElem?_eq_getElem hi) e1).uniq h (h2.2 i _ _ (List.getElem?_eq_getElem hi) e2))
  · rw [List.getElem?_eq_none (by rw [h1.1]; omega), List.getElem?_eq_none (by rw [h2.1]; omega)]
theorem RTs.snoc {zs : Zn.Z} {rs : List Row} {ts : List W} {r : Row} {t : W} (h : RTs zs rs ts) (g : RT zs r t) : RTs zs (rs ++ [r]) (ts ++ [t]) := by
  refine ⟨by rw [List.length_append, List.length_append, h.1]; rfl, fun i x y hx hy => ?_⟩
  by_cases hi : i < rs.length
  · rw [List.getElem?_append_left hi] at hx
    rw [List.getElem?_append_left (by rw [h.1]; exact hi)] at hy
    exact h.2 i x y hx hy
  · have h1 := (List.getElem?_eq_some_iff.mp hx).1
    rw [List.length_append, List.length_singleton] at h1
    have e : i = rs.length := by omega
    subst e
    rw [List.getElem?_append_right (Nat.le_refl _), Nat.sub_self] at hx
    rw [List.getElem?_append_right (by rw [h.1]; exact Nat.le_refl _), h.1, Nat.sub_self] at hy
    cases hx; cases hy; exact g
/-- the pieces of a pattern from a day on -/
def fdp (s P : Nat) (R : List Nat) : List Per.Piece := if s = 0 then [(0, P, R)] else [(0, 1, []), (s, P, R)]
theorem shr1 : Per.shr 1 [] = (1, []) := by
  refine Per.fold_stuck _ fun q hq => ?_
  have := (Per.mem_primes (Nat.le_refl 1)).mp hq
  have h1 := this.1.1
  have h2 := Nat.le_of_dvd (by decide) this.2
  omega
theorem shrOne {P r : Nat} (hP : 1 ≤ P) : Per.shr P [r] = (P, [r]) := by
  refine Per.fold_stuck _ fun q hq => ?_
  obtain ⟨h1, h2⟩ := (Per.mem_primes hP).mp hq
  intro z
  have h3 := (Per.rep_iff.mp z.2).1
  obtain ⟨t, rfl⟩ := h2
  have hq0 : 0 < q := by have := h1.1; omega
  rw [Nat.mul_div_cancel_left t hq0, Nat.mul_div_cancel _ (by
    rcases Nat.eq_zero_or_pos t with c | c
    · subst c; simp at hP
    · exact c)] at h3
  have h4 : (1 : Nat) % q = 0 := h3
  rw [Nat.mod_eq_of_lt h1.1] at h4
  cases h4
theorem fdp_tid {s P r : Nat} (hP : 1 ≤ P) : Per.tid (fdp s P [r]) = fdp s P [r] := by
  unfold fdp
  split
  · refine Per.tid_fix _ (fun t ht => ?_) fun i p q hp hq => ?_
    · rw [List.mem_singleton.mp ht]; exact shrOne hP
    · have := (List.getElem?_eq_some_iff.mp hq).1
      simp at this
  · refine Per.tid_fix _ (fun t ht => ?_) fun i p q hp hq => ?_
    · simp only [List.mem_cons, List.not_mem_nil, or_false] at ht
      rcases ht with rfl | rfl
      · exact shr1
      · exact shrOne hP
    · have h2 := (List.getElem?_eq_some_iff.mp hq).1
      have h2 : i + 1 < 2 := h2
      have : i = 0 := by omega
      subst this
      cases hp; cases hq
      intro e
      have := congrArg Prod.snd e
      cases this
theorem fdp_in {s P r d : Nat} (h : s ≤ d) : Per.inP (fdp s P [r]) d = decide (d % P ∈ [r]) := by
  unfold fdp
  split
  · refine Per.inP_at (k := 0) (p := (0, P, [r])) rfl (Nat.zero_le d) fun j q hj hq => ?_
    have := (List.getElem?_eq_some_iff.mp hq).1
    simp at this
    omega
  · refine Per.inP_at (k := 1) (p := (s, P, [r])) rfl h fun j q hj hq => ?_
    have := (List.getElem?_eq_some_iff.mp hq).1
    simp at this
    omega
end Pg
/-! a text's end cut -/
namespace Q
open PySem PySem.Spec PyProof.Rows L2 SX
theorem stripBy_S (goes : Nat → Bool) (l : List Nat) : Txt.stripBy goes false true (S l) = S (Pg.rsb goes l) := by
  rw [stripBy_eq]
  have e1 : stripLo goes false (S l) = 0 := rfl
  have e2 : stripHi goes true (S l) 0 = l.length - (l.reverse.takeWhile goes).length := by
    unfold stripHi
    rw [if_pos rfl, S_len]
    rfl
  rw [e1, e2]
  refine TL.ext_tl ?_
  rw [TL.tl_strSub]
  rfl
theorem rstrip_S {l : List Nat} (h : ∀ c ∈ l, Unicode.isSpace c = (c == 32)) : Txt.rstrip (S l) = S (Pg.rs l) := by
  unfold Txt.rstrip
  rw [stripBy_S]
  unfold Pg.rs
  rw [Pg.rsb_congr h]
theorem rstripChars_S (l : List Nat) : Txt.rstripChars (S l) (S [32]) = S (Pg.rs l) := by
  unfold Txt.rstripChars
  rw [stripBy_S]
  unfold Pg.rs
  rw [Pg.rsb_congr (g := (· == 32)) fun c _ => ?_]
  show (#[32] : Array Nat).contains c = _
  simp
  rfl
theorem space_of {c : Nat} (h : c = 32 ∨ (33 ≤ c ∧ c < 128)) : Unicode.isSpace c = (c == 32) := by
  have key : ∀ c < 128, (c = 32 ∨ 33 ≤ c) → Unicode.isSpace c = (c == 32) := by decide +kernel
  exact key c (by omega) (by omega)
section
variable {K : PySem.W.Frag} {σ : L2.St} {H : Hp} {to : TE} {Q : VK}
theorem g_m0 {r : V → List V → Hp → VK → Prop} (q : to σ H fun x H1 => (∃ a, x = .str a) ∧ r x [] H1 Q) : tM0 r to σ H Q := q
end
end Q
namespace Q
open PySem PySem.Spec PyProof.Rows L2 SX
/-! own words: ne (two addresses differ), hp (what stands at an address), sd (a side), go (a reading, straight on) -/
local macro_rules | `(tactic| walk_at "ne") => `(tactic| first
  | assumption
  | (refine Ne.symm ?_; assumption)
  | (refine (fun h2 => ne_of_none (by assumption) h2) ?_; assumption)
  | (refine Ne.symm ((fun h2 => ne_of_none (by assumption) h2) ?_); assumption))
local macro_rules | `(tactic| walk_at "hp") => `(tactic| first
  | with_reducible assumption
  | with_reducible exact upd_same
  | ((with_reducible refine' (upd_ne ?k1).trans ?k2); (case k1 => walk_at "ne"); (case k2 => walk_at "hp")))
local macro_rules | `(tactic| walk_at "sq") => `(tactic| first
  | with_reducible assumption
  | ((with_reducible refine' SqL.of ?k1); (case k1 => walk_at "hp"))
  | ((with_reducible refine' SqT.of ?k1); (case k1 => walk_at "hp")))
local macro_rules | `(tactic| walk_at "sd") => `(tactic| first
  | with_reducible rfl
  | with_reducible assumption
  | omega
  | decide
  | (refine cmul_r ?_ ?_ <;> decide)
  | (refine cmul_l ?_ ?_ <;> decide)
  | (refine cmul_r ?_ ?_ <;> omega)
  | exact ⟨by decide, by decide, by decide⟩
  | exact ⟨by omega, by omega⟩)
local macro_rules | `(tactic| walk_at "go1") => `(tactic| first
  | ((with_reducible refine' g_var ?k1 ?k2); (case k1 => rfl))
  | (with_reducible refine g_c ?_)
  | (with_reducible refine g_op ?_)
  | (with_reducible refine g_un ?_)
  | (with_reducible refine g_tt ?_)
  | (with_reducible refine g_tB ?_)
  | (with_reducible refine g_ifs ?_)
  | (with_reducible refine g_seq ?_)
  | (with_reducible refine g_next ?_)
  | (with_reducible refine g_asg ?_)
  | (with_reducible refine g_name ?_)
  | (with_reducible refine g_ret ?_)
  | (with_reducible refine g_drop ?_)
  | (with_reducible refine g_nil ?_)
  | (with_reducible refine g_cons ?_)
  | (with_reducible refine g_cb ?_)
  | (with_reducible refine g_sub ?_)
  | (with_reducible refine g_call ?_)
  | (with_reducible refine g_if ?_)
  | (with_reducible refine g_and ?_)
  | (with_reducible refine g_or ?_)
  | (with_reducible refine g_not ?_)
  | (with_reducible refine g_tupN ?_)
  | (with_reducible refine g_lstN ?_)
  | (with_reducible refine g_vei ?_)
  | (with_reducible refine g_jc ?_)
  | (with_reducible refine g_jn ?_)
  | (with_reducible refine g_fmt ?_)
  | (with_reducible refine g_ost ?_)
  | (with_reducible refine g_mko ?_)
  | (with_reducible refine g_fld ?_)
  | (with_reducible refine g_sfld ?_)
  | (with_reducible refine g_meth ?_)
  | (with_reducible refine g_make ?_)
  | (with_reducible refine g_dget ?_)
  | (with_reducible refine g_din ?_)
  | (with_reducible refine g_dni ?_)
  | (with_reducible refine g_dput ?_)
  | (with_reducible refine g_dg1 ?_)
  | (with_reducible refine g_dg2 ?_)
  | (with_reducible refine g_or2 ?_)
  | (with_reducible refine g_an2 ?_)
  | (with_reducible refine g_no2 ?_)
  | (with_reducible refine g_itup ?_)
  | (with_reducible refine g_ilist ?_)
  | (with_reducible refine g_ikeys ?_)
  | (with_reducible refine g_irng1 ?_)
  | (with_reducible refine g_irng2 ?_)
  | (with_reducible refine g_for ?_)
  | (with_reducible refine g_lc ?_)
  | (with_reducible refine g_lock ?_)
  | (with_reducible refine g_gtup ?_)
  | (with_reducible refine g_gcons ?_)
  | (with_reducible refine g_gnil ?_)
  | (with_reducible refine g_par ?_)
  | (with_reducible refine g_par3 ?_)
  | (with_reducible refine g_calls ?_)
  | (with_reducible refine g_dct ?_)
  | (with_reducible refine g_methx ?_)
  | (with_reducible refine g_yes ?_)
  | (with_reducible refine g_sl ?_)
  | (with_reducible refine g_npart ?_)
  | (with_reducible refine g_part ?_)
  | (with_reducible refine g_dnt ?_)
  | (with_reducible refine g_dnk ?_)
  | (with_reducible refine g_istr ?_)
  | (with_reducible refine g_ienum ?_)
  | (with_reducible refine g_exi ?_)
  | (with_reducible refine g_glst ?_)
  | (with_reducible refine g_chain ?_)
  | (with_reducible refine g_isN ?_)
  | (with_reducible refine g_ipI ?_)
  | ((with_reducible refine g_ipC ?_ ?_); (walk_at "sd"))
  | (with_reducible refine g_inS ?_)
  | (with_reducible refine g_bm ?_)
  | (with_reducible refine g_bm0 ?_)
  | ((with_reducible refine' g_aug ?k1 ?k2); (case k1 => rfl))
  | (with_reducible refine g_m1 ?_)
  | (with_reducible refine g_m0 ?_)
  | (with_reducible refine g_fldaug ?_)
  | (with_reducible refine g_tupm ?_)
  | (with_reducible refine g_I0 ?_)
  | ((with_reducible refine g_I ?_ ?_); (walk_at "sd"))
  | (with_reducible refine g_U ?_)
  | ((with_reducible refine g_eq ?_ ?_); rfl)
  | ((with_reducible refine g_ne ?_ ?_); rfl)
  | ((with_reducible refine' g_ixL ?k1 ?k2 ?k3); (case k1 => walk_at "sq"); (case k2 => rfl))
  | ((with_reducible refine' g_ixT ?k1 ?k2 ?k3); (case k1 => walk_at "sq"); (case k2 => rfl))
  | ((with_reducible refine' g_setL ?k1 ?k2 ?k3); (case k1 => walk_at "hp"); (case k2 => rfl))
  | (with_reducible refine g_test ?_)
  | (with_reducible refine g_int1 ?_)
  | (with_reducible refine g_bl1 ?_)
  | ((with_reducible refine' g_lenL ?k1 ?k2); (case k1 => walk_at "sq"))
  | ((with_reducible refine' g_lenT ?k1 ?k2); (case k1 => walk_at "sq"))
)
local macro_rules | `(tactic| walk_at "go") => `(tactic| repeat (first | (walk_at "go1") | (dsimp only; (walk_at "go1"))))
def topS (i : Nat) : Stmt := PySem.Challenge.pw_everdays_k83_pages.main.body.getD i (.Pass ⟨0, 0, 0, 0⟩)
abbrev s_is_leap : Stmt := (topS 8)
theorem sc_is_leap : FnScope ["year"] ["year"] (defScope s_is_leap) := ⟨rfl, rfl, rfl, by decide +kernel, rfl, by decide +kernel, by decide +kernel⟩
abbrev s_year_of_month : Stmt := (topS 9)
theorem sc_year_of_month : FnScope ["m"] ["m"] (defScope s_year_of_month) := ⟨rfl, rfl, rfl, by decide +kernel, rfl, by decide +kernel, by decide +kernel⟩
abbrev s_month_length : Stmt := (topS 10)
theorem sc_month_length : FnScope ["m"] ["m"] (defScope s_month_length) := ⟨rfl, rfl, rfl, by decide +kernel, rfl, by decide +kernel, by decide +kernel⟩
abbrev s_first_day : Stmt := (topS 11)
theorem sc_first_day : FnScope ["m", "past", "days"] ["m"] (defScope s_first_day) := ⟨rfl, rfl, rfl, by decide +kernel, rfl, by decide +kernel, by decide +kernel⟩
abbrev s_month_of : Stmt := (topS 12)
theorem sc_month_of : FnScope ["day", "cycles", "rest", "past", "place"] ["day"] (defScope s_month_of) := ⟨rfl, rfl, rfl, by decide +kernel, rfl, by decide +kernel, by decide +kernel⟩
abbrev s_date_of : Stmt := (topS 13)
theorem sc_date_of : FnScope ["day", "m"] ["day"] (defScope s_date_of) := ⟨rfl, rfl, rfl, by decide +kernel, rfl, by decide +kernel, by decide +kernel⟩
abbrev s_weekday_of : Stmt := (topS 14)
theorem sc_weekday_of : FnScope ["day"] ["day"] (defScope s_weekday_of) := ⟨rfl, rfl, rfl, by decide +kernel, rfl, by decide +kernel, by decide +kernel⟩
abbrev s_primes_of : Stmt := (topS 16)
theorem sc_primes_of : FnScope ["n", "found", "p"] ["n"] (defScope s_primes_of) := ⟨rfl, rfl, rfl, by decide +kernel, rfl, by decide +kernel, by decide +kernel⟩
abbrev s_place_in : Stmt := (topS 18)
theorem sc_place_in : FnScope ["residues", "r", "low", "high", "middle"] ["residues", "r"] (defScope s_place_in) := ⟨rfl, rfl, rfl, by decide +kernel, rfl, by decide +kernel, by decide +kernel⟩
abbrev s_shrunk : Stmt := (topS 19)
theorem sc_shrunk : FnScope ["period", "residues", "p", "r"] ["period", "residues"] (defScope s_shrunk) := ⟨rfl, rfl, rfl, by decide +kernel, rfl, by decide +kernel, by decide +kernel⟩
abbrev s_repeats : Stmt := (topS 20)
theorem sc_repeats : FnScope ["period", "residues", "step", "known", "r"] ["period", "residues", "step"] (defScope s_repeats) := ⟨rfl, rfl, rfl, by decide +kernel, rfl, by decide +kernel, by decide +kernel⟩
abbrev s_has : Stmt := (topS 21)
theorem sc_has : FnScope ["period", "residues", "d", "r", "place"] ["period", "residues", "d"] (defScope s_has) := ⟨rfl, rfl, rfl, by decide +kernel, rfl, by decide +kernel, by decide +kernel⟩
abbrev s_tidied : Stmt := (topS 23)
theorem sc_tidied : FnScope ["pieces", "found", "start", "period", "residues"] ["pieces"] (defScope s_tidied) := ⟨rfl, rfl, rfl, by decide +kernel, rfl, by decide +kernel, by decide +kernel⟩
abbrev s_from_day : Stmt := (topS 24)
theorem sc_from_day : FnScope ["start", "period", "residues"] ["start", "period", "residues"] (defScope s_from_day) := ⟨rfl, rfl, rfl, by decide +kernel, rfl, by decide +kernel, by decide +kernel⟩
abbrev s_belongs : Stmt := (topS 25)
theorem sc_belongs : FnScope ["pattern", "day", "place"] ["pattern", "day"] (defScope s_belongs) := ⟨rfl, rfl, rfl, by decide +kernel, rfl, by decide +kernel, by decide +kernel⟩
abbrev s_padded : Stmt := (topS 28)
theorem sc_padded : FnScope ["n", "many"] ["n", "many"] (defScope s_padded) := ⟨rfl, rfl, rfl, by decide +kernel, rfl, by decide +kernel, by decide +kernel⟩
abbrev s_day_text : Stmt := (topS 29)
theorem sc_day_text : FnScope ["day", "year", "month", "date"] ["day"] (defScope s_day_text) := ⟨rfl, rfl, rfl, by decide +kernel, rfl, by decide +kernel, by decide +kernel⟩
abbrev s_minute_text : Stmt := (topS 30)
theorem sc_minute_text : FnScope ["minute"] ["minute"] (defScope s_minute_text) := ⟨rfl, rfl, rfl, by decide +kernel, rfl, by decide +kernel, by decide +kernel⟩
abbrev s_offset_on : Stmt := (topS 33)
theorem sc_offset_on : FnScope ["zone", "day", "found", "first", "offset"] ["zone", "day"] (defScope s_offset_on) := ⟨rfl, rfl, rfl, by decide +kernel, rfl, by decide +kernel, by decide +kernel⟩
abbrev s_begin_of : Stmt := (topS 34)
theorem sc_begin_of : FnScope ["zone", "day"] ["zone", "day"] (defScope s_begin_of) := ⟨rfl, rfl, rfl, by decide +kernel, rfl, by decide +kernel, by decide +kernel⟩
abbrev s_local_of : Stmt := (topS 35)
theorem sc_local_of : FnScope ["zone", "moment", "day"] ["zone", "moment"] (defScope s_local_of) := ⟨rfl, rfl, rfl, by decide +kernel, rfl, by decide +kernel, by decide +kernel⟩
abbrev s_month_title : Stmt := (topS 39)
theorem sc_month_title : FnScope ["m"] ["m"] (defScope s_month_title) := ⟨rfl, rfl, rfl, by decide +kernel, rfl, by decide +kernel, by decide +kernel⟩
abbrev s_cell : Stmt := (topS 40)
theorem sc_cell : FnScope ["day", "pattern", "mark", "date"] ["day", "pattern"] (defScope s_cell) := ⟨rfl, rfl, rfl, by decide +kernel, rfl, by decide +kernel, by decide +kernel⟩
abbrev s_month_page : Stmt := (topS 41)
theorem sc_month_page : FnScope ["m", "pattern", "lines", "first", "cells", "day", "name", "k"] ["m", "pattern"] (defScope s_month_page) := ⟨rfl, rfl, rfl, by decide +kernel, rfl, by decide +kernel, by decide +kernel⟩
abbrev s_moment_text : Stmt := (topS 42)
theorem sc_moment_text : FnScope ["zone", "moment", "day", "minute"] ["zone", "moment"] (defScope s_moment_text) := ⟨rfl, rfl, rfl, by decide +kernel, rfl, by decide +kernel, by decide +kernel⟩
abbrev s_row_text : Stmt := (topS 43)
theorem sc_row_text : FnScope ["zone", "row", "start", "end", "item", "what"] ["zone", "row"] (defScope s_row_text) := ⟨rfl, rfl, rfl, by decide +kernel, rfl, by decide +kernel, by decide +kernel⟩
abbrev s_sheet_page : Stmt := (topS 44)
theorem sc_sheet_page : FnScope ["zone", "rows", "row"] ["zone", "rows"] (defScope s_sheet_page) := ⟨rfl, rfl, rfl, by decide +kernel, rfl, by decide +kernel, by decide +kernel⟩
abbrev s_opening_text : Stmt := (topS 45)
theorem sc_opening_text : FnScope ["opens", "closes"] ["opens", "closes"] (defScope s_opening_text) := ⟨rfl, rfl, rfl, by decide +kernel, rfl, by decide +kernel, by decide +kernel⟩
abbrev s_law_is : Stmt := (topS 47)
theorem sc_law_is : FnScope ["told", "due"] ["told", "due"] (defScope s_law_is) := ⟨rfl, rfl, rfl, by decide +kernel, rfl, by decide +kernel, by decide +kernel⟩
abbrev s_law_draw : Stmt := (topS 48)
theorem sc_law_draw : FnScope ["tape", "many", "cells", "k", "cell_v", "digit"] ["tape", "many"] (defScope s_law_draw) := ⟨rfl, rfl, rfl, by decide +kernel, rfl, by decide +kernel, by decide +kernel⟩
abbrev s_law_tape : Stmt := (topS 49)
theorem sc_law_tape : FnScope ["script"] ["script"] (defScope s_law_tape) := ⟨rfl, rfl, rfl, by decide +kernel, rfl, by decide +kernel, by decide +kernel⟩
abbrev s_law_mod : Stmt := (topS 50)
theorem sc_law_mod : FnScope ["a", "n"] ["a", "n"] (defScope s_law_mod) := ⟨rfl, rfl, rfl, by decide +kernel, rfl, by decide +kernel, by decide +kernel⟩
abbrev s_law_leap : Stmt := (topS 51)
theorem sc_law_leap : FnScope ["calendar", "y"] ["calendar", "y"] (defScope s_law_leap) := ⟨rfl, rfl, rfl, by decide +kernel, rfl, by decide +kernel, by decide +kernel⟩
abbrev s_law_length : Stmt := (topS 52)
theorem sc_law_length : FnScope ["calendar", "m", "month", "long"] ["calendar", "m"] (defScope s_law_length) := ⟨rfl, rfl, rfl, by decide +kernel, rfl, by decide +kernel, by decide +kernel⟩
abbrev s_law_year_first : Stmt := (topS 53)
theorem sc_law_year_first : FnScope ["calendar", "y", "years", "days", "begin", "plain", "cycles", "found", "k"] ["calendar", "y"] (defScope s_law_year_first) := ⟨rfl, rfl, rfl, by decide +kernel, rfl, by decide +kernel, by decide +kernel⟩
abbrev s_law_month_first : Stmt := (topS 54)
theorem sc_law_month_first : FnScope ["calendar", "m", "found", "k"] ["calendar", "m"] (defScope s_law_month_first) := ⟨rfl, rfl, rfl, by decide +kernel, rfl, by decide +kernel, by decide +kernel⟩
abbrev s_law_month_at : Stmt := (topS 55)
theorem sc_law_month_at : FnScope ["calendar", "day", "year", "y", "k", "m", "first", "length"] ["calendar", "day"] (defScope s_law_month_at) := ⟨rfl, rfl, rfl, by decide +kernel, rfl, by decide +kernel, by decide +kernel⟩
abbrev s_law_zone : Stmt := (topS 56)
theorem sc_law_zone : FnScope ["tape", "offset", "found", "k", "first", "other"] ["tape"] (defScope s_law_zone) := ⟨rfl, rfl, rfl, by decide +kernel, rfl, by decide +kernel, by decide +kernel⟩
abbrev s_law_offset : Stmt := (topS 57)
theorem sc_law_offset : FnScope ["zone", "day", "found", "first", "offset"] ["zone", "day"] (defScope s_law_offset) := ⟨rfl, rfl, rfl, by decide +kernel, rfl, by decide +kernel, by decide +kernel⟩
abbrev s_law_begin : Stmt := (topS 58)
theorem sc_law_begin : FnScope ["zone", "day"] ["zone", "day"] (defScope s_law_begin) := ⟨rfl, rfl, rfl, by decide +kernel, rfl, by decide +kernel, by decide +kernel⟩
abbrev s_law_digits2 : Stmt := (topS 59)
theorem sc_law_digits2 : FnScope ["n", "many", "text", "k"] ["n", "many"] (defScope s_law_digits2) := ⟨rfl, rfl, rfl, by decide +kernel, rfl, by decide +kernel, by decide +kernel⟩
abbrev s_law_day_text : Stmt := (topS 60)
theorem sc_law_day_text : FnScope ["day", "m", "first", "date"] ["day"] (defScope s_law_day_text) := ⟨rfl, rfl, rfl, by decide +kernel, rfl, by decide +kernel, by decide +kernel⟩
abbrev s_law_minute_text : Stmt := (topS 61)
theorem sc_law_minute_text : FnScope ["minute"] ["minute"] (defScope s_law_minute_text) := ⟨rfl, rfl, rfl, by decide +kernel, rfl, by decide +kernel, by decide +kernel⟩
abbrev s_law_moment_text : Stmt := (topS 62)
theorem sc_law_moment_text : FnScope ["zone", "moment", "day", "k", "minute"] ["zone", "moment"] (defScope s_law_moment_text) := ⟨rfl, rfl, rfl, by decide +kernel, rfl, by decide +kernel, by decide +kernel⟩
abbrev s_law : Stmt := (topS 63)
theorem sc_law : FnScope ["script", "tape", "months", "m", "first", "title", "step", "pattern", "lines", "row", "k", "day", "star", "zone", "rows", "start", "page", "end", "item", "what", "line", "opens", "closes"] ["script"] (defScope s_law) := ⟨rfl, rfl, rfl, by decide +kernel, rfl, by decide +kernel, by decide +kernel⟩
structure Adr where
  f_is_leap : Addr
  d_is_leap : FuncData
  f_year_of_month : Addr
  d_year_of_month : FuncData
  f_month_length : Addr
  d_month_length : FuncData
  f_first_day : Addr
  d_first_day : FuncData
  f_month_of : Addr
  d_month_of : FuncData
  f_date_of : Addr
  d_date_of : FuncData
  f_weekday_of : Addr
  d_weekday_of : FuncData
  f_primes_of : Addr
  d_primes_of : FuncData
  f_place_in : Addr
  d_place_in : FuncData
  f_shrunk : Addr
  d_shrunk : FuncData
  f_repeats : Addr
  d_repeats : FuncData
  f_has : Addr
  d_has : FuncData
  f_tidied : Addr
  d_tidied : FuncData
  f_from_day : Addr
  d_from_day : FuncData
  f_belongs : Addr
  d_belongs : FuncData
  f_padded : Addr
  d_padded : FuncData
  f_day_text : Addr
  d_day_text : FuncData
  f_minute_text : Addr
  d_minute_text : FuncData
  f_offset_on : Addr
  d_offset_on : FuncData
  f_begin_of : Addr
  d_begin_of : FuncData
  f_local_of : Addr
  d_local_of : FuncData
  f_month_title : Addr
  d_month_title : FuncData
  f_cell : Addr
  d_cell : FuncData
  f_month_page : Addr
  d_month_page : FuncData
  f_moment_text : Addr
  d_moment_text : FuncData
  f_row_text : Addr
  d_row_text : FuncData
  f_sheet_page : Addr
  d_sheet_page : FuncData
  f_opening_text : Addr
  d_opening_text : FuncData
  f_law_is : Addr
  d_law_is : FuncData
  f_law_draw : Addr
  d_law_draw : FuncData
  f_law_tape : Addr
  d_law_tape : FuncData
  f_law_mod : Addr
  d_law_mod : FuncData
  f_law_leap : Addr
  d_law_leap : FuncData
  f_law_length : Addr
  d_law_length : FuncData
  f_law_year_first : Addr
  d_law_year_first : FuncData
  f_law_month_first : Addr
  d_law_month_first : FuncData
  f_law_month_at : Addr
  d_law_month_at : FuncData
  f_law_zone : Addr
  d_law_zone : FuncData
  f_law_offset : Addr
  d_law_offset : FuncData
  f_law_begin : Addr
  d_law_begin : FuncData
  f_law_digits2 : Addr
  d_law_digits2 : FuncData
  f_law_day_text : Addr
  d_law_day_text : FuncData
  f_law_minute_text : Addr
  d_law_minute_text : FuncData
  f_law_moment_text : Addr
  d_law_moment_text : FuncData
  f_law : Addr
  d_law : FuncData
  C_BadDate : Addr
  C_DaysError : Addr
  A_LENGTHS : Addr
  A_BEFORE : Addr
  A_WEEKDAYS : Addr
  A_MONTHS : Addr
  M_DaysError : Value
structure Txt (K : PySem.W.Frag) (mg : Str → Option Value) (a : Adr) : Prop where
  F_is_leap : Fun K "is_leap" "is_leap" s_is_leap a.f_is_leap a.d_is_leap
  b_is_leap : Binds K a.d_is_leap ["year"] []
  g_is_leap : mg "is_leap" = some (.ref a.f_is_leap)
  F_year_of_month : Fun K "year_of_month" "year_of_month" s_year_of_month a.f_year_of_month a.d_year_of_month
  b_year_of_month : Binds K a.d_year_of_month ["m"] []
  g_year_of_month : mg "year_of_month" = some (.ref a.f_year_of_month)
  F_month_length : Fun K "month_length" "month_length" s_month_length a.f_month_length a.d_month_length
  b_month_length : Binds K a.d_month_length ["m"] []
  g_month_length : mg "month_length" = some (.ref a.f_month_length)
  F_first_day : Fun K "first_day" "first_day" s_first_day a.f_first_day a.d_first_day
  b_first_day : Binds K a.d_first_day ["m"] []
  g_first_day : mg "first_day" = some (.ref a.f_first_day)
  F_month_of : Fun K "month_of" "month_of" s_month_of a.f_month_of a.d_month_of
  b_month_of : Binds K a.d_month_of ["day"] []
  g_month_of : mg "month_of" = some (.ref a.f_month_of)
  F_date_of : Fun K "date_of" "date_of" s_date_of a.f_date_of a.d_date_of
  b_date_of : Binds K a.d_date_of ["day"] []
  g_date_of : mg "date_of" = some (.ref a.f_date_of)
  F_weekday_of : Fun K "weekday_of" "weekday_of" s_weekday_of a.f_weekday_of a.d_weekday_of
  b_weekday_of : Binds K a.d_weekday_of ["day"] []
  g_weekday_of : mg "weekday_of" = some (.ref a.f_weekday_of)
  F_primes_of : Fun K "primes_of" "primes_of" s_primes_of a.f_primes_of a.d_primes_of
  b_primes_of : Binds K a.d_primes_of ["n"] []
  g_primes_of : mg "primes_of" = some (.ref a.f_primes_of)
  F_place_in : Fun K "place_in" "place_in" s_place_in a.f_place_in a.d_place_in
  b_place_in : Binds K a.d_place_in ["residues", "r"] []
  g_place_in : mg "place_in" = some (.ref a.f_place_in)
  F_shrunk : Fun K "shrunk" "shrunk" s_shrunk a.f_shrunk a.d_shrunk
  b_shrunk : Binds K a.d_shrunk ["period", "residues"] []
  g_shrunk : mg "shrunk" = some (.ref a.f_shrunk)
  F_repeats : Fun K "repeats" "repeats" s_repeats a.f_repeats a.d_repeats
  b_repeats : Binds K a.d_repeats ["period", "residues", "step"] []
  g_repeats : mg "repeats" = some (.ref a.f_repeats)
  F_has : Fun K "has" "has" s_has a.f_has a.d_has
  b_has : Binds K a.d_has ["period", "residues", "d"] []
  g_has : mg "has" = some (.ref a.f_has)
  F_tidied : Fun K "tidied" "tidied" s_tidied a.f_tidied a.d_tidied
  b_tidied : Binds K a.d_tidied ["pieces"] []
  g_tidied : mg "tidied" = some (.ref a.f_tidied)
  F_from_day : Fun K "from_day" "from_day" s_from_day a.f_from_day a.d_from_day
  b_from_day : Binds K a.d_from_day ["start", "period", "residues"] []
  g_from_day : mg "from_day" = some (.ref a.f_from_day)
  F_belongs : Fun K "belongs" "belongs" s_belongs a.f_belongs a.d_belongs
  b_belongs : Binds K a.d_belongs ["pattern", "day"] []
  g_belongs : mg "belongs" = some (.ref a.f_belongs)
  F_padded : Fun K "padded" "padded" s_padded a.f_padded a.d_padded
  b_padded : Binds K a.d_padded ["n", "many"] []
  g_padded : mg "padded" = some (.ref a.f_padded)
  F_day_text : Fun K "day_text" "day_text" s_day_text a.f_day_text a.d_day_text
  b_day_text : Binds K a.d_day_text ["day"] []
  g_day_text : mg "day_text" = some (.ref a.f_day_text)
  F_minute_text : Fun K "minute_text" "minute_text" s_minute_text a.f_minute_text a.d_minute_text
  b_minute_text : Binds K a.d_minute_text ["minute"] []
  g_minute_text : mg "minute_text" = some (.ref a.f_minute_text)
  F_offset_on : Fun K "offset_on" "offset_on" s_offset_on a.f_offset_on a.d_offset_on
  b_offset_on : Binds K a.d_offset_on ["zone", "day"] []
  g_offset_on : mg "offset_on" = some (.ref a.f_offset_on)
  F_begin_of : Fun K "begin_of" "begin_of" s_begin_of a.f_begin_of a.d_begin_of
  b_begin_of : Binds K a.d_begin_of ["zone", "day"] []
  g_begin_of : mg "begin_of" = some (.ref a.f_begin_of)
  F_local_of : Fun K "local_of" "local_of" s_local_of a.f_local_of a.d_local_of
  b_local_of : Binds K a.d_local_of ["zone", "moment"] []
  g_local_of : mg "local_of" = some (.ref a.f_local_of)
  F_month_title : Fun K "month_title" "month_title" s_month_title a.f_month_title a.d_month_title
  b_month_title : Binds K a.d_month_title ["m"] []
  g_month_title : mg "month_title" = some (.ref a.f_month_title)
  F_cell : Fun K "cell" "cell" s_cell a.f_cell a.d_cell
  b_cell : Binds K a.d_cell ["day", "pattern"] []
  g_cell : mg "cell" = some (.ref a.f_cell)
  F_month_page : Fun K "month_page" "month_page" s_month_page a.f_month_page a.d_month_page
  b_month_page : Binds K a.d_month_page ["m", "pattern"] []
  g_month_page : mg "month_page" = some (.ref a.f_month_page)
  F_moment_text : Fun K "moment_text" "moment_text" s_moment_text a.f_moment_text a.d_moment_text
  b_moment_text : Binds K a.d_moment_text ["zone", "moment"] []
  g_moment_text : mg "moment_text" = some (.ref a.f_moment_text)
  F_row_text : Fun K "row_text" "row_text" s_row_text a.f_row_text a.d_row_text
  b_row_text : Binds K a.d_row_text ["zone", "row"] []
  g_row_text : mg "row_text" = some (.ref a.f_row_text)
  F_sheet_page : Fun K "sheet_page" "sheet_page" s_sheet_page a.f_sheet_page a.d_sheet_page
  b_sheet_page : Binds K a.d_sheet_page ["zone", "rows"] []
  g_sheet_page : mg "sheet_page" = some (.ref a.f_sheet_page)
  F_opening_text : Fun K "opening_text" "opening_text" s_opening_text a.f_opening_text a.d_opening_text
  b_opening_text : Binds K a.d_opening_text ["opens", "closes"] []
  g_opening_text : mg "opening_text" = some (.ref a.f_opening_text)
  F_law_is : Fun K "_law_is" "_law_is" s_law_is a.f_law_is a.d_law_is
  b_law_is : Binds K a.d_law_is ["told", "due"] []
  g_law_is : mg "_law_is" = some (.ref a.f_law_is)
  F_law_draw : Fun K "_law_draw" "_law_draw" s_law_draw a.f_law_draw a.d_law_draw
  b_law_draw : Binds K a.d_law_draw ["tape", "many"] []
  g_law_draw : mg "_law_draw" = some (.ref a.f_law_draw)
  F_law_tape : Fun K "_law_tape" "_law_tape" s_law_tape a.f_law_tape a.d_law_tape
  b_law_tape : Binds K a.d_law_tape ["script"] []
  g_law_tape : mg "_law_tape" = some (.ref a.f_law_tape)
  F_law_mod : Fun K "_law_mod" "_law_mod" s_law_mod a.f_law_mod a.d_law_mod
  b_law_mod : Binds K a.d_law_mod ["a", "n"] []
  g_law_mod : mg "_law_mod" = some (.ref a.f_law_mod)
  F_law_leap : Fun K "_law_leap" "_law_leap" s_law_leap a.f_law_leap a.d_law_leap
  b_law_leap : Binds K a.d_law_leap ["calendar", "y"] []
  g_law_leap : mg "_law_leap" = some (.ref a.f_law_leap)
  F_law_length : Fun K "_law_length" "_law_length" s_law_length a.f_law_length a.d_law_length
  b_law_length : Binds K a.d_law_length ["calendar", "m"] []
  g_law_length : mg "_law_length" = some (.ref a.f_law_length)
  F_law_year_first : Fun K "_law_year_first" "_law_year_first" s_law_year_first a.f_law_year_first a.d_law_year_first
  b_law_year_first : Binds K a.d_law_year_first ["calendar", "y"] []
  g_law_year_first : mg "_law_year_first" = some (.ref a.f_law_year_first)
  F_law_month_first : Fun K "_law_month_first" "_law_month_first" s_law_month_first a.f_law_month_first a.d_law_month_first
  b_law_month_first : Binds K a.d_law_month_first ["calendar", "m"] []
  g_law_month_first : mg "_law_month_first" = some (.ref a.f_law_month_first)
  F_law_month_at : Fun K "_law_month_at" "_law_month_at" s_law_month_at a.f_law_month_at a.d_law_month_at
  b_law_month_at : Binds K a.d_law_month_at ["calendar", "day"] []
  g_law_month_at : mg "_law_month_at" = some (.ref a.f_law_month_at)
  F_law_zone : Fun K "_law_zone" "_law_zone" s_law_zone a.f_law_zone a.d_law_zone
  b_law_zone : Binds K a.d_law_zone ["tape"] []
  g_law_zone : mg "_law_zone" = some (.ref a.f_law_zone)
  F_law_offset : Fun K "_law_offset" "_law_offset" s_law_offset a.f_law_offset a.d_law_offset
  b_law_offset : Binds K a.d_law_offset ["zone", "day"] []
  g_law_offset : mg "_law_offset" = some (.ref a.f_law_offset)
  F_law_begin : Fun K "_law_begin" "_law_begin" s_law_begin a.f_law_begin a.d_law_begin
  b_law_begin : Binds K a.d_law_begin ["zone", "day"] []
  g_law_begin : mg "_law_begin" = some (.ref a.f_law_begin)
  F_law_digits2 : Fun K "_law_digits2" "_law_digits2" s_law_digits2 a.f_law_digits2 a.d_law_digits2
  b_law_digits2 : Binds K a.d_law_digits2 ["n", "many"] []
  g_law_digits2 : mg "_law_digits2" = some (.ref a.f_law_digits2)
  F_law_day_text : Fun K "_law_day_text" "_law_day_text" s_law_day_text a.f_law_day_text a.d_law_day_text
  b_law_day_text : Binds K a.d_law_day_text ["day"] []
  g_law_day_text : mg "_law_day_text" = some (.ref a.f_law_day_text)
  F_law_minute_text : Fun K "_law_minute_text" "_law_minute_text" s_law_minute_text a.f_law_minute_text a.d_law_minute_text
  b_law_minute_text : Binds K a.d_law_minute_text ["minute"] []
  g_law_minute_text : mg "_law_minute_text" = some (.ref a.f_law_minute_text)
  F_law_moment_text : Fun K "_law_moment_text" "_law_moment_text" s_law_moment_text a.f_law_moment_text a.d_law_moment_text
  b_law_moment_text : Binds K a.d_law_moment_text ["zone", "moment"] []
  g_law_moment_text : mg "_law_moment_text" = some (.ref a.f_law_moment_text)
  F_law : Fun K "law" "law" s_law a.f_law a.d_law
  b_law : Binds K a.d_law ["script"] []
  g_law : mg "law" = some (.ref a.f_law)
  g_BadDate : mg "BadDate" = some (.ref a.C_BadDate)
  r_BadDate : PySem.W.subIn K (.ref a.C_BadDate) (.type "BaseException") = some true
  t_BadDate : PySem.W.typeIn K (.ref a.C_BadDate) = some (.type "type")
  k_BadDate : PySem.W.keepIn K (.ref a.C_BadDate) = true
  x_BadDate : PySem.W.excIn K a.C_BadDate [.type "ValueError", .type "Exception", .type "BaseException", .type "object"] "ValueError.__new__" = true
  g_DaysError : mg "DaysError" = some (.ref a.C_DaysError)
  B_DaysError : BaseInit K a.C_DaysError a.M_DaysError
  z_len : mg "len" = none
  z_int : mg "int" = none
  z_str : mg "str" = none
  z_list : mg "list" = none
  z_range : mg "range" = none
  z_divmod : mg "divmod" = none
  z_all : mg "all" = none
  z_tuple : mg "tuple" = none
  z_set : mg "set" = none
  z_max : mg "max" = none
  z_min : mg "min" = none
  z_isinstance : mg "isinstance" = none
  z_bool : mg "bool" = none
  g_LENGTHS : mg "LENGTHS" = some (.ref a.A_LENGTHS)
  h_LENGTHS : ∀ H, SqT K H a.A_LENGTHS ([31, 28, 31, 30, 31, 30, 31, 31, 30, 31, 30, 31].map V.int)
  k_LENGTHS : ∃ o, K.lookup a.A_LENGTHS = some o ∧ o.cls = .type "tuple" ∧ o.dict = none
  g_BEFORE : mg "BEFORE" = some (.ref a.A_BEFORE)
  h_BEFORE : ∀ H, SqT K H a.A_BEFORE ([0, 31, 59, 90, 120, 151, 181, 212, 243, 273, 304, 334].map V.int)
  k_BEFORE : ∃ o, K.lookup a.A_BEFORE = some o ∧ o.cls = .type "tuple" ∧ o.dict = none
  g_CYCLE_MONTHS : ∃ u, mg "CYCLE_MONTHS" = some u ∧ RelV (.int 4800) u
  g_CYCLE_DAYS : ∃ u, mg "CYCLE_DAYS" = some u ∧ RelV (.int 146097) u
  g_YEAR_MOST : ∃ u, mg "YEAR_MOST" = some u ∧ RelV (.int 9999) u
  g_WEEKDAYS : mg "WEEKDAYS" = some (.ref a.A_WEEKDAYS)
  h_WEEKDAYS : ∀ H, SqT K H a.A_WEEKDAYS (Wd.WD.map fun z => V.str (S z))
  k_WEEKDAYS : ∃ o, K.lookup a.A_WEEKDAYS = some o ∧ o.cls = .type "tuple" ∧ o.dict = none
  g_MONTHS : mg "MONTHS" = some (.ref a.A_MONTHS)
  h_MONTHS : ∀ H, SqT K H a.A_MONTHS (Wd.MO.map fun z => V.str (S z))
  k_MONTHS : ∃ o, K.lookup a.A_MONTHS = some o ∧ o.cls = .type "tuple" ∧ o.dict = none
  g_MINUTES : ∃ u, mg "MINUTES" = some u ∧ RelV (.int 1440) u
section
variable {P : Program} {w : World} {K : PySem.W.Frag} {mg : Str → Option Value} {base : Heap} {a : Adr}
theorem two_le : 2 ≤ sizeLine := by decide
theorem same_new {H : Hp} {p : Addr} {o : HO} (h : H p = none) : Same H (upd H p o) := fun b x e => by
  rw [upd_ne (ne_of_none e h)]; exact e
/-- the tape: its cells, its place, what is left -/
abbrev tp (c : Addr) (k r : Int) : HO := .lst [.ref c, .int k, .int r]
def sp_law_draw (K : PySem.W.Frag) : Sp := fun vs H Q _ => ∃ (t c : Addr) (m k r : Int) (ns : List Int), vs = [.ref t, .int m] ∧ 0 < m ∧ m < 1073741824 ∧ H t = some (tp c k r) ∧ H c = some (.lst (ns.map V.int)) ∧ 0 ≤ k ∧ 0 ≤ r ∧
  ∀ (d k' r' : Int), 0 ≤ d → d < m → 0 ≤ k' → 0 ≤ r' → Q (.int d) (upd H t (tp c k' r'))
theorem ok_law_draw (T : Txt K mg a) : FnOk P w K mg base CX0 1 a.f_law_draw a.d_law_draw ["tape", "many"] (sp_law_draw K) := by
  refine T.F_law_draw.ok sc_law_draw (fun vs H Q E h => ?_) (fun cdv A outer s H vs Q E hr h => ?_)
  · obtain ⟨t, c, m, k, r, ns, rfl, _⟩ := h
    rfl
  · obtain ⟨t, c, m, k, r, ns, rfl, m0, m1, ht, hc, k0, r0, q⟩ := h
    refine ⟨_, (C8.pss_cut (ps_if (pt_cmpR op_lt (pe_ix ix_list (pv 0) pe_int (fun _ _ => rfl)) (pv 1) (nomark _))
       (pss_cons (ps_set (i := 2) sc_law_draw.nd rfl (.inl rfl) (pe_ix ix_list (pv 0) pe_int (fun _ _ => rfl)))
       (pss_cons (ps_set (i := 3) sc_law_draw.nd rfl (.inl rfl) (pe_ix ix_list (pv 0) pe_int (fun _ _ => rfl)))
       (pss_cons (ps_set (i := 4) sc_law_draw.nd rfl (.inl rfl) pe_int)
       (C8.pss_cut (ps_if (pt_cmpR op_lt (pv 3) (pe_callB call_len_seq (by rfl) T.z_len (by decide +kernel) (pa_cons (pv 2) pa_nil)) (nomark _))
       (pss_one (ps_set (i := 4) sc_law_draw.nd rfl (.inl rfl) (pe_ix ix_list (pv 2) (pv 3) (fun _ _ => rfl))))
       pss_nil)
       (C8.pss_cut (ps_if (pt_cmpR op_lt (pv 4) pe_int (nomark _))
       (pss_one (ps_set (i := 4) sc_law_draw.nd rfl (.inl rfl) (pe_op op_sub (pe_op op_mul (pe_un un_neg pe_int) (pv 4)) pe_int)))
       pss_nil)
       (C8.pss_cut (ps_if (pt_cmpR op_lt (pv 4) (pe_op op_pow pe_int pe_int) (nomark _))
       (pss_cons (ps_set (i := 4) sc_law_draw.nd rfl (.inl rfl) (pe_op op_modE (pe_callTy call_int1 (by rfl) T.z_int (by decide +kernel) (pa_cons (pe_op op_add (pe_op op_add (pe_op op_mul (pv 4) pe_int) (pe_op op_mul (pv 3) pe_int)) pe_int) pa_nil)) pe_int))
       (pss_one (ps_set (i := 4) sc_law_draw.nd rfl (.inl rfl) (pe_op op_modE (pe_callTy call_int1 (by rfl) T.z_int (by decide +kernel) (pa_cons (pe_op op_add (pe_op op_add (pe_op op_mul (pv 4) pe_int) (pe_op op_mul (pv 3) pe_int)) pe_int) pa_nil)) pe_int))))
       pss_nil)
       (pss_cons (ps_asg (pe_op op_add (pv 3) pe_int) (pg_sub (pv 0) pe_int set_list))
       (pss_one (ps_asg (pv 4) (pg_sub (pv 0) pe_int set_list))))))))))
       pss_nil)
       (pss_cons (ps_set (i := 5) sc_law_draw.nd rfl (.inl rfl) (pe_op op_modE (pe_callTy call_int1 (by rfl) T.z_int (by decide +kernel) (pa_cons (pe_ix ix_list (pv 0) pe_int (fun _ _ => rfl)) pa_nil)) (pv 1)))
       (pss_cons (ps_asg (pe_op op_fdivE (pe_ix ix_list (pv 0) pe_int (fun _ _ => rfl)) (pv 1)) (pg_sub (pv 0) pe_int set_list))
       (pss_one (ps_ret (pv 5)))))), ?_⟩
    refine red (σ' := [some (.ref t), some (.int m), none, none, none, none]) rfl ?_
    dsimp only [cxOf]
    have htc : c ≠ t := ne_of hc ht (by intro z; unfold tp at z; cases ns <;> simp at z)
    refine ⟨fun σ' H' => ∃ (k' r' : Int) (x2 x3 x4 x5 : Option V), 0 ≤ k' ∧ 0 ≤ r' ∧ σ' = [some (.ref t), some (.int m), x2, x3, x4, x5] ∧ H' = upd H t (tp c k' r'), ?_, ?_⟩
    · walk_at "go"
      refine iteK (fun h1 => ?_) (fun h1 => ?_)
      · walk_at "go"
        refine ⟨fun σ' H' => ∃ z : Int, σ' = [some (.ref t), some (.int m), some (.ref c), some (.int k), some (.int z), none] ∧ H = H', ?_, ?_⟩
        · walk_at "go"
          refine iteK (fun h2 => ?_) (fun h2 => ?_)
          · walk_at "go"
            rw [List.length_map] at h2
            obtain ⟨j, rfl⟩ := Int.eq_ofNat_of_zero_le k0
            have hj : j < ns.length := by omega
            refine g_ixL (v := .int ns[j]) (SqL.of hc) (atI_nat (by rw [List.getElem?_map, List.getElem?_eq_getElem hj]; rfl)) ?_
            walk_at "go"
            exact ⟨_, rfl, rfl⟩
          · walk_at "go"
            exact ⟨_, rfl, rfl⟩
        · rintro σ' H' ⟨z, rfl, rfl⟩
          refine ⟨fun σ' H' => ∃ z : Int, 0 ≤ z ∧ σ' = [some (.ref t), some (.int m), some (.ref c), some (.int k), some (.int z), none] ∧ H = H', ?_, ?_⟩
          · walk_at "go"
            refine iteK (fun h2 => ?_) (fun h2 => ?_)
            · walk_at "go"
              exact ⟨_, by omega, rfl, rfl⟩
            · walk_at "go"
              exact ⟨_, by omega, rfl, rfl⟩
          · rintro σ' H' ⟨z, z0, rfl, rfl⟩
            refine ⟨fun σ' H' => ∃ z : Int, 0 ≤ z ∧ σ' = [some (.ref t), some (.int m), some (.ref c), some (.int k), some (.int z), none] ∧ H = H', ?_, ?_⟩
            · walk_at "go"
              refine iteK (fun h2 => ?_) (fun h2 => ?_)
              · walk_at "go"
                exact ⟨_, by omega, rfl, rfl⟩
              · walk_at "go"
                exact ⟨_, by omega, rfl, rfl⟩
            · rintro σ' H' ⟨z, z0, rfl, rfl⟩
              walk_at "go"
              exact ⟨k + 1, z, _, _, _, _, by omega, z0, rfl, by rw [upd_upd]; rfl⟩
      · walk_at "go"
        exact ⟨k, r, _, _, _, _, k0, r0, rfl, by funext b; unfold upd; split <;> simp_all⟩
    · rintro σ' H' ⟨k', r', x2, x3, x4, x5, k0', r0', rfl, rfl⟩
      walk_at "go"
      rw [upd_upd]
      exact q _ _ _ (Int.emod_nonneg _ (by omega)) (Int.emod_lt_of_pos _ m0) k0' (Int.ediv_nonneg r0' (by omega))
def sp_law_tape (K : PySem.W.Frag) : Sp := fun vs H Q _ => ∃ (b : Addr) (xs : List V), vs = [.ref b] ∧ SqL K H b xs ∧ xs.length < 100 ∧
  ∀ t c, H c = none → H t = none → c ≠ t → Q (.ref t) (upd (upd H c (.lst xs)) t (tp c 0 0))
theorem ok_law_tape (T : Txt K mg a) : FnOk P w K mg base CX0 1 a.f_law_tape a.d_law_tape ["script"] (sp_law_tape K) := by
  refine T.F_law_tape.ok sc_law_tape (fun vs H Q E h => ?_) (fun cdv A outer s H vs Q E hr h => ?_)
  · obtain ⟨b, xs, rfl, _⟩ := h
    rfl
  · obtain ⟨b, xs, rfl, hb, hl, q⟩ := h
    refine ⟨_, (pss_one (ps_ret (pe_lst (pa_cons (pe_callTy call_list_of (by rfl) T.z_list (by decide +kernel) (pa_cons (pv 0) pa_nil)) (pa_cons pe_int (pa_cons pe_int pa_nil)))))), ?_⟩
    refine red (σ' := [some (.ref b)]) rfl ?_
    dsimp only [cxOf]
    walk_at "go"
    intro c hc
    walk_at "go"
    refine ⟨by show 3 ≤ sizeLine; decide, fun t ht => ?_⟩
    have ct : c ≠ t := fun e => by rw [← e, upd_same] at ht; cases ht
    rw [upd_ne ct.symm] at ht
    exact q t c hc ht ct
end
section
variable {P : Program} {w : World} {K : PySem.W.Frag} {mg : Str → Option Value} {base : Heap} {a : Adr}
theorem i_if {c : Prop} [Decidable c] {A B : Prop} (h1 : c → A) (h2 : ¬ c → B) : if c then A else B := by
  by_cases h : c
  · rw [if_pos h]; exact h1 h
  · rw [if_neg h]; exact h2 h
/-- a test told by a Bool -/
theorem iteB {b : Bool} {A B : Prop} (h1 : b = true → A) (h2 : b = false → B) : if b = true then A else B := by
  cases b with
  | true => exact h1 rfl
  | false => exact h2 rfl
theorem dec_int (i j : Int) : decide (V.int i = V.int j) = decide (i = j) := by
  by_cases h : i = j
  · subst h; simp
  · have : ¬ V.int i = V.int j := fun z => h (by cases z; rfl)
    rw [decide_eq_false this, decide_eq_false h]
theorem dec_str (x y : List Nat) : decide (V.str (S x) = V.str (S y)) = decide (x = y) := by
  by_cases h : x = y
  · subst h; simp
  · have : ¬ V.str (S x) = V.str (S y) := fun z => h (S_inj (by cases z; rfl))
    rw [decide_eq_false this, decide_eq_false h]
theorem in_digits (c : Nat) : decide (c ∈ [48, 49, 50, 51, 52, 53, 54, 55, 56, 57]) = (decide (48 ≤ c) && decide (c ≤ 57)) := by
  by_cases h : 48 ≤ c ∧ c ≤ 57
  · rw [decide_eq_true h.1, decide_eq_true h.2]
    have : c = 48 ∨ c = 49 ∨ c = 50 ∨ c = 51 ∨ c = 52 ∨ c = 53 ∨ c = 54 ∨ c = 55 ∨ c = 56 ∨ c = 57 := by omega
    rcases this with r | r | r | r | r | r | r | r | r | r <;> subst r <;> rfl
  · have h2 : (decide (48 ≤ c) && decide (c ≤ 57)) = false := by
      rw [Bool.and_eq_false_iff, decide_eq_false_iff_not, decide_eq_false_iff_not]
      omega
    rw [h2, decide_eq_false_iff_not]
    intro hm
    simp only [List.mem_cons, List.not_mem_nil, or_false] at hm
    omega
theorem all_id {α : Type} (f : α → Bool) : ∀ l : List α, (l.map f).all id = l.all f
  | [] => rfl
  | x :: l => by rw [List.map_cons, List.all_cons, List.all_cons, all_id f l]; rfl
theorem take_more {α : Type} : ∀ {l : List α} {i : Nat} {x : α}, l[i]? = some x → l.take (i + 1) = l.take i ++ [x]
  | [], i, x, h => by simp at h
  | a :: l, 0, x, h => by cases h; rfl
  | a :: l, i + 1, x, h => by
    show a :: l.take (i + 1) = a :: l.take i ++ [x]
    rw [take_more (l := l) (i := i) (x := x) h]; rfl
theorem digs {σ : L2.St} {i j : Nat} {l : List Nat} {H : Hp} {Q : VK} (hl : l.length ≤ 900000) (hj : σ[j]? = some (some (.str (S l)))) (h1 : ∀ x : V, wipe ((wipe σ [i]).set i (some x)) [i] = wipe σ [i]) (h2 : ∀ x : V, ((wipe σ [i]).set i (some x))[i]? = some (some x))
    (q : ∀ D H', Same H H' → H' D = some (.lst ((l.map fun c => decide (48 ≤ c) && decide (c ≤ 57)).map V.bl)) → Q (.ref D) H') :
    tLc (iStr (tVar j)) (gName i) tYes (tOp (fun x y H Q => ∃ (c : Nat) (z : Str), x = .str ⟨#[c]⟩ ∧ y = .str z ∧ Q (.bl (decide (c ∈ z.cps.toList))) H) (tVar i) (tC (.str "0123456789"))) [i] σ H Q := by
  refine g_lc (g_istr (g_var hj ⟨S l, rfl, fun D hD => ?_⟩))
  have hsz : (S l).cps.size = l.length := S_len l
  refine lc_it walk_str (fun i H' => Same H H' ∧ H' D = some (.lst (((l.take i).map fun c => decide (48 ≤ c) && decide (c ≤ 57)).map V.bl))) ⟨same_new hD, upd_same⟩ (fun _ _ _ _ => trivial) ?_ ?_
  · rintro k x H1 H2 hi ⟨sm, hL⟩ ⟨rfl, c, hc, rfl⟩
    have hc' : l[k]? = some c := by simpa using hc
    refine g_name ⟨h1 _, g_yes (iteT (g_op (g_var (h2 _) (g_c ⟨c, _, rfl, rfl, ?_⟩))))⟩
    have e1 : decide (c ∈ (Str.ofString "0123456789").cps.toList) = (decide (48 ≤ c) && decide (c ≤ 57)) := in_digits c
    rw [e1]
    refine ⟨_, hL, ?_, fun b o hb => ?_, ?_⟩
    · have := sizeBig
      rw [List.length_map, List.length_map, List.length_take]
      omega
    · rw [upd_ne (ne_of_none hb hD)]; exact sm b o hb
    · rw [upd_same, take_more hc', List.map_append, List.map_append]; rfl
  · rintro H1 ⟨sm, hL⟩
    rw [hsz, List.take_length] at hL
    exact q D H1 sm hL
theorem isDig_all {l : List Nat} (hn : l ≠ []) : (l.map fun c => decide (48 ≤ c) && decide (c ≤ 57)).all id = Dg.isDig l := by
  rw [all_id]
  unfold Dg.isDig
  cases l with
  | nil => exact absurd rfl hn
  | cons x l => rfl
end
def RelT (t : Addr) (H H' : Hp) : Prop := ∀ b o, b ≠ t → H b = some o → H' b = some o
theorem RelT.refl (t : Addr) (H : Hp) : RelT t H H := fun _ _ _ h => h
theorem RelT.of {t : Addr} {H H' : Hp} (h : Same H H') : RelT t H H' := fun b o _ e => h b o e
theorem RelT.trans {t : Addr} {H H1 H2 : Hp} (h : RelT t H H1) (g : RelT t H1 H2) : RelT t H H2 := fun b o n e => g b o n (h b o n e)
/-! ### the tape -/
def Tp (t c : Addr) (ns : List Int) (H : Hp) : Prop := (∃ k r, 0 ≤ k ∧ 0 ≤ r ∧ H t = some (tp c k r)) ∧ H c = some (.lst (ns.map V.int))
theorem Tp.same {t c : Addr} {ns : List Int} {H H' : Hp} (h : Tp t c ns H) (g : Same H H') : Tp t c ns H' := by
  obtain ⟨⟨k, r, k0, r0, ht⟩, hc⟩ := h
  exact ⟨⟨k, r, k0, r0, g _ _ ht⟩, g _ _ hc⟩
theorem Tp.new {t c : Addr} {ns : List Int} {H : Hp} (h : Tp t c ns H) {p : Addr} {o : HO} (hp : H p = none) : Tp t c ns (upd H p o) := h.same (same_new hp)
theorem ne_ints {c k r} {ns : List Int} : HO.lst (ns.map V.int) ≠ tp c k r := by intro z; unfold tp at z; cases ns <;> simp at z
theorem Tp.draw {K : PySem.W.Frag} {t c : Addr} {ns : List Int} {H : Hp} (I : Tp t c ns H) {n : Int} (n0 : 0 < n) (n1 : n < 1073741824) {Q : VK} {X : XK}
    (q : ∀ d H', 0 ≤ d → d < n → Tp t c ns H' → RelT t H H' → Q (.int d) H') : sp_law_draw K [.ref t, .int n] H Q X := by
  obtain ⟨⟨k, r, k0, r0, ht⟩, hc⟩ := I
  exact ⟨t, c, n, k, r, ns, rfl, n0, n1, ht, hc, k0, r0, fun d k' r' d0 d1 k0' r0' => q d _ d0 d1 ⟨⟨k', r', k0', r0', upd_same⟩, (upd_ne (ne_of hc ht ne_ints)).trans hc⟩ fun b o hb h => (upd_ne hb).trans h⟩
theorem Tp.ne {t c : Addr} {ns : List Int} {H : Hp} (I : Tp t c ns H) {b : Addr} {o : HO} (h : H b = some o) (hn : ∀ k r, o ≠ tp c k r) : b ≠ t := by
  obtain ⟨⟨k, r, _, _, ht⟩, _⟩ := I
  exact ne_of h ht (hn k r)
theorem Tp.ne_none {t c : Addr} {ns : List Int} {H : Hp} (I : Tp t c ns H) {b : Addr} (h : H b = none) : b ≠ t := by
  obtain ⟨⟨k, r, _, _, ht⟩, _⟩ := I
  exact (ne_of_none ht h).symm
theorem Tp.made {t c : Addr} {ns : List Int} {H : Hp} (hc : H c = none) (ht : H t = none) (ct : c ≠ t) : Tp t c ns (upd (upd H c (.lst (ns.map V.int))) t (tp c 0 0)) :=
  ⟨⟨0, 0, by decide, by decide, upd_same⟩, (upd_ne ct).trans upd_same⟩
section
variable {P : Program} {w : World} {K : PySem.W.Frag} {mg : Str → Option Value} {base : Heap} {a : Adr}
def sp_is_leap : Sp := fun vs H Q _ => ∃ y : Int, vs = [.int y] ∧ Q (.bl (Civ.isLeap y)) H
theorem ok_is_leap (T : Txt K mg a) : FnOk P w K mg base CX0 1 a.f_is_leap a.d_is_leap ["year"] sp_is_leap := by
  refine T.F_is_leap.ok sc_is_leap (fun vs H Q E h => ?_) (fun cdv A outer s H vs Q E hr h => ?_)
  · obtain ⟨y, rfl, _⟩ := h
    rfl
  · obtain ⟨y, rfl, q⟩ := h
    refine ⟨_, (pss_one (ps_ret (pe_and (pe_cmpR op_eq (pe_op op_modE (pv 0) pe_int) pe_int (nomark _)) (pe_one (pe_or (pe_cmpR op_ne (pe_op op_modE (pv 0) pe_int) pe_int (nomark _)) (pe_one (pe_cmpR op_eq (pe_op op_modE (pv 0) pe_int) pe_int (nomark _)))))))), ?_⟩
    refine red (σ' := [some (.int y)]) rfl ?_
    try dsimp only [cxOf]
    have e : Civ.isLeap y = (decide (y % 4 = 0) && (!decide (y % 100 = 0) || decide (y % 400 = 0))) := rfl
    walk_at "go"
    rw [dec_int]
    refine iteB (fun h1 => ?_) (fun h1 => ?_)
    · walk_at "go"
      rw [dec_int]
      refine iteB (fun h2 => ?_) (fun h2 => ?_)
      · rw [e, h1, h2] at q; exact q
      · walk_at "go"
        rw [dec_int]
        rw [e, h1, h2] at q; exact q
    · rw [e, h1] at q; exact q
def sp_year_of_month : Sp := fun vs H Q _ => ∃ m : Int, vs = [.int m] ∧ Q (.int (m / 12 + 1)) H
theorem ok_year_of_month (T : Txt K mg a) : FnOk P w K mg base CX0 1 a.f_year_of_month a.d_year_of_month ["m"] sp_year_of_month := by
  refine T.F_year_of_month.ok sc_year_of_month (fun vs H Q E h => ?_) (fun cdv A outer s H vs Q E hr h => ?_)
  · obtain ⟨y, rfl, _⟩ := h
    rfl
  · obtain ⟨y, rfl, q⟩ := h
    refine ⟨_, (pss_one (ps_ret (pe_op op_add (pe_op op_fdivE (pv 0) pe_int) pe_int))), ?_⟩
    refine red (σ' := [some (.int y)]) rfl ?_
    try dsimp only [cxOf]
    walk_at "go"
    exact q
theorem at12 {xs : List Int} (hx : xs.length = 12) (m : Int) : atI (xs.map V.int) (m % 12) = some (.int (xs.getD (m % 12).toNat 0)) := by
  obtain ⟨k, hk⟩ := Int.eq_ofNat_of_zero_le (show 0 ≤ m % 12 by omega)
  rw [hk, Int.toNat_natCast]
  have l : k < xs.length := by omega
  refine atI_nat ?_
  rw [List.getElem?_map, List.getElem?_eq_getElem l, List.getD_eq_getElem?_getD, List.getElem?_eq_getElem l]
  rfl
def sp_month_length : Sp := fun vs H Q _ => ∃ m : Int, vs = [.int m] ∧ Q (.int (Civ.len m)) H
theorem ok_month_length (T : Txt K mg a) : FnOk P w K mg base CX0 2 a.f_month_length a.d_month_length ["m"] sp_month_length := by
  refine T.F_month_length.ok sc_month_length (fun vs H Q E h => ?_) (fun cdv A outer s H vs Q E hr h => ?_)
  · obtain ⟨y, rfl, _⟩ := h
    rfl
  · obtain ⟨m, rfl, q⟩ := h
    refine ⟨_, (pss_cons (ps_if (PW.pt (pw_and (pt_cmpR op_eq (pe_op op_modE (pv 0) pe_int) pe_int (nomark _)) (pw_and1 (pt_val (pe_call (ok_is_leap T) (hr.mono (by decide)) (by rfl) T.g_is_leap T.F_is_leap.kp T.b_is_leap .nil pass0 (pa_cons (pe_call (ok_year_of_month T) (hr.mono (by decide)) (by rfl) T.g_year_of_month T.F_year_of_month.kp T.b_year_of_month .nil pass0 (pa_cons (pv 0) pa_nil)) pa_nil))))))
       (pss_one (ps_ret pe_int))
       pss_nil)
       (pss_one (ps_ret (pe_ix ix_tup (pe_glob (v := .ref a.A_LENGTHS) (by rfl) T.g_LENGTHS rfl) (pe_op op_modE (pv 0) pe_int) (fun _ _ => rfl))))), ?_⟩
    refine red (σ' := [some (.int m)]) rfl ?_
    try dsimp only [cxOf]
    have fin : ∀ {Q : VK}, ¬ (m % 12 = 1 ∧ Civ.isLeap (m / 12 + 1) = true) → Q (.int (Civ.len m)) H → rIxT K (.ref a.A_LENGTHS) (.int (m % 12)) H Q := fun {Q} hn q => by
      refine g_ixT (T.h_LENGTHS H) (at12 rfl m) ?_
      have e : Civ.len m = Civ.LEN.getD (m % 12).toNat 0 := by
        unfold Civ.len Civ.lp
        by_cases h1 : m % 12 = 1
        · rw [if_pos h1, if_neg (fun h2 => hn ⟨h1, h2⟩)]; show _ + 0 = _; rw [Int.add_zero]; rfl
        · rw [if_neg h1]; show _ + 0 = _; rw [Int.add_zero]; rfl
      rw [e] at q
      exact q
    walk_at "go"
    rw [dec_int]
    refine iteB (fun h1 => ?_) (fun h1 => ?_)
    · have h1 := of_decide_eq_true h1
      walk_at "go"
      refine ⟨m, rfl, ?_⟩
      walk_at "go"
      refine ⟨_, rfl, ?_⟩
      walk_at "go"
      refine iteB (fun h2 => ?_) (fun h2 => ?_)
      · have e : Civ.len m = 29 := by
          unfold Civ.len Civ.lp
          rw [if_pos h1, if_pos h2, h1]; rfl
        rw [e] at q
        walk_at "go"
        exact q
      · walk_at "go"
        exact fin (fun z => by rw [z.2] at h2; cases h2) q
    · have h1 := of_decide_eq_false h1
      refine iteF ?_
      walk_at "go"
      exact fin (fun z => h1 z.1) q
def sp_first_day : Sp := fun vs H Q _ => ∃ m : Int, vs = [.int m] ∧ Q (.int (Civ.fd m)) H
theorem ok_first_day (T : Txt K mg a) : FnOk P w K mg base CX0 2 a.f_first_day a.d_first_day ["m"] sp_first_day := by
  refine T.F_first_day.ok sc_first_day (fun vs H Q E h => ?_) (fun cdv A outer s H vs Q E hr h => ?_)
  · obtain ⟨y, rfl, _⟩ := h
    rfl
  · obtain ⟨m, rfl, q⟩ := h
    refine ⟨_, (pss_cons (ps_set (i := 1) sc_first_day.nd rfl (.inl rfl) (pe_op op_fdivE (pv 0) pe_int))
       (pss_cons (ps_set (i := 2) sc_first_day.nd rfl (.inl rfl) (pe_op op_add (pe_op op_sub (pe_op op_add (pe_op op_mul pe_int (pv 1)) (pe_op op_fdivE (pv 1) pe_int)) (pe_op op_fdivE (pv 1) pe_int)) (pe_op op_fdivE (pv 1) pe_int)))
       (pss_cons (ps_aug (i := 2) sc_first_day.nd rfl (.inl rfl) (pe_ix ix_tup (pe_glob (v := .ref a.A_BEFORE) (by rfl) T.g_BEFORE rfl) (pe_op op_modE (pv 0) pe_int) (fun _ _ => rfl)) ip_add)
       (C8.pss_cut (ps_if (PW.pt (pw_and (pt_cmpR op_gt (pe_op op_modE (pv 0) pe_int) pe_int (nomark _)) (pw_and1 (pt_val (pe_call (ok_is_leap T) (hr.mono (by decide)) (by rfl) T.g_is_leap T.F_is_leap.kp T.b_is_leap .nil pass0 (pa_cons (pe_op op_add (pv 1) pe_int) pa_nil))))))
       (pss_one (ps_aug (i := 2) sc_first_day.nd rfl (.inl rfl) pe_int ip_add))
       pss_nil)
       (pss_one (ps_ret (pv 2))))))), ?_⟩
    refine red (σ' := [some (.int m), none, none]) rfl ?_
    try dsimp only [cxOf]
    walk_at "go"
    refine g_ixT (T.h_BEFORE H) (at12 rfl m) ?_
    walk_at "go"
    refine ⟨fun σ' H' => ∃ z : Int, z = Civ.fd m ∧ σ' = [some (.int m), some (.int (m / 12)), some (.int z)] ∧ H = H', ?_, ?_⟩
    · walk_at "go"
      refine iteK (fun h1 => ?_) (fun h1 => ?_)
      · walk_at "go"
        refine ⟨_, rfl, ?_⟩
        walk_at "go"
        refine iteB (fun h2 => ?_) (fun h2 => ?_)
        · walk_at "go"
          refine ⟨_, ?_, rfl, rfl⟩
          show _ = Civ.yd (m / 12) + Civ.bef (m % 12) + if 1 < m % 12 then Civ.lp (m / 12 + 1) else 0
          rw [if_pos (by omega)]
          unfold Civ.lp
          rw [if_pos h2]
          rfl
        · walk_at "go"
          refine ⟨_, ?_, rfl, rfl⟩
          show _ = Civ.yd (m / 12) + Civ.bef (m % 12) + if 1 < m % 12 then Civ.lp (m / 12 + 1) else 0
          rw [if_pos (by omega)]
          unfold Civ.lp
          rw [if_neg (by rw [h2]; decide), Int.add_zero]
          rfl
      · refine iteF ?_
        walk_at "go"
        refine ⟨_, ?_, rfl, rfl⟩
        show _ = Civ.yd (m / 12) + Civ.bef (m % 12) + if 1 < m % 12 then Civ.lp (m / 12 + 1) else 0
        rw [if_neg (by omega), Int.add_zero]
        rfl
    · rintro σ' H' ⟨z, rfl, rfl, rfl⟩
      walk_at "go"
      exact q
end
section
variable {P : Program} {w : World} {K : PySem.W.Frag} {mg : Str → Option Value} {base : Heap} {a : Adr}
/-! ### primes, places, repeating -/
abbrev ni (l : List Nat) : List V := l.map fun (q : Nat) => V.int (q : Int)
theorem ni_at {l : List Nat} {i : Nat} (h : i < l.length) : atI (ni l) ((i : Nat) : Int) = some (.int (l[i] : Nat)) := atI_nat (by rw [List.getElem?_map, List.getElem?_eq_getElem h]; rfl)
def sp_primes_of : Sp := fun vs H Q _ => ∃ n : Nat, vs = [.int n] ∧ 1 ≤ n ∧ n < 1073741824 ∧ ∀ L H', H L = none → Same H H' → H' L = some (.lst (ni (Per.primes n))) → Q (.ref L) H'
theorem ok_primes_of (T : Txt K mg a) : FnOk P w K mg base CX0 1 a.f_primes_of a.d_primes_of ["n"] sp_primes_of := by
  refine T.F_primes_of.ok sc_primes_of (fun vs H Q E h => ?_) (fun cdv A outer s H vs Q E hr h => ?_)
  · obtain ⟨n, rfl, _⟩ := h
    rfl
  · obtain ⟨n0, rfl, n1, n2, q⟩ := h
    refine ⟨_, (pss_cons (ps_set (i := 1) sc_primes_of.nd rfl (.inl rfl) (pe_lst pa_nil))
       (pss_cons (ps_set (i := 2) sc_primes_of.nd rfl (.inl rfl) pe_int)
       (pss_cons (ps_while PassesOwn.never (pt_cmpR op_le (pe_op op_mul (pv 2) (pv 2)) (pv 0) (nomark _))
       (C8.pss_cut (ps_if (pt_cmpR op_eq (pe_op op_modE (pv 0) (pv 2)) pe_int (nomark _))
       (pss_cons (ps_expr (pe_bm PySem.F.plainAttrs_list PySem.F.slot_list_append PySem.F.type_list_append mt_append (pv 1) (pa_cons (pv 2) pa_nil)))
       (pss_one (ps_while PassesOwn.never (pt_cmpR op_eq (pe_op op_modE (pv 0) (pv 2)) pe_int (nomark _))
       (pss_one (ps_aug (i := 0) sc_primes_of.nd rfl (.inl rfl) (pv 2) ip_fdiv)))))
       pss_nil)
       (pss_one (ps_aug (i := 2) sc_primes_of.nd rfl (.inl rfl) pe_int ip_add))))
       (C8.pss_cut (ps_if (pt_cmpR op_gt (pv 0) pe_int (nomark _))
       (pss_one (ps_expr (pe_bm PySem.F.plainAttrs_list PySem.F.slot_list_append PySem.F.type_list_append mt_append (pv 1) (pa_cons (pv 0) pa_nil))))
       pss_nil)
       (pss_one (ps_ret (pv 1))))))), ?_⟩
    refine red (σ' := [some (.int n0), none, none]) rfl ?_
    try dsimp only [cxOf]
    walk_at "go"
    refine nwL (ys := []) rfl (by decide) fun L H1 hL sm hLL => ?_
    walk_at "go"
    refine ⟨fun m σ' H' => ∃ (n p : Nat) (fd : List Nat), σ' = [some (.int n), some (.ref L), some (.int p)] ∧ Same H H' ∧ H' L = some (.lst (ni fd)) ∧ 2 ≤ p ∧ 1 ≤ n ∧ n ≤ n0 ∧ p ≤ n0 + 2 ∧ fd.length ≤ p ∧ fd.length ≤ 32768 ∧ Per.prGo p n fd = Per.primes n0 ∧ m = n0 + 3 - p,
      ⟨_, n0, 2, [], rfl, sm, hLL, Nat.le_refl _, n1, Nat.le_refl _, by omega, by decide, by decide, rfl, rfl⟩, ?_⟩
    rintro m σ' H2 ⟨n, p, fd, rfl, sm2, hL2, p2, n3, n4, p3, hf, hf2, hg, rfl⟩
    walk_at "go"
    refine iteK (fun h1 => ?_) (fun h1 => ?_)
    · have h1 : p * p ≤ n := by
        have h1 : (p : Int) * (p : Int) ≤ (n : Int) := h1
        exact_mod_cast h1
      have hpn := Per.sq_le h1 p2
      have hp15 : p < 32768 := Nat.lt_of_not_le fun z => by have := Nat.mul_le_mul z z; omega
      rw [Per.prGo, dif_pos ⟨p2, h1⟩] at hg
      refine ⟨fun σ' H' => ∃ (n' : Nat) (fd' : List Nat), σ' = [some (.int n'), some (.ref L), some (.int (p + 1 : Nat))] ∧ Same H H' ∧ H' L = some (.lst (ni fd')) ∧ 1 ≤ n' ∧ n' ≤ n0 ∧ fd'.length ≤ p + 1 ∧ fd'.length ≤ 32768 ∧ Per.prGo (p + 1) n' fd' = Per.primes n0, ?_, ?_⟩
      · rintro σ' H' ⟨n', fd', rfl, s3, hL3, a1, a2, a3, a4, a5⟩
        exact ⟨_, (by omega : n0 + 3 - (p + 1) < _), n', p + 1, fd', rfl, s3, hL3, by omega, a1, a2, by omega, a3, a4, a5, rfl⟩
      walk_at "go"
      refine ⟨fun σ' H' => ∃ (n' : Nat) (fd' : List Nat), σ' = [some (.int n'), some (.ref L), some (.int p)] ∧ Same H H' ∧ H' L = some (.lst (ni fd')) ∧ 1 ≤ n' ∧ n' ≤ n0 ∧ fd'.length ≤ p + 1 ∧ fd'.length ≤ 32768 ∧ Per.prGo (p + 1) n' fd' = Per.primes n0, ?_, ?_⟩
      · walk_at "go"
        rw [dec_int]
        refine iteK (fun h2 => ?_) (fun h2 => ?_)
        · have h2 : n % p = 0 := by exact_mod_cast h2
          rw [if_pos h2] at hg
          walk_at "go"
          refine ⟨.inl ⟨rfl, _, SqL.of hL2⟩, ?_⟩
          walk_at "go"
          refine ⟨L, _, _, rfl, rfl, hL2, by rw [List.length_map]; have := sizeBig; have := sizeLine_eq; omega, ?_⟩
          have hL3 : upd H2 L (.lst (ni fd ++ [V.int p])) L = some (.lst (ni (fd ++ [p]))) := by rw [upd_same, ni, ni, List.map_append]; rfl
          have sm3 : Same H (upd H2 L (.lst (ni fd ++ [V.int p]))) := same_put hL sm2
          generalize upd H2 L (.lst (ni fd ++ [V.int p])) = H3 at hL3 sm3
          refine ⟨fun m σ' H' => ∃ n' : Nat, σ' = [some (.int n'), some (.ref L), some (.int p)] ∧ H' = H3 ∧ 1 ≤ n' ∧ n' ≤ n0 ∧ Per.strip p n' = Per.strip p n ∧ n' = m, ⟨_, n, rfl, rfl, n3, n4, rfl, rfl⟩, ?_⟩
          rintro m σ' H' ⟨n', rfl, rfl, b1, b2, b3, rfl⟩
          walk_at "go"
          rw [dec_int]
          rw [Per.strip] at b3
          refine iteK (fun h3 => ?_) (fun h3 => ?_)
          · have h3 : n' % p = 0 := by exact_mod_cast h3
            rw [dif_pos ⟨p2, b1, h3⟩] at b3
            have hdv := Nat.div_lt_self (show 0 < n' by omega) (show 1 < p by omega)
            have hd1 : 1 ≤ n' / p := Nat.div_pos (Nat.le_of_dvd b1 (Nat.dvd_of_mod_eq_zero h3)) (by omega)
            refine ⟨fun σ' H'' => σ' = [some (.int (n' / p : Nat)), some (.ref L), some (.int p)] ∧ H'' = H', ?_, ?_⟩
            · rintro σ' H'' ⟨rfl, rfl⟩
              exact ⟨n' / p, hdv, n' / p, rfl, rfl, hd1, by omega, b3, rfl⟩
            walk_at "go"
            exact ⟨by rw [Int.natCast_ediv]; rfl, rfl⟩
          · have h3 : ¬ n' % p = 0 := fun z => h3 (by exact_mod_cast z)
            rw [dif_neg (fun z => h3 z.2.2)] at b3
            rw [← b3] at hg
            exact ⟨n', fd ++ [p], rfl, sm3, hL3, b1, b2, by rw [List.length_append, List.length_singleton]; omega, by rw [List.length_append, List.length_singleton]; omega, hg⟩
        · have h2 : ¬ n % p = 0 := fun z => h2 (by exact_mod_cast z)
          rw [if_neg h2] at hg
          walk_at "go"
          exact ⟨n, fd, rfl, sm2, hL2, n3, n4, by omega, hf2, hg⟩
      · rintro σ' H3 ⟨n', fd', rfl, s3, hL3, a1, a2, a3, a4, a5⟩
        walk_at "go"
        have e : ((p : Nat) : Int) + 1 = ((p + 1 : Nat) : Int) := by omega
        rw [e]
        exact ⟨n', fd', rfl, s3, hL3, a1, a2, a3, a4, a5⟩
    · have h1 : ¬ p * p ≤ n := fun z => h1 (by
        show (p : Int) * (p : Int) ≤ (n : Int)
        exact_mod_cast z)
      rw [Per.prGo, dif_neg (fun z => h1 z.2)] at hg
      walk_at "go"
      refine ⟨fun σ' H' => ∃ x : Option V, σ' = [some (.int n), some (.ref L), x] ∧ Same H H' ∧ H' L = some (.lst (ni (Per.primes n0))), ?_, ?_⟩
      · walk_at "go"
        refine iteK (fun h2 => ?_) (fun h2 => ?_)
        · rw [if_pos (by omega)] at hg
          walk_at "go"
          refine ⟨.inl ⟨rfl, _, SqL.of hL2⟩, ?_⟩
          walk_at "go"
          refine ⟨L, _, _, rfl, rfl, hL2, by rw [List.length_map]; have := sizeBig; have := sizeLine_eq; omega, ?_⟩
          refine ⟨_, rfl, same_put hL sm2, ?_⟩
          rw [upd_same, ← hg, ni, ni, List.map_append]; rfl
        · rw [if_neg (by omega)] at hg
          walk_at "go"
          exact ⟨_, rfl, sm2, by rw [← hg]; exact hL2⟩
      · rintro σ' H3 ⟨x, rfl, s3, hL3⟩
        walk_at "go"
        exact q L H3 hL s3 hL3
def sp_place_in (K : PySem.W.Frag) : Sp := fun vs H Q _ => ∃ (t : Addr) (R : List Nat) (r : Nat), vs = [.ref t, .int r] ∧ SqT K H t (ni R) ∧ R.length < 1000000 ∧ R.Pairwise (· < ·) ∧
  ∀ k : Nat, k ≤ R.length → (∀ (j x : Nat), R[j]? = some x → j < k → x < r) → (∀ (j x : Nat), R[j]? = some x → k ≤ j → r ≤ x) → Q (.int k) H
theorem ok_place_in (T : Txt K mg a) : FnOk P w K mg base CX0 1 a.f_place_in a.d_place_in ["residues", "r"] (sp_place_in K) := by
  refine T.F_place_in.ok sc_place_in (fun vs H Q E h => ?_) (fun cdv A outer s H vs Q E hr h => ?_)
  · obtain ⟨t, R, r, rfl, _⟩ := h
    rfl
  · obtain ⟨t, R, r, rfl, ht, hn, hs, q⟩ := h
    refine ⟨_, (pss_cons (ps_par (i := 2) (j := 3) rfl sc_place_in.nd rfl rfl (by decide) rfl rfl (pa_cons pe_int (pa_cons (pe_callB call_len_seq (by rfl) T.z_len (by decide +kernel) (pa_cons (pv 0) pa_nil)) pa_nil)) (by rfl))
       (pss_cons (ps_while PassesOwn.never (pt_cmpR op_lt (pv 2) (pv 3) (nomark _))
       (pss_cons (ps_set (i := 4) sc_place_in.nd rfl (.inl rfl) (pe_op op_fdivE (pe_op op_add (pv 2) (pv 3)) pe_int))
       (pss_one (ps_if (pt_cmpR op_lt (pe_ix ix_tup (pv 0) (pv 4) (fun _ _ => rfl)) (pv 1) (nomark _))
       (pss_one (ps_set (i := 2) sc_place_in.nd rfl (.inl rfl) (pe_op op_add (pv 4) pe_int)))
       (pss_one (ps_set (i := 3) sc_place_in.nd rfl (.inl rfl) (pv 4)))))))
       (pss_one (ps_ret (pv 2))))), ?_⟩
    refine red (σ' := [some (.ref t), some (.int r), none, none, none]) rfl ?_
    try dsimp only [cxOf]
    walk_at "go"
    refine ⟨_, _, rfl, ?_⟩
    walk_at "go"
    rw [List.length_map]
    have mono : ∀ (i j x y : Nat), R[i]? = some x → R[j]? = some y → i ≤ j → x ≤ y := by
      intro i j x y hx hy hij
      rcases Nat.lt_or_ge i j with h | h
      · obtain ⟨h1, rfl⟩ := List.getElem?_eq_some_iff.mp hx
        obtain ⟨h2, rfl⟩ := List.getElem?_eq_some_iff.mp hy
        exact Nat.le_of_lt (List.pairwise_iff_getElem.mp hs i j h1 h2 h)
      · have : i = j := by omega
        subst this
        rw [hx] at hy; cases hy; exact Nat.le_refl _
    refine ⟨fun m σ' H' => ∃ (lo hi : Nat) (x : Option V), σ' = [some (.ref t), some (.int r), some (.int lo), some (.int hi), x] ∧ H' = H ∧ lo ≤ hi ∧ hi ≤ R.length ∧ (∀ (j x : Nat), R[j]? = some x → j < lo → x < r) ∧ (∀ (j x : Nat), R[j]? = some x → hi ≤ j → r ≤ x) ∧ m = hi - lo,
      ⟨_, 0, R.length, _, rfl, rfl, Nat.zero_le _, Nat.le_refl _, fun j x _ h => absurd h (by omega), fun j x h1 h2 => absurd (List.getElem?_eq_some_iff.mp h1).1 (by omega), rfl⟩, ?_⟩
    rintro m σ' H' ⟨lo, hi, x, rfl, rfl, h1, h2, h3, h4, rfl⟩
    walk_at "go"
    refine iteK (fun h5 => ?_) (fun h5 => ?_)
    · have hm : (((lo : Nat) : Int) + (hi : Nat)) / 2 = (((lo + hi) / 2 : Nat) : Int) := by omega
      have hl : (lo + hi) / 2 < R.length := by omega
      refine ⟨fun σ' H'' => ∃ (lo' hi' : Nat) (x : Option V), σ' = [some (.ref t), some (.int r), some (.int lo'), some (.int hi'), x] ∧ H'' = H' ∧ lo' ≤ hi' ∧ hi' ≤ R.length ∧ (∀ (j x : Nat), R[j]? = some x → j < lo' → x < r) ∧ (∀ (j x : Nat), R[j]? = some x → hi' ≤ j → r ≤ x) ∧ hi' - lo' < hi - lo, ?_, ?_⟩
      · rintro σ' H'' ⟨lo', hi', x, rfl, rfl, a1, a2, a3, a4, a5⟩
        exact ⟨_, a5, lo', hi', x, rfl, rfl, a1, a2, a3, a4, rfl⟩
      walk_at "go"
      rw [hm]
      refine g_ixT ht (ni_at hl) ?_
      walk_at "go"
      have hx : R[(lo + hi) / 2]? = some R[(lo + hi) / 2] := List.getElem?_eq_getElem hl
      generalize R[(lo + hi) / 2] = y at hx
      refine iteK (fun h6 => ?_) (fun h6 => ?_)
      · walk_at "go"
        exact ⟨(lo + hi) / 2 + 1, hi, _, rfl, rfl, by omega, h2, fun j z hz hj => Nat.lt_of_le_of_lt (mono j _ z y hz hx (by omega)) (by omega), h4, by omega⟩
      · walk_at "go"
        exact ⟨lo, (lo + hi) / 2, _, rfl, rfl, by omega, by omega, h3, fun j z hz hj => Nat.le_trans (by omega : r ≤ y) (mono _ j y z hx hz hj), by omega⟩
    · walk_at "go"
      have e : lo = hi := by omega
      subst e
      exact q lo h2 h3 h4
def sp_has (K : PySem.W.Frag) : Sp := fun vs H Q _ => ∃ (p : Nat) (t : Addr) (R : List Nat) (d : Nat), vs = [.int p, .ref t, .int d] ∧ 1 ≤ p ∧ SqT K H t (ni R) ∧ R.length < 1000000 ∧ R.Pairwise (· < ·) ∧ Q (.bl (decide (d % p ∈ R))) H
theorem ok_has (T : Txt K mg a) : FnOk P w K mg base CX0 2 a.f_has a.d_has ["period", "residues", "d"] (sp_has K) := by
  refine T.F_has.ok sc_has (fun vs H Q E h => ?_) (fun cdv A outer s H vs Q E hr h => ?_)
  · obtain ⟨p, t, R, d, rfl, _⟩ := h
    rfl
  · obtain ⟨p, t, R, d, rfl, hp, ht, hn, hs, q⟩ := h
    refine ⟨_, (pss_cons (ps_set (i := 3) sc_has.nd rfl (.inl rfl) (pe_op op_modE (pv 2) (pv 0)))
       (pss_cons (ps_set (i := 4) sc_has.nd rfl (.inl rfl) (pe_call (ok_place_in T) (hr.mono (by decide)) (by rfl) T.g_place_in T.F_place_in.kp T.b_place_in .nil pass0 (pa_cons (pv 1) (pa_cons (pv 3) pa_nil))))
       (pss_one (ps_ret (pe_and (pe_cmpR op_lt (pv 4) (pe_callB call_len_seq (by rfl) T.z_len (by decide +kernel) (pa_cons (pv 1) pa_nil)) (nomark _)) (pe_one (pe_cmpR op_eq (pe_ix ix_tup (pv 1) (pv 4) (fun _ _ => rfl)) (pv 3) (nomark _)))))))), ?_⟩
    refine red (σ' := [some (.int p), some (.ref t), some (.int d), none, none]) rfl ?_
    try dsimp only [cxOf]
    walk_at "go"
    have em : ((d : Nat) : Int) % (p : Nat) = ((d % p : Nat) : Int) := (Int.natCast_emod d p).symm
    rw [em]
    generalize d % p = r at q
    refine ⟨t, R, r, rfl, ht, hn, hs, fun k hk h1 h2 => ?_⟩
    walk_at "go"
    rw [List.length_map]
    refine iteK (fun h => ?_) (fun h => ?_)
    · have hl : k < R.length := by omega
      walk_at "go"
      refine g_ixT ht (ni_at hl) ?_
      walk_at "go"
      rw [dec_int]
      have hx : R[k]? = some R[k] := List.getElem?_eq_getElem hl
      generalize R[k] = y at hx
      have e : decide (((y : Nat) : Int) = (r : Nat)) = decide (r ∈ R) := decide_eq_decide.mpr ⟨fun z => by
        have : y = r := by omega
        subst this
        exact List.mem_of_getElem? hx, fun z => by
        obtain ⟨j, hj⟩ := List.getElem?_of_mem z
        rcases Nat.lt_or_ge j k with g | g
        · have := h1 j r hj g; omega
        · have g2 := h2 k y hx (Nat.le_refl _)
          rcases Nat.lt_or_ge k j with g3 | g3
          · obtain ⟨a1, rfl⟩ := List.getElem?_eq_some_iff.mp hx
            obtain ⟨a2, rfl⟩ := List.getElem?_eq_some_iff.mp hj
            have := List.pairwise_iff_getElem.mp hs k j a1 a2 g3
            omega
          · have : j = k := by omega
            subst this
            rw [hj] at hx; cases hx; rfl⟩
      rw [e]; exact q
    · have e : decide (r ∈ R) = false := decide_eq_false fun z => by
        obtain ⟨j, hj⟩ := List.getElem?_of_mem z
        have := (List.getElem?_eq_some_iff.mp hj).1
        have := h1 j r hj (by omega)
        omega
      rw [e] at q
      exact q
end
section
variable {P : Program} {w : World} {K : PySem.W.Frag} {mg : Str → Option Value} {base : Heap} {a : Adr}
/-! ### shrinking -/
def sp_repeats (K : PySem.W.Frag) : Sp := fun vs H Q _ => ∃ (p st : Nat) (t : Addr) (R : List Nat), vs = [.int p, .ref t, .int st] ∧ 1 ≤ p ∧ p < 1073741824 ∧ 1 ≤ st ∧ st ≤ p ∧ SqT K H t (ni R) ∧ R.length ≤ 1000 ∧ ∀ H', Same H H' → Q (.bl (Per.rep p R st)) H'
theorem ni_mem {R : List Nat} {n : Nat} : (decide ((n : Int) ∈ R.map fun (q : Nat) => (q : Int)) : Bool) = decide (n ∈ R) := decide_eq_decide.mpr ⟨fun h => by
  obtain ⟨x, hx, e⟩ := List.mem_map.mp h
  have : x = n := by omega
  rwa [← this], fun h => List.mem_map.mpr ⟨n, h, rfl⟩⟩
theorem ok_repeats (T : Txt K mg a) : FnOk P w K mg base CX0 1 a.f_repeats a.d_repeats ["period", "residues", "step"] (sp_repeats K) := by
  refine T.F_repeats.ok sc_repeats (fun vs H Q E h => ?_) (fun cdv A outer s H vs Q E hr h => ?_)
  · obtain ⟨p, st, t, R, rfl, _⟩ := h
    rfl
  · obtain ⟨p, st, t, R, rfl, p1, p2, s1, s2, ht, hn, q⟩ := h
    refine ⟨_, (pss_cons (ps_if (pt_cmpR op_ne (pe_op op_modE (pe_callB call_len_seq (by rfl) T.z_len (by decide +kernel) (pa_cons (pv 1) pa_nil)) (pe_op op_fdivE (pv 0) (pv 2))) pe_int (nomark _))
       (pss_one (ps_ret pe_bl))
       pss_nil)
       (pss_cons (ps_set (i := 3) sc_repeats.nd rfl (.inr rfl) (pe_callTy (cr_setTupI rfl) (by rfl) T.z_set (by decide +kernel) (pa_cons (pv 1) pa_nil)))
       (pss_one (ps_ret (pe_callB (cr_all rfl) (by rfl) T.z_all (by decide +kernel) (pa_cons (pe_lc (own := [("r", 4)]) (g := (gName 4)) rfl sc_repeats.nd (pi_tup (pv 1)) (blkOk_by (own := [("r", 4)]) (N := ["period", "residues", "step", "known", "r"]) (sc := defScope s_repeats) (by decide +kernel)) (fun _ _ _ _ _ => (pg_name (i := 4) sc_repeats.nd rfl (.inl rfl))) (fun _ _ _ _ _ => pts_nil) (fun _ _ _ _ _ => (pe_cmpR (show OpR _ _ (rSIn w) from or_sin) (pe_op op_modE (pe_op op_add (pv 4) (pv 2)) (pv 0)) (pv 3) rfl))) pa_nil)))))), ?_⟩
    refine red (σ' := [some (.int p), some (.ref t), some (.int st), none, none]) rfl ?_
    try dsimp only [cxOf]
    have hd0 : 1 ≤ p / st := Nat.div_pos s2 (by omega)
    unfold Per.rep at q
    walk_at "go"
    rw [List.length_map]
    have e1 : ((p : Nat) : Int) / (st : Nat) = ((p / st : Nat) : Int) := (Int.natCast_ediv p st).symm
    rw [e1]
    have e2 : ((R.length : Nat) : Int) % ((p / st : Nat) : Int) = ((R.length % (p / st) : Nat) : Int) := (Int.natCast_emod _ _).symm
    rw [e2]
    generalize R.length % (p / st) = z at q
    rw [dec_int]
    refine iteNK (fun h => ?_) (fun h => ?_)
    · walk_at "go"
      have := q H (Same.refl H)
      rw [decide_eq_false (by omega), Bool.false_and] at this
      exact this
    · rw [decide_eq_true (by omega)] at q
      simp only [Bool.true_and] at q
      walk_at "go"
      have et : ni R = (R.map fun (q : Nat) => (q : Int)).map V.int := by rw [List.map_map]; rfl
      refine ⟨t, R.map fun (q : Nat) => (q : Int), rfl, by rw [← et]; exact ht, by rw [List.length_map]; exact hn, fun S n hS => ?_⟩
      have sm := same_new (o := SetO w S (fun j => decide (j ∈ R.map fun (q : Nat) => (q : Int))) n) hS
      have hSS : upd H S (SetO w S (fun j => decide (j ∈ R.map fun (q : Nat) => (q : Int))) n) S = some (SetO w S (fun j => decide (j ∈ R.map fun (q : Nat) => (q : Int))) n) := upd_same
      generalize upd H S (SetO w S (fun j => decide (j ∈ R.map fun (q : Nat) => (q : Int))) n) = H1 at sm hSS
      walk_at "go"
      have ht1 := SqT.ext ht sm
      refine ⟨t, rfl, ⟨_, ht1⟩, fun D hD => ?_⟩
      refine lc_tup (K := K) (a := t) (xs := ni R) (fun i H' => Same H1 H' ∧ H' D = some (.lst (((R.take i).map fun r => decide ((r + st) % p ∈ R)).map V.bl))) ⟨same_new hD, upd_same⟩ (fun i H' _ h => SqT.ext ht1 h.1) ?_ ?_
      · rintro i x H2 hi ⟨sm2, hD2⟩
        obtain ⟨r, hr, rfl⟩ : ∃ r, R[i]? = some r ∧ x = .int (r : Nat) := by
          rw [List.getElem?_map] at hi
          cases e : R[i]? with
          | none => rw [e] at hi; cases hi
          | some r => rw [e] at hi; exact ⟨r, rfl, (Option.some.inj hi).symm⟩
        walk_at "go"
        refine ⟨rfl, g_yes (iteT ?_)⟩
        walk_at "go"
        refine ⟨_, S, _, n, rfl, rfl, sm2 _ _ hSS, ?_⟩
        have e3 : (((r : Nat) : Int) + (st : Nat)) % (p : Nat) = (((r + st) % p : Nat) : Int) := by rw [Int.natCast_emod, Int.natCast_add]
        rw [e3, show decide ((((r + st) % p : Nat) : Int) ∈ R.map fun (q : Nat) => (q : Int)) = decide ((r + st) % p ∈ R) from ni_mem]
        refine ⟨_, hD2, ?_, same_put hD sm2, ?_⟩
        · have := sizeBig
          rw [List.length_map, List.length_map, List.length_take]
          omega
        · rw [upd_same, take_more hr, List.map_append, List.map_append]; rfl
      · rintro H2 ⟨sm2, hD2⟩
        rw [List.length_map, List.take_length] at hD2
        refine ⟨D, _, rfl, SqL.of hD2, ?_⟩
        rw [all_id]
        exact q _ (sm.trans sm2)
def sp_shrunk (K : PySem.W.Frag) : Sp := fun vs H Q _ => ∃ (p : Nat) (t : Addr) (R : List Nat), vs = [.int p, .ref t] ∧ Per.Ok p R ∧ p < 1073741824 ∧ SqT K H t (ni R) ∧ R.length ≤ 1000 ∧
  ∀ u t' H', Same H H' → H' u = some (.tup [.int (Per.shr p R).1, .ref t']) → SqT K H' t' (ni (Per.shr p R).2) → Q (.ref u) H'
theorem ok_shrunk (T : Txt K mg a) : FnOk P w K mg base CX0 2 a.f_shrunk a.d_shrunk ["period", "residues"] (sp_shrunk K) := by
  refine T.F_shrunk.ok sc_shrunk (fun vs H Q E h => ?_) (fun cdv A outer s H vs Q E hr h => ?_)
  · obtain ⟨p, t, R, rfl, _⟩ := h
    rfl
  · obtain ⟨p, t, R, rfl, ok, p2, ht, hn, q⟩ := h
    refine ⟨_, (pss_cons (ps_for PassesOwn.never rfl (pi_list (pe_call (ok_primes_of T) (hr.mono (by decide)) (by rfl) T.g_primes_of T.F_primes_of.kp T.b_primes_of .nil pass0 (pa_cons (pv 0) pa_nil))) (pg_name (i := 2) sc_shrunk.nd rfl (.inl rfl))
       (pss_one (ps_while PassesOwn.never (PW.pt (pw_and (pt_cmpR op_eq (pe_op op_modE (pv 0) (pv 2)) pe_int (nomark _)) (pw_and1 (pt_val (pe_call (ok_repeats T) (hr.mono (by decide)) (by rfl) T.g_repeats T.F_repeats.kp T.b_repeats .nil pass0 (pa_cons (pv 0) (pa_cons (pv 1) (pa_cons (pe_op op_fdivE (pv 0) (pv 2)) pa_nil))))))))
       (pss_cons (ps_aug (i := 0) sc_shrunk.nd rfl (.inr rfl) (pv 2) ip_fdiv)
       (pss_one (ps_set (i := 1) sc_shrunk.nd rfl (.inl rfl) (pe_callTy call_tuple_of (by rfl) T.z_tuple (by decide +kernel) (pa_cons (pe_lc (own := [("r", 3)]) (g := (gName 3)) rfl sc_shrunk.nd (pi_tup (pv 1)) (blkOk_by (own := [("r", 3)]) (N := ["period", "residues", "p", "r"]) (sc := defScope s_shrunk) (by decide +kernel)) (fun _ _ _ _ _ => (pg_name (i := 3) sc_shrunk.nd rfl (.inl rfl))) (fun _ _ _ _ _ => (pts_one (pt_cmpR op_lt (pv 3) (pv 0) (nomark _)))) (fun _ _ _ _ _ => (pv 3))) pa_nil))))))))
       (pss_one (ps_ret (pe_tup (pa_cons (pv 0) (pa_cons (pv 1) pa_nil)))))), ?_⟩
    refine red (σ' := [some (.int p), some (.ref t), none, none]) rfl ?_
    try dsimp only [cxOf]
    walk_at "go"
    refine ⟨p, rfl, ok.pos, p2, fun L H1 hL sm hLL => ?_⟩
    walk_at "go"
    refine ⟨L, rfl, ⟨_, SqL.of hLL⟩, ?_⟩
    have hpr : ∀ q ∈ Per.primes p, 2 ≤ q ∧ q ≤ p := fun q hq => by
      obtain ⟨a1, a2⟩ := (Per.mem_primes ok.pos).mp hq
      exact ⟨a1.1, Nat.le_of_dvd ok.pos a2⟩
    unfold Per.shr at q
    generalize Per.primes p = l at hLL hpr q
    refine for_list (K := K) (a := L) (xs := ni l) (fun i σ' H' => ∃ (s : Nat × List Nat) (t' : Addr) (x : Option V), s = (l.take i).foldl (fun s p => Per.shGo p s.1 s.2) (p, R) ∧ σ' = [some (.int s.1), some (.ref t'), x, none] ∧ Same H1 H' ∧ SqT K H' t' (ni s.2) ∧ Per.Ok s.1 s.2 ∧ s.1 ≤ p ∧ s.2.length ≤ 1000)
      ⟨(p, R), t, _, rfl, rfl, Same.refl H1, SqT.ext ht sm, ok, Nat.le_refl _, hn⟩ (fun i σ' H' _ h => ?_) ?_ ?_
    · obtain ⟨s, t', x, _, _, s3, _⟩ := h
      exact SqL.of (s3 _ _ hLL)
    · rintro i x σ' H2 hi ⟨s, t', y, hs, rfl, s3, ht', ok', le', ln'⟩
      obtain ⟨z, hz, rfl⟩ : ∃ z, l[i]? = some z ∧ x = .int (z : Nat) := by
        rw [List.getElem?_map] at hi
        cases e : l[i]? with
        | none => rw [e] at hi; cases hi
        | some r => rw [e] at hi; exact ⟨r, rfl, (Option.some.inj hi).symm⟩
      have hzz := hpr z (List.mem_of_getElem? hz)
      have hnext : (l.take (i + 1)).foldl (fun s p => Per.shGo p s.1 s.2) (p, R) = Per.shGo z s.1 s.2 := by
        rw [take_more hz, List.foldl_append, ← hs]; rfl
      walk_at "go"
      refine ⟨fun m σ' H' => ∃ (P' : Nat) (R' : List Nat) (t' : Addr), σ' = [some (.int P'), some (.ref t'), some (.int z), none] ∧ Same H1 H' ∧ SqT K H' t' (ni R') ∧ Per.Ok P' R' ∧ P' ≤ p ∧ R'.length ≤ 1000 ∧ Per.shGo z P' R' = Per.shGo z s.1 s.2 ∧ P' = m, ⟨_, s.1, s.2, t', rfl, s3, ht', ok', le', ln', rfl, rfl⟩, ?_⟩
      rintro m σ' H3 ⟨P', R', t2, rfl, s4, ht2, ok2, le2, ln2, hg, rfl⟩
      have pos2 := ok2.pos
      have done : Per.Stuck z P' R' → ∃ (s : Nat × List Nat) (t' : Addr) (x : Option V), s = (l.take (i + 1)).foldl (fun s p => Per.shGo p s.1 s.2) (p, R) ∧ [some (V.int P'), some (.ref t2), some (.int z), none] = [some (V.int s.1), some (.ref t'), x, none] ∧ Same H1 H3 ∧ SqT K H3 t' (ni s.2) ∧ Per.Ok s.1 s.2 ∧ s.1 ≤ p ∧ s.2.length ≤ 1000 := fun st => by
        rw [Per.shGo_stuck st] at hg
        exact ⟨(P', R'), t2, _, by rw [hnext, hg], rfl, s4, ht2, ok2, le2, ln2⟩
      walk_at "go"
      rw [dec_int]
      refine iteK (fun h1 => ?_) (fun h1 => ?_)
      · have h1 : P' % z = 0 := by exact_mod_cast h1
        have hd1 : 1 ≤ P' / z := Nat.div_pos (Nat.le_of_dvd pos2 (Nat.dvd_of_mod_eq_zero h1)) (by omega)
        have hd2 : P' / z < P' := Nat.div_lt_self (by omega) (by omega)
        walk_at "go"
        have e1 : ((P' : Nat) : Int) / (z : Nat) = ((P' / z : Nat) : Int) := (Int.natCast_ediv P' z).symm
        rw [e1]
        refine ⟨P', P' / z, t2, R', rfl, pos2, by omega, hd1, by omega, ht2, ln2, fun H4 sm4 => ?_⟩
        walk_at "go"
        refine iteB (fun h2 => ?_) (fun h2 => ?_)
        · rw [Per.shGo, dif_pos ⟨⟨hzz.1, pos2⟩, h1, h2⟩] at hg
          have so := Per.step_one ok2 hzz.1 h1 h2
          refine ⟨fun σ' H' => ∃ t3 : Addr, σ' = [some (.int (P' / z : Nat)), some (.ref t3), some (.int z), none] ∧ Same H1 H' ∧ SqT K H' t3 (ni (R'.filter fun r => decide (r < P' / z))), ?_, ?_⟩
          · rintro σ' H' ⟨t3, rfl, a1, a2⟩
            exact ⟨P' / z, hd2, P' / z, _, t3, rfl, a1, a2, so.ok, by omega, Nat.le_trans (List.length_filter_le _ _) ln2, hg, rfl⟩
          walk_at "go"
          rw [e1]
          have ht4 := SqT.ext ht2 sm4
          refine ⟨t2, rfl, ⟨_, ht4⟩, fun D hD => ?_⟩
          refine lc_tup (K := K) (a := t2) (xs := ni R') (fun i H' => Same H4 H' ∧ H' D = some (.lst (ni ((R'.take i).filter fun r => decide (r < P' / z))))) ⟨same_new hD, upd_same⟩ (fun i H' _ h => SqT.ext ht4 h.1) ?_ ?_
          · rintro i x H5 hi ⟨s5, hD5⟩
            obtain ⟨r, hr, rfl⟩ : ∃ r, R'[i]? = some r ∧ x = .int (r : Nat) := by
              rw [List.getElem?_map] at hi
              cases e : R'[i]? with
              | none => rw [e] at hi; cases hi
              | some r => rw [e] at hi; exact ⟨r, rfl, (Option.some.inj hi).symm⟩
            rw [take_more hr, List.filter_append]
            walk_at "go"
            refine ⟨rfl, ?_⟩
            walk_at "go"
            refine iteK (fun h => ?_) (fun h => ?_)
            · have h : r < P' / z := by omega
              have ef : [r].filter (fun r => decide (r < P' / z)) = [r] := List.filter_cons_of_pos (by exact decide_eq_true h)
              rw [ef]
              walk_at "go"
              refine ⟨_, hD5, ?_, same_put hD s5, ?_⟩
              · have := sizeBig
                rw [List.length_map]
                have := List.length_filter_le (fun r => decide (r < P' / z)) (R'.take i)
                rw [List.length_take] at this
                omega
              · rw [upd_same, ni, ni, List.map_append]; rfl
            · have h : ¬ r < P' / z := by omega
              have ef : [r].filter (fun r => decide (r < P' / z)) = [] := List.filter_cons_of_neg (by rw [decide_eq_false h]; decide)
              rw [ef, List.append_nil]
              exact ⟨s5, hD5⟩
          · rintro H5 ⟨s5, hD5⟩
            rw [List.length_map, List.take_length] at hD5
            walk_at "go"
            refine ⟨D, _, rfl, .inl ⟨SqL.of hD5, fun t3 ht3 => ?_⟩⟩
            walk_at "go"
            exact ⟨t3, rfl, s4.trans (sm4.trans (s5.trans (same_new ht3))), SqT.of upd_same⟩
        · refine ⟨(P', R'), t2, _, ?_, rfl, s4.trans sm4, SqT.ext ht2 sm4, ok2, le2, ln2⟩
          have st : Per.Stuck z P' R' := fun h => by rw [h.2] at h2; cases h2
          rw [Per.shGo_stuck st] at hg
          rw [hnext, hg]
      · refine iteF ?_
        exact done fun h => h1 (by exact_mod_cast h.1)
    · rintro σ' H2 ⟨s, t', y, hs, rfl, s3, ht', ok', le', ln'⟩
      rw [List.length_map, List.take_length] at hs
      rw [← hs] at q
      walk_at "go"
      refine nwT (ys := [.int s.1, .ref t']) rfl (by show 2 ≤ 1000000; decide) fun u H3 _ s6 hu => ?_
      exact q u t' H3 (sm.trans (s3.trans s6)) hu (SqT.ext ht' s6)
end
section
variable {P : Program} {w : World} {K : PySem.W.Frag} {mg : Str → Option Value} {base : Heap} {a : Adr}
/-! ### pieces as data -/
def resD (R : List Nat) : PyData := .tuple (R.map fun (r : Nat) => PyData.int (r : Int))
def pcD (p : Per.Piece) : PyData := .tuple [.int (p.1 : Nat), .int (p.2.1 : Nat), resD p.2.2]
def patD (ps : List Per.Piece) : PyData := .tuple (ps.map pcD)
theorem resD_ints (R : List Nat) : resD R = .tuple ((R.map fun (r : Nat) => (r : Int)).map PyData.int) := by unfold resD; rw [List.map_map]; rfl
theorem ni_ints (R : List Nat) : ni R = (R.map fun (r : Nat) => (r : Int)).map V.int := by rw [List.map_map]; rfl
theorem res_inv {H : Hp} {v : V} {R : List Nat} (h : Dp K H v (resD R)) : ∃ t, v = .ref t ∧ SqT K H t (ni R) := by
  rw [resD_ints] at h
  cases h with
  | tup s d => exact ⟨_, rfl, by rw [ni_ints, ← dpAll_ints_inv d]; exact s⟩
theorem res_mk {H : Hp} {t : Addr} {R : List Nat} (h : SqT K H t (ni R)) : Dp K H (.ref t) (resD R) := by
  rw [resD_ints]
  rw [ni_ints] at h
  exact .tup h (dpAll_ints _)
theorem pc_inv {H : Hp} {v : V} {p : Per.Piece} (h : Dp K H v (pcD p)) : ∃ a t, v = .ref a ∧ SqT K H a [.int (p.1 : Nat), .int (p.2.1 : Nat), .ref t] ∧ SqT K H t (ni p.2.2) := by
  unfold pcD at h
  cases h with
  | tup s d =>
    cases d with
    | cons d1 d =>
      cases d with
      | cons d2 d =>
        cases d with
        | cons d3 d =>
          cases d
          cases d1
          cases d2
          obtain ⟨t, rfl, ht⟩ := res_inv d3
          exact ⟨_, t, rfl, s, ht⟩
theorem pc_mk {H : Hp} {a t : Addr} {p : Per.Piece} (h : SqT K H a [.int (p.1 : Nat), .int (p.2.1 : Nat), .ref t]) (ht : SqT K H t (ni p.2.2)) : Dp K H (.ref a) (pcD p) :=
  .tup h (.cons (.int _) (.cons (.int _) (.cons (res_mk ht) .nil)))
theorem pl_res (R : List Nat) : pl (resD R) = true := by
  rw [resD_ints]
  show plAll _ = true
  exact plAll_ints _
theorem noL_res (R : List Nat) : noL (resD R) = true := by
  rw [resD_ints]
  show noLAll _ = true
  exact noLAll_ints _
theorem dep_res (R : List Nat) : (resD R).depth ≤ 1 := by
  rw [resD_ints]
  have := depthAll_ints (R.map fun (r : Nat) => (r : Int))
  simp only [PyData.depth]
  omega
theorem pl_pc (p : Per.Piece) : pl (pcD p) = true := by simp [pcD, pl, plAll, pl_res]
theorem noL_pc (p : Per.Piece) : noL (pcD p) = true := by simp [pcD, noL, noLAll, noL_res]
theorem dep_pc (p : Per.Piece) : (pcD p).depth ≤ 2 := by
  have := dep_res p.2.2
  simp only [pcD, PyData.depth, PyData.depthAll]
  omega
theorem noL_pcs (ps : List Per.Piece) : noLAll (ps.map pcD) = true := noLAll_of fun x hx => by
  obtain ⟨p, _, rfl⟩ := List.mem_map.mp hx
  exact noL_pc p
theorem pl_pat (ps : List Per.Piece) : pl (patD ps) = true := by
  have : plAll (ps.map pcD) = true := plAll_of fun x hx => by
    obtain ⟨p, _, rfl⟩ := List.mem_map.mp hx
    exact pl_pc p
  simp [patD, pl, this]
theorem noL_pat (ps : List Per.Piece) : noL (patD ps) = true := by simp [patD, noL, noL_pcs]
theorem dep_pat (ps : List Per.Piece) : (patD ps).depth ≤ 3 := by
  have : PyData.depthAll (ps.map pcD) ≤ 2 := depthAll_le fun x hx => by
    obtain ⟨p, _, rfl⟩ := List.mem_map.mp hx
    exact dep_pc p
  simp only [patD, PyData.depth]
  omega
theorem natI_inj {x y : Nat} (h : PyData.int (x : Int) = PyData.int (y : Int)) : x = y := by cases h; rfl
theorem resD_inj {R S : List Nat} (h : resD R = resD S) : R = S := by
  unfold resD at h
  injection h with h
  exact List.map_inj_right (fun x y e => natI_inj e) |>.mp h
theorem dep2 (n : Int) (R : List Nat) : (PyData.tuple [.int n, resD R]).depth ≤ 64 := by
  have := dep_res R
  simp only [PyData.depth, PyData.depthAll]
  omega
structure PcOk (p : Per.Piece) : Prop where
  ok : Per.POk p
  small : p.2.1 < 1073741824
  few : p.2.2.length ≤ 1000
def sp_tidied (K : PySem.W.Frag) : Sp := fun vs H Q _ => ∃ (L : Addr) (xs : List V) (ps : List Per.Piece), vs = [.ref L] ∧ H L = some (.lst xs) ∧ DpAll K H xs (ps.map pcD) ∧ (∀ p ∈ ps, PcOk p) ∧ ps.length ≤ 1000 ∧
  ∀ u H', Same H H' → Dp K H' (.ref u) (patD (Per.tid ps)) → Q (.ref u) H'
theorem ok_tidied (T : Txt K mg a) : FnOk P w K mg base CX0 3 a.f_tidied a.d_tidied ["pieces"] (sp_tidied K) := by
  refine T.F_tidied.ok sc_tidied (fun vs H Q E h => ?_) (fun cdv A outer s H vs Q E hr h => ?_)
  · obtain ⟨L, xs, ps, rfl, _⟩ := h
    rfl
  · obtain ⟨L, xs, ps, rfl, hL, hd, ho, hn, q⟩ := h
    refine ⟨_, (pss_cons (ps_set (i := 1) sc_tidied.nd rfl (.inl rfl) (pe_lst pa_nil))
       (pss_cons (ps_for PassesOwn.never rfl (pi_list (pv 0)) (pg_tup (by rfl) (pgs_cons (pg_name (i := 2) sc_tidied.nd rfl (.inl rfl)) (pgs_cons (pg_name (i := 3) sc_tidied.nd rfl (.inl rfl)) (pgs_cons (pg_name (i := 4) sc_tidied.nd rfl (.inl rfl)) pgs_nil))))
       (pss_cons (ps_asg (pe_call (ok_shrunk T) (hr.mono (by decide)) (by rfl) T.g_shrunk T.F_shrunk.kp T.b_shrunk .nil pass0 (pa_cons (pv 3) (pa_cons (pv 4) pa_nil))) (pg_tup (by rfl) (pgs_cons (pg_name (i := 3) sc_tidied.nd rfl (.inl rfl)) (pgs_cons (pg_name (i := 4) sc_tidied.nd rfl (.inl rfl)) pgs_nil))))
       (pss_one (ps_if (PW.pt (pw_or (pt_cmpR op_eq (pe_callB call_len_seq (by rfl) T.z_len (by decide +kernel) (pa_cons (pv 1) pa_nil)) pe_int (nomark _)) (pw_or1 (pt_cmpR (op_neD (hr.units)) (pe_slice sl_tup (pe_ix ix_list (pv 1) (pe_un un_neg pe_int) (fun _ _ => rfl)) (po_some pe_int) po_none) (pe_tup (pa_cons (pv 3) (pa_cons (pv 4) pa_nil))) (nomark _)))))
       (pss_one (ps_expr (pe_bm PySem.F.plainAttrs_list PySem.F.slot_list_append PySem.F.type_list_append mt_append (pv 1) (pa_cons (pe_tup (pa_cons (pv 2) (pa_cons (pv 3) (pa_cons (pv 4) pa_nil)))) pa_nil))))
       pss_nil))))
       (pss_one (ps_ret (pe_callTy call_tuple_of (by rfl) T.z_tuple (by decide +kernel) (pa_cons (pv 1) pa_nil)))))), ?_⟩
    refine red (σ' := [some (.ref L), none, none, none, none]) rfl ?_
    try dsimp only [cxOf]
    have hL0 := hL
    walk_at "go"
    refine nwL (ys := []) rfl (by decide) fun F H1 hF sm hFF => ?_
    walk_at "go"
    replace hL := sm _ _ hL
    replace hd := dpAll_same sm _ hd
    refine ⟨L, rfl, ⟨_, SqL.of hL⟩, ?_⟩
    have hlen : xs.length = ps.length := by have := dpAll_len hd; rw [List.length_map] at this; exact this
    refine for_list (K := K) (a := L) (xs := xs) (fun i σ' H' => ∃ (fv : List V) (y2 y3 y4 : Option V), σ' = [some (.ref L), some (.ref F), y2, y3, y4] ∧ Same H H' ∧ KeepT H1 H' ∧ H' L = some (.lst xs) ∧ H' F = some (.lst fv) ∧ DpAll K H' fv ((Per.tid (ps.take i)).map pcD) ∧ (Per.tid (ps.take i)).length ≤ i)
      ⟨[], _, _, _, rfl, sm, KeepT.refl H1, hL, hFF, .nil, Nat.le_refl _⟩ (fun i σ' H' _ h => ?_) ?_ ?_
    · obtain ⟨fv, _, _, _, _, _, _, h, _⟩ := h
      exact SqL.of h
    · rintro i x σ' H2 hi ⟨fv, y2, y3, y4, rfl, s2, k2, hL2, hF2, hd2, hn2⟩
      obtain ⟨d, hd', hx⟩ := dpAll_at' hd hi
      obtain ⟨p, hp, rfl⟩ : ∃ p, ps[i]? = some p ∧ d = pcD p := by
        rw [List.getElem?_map] at hd'
        cases e : ps[i]? with
        | none => rw [e] at hd'; cases hd'
        | some p => rw [e] at hd'; exact ⟨p, rfl, (Option.some.inj hd').symm⟩
      obtain ⟨pa, pt, rfl, hpa, hpt⟩ := pc_inv (dp_keep k2 _ (noL_pc p) hx)
      have hpo := ho p (List.mem_of_getElem? hp)
      have hi' := (List.getElem?_eq_some_iff.mp hp).1
      refine g_gtup ⟨pa, _, rfl, hpa, rfl, ?_⟩
      walk_at "go"
      refine ⟨_, pt, _, rfl, hpo.ok, hpo.small, hpt, hpo.few, fun u t' H3 s3 hu ht' => ?_⟩
      refine g_gtup ⟨u, _, rfl, SqT.of hu, rfl, ?_⟩
      walk_at "go"
      replace hL2 := s3 _ _ hL2
      replace hF2 := s3 _ _ hF2
      replace hd2 := dpAll_same s3 _ hd2
      replace s2 := s2.trans s3
      replace k2 := k2.trans (KeepT.of s3)
      refine g_lenL (SqL.of hF2) ?_
      walk_at "go"
      rw [dec_int]
      have hts : Per.tid (ps.take (i + 1)) = Per.tidStep (Per.tid (ps.take i)) p := by rw [take_more hp, Per.tid_snoc]
      have hfl := dpAll_len hd2
      rw [List.length_map] at hfl
      generalize Per.tid (ps.take i) = A at hd2 hn2 hts hfl
      refine iteK (fun h => ?_) (fun h => ?_)
      · have hA : A = [] := List.length_eq_zero_iff.mp (by omega)
        have hst : Per.tid (ps.take (i + 1)) = A ++ [(p.1, Per.shr p.2.1 p.2.2)] := by
          rw [hts, hA]; rfl
        refine iteT ?_
        walk_at "go"
        refine ⟨.inl ⟨rfl, _, SqL.of hF2⟩, ?_⟩
        walk_at "go"
        refine nwT (ys := [.int (p.1 : Nat), .int ((Per.shr p.2.1 p.2.2).1 : Nat), .ref t']) rfl (by show 3 ≤ 1000000; decide) fun b H4 _ s4 hb => ?_
        replace hL2 := s4 _ _ hL2
        replace hF2 := s4 _ _ hF2
        replace hd2 := dpAll_same s4 _ hd2
        replace s2 := s2.trans s4
        replace k2 := k2.trans (KeepT.of s4)
        replace ht' := SqT.ext ht' s4
        refine ⟨F, _, _, rfl, rfl, hF2, by have := dpAll_len hd2; rw [List.length_map] at this; have := sizeBig; omega, ?_⟩
        have kp : KeepT H4 (upd H4 F (.lst (fv ++ [.ref b]))) := KeepT.putL hF2
        refine ⟨_, _, _, _, rfl, same_put hF s2, k2.trans kp, (upd_ne (ne_of_none (H := H) hL0 hF)).trans hL2, upd_same, ?_, ?_⟩
        · rw [hst, List.map_append]
          exact dpAll_app (dpAll_keep kp _ (noL_pcs _) hd2) (.cons (pc_mk (p := (p.1, Per.shr p.2.1 p.2.2)) (sqT_keep (SqT.of hb) kp) (sqT_keep ht' kp)) .nil)
        · rw [hst, List.length_append, List.length_singleton]; omega
      · have hA : A ≠ [] := fun e => by rw [e] at hfl; exact h (by rw [hfl]; rfl)
        obtain ⟨B, z, rfl⟩ : ∃ B z, A = B ++ [z] := ⟨_, _, (List.dropLast_concat_getLast hA).symm⟩
        rw [List.map_append] at hd2
        obtain ⟨us, v, rfl, hd3, hd4⟩ := dpAll_last hd2
        rw [← List.map_append] at hd2
        obtain ⟨la, lt, rfl, hla, hlt⟩ := pc_inv hd4
        walk_at "go"
        refine g_ixL (SqL.of hF2) (atI_last us _) ?_
        walk_at "go"
        refine g_slT (ys := [.int (z.2.1 : Nat), .ref lt]) hla rfl (by show ¬ (HT.sIx 3 0 (some 1) = 0 ∧ HT.sIx 3 3 none = 3); decide) fun sa H4 _ s4 hsa => ?_
        replace hL2 := s4 _ _ hL2
        replace hF2 := s4 _ _ hF2
        replace hd2 := dpAll_same s4 _ hd2
        replace s2 := s2.trans s4
        replace k2 := k2.trans (KeepT.of s4)
        replace ht' := SqT.ext ht' s4
        replace hlt := SqT.ext hlt s4
        walk_at "go"
        refine nwT (ys := [.int ((Per.shr p.2.1 p.2.2).1 : Nat), .ref t']) rfl (by show 2 ≤ 1000000; decide) fun sb H5 _ s5 hsb => ?_
        replace hL2 := s5 _ _ hL2
        replace hF2 := s5 _ _ hF2
        replace hd2 := dpAll_same s5 _ hd2
        replace s2 := s2.trans s5
        replace k2 := k2.trans (KeepT.of s5)
        replace ht' := SqT.ext ht' s5
        replace hlt := SqT.ext hlt s5
        replace hsa := s5 _ _ hsa
        refine g_neD (d := .tuple [.int (z.2.1 : Nat), resD z.2.2]) (e := .tuple [.int ((Per.shr p.2.1 p.2.2).1 : Nat), resD (Per.shr p.2.1 p.2.2).2]) (.tup (SqT.of hsa) (.cons (.int _) (.cons (res_mk hlt) .nil))) (.tup (SqT.of hsb) (.cons (.int _) (.cons (res_mk ht') .nil)))
          (by simp [pl, plAll, pl_res]) (by simp [pl, plAll, pl_res]) (dep2 _ _) (dep2 _ _) (fun e => ?_) (fun e => ?_)
        · have e2 : z.2 = Per.shr p.2.1 p.2.2 := by
            injection e with e
            injection e with e1 e
            injection e with e2 e
            have := natI_inj e1
            have := resD_inj e2
            exact Prod.ext (by assumption) (by assumption)
          have hst : Per.tid (ps.take (i + 1)) = B ++ [z] := by
            rw [hts]
            unfold Per.tidStep
            rw [List.getLast?_append, List.getLast?_singleton, if_pos (by show some z.2 = _; rw [e2])]
          walk_at "go"
          refine iteF ?_
          walk_at "go"
          refine ⟨_, _, _, _, rfl, s2, k2, hL2, hF2, ?_, ?_⟩
          · rw [hst]; exact hd2
          · rw [hst]; omega
        · have e2 : ¬ z.2 = Per.shr p.2.1 p.2.2 := fun c => e (by rw [← c])
          have hst : Per.tid (ps.take (i + 1)) = B ++ [z] ++ [(p.1, Per.shr p.2.1 p.2.2)] := by
            rw [hts]
            unfold Per.tidStep
            rw [List.getLast?_append, List.getLast?_singleton]
            exact if_neg (fun c => e2 (Option.some.inj c))
          generalize us ++ [V.ref la] = fv at hF2 hd2 hfl
          walk_at "go"
          refine iteT ?_
          walk_at "go"
          refine ⟨.inl ⟨rfl, _, SqL.of hF2⟩, ?_⟩
          walk_at "go"
          refine nwT (ys := [.int (p.1 : Nat), .int ((Per.shr p.2.1 p.2.2).1 : Nat), .ref t']) rfl (by show 3 ≤ 1000000; decide) fun b H6 _ s4 hb => ?_
          replace hL2 := s4 _ _ hL2
          replace hF2 := s4 _ _ hF2
          replace hd2 := dpAll_same s4 _ hd2
          replace s2 := s2.trans s4
          replace k2 := k2.trans (KeepT.of s4)
          replace ht' := SqT.ext ht' s4
          refine ⟨F, _, _, rfl, rfl, hF2, by have := dpAll_len hd2; rw [List.length_map] at this; have := sizeBig; omega, ?_⟩
          have kp : KeepT H6 (upd H6 F (.lst (fv ++ [.ref b]))) := KeepT.putL hF2
          refine ⟨_, _, _, _, rfl, same_put hF s2, k2.trans kp, (upd_ne (ne_of_none (H := H) hL0 hF)).trans hL2, upd_same, ?_, ?_⟩
          · rw [hst, List.map_append]
            exact dpAll_app (dpAll_keep kp _ (noL_pcs _) hd2) (.cons (pc_mk (p := (p.1, Per.shr p.2.1 p.2.2)) (sqT_keep (SqT.of hb) kp) (sqT_keep ht' kp)) .nil)
          · rw [hst, List.length_append, List.length_singleton]; omega
    · rintro σ' H2 ⟨fv, y2, y3, y4, rfl, s2, k2, hL2, hF2, hd2, hn2⟩
      rw [hlen, List.take_length] at hd2
      walk_at "go"
      refine ⟨F, _, rfl, .inl ⟨SqL.of hF2, fun u hu => ?_⟩⟩
      have s3 := same_new (o := .tup fv) hu
      exact q u _ (s2.trans s3) (.tup (SqT.of upd_same) (dpAll_same s3 _ hd2))
def sp_belongs (K : PySem.W.Frag) : Sp := fun vs H Q _ => ∃ (t : Addr) (ps : List Per.Piece) (d : Nat), vs = [.ref t, .int d] ∧ Dp K H (.ref t) (patD ps) ∧ (∀ p ∈ ps, PcOk p) ∧ ps.length ≤ 1000 ∧ (∃ p, ps[0]? = some p ∧ p.1 ≤ d) ∧ Q (.bl (Per.inP ps d)) H
theorem ok_belongs (T : Txt K mg a) : FnOk P w K mg base CX0 3 a.f_belongs a.d_belongs ["pattern", "day"] (sp_belongs K) := by
  refine T.F_belongs.ok sc_belongs (fun vs H Q E h => ?_) (fun cdv A outer s H vs Q E hr h => ?_)
  · obtain ⟨t, ps, d, rfl, _⟩ := h
    rfl
  · obtain ⟨t, ps, d, rfl, hd, ho, hn, ⟨p0, hp0, hp00⟩, q⟩ := h
    refine ⟨_, (pss_cons (ps_if (pt_cmpR op_lt (pv 1) pe_int (nomark _))
       (pss_one (ps_ret pe_bl))
       pss_nil)
       (pss_cons (ps_set (i := 2) sc_belongs.nd rfl (.inl rfl) (pe_op op_sub (pe_callB call_len_seq (by rfl) T.z_len (by decide +kernel) (pa_cons (pv 0) pa_nil)) pe_int))
       (pss_cons (ps_while PassesOwn.never (pt_cmpR op_gt (pe_ix ix_tup (pe_ix ix_tup (pv 0) (pv 2) (fun _ _ => rfl)) pe_int (fun _ _ => rfl)) (pv 1) (nomark _))
       (pss_one (ps_aug (i := 2) sc_belongs.nd rfl (.inl rfl) pe_int ip_sub)))
       (pss_one (ps_ret (pe_call (ok_has T) (hr.mono (by decide)) (by rfl) T.g_has T.F_has.kp T.b_has .nil pass0 (pa_cons (pe_ix ix_tup (pe_ix ix_tup (pv 0) (pv 2) (fun _ _ => rfl)) pe_int (fun _ _ => rfl)) (pa_cons (pe_ix ix_tup (pe_ix ix_tup (pv 0) (pv 2) (fun _ _ => rfl)) pe_int (fun _ _ => rfl)) (pa_cons (pv 1) pa_nil))))))))), ?_⟩
    refine red (σ' := [some (.ref t), some (.int d), none]) rfl ?_
    try dsimp only [cxOf]
    obtain ⟨xs, ht, hxs⟩ : ∃ xs, SqT K H t xs ∧ DpAll K H xs (ps.map pcD) := by
      cases hd with
      | tup s d => exact ⟨_, s, d⟩
    have hlen : xs.length = ps.length := by have := dpAll_len hxs; rw [List.length_map] at this; exact this
    have at_ : ∀ (k : Nat) (p : Per.Piece), ps[k]? = some p → ∃ a t', atI xs ((k : Nat) : Int) = some (.ref a) ∧ SqT K H a [.int (p.1 : Nat), .int (p.2.1 : Nat), .ref t'] ∧ SqT K H t' (ni p.2.2) := fun k p hp => by
      obtain ⟨v, hv, hd⟩ := dpAll_at hxs (i := k) (d := pcD p) (by rw [List.getElem?_map, hp]; rfl)
      obtain ⟨a, t', rfl, h1, h2⟩ := pc_inv hd
      exact ⟨a, t', atI_nat hv, h1, h2⟩
    have hpos := (List.getElem?_eq_some_iff.mp hp0).1
    walk_at "go"
    refine iteK (fun h => absurd h (by omega)) (fun _ => ?_)
    walk_at "go"
    rw [hlen]
    have e0 : ((ps.length : Nat) : Int) - 1 = ((ps.length - 1 : Nat) : Int) := by omega
    rw [e0]
    refine ⟨fun m σ' H' => ∃ k : Nat, σ' = [some (.ref t), some (.int d), some (.int k)] ∧ H' = H ∧ k < ps.length ∧ (∀ (j : Nat) (q : Per.Piece), k < j → ps[j]? = some q → d < q.1) ∧ k = m, ⟨_, ps.length - 1, rfl, rfl, by omega, fun j q hj hq => absurd (List.getElem?_eq_some_iff.mp hq).1 (by omega), rfl⟩, ?_⟩
    rintro m σ' H' ⟨k, rfl, rfl, hk, hab, rfl⟩
    have hp : ps[k]? = some ps[k] := List.getElem?_eq_getElem hk
    have hpo := ho _ (List.getElem_mem hk)
    generalize ps[k] = p at hp hpo
    obtain ⟨pa, pt, e1, e2, e3⟩ := at_ k p hp
    walk_at "go"
    refine g_ixT ht e1 ?_
    walk_at "go"
    refine iteK (fun h => ?_) (fun h => ?_)
    · have k0 : k ≠ 0 := fun e => by
        subst e
        rw [hp0] at hp
        cases hp
        omega
      refine ⟨fun σ' H'' => σ' = [some (.ref t), some (.int d), some (.int (k - 1 : Nat))] ∧ H'' = H', ?_, ?_⟩
      · rintro σ' H'' ⟨rfl, rfl⟩
        refine ⟨k - 1, by omega, k - 1, rfl, rfl, by omega, fun j q hj hq => ?_, rfl⟩
        rcases Nat.lt_or_ge k j with g | g
        · exact hab j q g hq
        · have : j = k := by omega
          subst this
          rw [hp] at hq
          cases hq
          omega
      walk_at "go"
      have e4 : ((k : Nat) : Int) - 1 = ((k - 1 : Nat) : Int) := by omega
      rw [e4]
      exact ⟨rfl, rfl⟩
    · walk_at "go"
      refine g_ixT ht e1 ?_
      walk_at "go"
      refine g_ixT ht e1 ?_
      walk_at "go"
      refine ⟨p.2.1, pt, p.2.2, d, rfl, hpo.ok.pos, e3, by have := hpo.few; omega, hpo.ok.asc, ?_⟩
      have := Per.inP_at hp (d := d) (by omega) hab
      rw [this] at q
      exact q
end
section
variable {P : Program} {w : World} {K : PySem.W.Frag} {mg : Str → Option Value} {base : Heap} {a : Adr}
def sp_month_of : Sp := fun vs H Q _ => ∃ d : Int, vs = [.int d] ∧ ∀ m H', Same H H' → Civ.IsM d m → Q (.int m) H'
theorem ok_month_of (T : Txt K mg a) : FnOk P w K mg base CX0 3 a.f_month_of a.d_month_of ["day"] sp_month_of := by
  refine T.F_month_of.ok sc_month_of (fun vs H Q E h => ?_) (fun cdv A outer s H vs Q E hr h => ?_)
  · obtain ⟨y, rfl, _⟩ := h
    rfl
  · obtain ⟨d, rfl, q⟩ := h
    refine ⟨_, (pss_cons (ps_asg (pe_callB call_divmod (by rfl) T.z_divmod (by decide +kernel) (pa_cons (pv 0) (pa_cons (C8.pe_gc (v := .int 146097) (by rfl) T.g_CYCLE_DAYS) pa_nil))) (pg_tup (by rfl) (pgs_cons (pg_name (i := 1) sc_month_of.nd rfl (.inl rfl)) (pgs_cons (pg_name (i := 2) sc_month_of.nd rfl (.inl rfl)) pgs_nil))))
       (pss_cons (ps_set (i := 3) sc_month_of.nd rfl (.inl rfl) (pe_op op_fdivE (pv 2) pe_int))
       (pss_cons (ps_while PassesOwn.never (pt_cmpR op_le (pe_call (ok_first_day T) (hr.mono (by decide)) (by rfl) T.g_first_day T.F_first_day.kp T.b_first_day .nil pass0 (pa_cons (pe_op op_mul pe_int (pe_op op_add (pv 3) pe_int)) pa_nil)) (pv 2) (nomark _))
       (pss_one (ps_aug (i := 3) sc_month_of.nd rfl (.inl rfl) pe_int ip_add)))
       (pss_cons (ps_set (i := 4) sc_month_of.nd rfl (.inl rfl) pe_int)
       (pss_cons (ps_while PassesOwn.never (PW.pt (pw_and (pt_cmpR op_lt (pv 4) pe_int (nomark _)) (pw_and1 (pt_cmpR op_le (pe_call (ok_first_day T) (hr.mono (by decide)) (by rfl) T.g_first_day T.F_first_day.kp T.b_first_day .nil pass0 (pa_cons (pe_op op_add (pe_op op_add (pe_op op_mul pe_int (pv 3)) (pv 4)) pe_int) pa_nil)) (pv 2) (nomark _)))))
       (pss_one (ps_aug (i := 4) sc_month_of.nd rfl (.inl rfl) pe_int ip_add)))
       (pss_one (ps_ret (pe_op op_add (pe_op op_add (pe_op op_mul (C8.pe_gc (v := .int 4800) (by rfl) T.g_CYCLE_MONTHS) (pv 1)) (pe_op op_mul pe_int (pv 3))) (pv 4))))))))), ?_⟩
    refine red (σ' := [some (.int d), none, none, none, none]) rfl ?_
    try dsimp only [cxOf]
    walk_at "go"
    refine ⟨d, 146097, rfl, ⟨by decide, by decide⟩, fun p hp => ?_⟩
    refine g_gtup ⟨p, [.int (d / 146097), .int (d % 146097)], rfl, SqT.of upd_same, rfl, ?_⟩
    have sm : Same H (upd H p (.tup [.int (d / 146097), .int (d % 146097)])) := same_new hp
    generalize upd H p (.tup [.int (d / 146097), .int (d % 146097)]) = H1 at sm
    have hd : d = d % 146097 + 146097 * (d / 146097) := by omega
    have r0 : 0 ≤ d % 146097 := by omega
    have r1 : d % 146097 < 146097 := by omega
    generalize d % 146097 = r at hd r0 r1
    generalize d / 146097 = c at hd
    walk_at "go"
    refine ⟨fun n σ' H' => ∃ p : Int, σ' = [some (.int d), some (.int c), some (.int r), some (.int p), none] ∧ H' = H1 ∧ 0 ≤ p ∧ Civ.yd p ≤ r ∧ n = (500 - p).toNat, ⟨_, _, rfl, rfl, by omega, ?_, rfl⟩, ?_⟩
    · unfold Civ.yd; omega
    rintro n σ' H' ⟨p, rfl, rfl, p0, hp, rfl⟩
    walk_at "go"
    refine ⟨_, rfl, ?_⟩
    walk_at "go"
    rw [Civ.fd_year]
    refine iteK (fun h1 => ?_) (fun h1 => ?_)
    · refine ⟨fun σ' H2 => σ' = [some (.int d), some (.int c), some (.int r), some (.int (p + 1)), none] ∧ H2 = H', fun σ' H2 h => ⟨(500 - (p + 1)).toNat, ?_, p + 1, h.1, h.2, by omega, h1, rfl⟩, ?_⟩
      · have : p + 1 < 401 := by unfold Civ.yd at h1; omega
        omega
      · walk_at "go"
        exact ⟨rfl, rfl⟩
    · walk_at "go"
      refine ⟨fun n σ' H2 => ∃ k : Int, σ' = [some (.int d), some (.int c), some (.int r), some (.int p), some (.int k)] ∧ H2 = H' ∧ 0 ≤ k ∧ k ≤ 11 ∧ Civ.fd (12 * p + k) ≤ r ∧ n = (11 - k).toNat, ⟨_, _, rfl, rfl, by omega, by omega, ?_, rfl⟩, ?_⟩
      · rw [Int.add_zero, Civ.fd_year]; exact hp
      rintro n σ' H2 ⟨k, rfl, rfl, k0, k11, hk, rfl⟩
      have fin : r < Civ.fd (12 * p + k + 1) → Q (.int (4800 * c + 12 * p + k)) H2 := fun h => by
        have := (Civ.IsM.cycle (c := c) (m := 12 * p + k) (d := r) ⟨hk, h⟩)
        rw [← hd] at this
        have e : 4800 * c + 12 * p + k = 12 * p + k + 4800 * c := by omega
        rw [e]
        exact q _ _ sm this
      walk_at "go"
      refine iteK (fun h2 => ?_) (fun h2 => ?_)
      · walk_at "go"
        refine ⟨_, rfl, ?_⟩
        walk_at "go"
        refine iteK (fun h3 => ?_) (fun h3 => ?_)
        · refine ⟨fun σ' H3 => σ' = [some (.int d), some (.int c), some (.int r), some (.int p), some (.int (k + 1))] ∧ H3 = H2, fun σ' H3 h => ⟨(11 - (k + 1)).toNat, by omega, k + 1, h.1, h.2, by omega, by omega, ?_, rfl⟩, ?_⟩
          · have e : 12 * p + (k + 1) = 12 * p + k + 1 := by omega
            rw [e]; exact h3
          · walk_at "go"
            exact ⟨rfl, rfl⟩
        · walk_at "go"
          exact fin (by omega)
      · refine iteF ?_
        walk_at "go"
        have e : k = 11 := by omega
        refine fin ?_
        have e2 : 12 * p + k + 1 = 12 * (p + 1) := by omega
        rw [e2, Civ.fd_year]
        omega
end
section
variable {P : Program} {w : World} {K : PySem.W.Frag} {mg : Str → Option Value} {base : Heap} {a : Adr}
def sp_date_of : Sp := fun vs H Q _ => ∃ d : Int, vs = [.int d] ∧ ∀ m r H', Same H H' → Civ.IsM d m → H' r = some (.tup [.int (m / 12 + 1), .int (m % 12 + 1), .int (d - Civ.fd m + 1)]) → Q (.ref r) H'
theorem ok_date_of (T : Txt K mg a) : FnOk P w K mg base CX0 4 a.f_date_of a.d_date_of ["day"] sp_date_of := by
  refine T.F_date_of.ok sc_date_of (fun vs H Q E h => ?_) (fun cdv A outer s H vs Q E hr h => ?_)
  · obtain ⟨y, rfl, _⟩ := h
    rfl
  · obtain ⟨d, rfl, q⟩ := h
    refine ⟨_, (pss_cons (ps_set (i := 1) sc_date_of.nd rfl (.inl rfl) (pe_call (ok_month_of T) (hr.mono (by decide)) (by rfl) T.g_month_of T.F_month_of.kp T.b_month_of .nil pass0 (pa_cons (pv 0) pa_nil)))
       (pss_one (ps_ret (pe_tup (pa_cons (pe_call (ok_year_of_month T) (hr.mono (by decide)) (by rfl) T.g_year_of_month T.F_year_of_month.kp T.b_year_of_month .nil pass0 (pa_cons (pv 1) pa_nil)) (pa_cons (pe_op op_add (pe_op op_modE (pv 1) pe_int) pe_int) (pa_cons (pe_op op_add (pe_op op_sub (pv 0) (pe_call (ok_first_day T) (hr.mono (by decide)) (by rfl) T.g_first_day T.F_first_day.kp T.b_first_day .nil pass0 (pa_cons (pv 1) pa_nil))) pe_int) pa_nil))))))), ?_⟩
    refine red (σ' := [some (.int d), none]) rfl ?_
    try dsimp only [cxOf]
    walk_at "go"
    refine ⟨d, rfl, fun m H1 sm hm => ?_⟩
    walk_at "go"
    refine ⟨m, rfl, ?_⟩
    walk_at "go"
    refine ⟨m, rfl, ?_⟩
    walk_at "go"
    refine ⟨by show 3 ≤ sizeLine; decide, fun r hr => ?_⟩
    exact q m r _ (sm.trans (same_new hr)) hm upd_same
end
section
variable {P : Program} {w : World} {K : PySem.W.Frag} {mg : Str → Option Value} {base : Heap} {a : Adr}
def pd (n k : Nat) : List Nat := List.replicate (k - (TL.numL n).length) 48 ++ TL.numL n
def sp_padded : Sp := fun vs H Q _ => ∃ n k : Int, vs = [.int n, .int k] ∧ 0 ≤ n ∧ n < 10 ^ 50 ∧ 0 ≤ k ∧ k ≤ 100 ∧ Q (.str (S (pd n.toNat k.toNat))) H
theorem ok_padded (T : Txt K mg a) : FnOk P w K mg base CX0 1 a.f_padded a.d_padded ["n", "many"] sp_padded := by
  refine T.F_padded.ok sc_padded (fun vs H Q E h => ?_) (fun cdv A outer s H vs Q E hr h => ?_)
  · obtain ⟨y, k, rfl, _⟩ := h
    rfl
  · obtain ⟨n, k, rfl, n0, n1, k0, k1, q⟩ := h
    refine ⟨_, (pss_one (ps_ret (pe_op op_add_str (pe_op op_mul_str pe_str (pe_op op_sub (pv 1) (pe_callB call_len_str (by rfl) T.z_len (by decide +kernel) (pa_cons (pe_callTy call_str_int (by rfl) T.z_str (by decide +kernel) (pa_cons (pv 0) pa_nil)) pa_nil)))) (pe_callTy call_str_int (by rfl) T.z_str (by decide +kernel) (pa_cons (pv 0) pa_nil))))), ?_⟩
    refine red (σ' := [some (.int n), some (.int k)]) rfl ?_
    try dsimp only [cxOf]
    obtain ⟨m, rfl⟩ := Int.eq_ofNat_of_zero_le n0
    have hm : m < 10 ^ 50 := by omega
    have hl := TL.numL_len (k := 50) (by decide) hm
    have hb : ((m : Int)).natAbs < 10 ^ 60 := by
      have : (10 : Nat) ^ 50 < 10 ^ 60 := by decide
      rw [Int.natAbs_natCast]
      omega
    walk_at "go"
    refine g_strI hb ?_
    rw [num_S]
    walk_at "go"
    refine g_lenS (by omega) ?_
    rw [S_len]
    walk_at "go"
    refine ⟨[48], _, rfl, rfl, by omega, by omega, by decide, ?_⟩
    walk_at "go"
    refine g_strI hb ?_
    rw [num_S]
    walk_at "go"
    have e : (List.replicate (k - ((TL.numL m).length : Nat)).toNat [48]).flatten ++ TL.numL m = pd ((m : Int)).toNat k.toNat := by
      unfold pd
      rw [Int.toNat_natCast]
      have e1 : (k - ((TL.numL m).length : Nat)).toNat = k.toNat - (TL.numL m).length := by omega
      rw [e1]
      congr 1
      generalize k.toNat - (TL.numL m).length = j
      induction j with
      | zero => rfl
      | succ j ih => rw [List.replicate_succ, List.flatten_cons, ih, List.replicate_succ]; rfl
    refine g_catS ?_ ?_
    · have h2 : (List.replicate (k - ((TL.numL m).length : Nat)).toNat [48]).flatten.length ≤ 100 := by
        rw [List.length_flatten, List.map_replicate, List.sum_replicate_nat]
        show _ * 1 ≤ 100
        omega
      omega
    · rw [S_cat, e]; exact q
end
section
variable {P : Program} {w : World} {K : PySem.W.Frag} {mg : Str → Option Value} {base : Heap} {a : Adr}
def sp_law_mod : Sp := fun vs H Q _ => ∃ i n : Int, vs = [.int i, .int n] ∧ 0 < n ∧ n < 1073741824 ∧ Q (.int (i % n)) H
theorem ok_law_mod (T : Txt K mg a) : FnOk P w K mg base CX0 1 a.f_law_mod a.d_law_mod ["a", "n"] sp_law_mod := by
  refine T.F_law_mod.ok sc_law_mod (fun vs H Q E h => ?_) (fun cdv A outer s H vs Q E hr h => ?_)
  · obtain ⟨i, n, rfl, _⟩ := h
    rfl
  · obtain ⟨i, n, rfl, n0, n1, q⟩ := h
    refine ⟨_, (pss_one (ps_ret (pe_op op_sub (pv 0) (pe_op op_mul (pe_op op_fdivE (pv 0) (pv 1)) (pv 1))))), ?_⟩
    refine red (σ' := [some (.int i), some (.int n)]) rfl ?_
    try dsimp only [cxOf]
    walk_at "go"
    try refine g_I (cmul_r (by omega) (by omega)) ?_
    try walk_at "go"
    have e : i - i / n * n = i % n := by rw [Int.emod_def, Int.mul_comm]
    show Q (.int (i - i / n * n)) H
    rw [e]
    exact q
end
section
variable {P : Program} {w : World} {K : PySem.W.Frag} {mg : Str → Option Value} {base : Heap} {a : Adr}
def sp_law_leap : Sp := fun vs H Q _ => ∃ y : Int, vs = [.str "civil", .int y] ∧ Q (.bl (Civ.isLeap y)) H
theorem ok_law_leap (T : Txt K mg a) : FnOk P w K mg base CX0 2 a.f_law_leap a.d_law_leap ["calendar", "y"] sp_law_leap := by
  refine T.F_law_leap.ok sc_law_leap (fun vs H Q E h => ?_) (fun cdv A outer s H vs Q E hr h => ?_)
  · obtain ⟨y, rfl, _⟩ := h
    rfl
  · obtain ⟨y, rfl, q⟩ := h
    refine ⟨_, (pss_cons (ps_if (pt_cmpR op_eq (pv 0) pe_str (nomark _))
       (pss_one (ps_ret (pe_cmpR op_eq (pe_call (ok_law_mod T) (hr.mono (by decide)) (by rfl) T.g_law_mod T.F_law_mod.kp T.b_law_mod .nil pass0 (pa_cons (pv 1) (pa_cons pe_int pa_nil))) pe_int (nomark _))))
       pss_nil)
       (pss_cons (ps_if (pt_cmpR op_eq (pv 0) pe_str (nomark _))
       (pss_one (ps_ret (pe_cmpR op_gt (pe_op op_fdivE (pe_op op_add (pe_op op_mul pe_int (pv 1)) pe_int) pe_int) (pe_op op_fdivE (pe_op op_add (pe_op op_mul pe_int (pe_op op_sub (pv 1) pe_int)) pe_int) pe_int) (nomark _))))
       pss_nil)
       (pss_one (ps_ret (pe_and (pe_cmpR op_eq (pe_call (ok_law_mod T) (hr.mono (by decide)) (by rfl) T.g_law_mod T.F_law_mod.kp T.b_law_mod .nil pass0 (pa_cons (pv 1) (pa_cons pe_int pa_nil))) pe_int (nomark _)) (pe_one (pe_or (pe_cmpR op_ne (pe_call (ok_law_mod T) (hr.mono (by decide)) (by rfl) T.g_law_mod T.F_law_mod.kp T.b_law_mod .nil pass0 (pa_cons (pv 1) (pa_cons pe_int pa_nil))) pe_int (nomark _)) (pe_one (pe_cmpR op_eq (pe_call (ok_law_mod T) (hr.mono (by decide)) (by rfl) T.g_law_mod T.F_law_mod.kp T.b_law_mod .nil pass0 (pa_cons (pv 1) (pa_cons pe_int pa_nil))) pe_int (nomark _)))))))))), ?_⟩
    refine red (σ' := [some (.str "civil"), some (.int y)]) rfl ?_
    try dsimp only [cxOf]
    have e : Civ.isLeap y = (decide (y % 4 = 0) && (!decide (y % 100 = 0) || decide (y % 400 = 0))) := rfl
    walk_at "go"
    refine ite_n rfl ?_
    walk_at "go"
    refine ite_n rfl ?_
    walk_at "go"
    refine ⟨y, 4, rfl, by decide, by decide, ?_⟩
    walk_at "go"
    rw [dec_int]
    refine iteB (fun h1 => ?_) (fun h1 => ?_)
    · walk_at "go"
      refine ⟨y, 100, rfl, by decide, by decide, ?_⟩
      walk_at "go"
      rw [dec_int]
      refine iteB (fun h2 => ?_) (fun h2 => ?_)
      · rw [e, h1, h2] at q; exact q
      · walk_at "go"
        refine ⟨y, 400, rfl, by decide, by decide, ?_⟩
        walk_at "go"
        rw [dec_int]
        rw [e, h1, h2] at q; exact q
    · rw [e, h1] at q; exact q
def sp_law_length : Sp := fun vs H Q _ => ∃ m : Int, vs = [.str "civil", .int m] ∧ ∀ H', Same H H' → Q (.int (Civ.len m)) H'
theorem ok_law_length (T : Txt K mg a) : FnOk P w K mg base CX0 3 a.f_law_length a.d_law_length ["calendar", "m"] sp_law_length := by
  refine T.F_law_length.ok sc_law_length (fun vs H Q E h => ?_) (fun cdv A outer s H vs Q E hr h => ?_)
  · obtain ⟨y, rfl, _⟩ := h
    rfl
  · obtain ⟨m, rfl, q⟩ := h
    refine ⟨_, (pss_cons (ps_set (i := 2) sc_law_length.nd rfl (.inl rfl) (pe_call (ok_law_mod T) (hr.mono (by decide)) (by rfl) T.g_law_mod T.F_law_mod.kp T.b_law_mod .nil pass0 (pa_cons (pv 1) (pa_cons pe_int pa_nil))))
       (pss_cons (ps_set (i := 3) sc_law_length.nd rfl (.inl rfl) (pe_call (ok_law_leap T) (hr.mono (by decide)) (by rfl) T.g_law_leap T.F_law_leap.kp T.b_law_leap .nil pass0 (pa_cons (pv 0) (pa_cons (pe_op op_add (pe_op op_fdivE (pv 1) pe_int) pe_int) pa_nil))))
       (pss_cons (ps_if (pt_cmpR op_eq (pv 0) pe_str (nomark _))
       (pss_one (ps_ret (pe_op op_add (pe_ix ix_list (pe_lst (pa_cons pe_int (pa_cons pe_int pa_nil))) (pe_call (ok_law_mod T) (hr.mono (by decide)) (by rfl) T.g_law_mod T.F_law_mod.kp T.b_law_mod .nil pass0 (pa_cons (pv 2) (pa_cons pe_int pa_nil))) (fun _ _ => rfl)) (pe_callTy call_int1 (by rfl) T.z_int (by decide +kernel) (pa_cons (pe_and (pe_cmpR op_eq (pv 2) pe_int (nomark _)) (pe_one (pv 3))) pa_nil)))))
       pss_nil)
       (pss_one (ps_ret (pe_op op_add (pe_ix ix_list (pe_lst (pa_cons pe_int (pa_cons pe_int (pa_cons pe_int (pa_cons pe_int (pa_cons pe_int (pa_cons pe_int (pa_cons pe_int (pa_cons pe_int (pa_cons pe_int (pa_cons pe_int (pa_cons pe_int (pa_cons pe_int pa_nil))))))))))))) (pv 2) (fun _ _ => rfl)) (pe_callTy call_int1 (by rfl) T.z_int (by decide +kernel) (pa_cons (pe_and (pe_cmpR op_eq (pv 2) pe_int (nomark _)) (pe_one (pv 3))) pa_nil)))))))), ?_⟩
    refine red (σ' := [some (.str "civil"), some (.int m), none, none]) rfl ?_
    try dsimp only [cxOf]
    walk_at "go"
    refine ⟨m, 12, rfl, by decide, by decide, ?_⟩
    walk_at "go"
    refine ⟨m / 12 + 1, rfl, ?_⟩
    walk_at "go"
    refine ite_n rfl ?_
    walk_at "go"
    refine ⟨by show 12 ≤ sizeLine; decide, fun l hl => ?_⟩
    walk_at "go"
    refine g_ixL (SqL.of upd_same) (at12 (xs := Civ.LEN) rfl m) ?_
    have sm : Same H (upd H l (.lst (Civ.LEN.map V.int))) := same_new hl
    change tCB _ _ _ (upd H l (.lst (Civ.LEN.map V.int))) _
    generalize upd H l (.lst (Civ.LEN.map V.int)) = H1 at sm
    walk_at "go"
    rw [dec_int]
    have e : Civ.len m = Civ.LEN.getD (m % 12).toNat 0 + if m % 12 = 1 then Civ.lp (m / 12 + 1) else 0 := rfl
    refine iteB (fun h1 => ?_) (fun h1 => ?_)
    · rw [if_pos (of_decide_eq_true h1)] at e
      walk_at "go"
      have := q H1 sm
      rw [e] at this
      exact this
    · rw [if_neg (of_decide_eq_false h1)] at e
      walk_at "go"
      have := q H1 sm
      rw [e] at this
      exact this
def sp_law_year_first : Sp := fun vs H Q _ => ∃ y : Int, vs = [.str "civil", .int y] ∧ ∀ H', Same H H' → Q (.int (Civ.yd (y - 1))) H'
theorem ok_law_year_first (T : Txt K mg a) : FnOk P w K mg base CX0 3 a.f_law_year_first a.d_law_year_first ["calendar", "y"] sp_law_year_first := by
  refine T.F_law_year_first.ok sc_law_year_first (fun vs H Q E h => ?_) (fun cdv A outer s H vs Q E hr h => ?_)
  · obtain ⟨y, rfl, _⟩ := h
    rfl
  · obtain ⟨y, rfl, q⟩ := h
    refine ⟨_, (pss_cons (ps_asg (pe_tup (pa_cons pe_int (pa_cons pe_int (pa_cons pe_int (pa_cons pe_int pa_nil))))) (pg_tup (by rfl) (pgs_cons (pg_name (i := 2) sc_law_year_first.nd rfl (.inl rfl)) (pgs_cons (pg_name (i := 3) sc_law_year_first.nd rfl (.inl rfl)) (pgs_cons (pg_name (i := 4) sc_law_year_first.nd rfl (.inl rfl)) (pgs_cons (pg_name (i := 5) sc_law_year_first.nd rfl (.inl rfl)) pgs_nil))))))
       (C8.pss_cut (ps_if (pt_cmpR op_eq (pv 0) pe_str (nomark _))
       (pss_one ps_never)
       pss_nil)
       (C8.pss_cut (ps_if (pt_cmpR op_eq (pv 0) pe_str (nomark _))
       (pss_one (ps_asg (pe_tup (pa_cons pe_int (pa_cons pe_int (pa_cons pe_int (pa_cons pe_int pa_nil))))) (pg_tup (by rfl) (pgs_cons (pg_name (i := 2) sc_law_year_first.nd rfl (.inl rfl)) (pgs_cons (pg_name (i := 3) sc_law_year_first.nd rfl (.inl rfl)) (pgs_cons (pg_name (i := 4) sc_law_year_first.nd rfl (.inl rfl)) (pgs_cons (pg_name (i := 5) sc_law_year_first.nd rfl (.inl rfl)) pgs_nil)))))))
       pss_nil)
       (pss_cons (ps_set (i := 6) sc_law_year_first.nd rfl (.inl rfl) (pe_op op_fdivE (pe_op op_sub (pv 1) pe_int) (pv 2)))
       (pss_cons (ps_set (i := 7) sc_law_year_first.nd rfl (.inl rfl) (pe_op op_add (pv 4) (pe_op op_mul (pv 3) (pv 6))))
       (pss_cons (ps_for PassesOwn.never rfl (pi_range1 (by rfl) T.z_range (pa_cons (pe_op op_sub (pe_op op_sub (pv 1) pe_int) (pe_op op_mul (pv 2) (pv 6))) pa_nil)) (pg_name (i := 8) sc_law_year_first.nd rfl (.inl rfl))
       (pss_one (ps_set (i := 7) sc_law_year_first.nd rfl (.inl rfl) (pe_op op_add (pe_op op_add (pv 7) (pv 5)) (pe_callTy call_int1 (by rfl) T.z_int (by decide +kernel) (pa_cons (pe_call (ok_law_leap T) (hr.mono (by decide)) (by rfl) T.g_law_leap T.F_law_leap.kp T.b_law_leap .nil pass0 (pa_cons (pv 0) (pa_cons (pe_op op_add (pv 8) pe_int) pa_nil))) pa_nil))))))
       (pss_one (ps_ret (pv 7))))))))), ?_⟩
    refine red (σ' := [some (.str "civil"), some (.int y), none, none, none, none, none, none, none]) rfl ?_
    try dsimp only [cxOf]
    walk_at "go"
    refine ⟨by show 4 ≤ sizeLine; decide, fun l hl => ?_⟩
    refine g_gtup ⟨l, [.int 400, .int 146097, .int 0, .int 365], rfl, SqT.of upd_same, rfl, ?_⟩
    have sm : Same H (upd H l (.tup [.int 400, .int 146097, .int 0, .int 365])) := same_new hl
    generalize upd H l (.tup [.int 400, .int 146097, .int 0, .int 365]) = H1 at sm
    walk_at "go"
    refine ⟨fun σ' H' => σ' = [some (.str "civil"), some (.int y), some (.int 400), some (.int 146097), some (.int 0), some (.int 365), none, none, none] ∧ H' = H1, ?_, ?_⟩
    · walk_at "go"
      refine ite_n rfl ?_
      walk_at "go"
      exact ⟨rfl, rfl⟩
    rintro σ' H' ⟨rfl, rfl⟩
    refine ⟨fun σ' H2 => σ' = [some (.str "civil"), some (.int y), some (.int 400), some (.int 146097), some (.int 0), some (.int 365), none, none, none] ∧ H2 = H', ?_, ?_⟩
    · walk_at "go"
      refine ite_n rfl ?_
      walk_at "go"
      exact ⟨rfl, rfl⟩
    rintro σ' H' ⟨rfl, rfl⟩
    walk_at "go"
    refine ⟨_, rfl, by omega, by omega, ?_⟩
    have hy : y - 1 = (y - 1) % 400 + 400 * ((y - 1) / 400) := by omega
    have e0 : y - 1 - 400 * ((y - 1) / 400) = (y - 1) % 400 := by omega
    rw [e0]
    obtain ⟨n, hn⟩ := Int.eq_ofNat_of_zero_le (show 0 ≤ (y - 1) % 400 by omega)
    rw [hn] at hy ⊢
    rw [Int.toNat_natCast]
    have n4 : n < 400 := by omega
    generalize (y - 1) / 400 = c at hy
    refine for_range (fun i σ' H2 => ∃ y8, σ' = [some (.str "civil"), some (.int y), some (.int 400), some (.int 146097), some (.int 0), some (.int 365), some (.int c), some (.int (0 + 146097 * c + Civ.yd i)), y8] ∧ H2 = H')
      ⟨none, by rw [show Civ.yd ((0 : Nat) : Int) = 0 from rfl, Int.add_zero]; rfl, rfl⟩ ?_ ?_
    · rintro i σ' H2 hi ⟨y8, rfl, rfl⟩
      walk_at "go"
      refine ⟨0 + (i : Int) + 1, rfl, ?_⟩
      walk_at "go"
      refine ⟨some (.int (0 + (i : Int))), ?_, rfl⟩
      have e1 : (0 : Int) + i + 1 = i + 1 := by omega
      have e2 : ((i + 1 : Nat) : Int) = (i : Int) + 1 := by omega
      have e3 : (0 + 146097 * c + Civ.yd i + 365 + if Civ.isLeap (0 + (i : Int) + 1) = true then 1 else 0) = 0 + 146097 * c + Civ.yd ((i + 1 : Nat) : Int) := by
        rw [e1, e2, Civ.yd_succ]
        show _ = 0 + 146097 * c + (Civ.yd i + 365 + if Civ.isLeap ((i : Int) + 1) = true then 1 else 0)
        omega
      rw [← e3]
      rfl
    · rintro σ' H2 ⟨y8, rfl, rfl⟩
      walk_at "go"
      have := q H2 sm
      rw [hy, Civ.yd_cycle] at this
      have e4 : 0 + 146097 * c + Civ.yd n = Civ.yd n + 146097 * c := by omega
      rw [e4]
      exact this
def sp_law_month_at : Sp := fun vs H Q _ => ∃ d : Int, vs = [.str "civil", .int d] ∧ ∀ m r H', Same H H' → Civ.IsM d m → H' r = some (.lst [.int m, .int (Civ.fd m)]) → Q (.ref r) H'
theorem ok_law_month_at (T : Txt K mg a) : FnOk P w K mg base CX0 4 a.f_law_month_at a.d_law_month_at ["calendar", "day"] sp_law_month_at := by
  refine T.F_law_month_at.ok sc_law_month_at (fun vs H Q E h => ?_) (fun cdv A outer s H vs Q E hr h => ?_)
  · obtain ⟨y, rfl, _⟩ := h
    rfl
  · obtain ⟨d, rfl, q⟩ := h
    refine ⟨_, (pss_cons (ps_set (i := 2) sc_law_month_at.nd rfl (.inl rfl) (pe_lst (pa_cons (pe_op op_fdivE (pe_op op_mul (pv 1) pe_int) pe_int) (pa_cons (pe_op op_fdivE (pe_op op_mul (pe_op op_add (pv 1) pe_int) pe_int) pe_int) (pa_cons (pe_op op_fdivE (pe_op op_mul (pe_op op_sub (pv 1) pe_int) pe_int) pe_int) pa_nil)))))
       (pss_cons (ps_set (i := 3) sc_law_month_at.nd rfl (.inl rfl) (pe_ix ix_list (pv 2) (pe_bm PySem.F.plainAttrs_list PySem.F.slot_list_index PySem.F.type_list_index mt_index (pe_lst (pa_cons pe_str (pa_cons pe_str (pa_cons pe_str pa_nil)))) (pa_cons (pv 0) pa_nil)) (fun _ _ => rfl)))
       (pss_cons (ps_for PassesOwn.never rfl (pi_range1 (by rfl) T.z_range (pa_cons pe_int pa_nil)) (pg_name (i := 4) sc_law_month_at.nd rfl (.inl rfl))
       (pss_one (ps_if (pt_cmpR op_le (pe_call (ok_law_year_first T) (hr.mono (by decide)) (by rfl) T.g_law_year_first T.F_law_year_first.kp T.b_law_year_first .nil pass0 (pa_cons (pv 0) (pa_cons (pe_op op_add (pv 3) pe_int) pa_nil))) (pv 1) (nomark _))
       (pss_one (ps_set (i := 3) sc_law_month_at.nd rfl (.inl rfl) (pe_op op_add (pv 3) pe_int)))
       pss_nil)))
       (pss_cons (ps_set (i := 5) sc_law_month_at.nd rfl (.inl rfl) (pe_op op_mul pe_int (pe_op op_sub (pv 3) pe_int)))
       (pss_cons (ps_set (i := 6) sc_law_month_at.nd rfl (.inl rfl) (pe_call (ok_law_year_first T) (hr.mono (by decide)) (by rfl) T.g_law_year_first T.F_law_year_first.kp T.b_law_year_first .nil pass0 (pa_cons (pv 0) (pa_cons (pv 3) pa_nil))))
       (pss_cons (ps_for PassesOwn.never rfl (pi_range1 (by rfl) T.z_range (pa_cons pe_int pa_nil)) (pg_name (i := 4) sc_law_month_at.nd rfl (.inl rfl))
       (pss_cons (ps_set (i := 7) sc_law_month_at.nd rfl (.inl rfl) (pe_call (ok_law_length T) (hr.mono (by decide)) (by rfl) T.g_law_length T.F_law_length.kp T.b_law_length .nil pass0 (pa_cons (pv 0) (pa_cons (pv 5) pa_nil))))
       (pss_one (ps_if (pt_cmpR op_le (pe_op op_add (pv 6) (pv 7)) (pv 1) (nomark _))
       (pss_cons (ps_set (i := 6) sc_law_month_at.nd rfl (.inl rfl) (pe_op op_add (pv 6) (pv 7)))
       (pss_one (ps_set (i := 5) sc_law_month_at.nd rfl (.inl rfl) (pe_op op_add (pv 5) pe_int))))
       pss_nil))))
       (pss_one (ps_ret (pe_lst (pa_cons (pv 5) (pa_cons (pv 6) pa_nil))))))))))), ?_⟩
    refine red (σ' := [some (.str "civil"), some (.int d), none, none, none, none, none, none]) rfl ?_
    try dsimp only [cxOf]
    walk_at "go"
    refine ⟨by show 3 ≤ sizeLine; decide, fun l hl => ?_⟩
    have sm : Same H (upd H l (.lst [.int (d * 400 / 146097), .int ((d + 2) * 4 / 1461), .int ((d - 227014) * 30 / 10631)])) := same_new hl
    have h1 : upd H l (.lst [.int (d * 400 / 146097), .int ((d + 2) * 4 / 1461), .int ((d - 227014) * 30 / 10631)]) l = some (.lst [.int (d * 400 / 146097), .int ((d + 2) * 4 / 1461), .int ((d - 227014) * 30 / 10631)]) := upd_same
    generalize upd H l (.lst [.int (d * 400 / 146097), .int ((d + 2) * 4 / 1461), .int ((d - 227014) * 30 / 10631)]) = H1 at sm h1
    walk_at "go"
    refine ⟨by show 3 ≤ sizeLine; decide, fun l2 hl2 => ?_⟩
    refine ⟨.inl ⟨rfl, _, SqL.of upd_same⟩, ?_⟩
    walk_at "go"
    refine ⟨l2, _, _, 0, _, rfl, rfl, SqL.of upd_same, rfl, rfl, rfl, rfl, fun m z' hm => by omega, ?_⟩
    refine g_ixL (n := ((0 : Nat) : Int)) (SqL.of ((upd_ne (ne_of_none h1 hl2)).trans h1)) (atI_nat rfl) ?_
    replace sm := sm.trans (same_new (o := .lst [.str "civil", .str "julian", .str "moon"]) hl2)
    generalize upd H1 l2 (.lst [.str "civil", .str "julian", .str "moon"]) = H2 at sm
    walk_at "go"
    refine ⟨4, rfl, by decide, by decide, ?_⟩
    have hy0 : 146097 * (d * 400 / 146097) ≤ 400 * d ∧ 400 * d < 146097 * (d * 400 / 146097 + 1) := by omega
    generalize d * 400 / 146097 = y0 at hy0
    refine for_range (fun i σ' H' => ∃ (y : Int) (y4 : Option V), σ' = [some (.str "civil"), some (.int d), some (.ref l), some (.int y), y4, none, none, none] ∧ Same H H' ∧ y0 ≤ y ∧ y ≤ y0 + i ∧ Civ.yd (y - 1) ≤ d ∧ (y = y0 + i ∨ d < Civ.yd y))
      ⟨y0, none, rfl, sm, by omega, by omega, by unfold Civ.yd; omega, .inl (by omega)⟩ ?_ ?_
    · rintro i σ' H3 hi ⟨y, y4, rfl, sm, g1, g2, g3, g4⟩
      walk_at "go"
      refine ⟨y + 1, rfl, fun H4 sm4 => ?_⟩
      walk_at "go"
      have e1 : y + 1 - 1 = y := by omega
      rw [e1]
      refine iteK (fun h => ?_) (fun h => ?_)
      · walk_at "go"
        refine ⟨y + 1, _, rfl, sm.trans sm4, by omega, by omega, by rw [e1]; exact h, ?_⟩
        rcases g4 with g4 | g4
        · left; omega
        · omega
      · walk_at "go"
        exact ⟨y, _, rfl, sm.trans sm4, g1, by omega, g3, .inr (by omega)⟩
    · rintro σ' H3 ⟨y, y4, rfl, sm, g1, g2, g3, g4⟩
      have top : d < Civ.yd y := by
        rcases g4 with g4 | g4
        · have g4 : y = y0 + 4 := g4
          unfold Civ.yd
          omega
        · exact g4
      clear g1 g2 g4 hy0
      walk_at "go"
      refine ⟨y, rfl, fun H4 sm4 => ?_⟩
      walk_at "go"
      refine ⟨11, rfl, by decide, by decide, ?_⟩
      refine for_range (fun i σ' H' => ∃ (m : Int) (y4 y7 : Option V), σ' = [some (.str "civil"), some (.int d), some (.ref l), some (.int y), y4, some (.int m), some (.int (Civ.fd m)), y7] ∧ Same H H' ∧ 12 * (y - 1) ≤ m ∧ m ≤ 12 * (y - 1) + i ∧ Civ.fd m ≤ d ∧ (m = 12 * (y - 1) + i ∨ d < Civ.fd (m + 1)))
        ⟨12 * (y - 1), y4, none, by rw [Civ.fd_year]; rfl, sm.trans sm4, by omega, by omega, by rw [Civ.fd_year]; exact g3, .inl (by omega)⟩ ?_ ?_
      · rintro i σ' H5 hi ⟨m, y4, y7, rfl, sm, g1, g2, g3, g4⟩
        walk_at "go"
        refine ⟨m, rfl, fun H6 sm6 => ?_⟩
        walk_at "go"
        rw [← Civ.fd_succ]
        refine iteK (fun h => ?_) (fun h => ?_)
        · walk_at "go"
          refine ⟨m + 1, _, _, by rw [Civ.fd_succ]; rfl, sm.trans sm6, by omega, by omega, h, ?_⟩
          rcases g4 with g4 | g4
          · left; omega
          · omega
        · walk_at "go"
          exact ⟨m, _, _, rfl, sm.trans sm6, g1, by omega, g3, .inr (by omega)⟩
      · rintro σ' H5 ⟨m, y4, y7, rfl, sm, g1, g2, g3, g4⟩
        walk_at "go"
        refine ⟨two_le, fun r hr => ?_⟩
        refine q m r _ (sm.trans (same_new hr)) ⟨g3, ?_⟩ upd_same
        rcases g4 with g4 | g4
        · have g4 : m = 12 * (y - 1) + 11 := g4
          have e2 : m + 1 = 12 * y := by omega
          rw [e2, Civ.fd_year]
          exact top
        · exact g4
end
section
theorem getD_at {l : List Nat} {n : Nat} (h : n < l.length) : atI l ((n : Nat) : Int) = some (l.getD n 0) := by
  refine atI_nat ?_
  rw [List.getD_eq_getElem?_getD, List.getElem?_eq_getElem h]; rfl
end
section
variable {P : Program} {w : World} {K : PySem.W.Frag} {mg : Str → Option Value} {base : Heap} {a : Adr}
def sp_day_text (a : Adr) : Sp := fun vs H Q E => ∃ d : Int, vs = [.int d] ∧ ∀ m H', Same H H' → Civ.IsM d m → (¬ (1 ≤ m / 12 + 1 ∧ m / 12 + 1 ≤ 9999) → E (.ref a.C_BadDate) none H') ∧ (1 ≤ m / 12 + 1 → m / 12 + 1 ≤ 9999 → Q (.str (S (Dg.dw d m))) H')
theorem ok_day_text (T : Txt K mg a) : FnOk P w K mg base (L2.CX P w) 5 a.f_day_text a.d_day_text ["day"] (sp_day_text a) := by
  refine T.F_day_text.okX sc_day_text (fun vs H Q E h => ?_) (fun cdv A outer s H vs Q E hr h => ?_)
  · obtain ⟨d, rfl, _⟩ := h
    rfl
  · obtain ⟨d, rfl, q⟩ := h
    refine ⟨_, (pss_cons (ps_asg (pe_call (ok_date_of T) (hr.mono (by decide)) (by rfl) T.g_date_of T.F_date_of.kp T.b_date_of .nil pass0 (pa_cons (pv 0) pa_nil)) (pg_tup (by rfl) (pgs_cons (pg_name (i := 1) sc_day_text.nd rfl (.inl rfl)) (pgs_cons (pg_name (i := 2) sc_day_text.nd rfl (.inl rfl)) (pgs_cons (pg_name (i := 3) sc_day_text.nd rfl (.inl rfl)) pgs_nil)))))
       (pss_cons (ps_if (pt_not (pt_chain op_le op_le pe_int (pv 1) (C8.pe_gc (v := .int 9999) (by rfl) T.g_YEAR_MOST)))
       (pss_one (ps_raise rfl (takes_of rfl rfl rfl rfl) (pmk_own0 PySem.F.excBase_ValueError T.x_BadDate T.g_BadDate T.k_BadDate (raises_own T.r_BadDate T.t_BadDate) rfl)))
       pss_nil)
       (pss_one (ps_ret (pe_op op_add_str (pe_op op_add_str (pe_op op_add_str (pe_op op_add_str (pe_call (ok_padded T) (hr.mono (by decide)) (by rfl) T.g_padded T.F_padded.kp T.b_padded .nil pass0 (pa_cons (pv 1) (pa_cons pe_int pa_nil))) pe_str) (pe_call (ok_padded T) (hr.mono (by decide)) (by rfl) T.g_padded T.F_padded.kp T.b_padded .nil pass0 (pa_cons (pv 2) (pa_cons pe_int pa_nil)))) pe_str) (pe_call (ok_padded T) (hr.mono (by decide)) (by rfl) T.g_padded T.F_padded.kp T.b_padded .nil pass0 (pa_cons (pv 3) (pa_cons pe_int pa_nil)))))))), ?_⟩
    refine red (σ' := [some (.int d), none, none, none]) rfl ?_
    try dsimp only [cxOf]
    walk_at "go"
    refine ⟨d, rfl, fun m r H1 sm hm hr => ?_⟩
    refine g_gtup ⟨r, _, rfl, SqT.of hr, rfl, ?_⟩
    obtain ⟨q1, q2⟩ := q m H1 sm hm
    have dd := Dg.day_date hm
    have pp : ∀ {n : Int} {k : Nat}, 0 ≤ n → n < 10 ^ k → 0 < k → pd n.toNat k = Dg.dg n.toNat k := fun {n k} h0 h1 hk => by
      refine Dg.pad hk ?_
      have : ((n.toNat : Nat) : Int) < ((10 ^ k : Nat) : Int) := by
        rw [Int.toNat_of_nonneg h0]
        exact_mod_cast h1
      exact_mod_cast this
    walk_at "go"
    refine iteK (fun h1 => ?_) (fun h1 => ?_)
    · walk_at "go"
      refine iteNK (fun h2 => ?_) (fun h2 => ?_)
      · walk_at "go"
        exact q1 fun z => h2 z.2
      · walk_at "go"
        refine ⟨m / 12 + 1, 4, rfl, by omega, by omega, by decide, by decide, ?_⟩
        rw [show ((4 : Int)).toNat = 4 from rfl, pp (by omega) (by omega) (by decide)]
        walk_at "go"
        refine g_catS (b := [45]) (by rw [Dg.dg_len]; decide) ?_
        rw [S_cat]
        walk_at "go"
        refine ⟨m % 12 + 1, 2, rfl, by omega, by omega, by decide, by decide, ?_⟩
        rw [show ((2 : Int)).toNat = 2 from rfl, pp (by omega) (by omega) (by decide)]
        refine g_catS (by rw [List.length_append, Dg.dg_len, Dg.dg_len]; decide) ?_
        rw [S_cat]
        walk_at "go"
        refine g_catS (b := [45]) (by rw [List.length_append, List.length_append, Dg.dg_len, Dg.dg_len]; decide) ?_
        rw [S_cat]
        walk_at "go"
        refine ⟨d - Civ.fd m + 1, 2, rfl, by omega, by omega, by decide, by decide, ?_⟩
        rw [show ((2 : Int)).toNat = 2 from rfl, pp (by omega) (by omega) (by decide)]
        refine g_catS (by rw [List.length_append, List.length_append, List.length_append, Dg.dg_len, Dg.dg_len, Dg.dg_len]; decide) ?_
        rw [S_cat]
        have e : ((Dg.dg (m / 12 + 1).toNat 4 ++ [45] ++ Dg.dg (m % 12 + 1).toNat 2) ++ [45]) ++ Dg.dg (d - Civ.fd m + 1).toNat 2 = Dg.dw d m := by
          unfold Dg.dw
          simp [List.append_assoc]
        rw [e]
        exact q2 h1 h2
    · walk_at "go"
      refine ite_y rfl ?_
      walk_at "go"
      exact q1 fun z => h1 z.1
end
section
variable {P : Program} {w : World} {K : PySem.W.Frag} {mg : Str → Option Value} {base : Heap} {a : Adr}
def sp_minute_text : Sp := fun vs H Q _ => ∃ k : Int, vs = [.int k] ∧ 0 ≤ k ∧ k < 6000 ∧ Q (.str (S (Dg.mw k))) H
theorem ok_minute_text (T : Txt K mg a) : FnOk P w K mg base CX0 2 a.f_minute_text a.d_minute_text ["minute"] sp_minute_text := by
  refine T.F_minute_text.ok sc_minute_text (fun vs H Q E h => ?_) (fun cdv A outer s H vs Q E hr h => ?_)
  · obtain ⟨d, rfl, _⟩ := h
    rfl
  · obtain ⟨k, rfl, k0, k1, q⟩ := h
    refine ⟨_, (pss_one (ps_ret (pe_op op_add_str (pe_op op_add_str (pe_call (ok_padded T) (hr.mono (by decide)) (by rfl) T.g_padded T.F_padded.kp T.b_padded .nil pass0 (pa_cons (pe_op op_fdivE (pv 0) pe_int) (pa_cons pe_int pa_nil))) pe_str) (pe_call (ok_padded T) (hr.mono (by decide)) (by rfl) T.g_padded T.F_padded.kp T.b_padded .nil pass0 (pa_cons (pe_op op_modE (pv 0) pe_int) (pa_cons pe_int pa_nil)))))), ?_⟩
    refine red (σ' := [some (.int k)]) rfl ?_
    try dsimp only [cxOf]
    walk_at "go"
    refine ⟨k / 60, 2, rfl, by omega, by omega, by decide, by decide, ?_⟩
    rw [show ((2 : Int)).toNat = 2 from rfl, show pd (k / 60).toNat 2 = _ from Dg.pad (by decide) (by omega)]
    walk_at "go"
    refine g_catS (b := [46]) (by rw [Dg.dg_len]; decide) ?_
    rw [S_cat]
    walk_at "go"
    refine ⟨k % 60, 2, rfl, by omega, by omega, by decide, by decide, ?_⟩
    rw [show ((2 : Int)).toNat = 2 from rfl, show pd (k % 60).toNat 2 = _ from Dg.pad (by decide) (by omega)]
    refine g_catS (by rw [List.length_append, Dg.dg_len, Dg.dg_len]; decide) ?_
    rw [S_cat]
    have e : (Dg.dg (k / 60).toNat 2 ++ [46]) ++ Dg.dg (k % 60).toNat 2 = Dg.mw k := by
      unfold Dg.mw
      simp [List.append_assoc]
    rw [e]
    exact q
end
section
variable {P : Program} {w : World} {K : PySem.W.Frag} {mg : Str → Option Value} {base : Heap} {a : Adr}
theorem dig_at (n : Nat) : atI [48, 49, 50, 51, 52, 53, 54, 55, 56, 57] (((n : Nat) : Int) % 10) = some (48 + n % 10) := by
  have e : ((n : Nat) : Int) % 10 = ((n % 10 : Nat) : Int) := by omega
  rw [e]
  refine atI_nat ?_
  have h : n % 10 < 10 := Nat.mod_lt _ (by decide)
  have : ∀ k < 10, [48, 49, 50, 51, 52, 53, 54, 55, 56, 57][k]? = some (48 + k) := by decide
  exact this _ h
def sp_law_digits : Sp := fun vs H Q _ => ∃ n k : Int, vs = [.int n, .int k] ∧ 0 ≤ n ∧ 0 ≤ k ∧ k ≤ 100 ∧ Q (.str (S (Dg.dg n.toNat k.toNat))) H
theorem ok_law_digits2 (T : Txt K mg a) : FnOk P w K mg base CX0 2 a.f_law_digits2 a.d_law_digits2 ["n", "many"] sp_law_digits := by
  refine T.F_law_digits2.ok sc_law_digits2 (fun vs H Q E h => ?_) (fun cdv A outer s H vs Q E hr h => ?_)
  · obtain ⟨l, k, rfl, _⟩ := h
    rfl
  · obtain ⟨n, k, rfl, n0, k0, k1, q⟩ := h
    refine ⟨_, (pss_cons (ps_set (i := 2) sc_law_digits2.nd rfl (.inl rfl) pe_str)
       (pss_cons (ps_for PassesOwn.never rfl (pi_range1 (by rfl) T.z_range (pa_cons (pv 1) pa_nil)) (pg_name (i := 3) sc_law_digits2.nd rfl (.inl rfl))
       (pss_cons (ps_set (i := 2) sc_law_digits2.nd rfl (.inl rfl) (pe_op op_add_str (pe_ix ix_str pe_str (pe_call (ok_law_mod T) (hr.mono (by decide)) (by rfl) T.g_law_mod T.F_law_mod.kp T.b_law_mod .nil pass0 (pa_cons (pv 0) (pa_cons pe_int pa_nil))) (fun _ _ => rfl)) (pv 2)))
       (pss_one (ps_set (i := 0) sc_law_digits2.nd rfl (.inl rfl) (pe_op op_fdivE (pv 0) pe_int)))))
       (pss_one (ps_ret (pv 2))))), ?_⟩
    refine red (σ' := [some (.int n), some (.int k), none, none]) rfl ?_
    try dsimp only [cxOf]
    obtain ⟨m, rfl⟩ := Int.eq_ofNat_of_zero_le n0
    obtain ⟨j, rfl⟩ := Int.eq_ofNat_of_zero_le k0
    walk_at "go"
    refine ⟨_, rfl, by omega, by omega, ?_⟩
    rw [Int.toNat_natCast] at q ⊢
    rw [Int.toNat_natCast] at q
    refine for_range (fun i σ' H' => ∃ y3, σ' = [some (.int ((m / 10 ^ i : Nat) : Int)), some (.int (j : Nat)), some (.str (S (Dg.dg m i))), y3] ∧ H' = H) ⟨none, by rw [Nat.pow_zero, Nat.div_one]; rfl, rfl⟩ ?_ ?_
    · rintro i σ' H' hi ⟨y3, rfl, rfl⟩
      walk_at "go"
      refine ⟨_, 10, rfl, by decide, by decide, ?_⟩
      refine g_ixS (l := [48, 49, 50, 51, 52, 53, 54, 55, 56, 57]) (by decide) (dig_at _) ?_
      walk_at "go"
      refine g_catS (by rw [Dg.dg_len]; show 1 + i ≤ _; omega) ?_
      rw [S_cat]
      walk_at "go"
      refine ⟨some (.int (0 + (i : Int))), ?_, rfl⟩
      have e1 : ((m / 10 ^ i : Nat) : Int) / 10 = ((m / 10 ^ (i + 1) : Nat) : Int) := by
        rw [Nat.pow_succ, ← Nat.div_div_eq_div_mul]; omega
      show [some (V.int (((m / 10 ^ i : Nat) : Int) / 10)), some (V.int (j : Nat)), some (V.str (S ([48 + m / 10 ^ i % 10] ++ Dg.dg m i))), some (V.int (0 + (i : Int)))] = _
      rw [e1]
      rfl
    · rintro σ' H' ⟨y3, rfl, rfl⟩
      walk_at "go"
      exact q
end
section
variable {P : Program} {w : World} {K : PySem.W.Frag} {mg : Str → Option Value} {base : Heap} {a : Adr}
theorem month_pos {d m : Int} (h : Civ.IsM d m) (h0 : 0 ≤ d) : 0 ≤ m := by
  apply Classical.byContradiction
  intro g
  have := Civ.fd_le (show m + 1 ≤ 0 by omega)
  rw [Dg.fd_zero] at this
  have := h.2
  omega
def sp_law_month_first : Sp := fun vs H Q _ => ∃ m : Int, vs = [.str "civil", .int m] ∧ ∀ H', Same H H' → Q (.int (Civ.fd m)) H'
theorem ok_law_month_first (T : Txt K mg a) : FnOk P w K mg base CX0 4 a.f_law_month_first a.d_law_month_first ["calendar", "m"] sp_law_month_first := by
  refine T.F_law_month_first.ok sc_law_month_first (fun vs H Q E h => ?_) (fun cdv A outer s H vs Q E hr h => ?_)
  · obtain ⟨m, rfl, _⟩ := h
    rfl
  · obtain ⟨m, rfl, q⟩ := h
    refine ⟨_, (pss_cons (ps_set (i := 2) sc_law_month_first.nd rfl (.inl rfl) (pe_call (ok_law_year_first T) (hr.mono (by decide)) (by rfl) T.g_law_year_first T.F_law_year_first.kp T.b_law_year_first .nil pass0 (pa_cons (pv 0) (pa_cons (pe_op op_add (pe_op op_fdivE (pv 1) pe_int) pe_int) pa_nil))))
       (pss_cons (ps_for PassesOwn.never rfl (pi_range1 (by rfl) T.z_range (pa_cons (pe_call (ok_law_mod T) (hr.mono (by decide)) (by rfl) T.g_law_mod T.F_law_mod.kp T.b_law_mod .nil pass0 (pa_cons (pv 1) (pa_cons pe_int pa_nil))) pa_nil)) (pg_name (i := 3) sc_law_month_first.nd rfl (.inl rfl))
       (pss_one (ps_set (i := 2) sc_law_month_first.nd rfl (.inl rfl) (pe_op op_add (pv 2) (pe_call (ok_law_length T) (hr.mono (by decide)) (by rfl) T.g_law_length T.F_law_length.kp T.b_law_length .nil pass0 (pa_cons (pv 0) (pa_cons (pe_op op_add (pe_op op_mul (pe_op op_fdivE (pv 1) pe_int) pe_int) (pv 3)) pa_nil)))))))
       (pss_one (ps_ret (pv 2))))), ?_⟩
    refine red (σ' := [some (.str "civil"), some (.int m), none, none]) rfl ?_
    try dsimp only [cxOf]
    walk_at "go"
    refine ⟨_, rfl, fun H1 sm => ?_⟩
    walk_at "go"
    refine ⟨m, 12, rfl, by decide, by decide, ?_⟩
    walk_at "go"
    refine ⟨_, rfl, by omega, by omega, ?_⟩
    have e0 : Civ.yd (m / 12 + 1 - 1) = Civ.fd (12 * (m / 12)) := by
      rw [Civ.fd_year]; congr 1; omega
    rw [e0]
    obtain ⟨n, hn⟩ := Int.eq_ofNat_of_zero_le (show 0 ≤ m % 12 by omega)
    rw [hn, Int.toNat_natCast]
    refine for_range (fun i σ' H' => ∃ y3, σ' = [some (.str "civil"), some (.int m), some (.int (Civ.fd (12 * (m / 12) + i))), y3] ∧ Same H H') ⟨none, by rw [show ((0 : Nat) : Int) = 0 from rfl, Int.add_zero]; rfl, sm⟩ ?_ ?_
    · rintro i σ' H2 hi ⟨y3, rfl, sm⟩
      walk_at "go"
      refine ⟨_, rfl, fun H3 sm3 => ?_⟩
      walk_at "go"
      refine ⟨some (.int (0 + (i : Int))), ?_, sm.trans sm3⟩
      have e1 : m / 12 * 12 + (0 + (i : Int)) = 12 * (m / 12) + i := by omega
      have e2 : 12 * (m / 12) + ((i + 1 : Nat) : Int) = 12 * (m / 12) + i + 1 := by omega
      rw [e1, e2, Civ.fd_succ]
      rfl
    · rintro σ' H2 ⟨y3, rfl, sm⟩
      walk_at "go"
      have e : 12 * (m / 12) + (n : Int) = m := by omega
      rw [e]
      exact q H2 sm
def sp_law_day_text : Sp := fun vs H Q _ => ∃ d : Int, vs = [.int d] ∧ 0 ≤ d ∧ ∀ m H', Same H H' → Civ.IsM d m → Q (.str (S (Dg.dw d m))) H'
theorem ok_law_day_text (T : Txt K mg a) : FnOk P w K mg base CX0 5 a.f_law_day_text a.d_law_day_text ["day"] sp_law_day_text := by
  refine T.F_law_day_text.ok sc_law_day_text (fun vs H Q E h => ?_) (fun cdv A outer s H vs Q E hr h => ?_)
  · obtain ⟨l, rfl, _⟩ := h
    rfl
  · obtain ⟨d, rfl, d0, q⟩ := h
    refine ⟨_, (pss_cons (ps_asg (pe_call (ok_law_month_at T) (hr.mono (by decide)) (by rfl) T.g_law_month_at T.F_law_month_at.kp T.b_law_month_at .nil pass0 (pa_cons pe_str (pa_cons (pv 0) pa_nil))) (pg_lst (by rfl) (pgs_cons (pg_name (i := 1) sc_law_day_text.nd rfl (.inl rfl)) (pgs_cons (pg_name (i := 2) sc_law_day_text.nd rfl (.inl rfl)) pgs_nil))))
       (pss_cons (ps_set (i := 3) sc_law_day_text.nd rfl (.inl rfl) (pe_call (ok_law_digits2 T) (hr.mono (by decide)) (by rfl) T.g_law_digits2 T.F_law_digits2.kp T.b_law_digits2 .nil pass0 (pa_cons (pe_op op_add (pe_op op_sub (pv 0) (pv 2)) pe_int) (pa_cons pe_int pa_nil))))
       (pss_one (ps_ret (pe_op op_add_str (pe_op op_add_str (pe_op op_add_str (pe_op op_add_str (pe_call (ok_law_digits2 T) (hr.mono (by decide)) (by rfl) T.g_law_digits2 T.F_law_digits2.kp T.b_law_digits2 .nil pass0 (pa_cons (pe_op op_add (pe_op op_fdivE (pv 1) pe_int) pe_int) (pa_cons pe_int pa_nil))) pe_str) (pe_call (ok_law_digits2 T) (hr.mono (by decide)) (by rfl) T.g_law_digits2 T.F_law_digits2.kp T.b_law_digits2 .nil pass0 (pa_cons (pe_op op_add (pe_call (ok_law_mod T) (hr.mono (by decide)) (by rfl) T.g_law_mod T.F_law_mod.kp T.b_law_mod .nil pass0 (pa_cons (pv 1) (pa_cons pe_int pa_nil))) pe_int) (pa_cons pe_int pa_nil)))) pe_str) (pv 3)))))), ?_⟩
    refine red (σ' := [some (.int d), none, none, none]) rfl ?_
    try dsimp only [cxOf]
    walk_at "go"
    refine ⟨d, rfl, fun m r H1 sm hm hr => ?_⟩
    refine g_glst ⟨r, _, rfl, SqL.of hr, rfl, ?_⟩
    have m0 := month_pos hm d0
    have dd := Dg.day_date hm
    walk_at "go"
    refine ⟨_, _, rfl, by omega, by decide, by decide, ?_⟩
    walk_at "go"
    refine ⟨_, _, rfl, by omega, by decide, by decide, ?_⟩
    walk_at "go"
    refine g_catS (b := [45]) (by rw [Dg.dg_len]; decide) ?_
    rw [S_cat]
    walk_at "go"
    refine ⟨m, 12, rfl, by decide, by decide, ?_⟩
    walk_at "go"
    refine ⟨_, _, rfl, by omega, by decide, by decide, ?_⟩
    refine g_catS (by rw [List.length_append, Dg.dg_len, Dg.dg_len]; decide) ?_
    rw [S_cat]
    walk_at "go"
    refine g_catS (b := [45]) (by rw [List.length_append, List.length_append, Dg.dg_len, Dg.dg_len]; decide) ?_
    rw [S_cat]
    walk_at "go"
    refine g_catS (by rw [List.length_append, List.length_append, List.length_append, Dg.dg_len, Dg.dg_len, Dg.dg_len]; decide) ?_
    rw [S_cat]
    have e : ((Dg.dg (m / 12 + 1).toNat 4 ++ [45] ++ Dg.dg (m % 12 + 1).toNat 2) ++ [45]) ++ Dg.dg (d - Civ.fd m + 1).toNat 2 = Dg.dw d m := by
      unfold Dg.dw
      simp [List.append_assoc]
    have := q m H1 sm hm
    rw [← e] at this
    exact this
end
section
variable {P : Program} {w : World} {K : PySem.W.Frag} {mg : Str → Option Value} {base : Heap} {a : Adr}
theorem ne_same {K : PySem.W.Frag} {H : Hp} {x y : V} {d : PyData} {Q : VK} (h1 : Dp K H x d) (h2 : Dp K H y d) (s : SeqAt.shaped d = true) (q : Q (.bl false) H) : rNeD K x y H Q :=
  ⟨d, d, h1, h2, s, s, by rw [SeqAt.eqv_refl d (SeqAt.canLay_of_shaped s)]; exact q⟩
theorem eq_same {K : PySem.W.Frag} {H : Hp} {x y : V} {d : PyData} {Q : VK} (h1 : Dp K H x d) (h2 : Dp K H y d) (s : SeqAt.shaped d = true) (q : Q (.bl true) H) : rEqD K x y H Q :=
  ⟨d, d, h1, h2, s, s, by rw [SeqAt.eqv_refl d (SeqAt.canLay_of_shaped s)]; exact q⟩
/-- two values that are alike for _law_is: an int, a text, or tuples -/
inductive Alike (K : PySem.W.Frag) (H : Hp) : V → V → Prop
  | int (i : Int) : Alike K H (.int i) (.int i)
  | str (x : Str) (h : SeqAt.shaped (.str x) = true) : Alike K H (.str x) (.str x)
  | tup {p q : Addr} {xs ys : List V} {d : PyData} (hp : H p = some (.tup xs)) (hq : H q = some (.tup ys)) (h1 : Dp K H (.ref p) d) (h2 : Dp K H (.ref q) d) (s : SeqAt.shaped d = true) : Alike K H (.ref p) (.ref q)
def sp_law_is (K : PySem.W.Frag) : Sp := fun vs H Q _ => ∃ x y, vs = [x, y] ∧ Alike K H x y ∧ Q (.bl true) H
theorem isi {K : PySem.W.Frag} {H : Hp} {x : V} {t n : String} {b : Bool} {Q : VK} (h : TyX K H x (.type t)) (e : kitB t n = some b) (q : Q (.bl b) H) : rIsi K [x, .ty n] H Q :=
  ⟨x, .ty n, .type t, .type n, b, rfl, .ty n, h, kit_ty e, q⟩
theorem ok_law_is (T : Txt K mg a) : FnOk P w K mg base CX0 1 a.f_law_is a.d_law_is ["told", "due"] (sp_law_is K) := by
  refine T.F_law_is.ok sc_law_is (fun vs H Q E h => ?_) (fun cdv A outer s H vs Q E hr h => ?_)
  · obtain ⟨x, y, rfl, _⟩ := h
    rfl
  · obtain ⟨x, y, rfl, al, q⟩ := h
    refine ⟨_, (pss_cons (ps_if (pt_cmpR op_isN (pv 1) pe_non (nomark _))
       (pss_one (ps_ret (pe_cmpR op_isN (pv 0) pe_non (nomark _))))
       pss_nil)
       (pss_cons (ps_if (pt_val (pe_callB (show CallR _ _ (rIsi K) from call_isi) (by rfl) T.z_isinstance (by decide +kernel) (pa_cons (pv 1) (pa_cons (pe_bltn (v := .ty "bool") (by rfl) T.z_bool (by decide +kernel) rfl) pa_nil))))
       (pss_one (ps_ret (pe_and (pe_callB (show CallR _ _ (rIsi K) from call_isi) (by rfl) T.z_isinstance (by decide +kernel) (pa_cons (pv 0) (pa_cons (pe_bltn (v := .ty "bool") (by rfl) T.z_bool (by decide +kernel) rfl) pa_nil))) (pe_one (pe_cmpR (op_eqD (hr.units)) (pv 0) (pv 1) (nomark _))))))
       pss_nil)
       (pss_cons (ps_if (pt_val (pe_callB (show CallR _ _ (rIsi K) from call_isi) (by rfl) T.z_isinstance (by decide +kernel) (pa_cons (pv 1) (pa_cons (pe_bltn (v := .ty "int") (by rfl) T.z_int (by decide +kernel) rfl) pa_nil))))
       (pss_one (ps_ret (pe_and (pe_callB (show CallR _ _ (rIsi K) from call_isi) (by rfl) T.z_isinstance (by decide +kernel) (pa_cons (pv 0) (pa_cons (pe_bltn (v := .ty "int") (by rfl) T.z_int (by decide +kernel) rfl) pa_nil))) (pe_one (pe_cmpR (op_eqD (hr.units)) (pv 0) (pv 1) (nomark _))))))
       pss_nil)
       (pss_cons (ps_if (pt_val (pe_callB (show CallR _ _ (rIsi K) from call_isi) (by rfl) T.z_isinstance (by decide +kernel) (pa_cons (pv 1) (pa_cons (pe_bltn (v := .ty "str") (by rfl) T.z_str (by decide +kernel) rfl) pa_nil))))
       (pss_one (ps_ret (pe_and (pe_callB (show CallR _ _ (rIsi K) from call_isi) (by rfl) T.z_isinstance (by decide +kernel) (pa_cons (pv 0) (pa_cons (pe_bltn (v := .ty "str") (by rfl) T.z_str (by decide +kernel) rfl) pa_nil))) (pe_one (pe_cmpR (op_eqD (hr.units)) (pv 0) (pv 1) (nomark _))))))
       pss_nil)
       (pss_cons (ps_if (pt_val (pe_callB (show CallR _ _ (rIsi K) from call_isi) (by rfl) T.z_isinstance (by decide +kernel) (pa_cons (pv 1) (pa_cons (pe_bltn (v := .ty "tuple") (by rfl) T.z_tuple (by decide +kernel) rfl) pa_nil))))
       (pss_one (ps_ret (pe_and (pe_callB (show CallR _ _ (rIsi K) from call_isi) (by rfl) T.z_isinstance (by decide +kernel) (pa_cons (pv 0) (pa_cons (pe_bltn (v := .ty "tuple") (by rfl) T.z_tuple (by decide +kernel) rfl) pa_nil))) (pe_one (pe_cmpR (op_eqD (hr.units)) (pv 0) (pv 1) (nomark _))))))
       pss_nil)
       (pss_one (ps_ret (pe_and (pe_callB (show CallR _ _ (rIsi K) from call_isi) (by rfl) T.z_isinstance (by decide +kernel) (pa_cons (pv 0) (pa_cons (pe_bltn (v := .ty "list") (by rfl) T.z_list (by decide +kernel) rfl) pa_nil))) (pe_one (pe_cmpR (op_eqD (hr.units)) (pv 0) (pv 1) (nomark _))))))))))), ?_⟩
    refine red (σ' := [some x, some y]) rfl ?_
    try dsimp only [cxOf]
    cases al with
    | int i =>
      have ti : TyX K H (.int i) (.type "int") := .base (.int i)
      walk_at "go"
      refine ite_n rfl ?_
      walk_at "go"
      refine isi ti (b := false) (by decide +kernel) ?_
      walk_at "go"
      refine iteF ?_
      walk_at "go"
      refine isi ti (b := true) (by decide +kernel) ?_
      walk_at "go"
      refine iteT ?_
      walk_at "go"
      refine isi ti (b := true) (by decide +kernel) ?_
      walk_at "go"
      refine iteT ?_
      walk_at "go"
      exact eq_same (.int i) (.int i) rfl q
    | str z hz =>
      have ti : TyX K H (.str z) (.type "str") := .base (.str z)
      walk_at "go"
      refine ite_n rfl ?_
      walk_at "go"
      refine isi ti (b := false) (by decide +kernel) ?_
      walk_at "go"
      refine iteF ?_
      walk_at "go"
      refine isi ti (b := false) (by decide +kernel) ?_
      walk_at "go"
      refine iteF ?_
      walk_at "go"
      refine isi ti (b := true) (by decide +kernel) ?_
      walk_at "go"
      refine iteT ?_
      walk_at "go"
      refine isi ti (b := true) (by decide +kernel) ?_
      walk_at "go"
      refine iteT ?_
      walk_at "go"
      exact eq_same (.str z) (.str z) hz q
    | tup hp hq h1 h2 s =>
      have tp := TyX.base (TyOf.tup (K := K) hp)
      have tq := TyX.base (TyOf.tup (K := K) hq)
      walk_at "go"
      refine ite_n rfl ?_
      walk_at "go"
      refine isi tq (b := false) (by decide +kernel) ?_
      walk_at "go"
      refine iteF ?_
      walk_at "go"
      refine isi tq (b := false) (by decide +kernel) ?_
      walk_at "go"
      refine iteF ?_
      walk_at "go"
      refine isi tq (b := false) (by decide +kernel) ?_
      walk_at "go"
      refine iteF ?_
      walk_at "go"
      refine isi tq (b := true) (by decide +kernel) ?_
      walk_at "go"
      refine iteT ?_
      walk_at "go"
      refine isi tp (b := true) (by decide +kernel) ?_
      walk_at "go"
      refine iteT ?_
      walk_at "go"
      exact eq_same h1 h2 s q
end
section
variable {P : Program} {w : World} {K : PySem.W.Frag} {mg : Str → Option Value} {base : Heap} {a : Adr}
/-! ### zones -/
def zD (zs : Zn.Z) : PyData := .tuple (zs.map fun e => PyData.tuple [.int e.1, .int e.2])
theorem pr_inv {H : Hp} {v : V} {x y : Int} (h : Dp K H v (.tuple [.int x, .int y])) : ∃ a, v = .ref a ∧ SqT K H a [.int x, .int y] := by
  cases h with
  | tup s d =>
    cases d with
    | cons d1 d =>
      cases d with
      | cons d2 d =>
        cases d
        cases d1
        cases d2
        exact ⟨_, rfl, s⟩
theorem z_inv {H : Hp} {z : Addr} {zs : Zn.Z} (h : Dp K H (.ref z) (zD zs)) : ∃ xs, SqT K H z xs ∧ xs.length = zs.length ∧ ∀ (i : Nat) (e : Int × Int), zs[i]? = some e → ∃ a, xs[i]? = some (.ref a) ∧ SqT K H a [.int e.1, .int e.2] := by
  unfold zD at h
  cases h with
  | tup s d =>
    refine ⟨_, s, by have := dpAll_len d; rw [List.length_map] at this; exact this, fun i e he => ?_⟩
    obtain ⟨v, hv, hd⟩ := dpAll_at d (i := i) (d := .tuple [.int e.1, .int e.2]) (by rw [List.getElem?_map, he]; rfl)
    obtain ⟨a, rfl, ha⟩ := pr_inv hd
    exact ⟨a, hv, ha⟩
theorem noL_z (zs : Zn.Z) : noL (zD zs) = true := by
  have : noLAll (zs.map fun e => PyData.tuple [.int e.1, .int e.2]) = true := noLAll_of fun x hx => by
    obtain ⟨e, _, rfl⟩ := List.mem_map.mp hx
    simp [noL, noLAll]
  simp [zD, noL, this]
def sp_offset_on (K : PySem.W.Frag) : Sp := fun vs H Q _ => ∃ (z : Addr) (zs : Zn.Z) (d : Int), vs = [.ref z, .int d] ∧ Dp K H (.ref z) (zD zs) ∧ zs ≠ [] ∧ Q (.int (Zn.off zs d)) H
theorem ok_offset_on (T : Txt K mg a) : FnOk P w K mg base CX0 1 a.f_offset_on a.d_offset_on ["zone", "day"] (sp_offset_on K) := by
  refine T.F_offset_on.ok sc_offset_on (fun vs H Q E h => ?_) (fun cdv A outer s H vs Q E hr h => ?_)
  · obtain ⟨z, zs, d, rfl, _⟩ := h
    rfl
  · obtain ⟨z, zs, d, rfl, hz, hne, q⟩ := h
    refine ⟨_, (pss_cons (ps_set (i := 2) sc_offset_on.nd rfl (.inl rfl) (pe_ix ix_tup (pe_ix ix_tup (pv 0) pe_int (fun _ _ => rfl)) pe_int (fun _ _ => rfl)))
       (pss_cons (ps_for PassesOwn.never rfl (pi_tup (pv 0)) (pg_tup (by rfl) (pgs_cons (pg_name (i := 3) sc_offset_on.nd rfl (.inl rfl)) (pgs_cons (pg_name (i := 4) sc_offset_on.nd rfl (.inl rfl)) pgs_nil)))
       (pss_one (ps_if (pt_cmpR op_le (pv 3) (pv 1) (nomark _))
       (pss_one (ps_set (i := 2) sc_offset_on.nd rfl (.inl rfl) (pv 4)))
       pss_nil)))
       (pss_one (ps_ret (pv 2))))), ?_⟩
    refine red (σ' := [some (.ref z), some (.int d), none, none, none]) rfl ?_
    try dsimp only [cxOf]
    obtain ⟨xs, hzt, hlen, hat⟩ := z_inv hz
    obtain ⟨e0, r0, rfl⟩ : ∃ e0 r0, zs = e0 :: r0 := by
      cases zs with
      | nil => exact absurd rfl hne
      | cons x r => exact ⟨x, r, rfl⟩
    obtain ⟨a0, h0, h00⟩ := hat 0 e0 rfl
    have a00 : atI xs (0 : Int) = some (.ref a0) := atI_nat (j := 0) h0
    walk_at "go"
    refine g_ixT hzt a00 ?_
    walk_at "go"
    refine ⟨z, rfl, ⟨_, hzt⟩, ?_⟩
    refine for_tup (K := K) (a := z) (xs := xs) (fun i σ' H' => ∃ (y3 y4 : Option V), σ' = [some (.ref z), some (.int d), some (.int (((e0 :: r0).take i).foldl (Zn.offStep d) e0.2)), y3, y4] ∧ H' = H) ⟨_, _, rfl, rfl⟩ (fun i σ' H' _ h => ?_) ?_ ?_
    · obtain ⟨_, _, _, rfl⟩ := h
      exact hzt
    · rintro i x σ' H2 hi ⟨y3, y4, rfl, rfl⟩
      have hil : i < (e0 :: r0).length := by rw [← hlen]; exact (List.getElem?_eq_some_iff.mp hi).1
      have he : (e0 :: r0)[i]? = some (e0 :: r0)[i] := List.getElem?_eq_getElem hil
      generalize (e0 :: r0)[i] = e at he
      obtain ⟨ea, h1, h2⟩ := hat i e he
      rw [hi] at h1
      cases h1
      rw [take_more he, List.foldl_append]
      show gTup _ _ _ _ _ _ _
      refine g_gtup ⟨ea, _, rfl, h2, rfl, ?_⟩
      walk_at "go"
      refine iteK (fun h => ?_) (fun h => ?_)
      · walk_at "go"
        refine ⟨some (.int e.1), some (.int e.2), ?_, rfl⟩
        show _ = [_, _, some (V.int (if e.1 ≤ d then e.2 else _)), _, _]
        rw [if_pos h]; rfl
      · walk_at "go"
        refine ⟨some (.int e.1), some (.int e.2), ?_, rfl⟩
        show _ = [_, _, some (V.int (if e.1 ≤ d then e.2 else _)), _, _]
        rw [if_neg h]; rfl
    · rintro σ' H2 ⟨y3, y4, rfl, rfl⟩
      rw [hlen, List.take_length]
      walk_at "go"
      exact q
def sp_begin_of (K : PySem.W.Frag) : Sp := fun vs H Q _ => ∃ (z : Addr) (zs : Zn.Z) (d : Int), vs = [.ref z, .int d] ∧ Dp K H (.ref z) (zD zs) ∧ zs ≠ [] ∧ Q (.int (Zn.beg zs d)) H
theorem ok_begin_of (T : Txt K mg a) : FnOk P w K mg base CX0 2 a.f_begin_of a.d_begin_of ["zone", "day"] (sp_begin_of K) := by
  refine T.F_begin_of.ok sc_begin_of (fun vs H Q E h => ?_) (fun cdv A outer s H vs Q E hr h => ?_)
  · obtain ⟨z, zs, d, rfl, _⟩ := h
    rfl
  · obtain ⟨z, zs, d, rfl, hz, hne, q⟩ := h
    refine ⟨_, (pss_one (ps_ret (pe_op op_sub (pe_op op_mul (C8.pe_gc (v := .int 1440) (by rfl) T.g_MINUTES) (pv 1)) (pe_call (ok_offset_on T) (hr.mono (by decide)) (by rfl) T.g_offset_on T.F_offset_on.kp T.b_offset_on .nil pass0 (pa_cons (pv 0) (pa_cons (pv 1) pa_nil)))))), ?_⟩
    refine red (σ' := [some (.ref z), some (.int d)]) rfl ?_
    try dsimp only [cxOf]
    walk_at "go"
    refine ⟨z, zs, d, rfl, hz, hne, ?_⟩
    walk_at "go"
    exact q
def sp_local_of (K : PySem.W.Frag) : Sp := fun vs H Q _ => ∃ (z : Addr) (zs : Zn.Z) (m : Int), vs = [.ref z, .int m] ∧ Dp K H (.ref z) (zD zs) ∧ Zn.Ok zs ∧
  ∀ d r H', Zn.At zs m d → Same H H' → H' r = some (.tup [.int d, .int (m - Zn.beg zs d)]) → Q (.ref r) H'
theorem ok_local_of (T : Txt K mg a) : FnOk P w K mg base CX0 3 a.f_local_of a.d_local_of ["zone", "moment"] (sp_local_of K) := by
  refine T.F_local_of.ok sc_local_of (fun vs H Q E h => ?_) (fun cdv A outer s H vs Q E hr h => ?_)
  · obtain ⟨z, zs, m, rfl, _⟩ := h
    rfl
  · obtain ⟨z, zs, m, rfl, hz, ok, q⟩ := h
    refine ⟨_, (pss_cons (ps_set (i := 2) sc_local_of.nd rfl (.inl rfl) (pe_op op_add (pe_op op_fdivE (pv 1) (C8.pe_gc (v := .int 1440) (by rfl) T.g_MINUTES)) pe_int))
       (pss_cons (ps_while PassesOwn.never (pt_cmpR op_le (pe_call (ok_begin_of T) (hr.mono (by decide)) (by rfl) T.g_begin_of T.F_begin_of.kp T.b_begin_of .nil pass0 (pa_cons (pv 0) (pa_cons (pe_op op_add (pv 2) pe_int) pa_nil))) (pv 1) (nomark _))
       (pss_one (ps_aug (i := 2) sc_local_of.nd rfl (.inl rfl) pe_int ip_add)))
       (pss_cons (ps_while PassesOwn.never (pt_cmpR op_gt (pe_call (ok_begin_of T) (hr.mono (by decide)) (by rfl) T.g_begin_of T.F_begin_of.kp T.b_begin_of .nil pass0 (pa_cons (pv 0) (pa_cons (pv 2) pa_nil))) (pv 1) (nomark _))
       (pss_one (ps_aug (i := 2) sc_local_of.nd rfl (.inl rfl) pe_int ip_sub)))
       (pss_one (ps_ret (pe_tup (pa_cons (pv 2) (pa_cons (pe_op op_sub (pv 1) (pe_call (ok_begin_of T) (hr.mono (by decide)) (by rfl) T.g_begin_of T.F_begin_of.kp T.b_begin_of .nil pass0 (pa_cons (pv 0) (pa_cons (pv 2) pa_nil)))) pa_nil)))))))), ?_⟩
    refine red (σ' := [some (.ref z), some (.int m), none]) rfl ?_
    try dsimp only [cxOf]
    have hb : ∀ d, 1440 * d - 1440 < Zn.beg zs d ∧ Zn.beg zs d < 1440 * d + 1440 := fun d => by
      have := ok.bd d
      unfold Zn.beg
      omega
    walk_at "go"
    refine ⟨fun n σ' H' => ∃ d : Int, σ' = [some (.ref z), some (.int m), some (.int d)] ∧ H' = H ∧ n = (m + 4000 - 1440 * d).toNat, ⟨_, m / 1440 + 1, rfl, rfl, rfl⟩, ?_⟩
    rintro n σ' H' ⟨d, rfl, rfl, rfl⟩
    walk_at "go"
    refine ⟨z, zs, d + 1, rfl, hz, ok.ne, ?_⟩
    walk_at "go"
    refine iteK (fun h => ?_) (fun h => ?_)
    · refine ⟨fun σ' H'' => σ' = [some (.ref z), some (.int m), some (.int (d + 1))] ∧ H'' = H', ?_, ?_⟩
      · rintro σ' H'' ⟨rfl, rfl⟩
        have := hb (d + 1)
        exact ⟨_, (by omega : (m + 4000 - 1440 * (d + 1)).toNat < _), d + 1, rfl, rfl, rfl⟩
      · walk_at "go"
        exact ⟨rfl, rfl⟩
    · walk_at "go"
      refine ⟨fun n σ' H'' => ∃ d : Int, σ' = [some (.ref z), some (.int m), some (.int d)] ∧ H'' = H' ∧ m < Zn.beg zs (d + 1) ∧ n = (1440 * d - m + 4000).toNat, ⟨_, d, rfl, rfl, by omega, rfl⟩, ?_⟩
      rintro n σ' H'' ⟨d, rfl, rfl, hd, rfl⟩
      walk_at "go"
      refine ⟨z, zs, d, rfl, hz, ok.ne, ?_⟩
      walk_at "go"
      refine iteK (fun h => ?_) (fun h => ?_)
      · refine ⟨fun σ' H3 => σ' = [some (.ref z), some (.int m), some (.int (d - 1))] ∧ H3 = H'', ?_, ?_⟩
        · rintro σ' H3 ⟨rfl, rfl⟩
          have := hb d
          exact ⟨_, (by omega : (1440 * (d - 1) - m + 4000).toNat < _), d - 1, rfl, rfl, by rw [show d - 1 + 1 = d by omega]; exact h, rfl⟩
        · walk_at "go"
          exact ⟨rfl, rfl⟩
      · walk_at "go"
        refine ⟨z, zs, d, rfl, hz, ok.ne, ?_⟩
        walk_at "go"
        exact nwT (ys := [.int d, .int (m - Zn.beg zs d)]) rfl (by show 2 ≤ 1000000; decide) fun r H3 _ s3 hr => q d r H3 ⟨by omega, hd⟩ s3 hr
def sp_law_offset (K : PySem.W.Frag) : Sp := fun vs H Q _ => ∃ (z : Addr) (zs : Zn.Z) (d : Int), vs = [.ref z, .int d] ∧ Dp K H (.ref z) (zD zs) ∧ zs ≠ [] ∧ Q (.int (Zn.off zs d)) H
theorem ok_law_offset (T : Txt K mg a) : FnOk P w K mg base CX0 1 a.f_law_offset a.d_law_offset ["zone", "day"] (sp_law_offset K) := by
  refine T.F_law_offset.ok sc_law_offset (fun vs H Q E h => ?_) (fun cdv A outer s H vs Q E hr h => ?_)
  · obtain ⟨z, zs, d, rfl, _⟩ := h
    rfl
  · obtain ⟨z, zs, d, rfl, hz, hne, q⟩ := h
    refine ⟨_, (pss_cons (ps_set (i := 2) sc_law_offset.nd rfl (.inl rfl) (pe_ix ix_tup (pe_ix ix_tup (pv 0) pe_int (fun _ _ => rfl)) pe_int (fun _ _ => rfl)))
       (pss_cons (ps_for PassesOwn.never rfl (pi_tup (pv 0)) (pg_tup (by rfl) (pgs_cons (pg_name (i := 3) sc_law_offset.nd rfl (.inl rfl)) (pgs_cons (pg_name (i := 4) sc_law_offset.nd rfl (.inl rfl)) pgs_nil)))
       (pss_one (ps_if (pt_cmpR op_le (pv 3) (pv 1) (nomark _))
       (pss_one (ps_set (i := 2) sc_law_offset.nd rfl (.inl rfl) (pv 4)))
       pss_nil)))
       (pss_one (ps_ret (pv 2))))), ?_⟩
    refine red (σ' := [some (.ref z), some (.int d), none, none, none]) rfl ?_
    try dsimp only [cxOf]
    obtain ⟨xs, hzt, hlen, hat⟩ := z_inv hz
    obtain ⟨e0, r0, rfl⟩ : ∃ e0 r0, zs = e0 :: r0 := by
      cases zs with
      | nil => exact absurd rfl hne
      | cons x r => exact ⟨x, r, rfl⟩
    obtain ⟨a0, h0, h00⟩ := hat 0 e0 rfl
    have a00 : atI xs (0 : Int) = some (.ref a0) := atI_nat (j := 0) h0
    walk_at "go"
    refine g_ixT hzt a00 ?_
    walk_at "go"
    refine ⟨z, rfl, ⟨_, hzt⟩, ?_⟩
    refine for_tup (K := K) (a := z) (xs := xs) (fun i σ' H' => ∃ (y3 y4 : Option V), σ' = [some (.ref z), some (.int d), some (.int (((e0 :: r0).take i).foldl (Zn.offStep d) e0.2)), y3, y4] ∧ H' = H) ⟨_, _, rfl, rfl⟩ (fun i σ' H' _ h => ?_) ?_ ?_
    · obtain ⟨_, _, _, rfl⟩ := h
      exact hzt
    · rintro i x σ' H2 hi ⟨y3, y4, rfl, rfl⟩
      have hil : i < (e0 :: r0).length := by rw [← hlen]; exact (List.getElem?_eq_some_iff.mp hi).1
      have he : (e0 :: r0)[i]? = some (e0 :: r0)[i] := List.getElem?_eq_getElem hil
      generalize (e0 :: r0)[i] = e at he
      obtain ⟨ea, h1, h2⟩ := hat i e he
      rw [hi] at h1
      cases h1
      rw [take_more he, List.foldl_append]
      show gTup _ _ _ _ _ _ _
      refine g_gtup ⟨ea, _, rfl, h2, rfl, ?_⟩
      walk_at "go"
      refine iteK (fun h => ?_) (fun h => ?_)
      · walk_at "go"
        refine ⟨some (.int e.1), some (.int e.2), ?_, rfl⟩
        show _ = [_, _, some (V.int (if e.1 ≤ d then e.2 else _)), _, _]
        rw [if_pos h]; rfl
      · walk_at "go"
        refine ⟨some (.int e.1), some (.int e.2), ?_, rfl⟩
        show _ = [_, _, some (V.int (if e.1 ≤ d then e.2 else _)), _, _]
        rw [if_neg h]; rfl
    · rintro σ' H2 ⟨y3, y4, rfl, rfl⟩
      rw [hlen, List.take_length]
      walk_at "go"
      exact q
def sp_law_begin (K : PySem.W.Frag) : Sp := fun vs H Q _ => ∃ (z : Addr) (zs : Zn.Z) (d : Int), vs = [.ref z, .int d] ∧ Dp K H (.ref z) (zD zs) ∧ zs ≠ [] ∧ Q (.int (Zn.beg zs d)) H
theorem ok_law_begin (T : Txt K mg a) : FnOk P w K mg base CX0 2 a.f_law_begin a.d_law_begin ["zone", "day"] (sp_law_begin K) := by
  refine T.F_law_begin.ok sc_law_begin (fun vs H Q E h => ?_) (fun cdv A outer s H vs Q E hr h => ?_)
  · obtain ⟨z, zs, d, rfl, _⟩ := h
    rfl
  · obtain ⟨z, zs, d, rfl, hz, hne, q⟩ := h
    refine ⟨_, (pss_one (ps_ret (pe_op op_sub (pe_op op_mul pe_int (pv 1)) (pe_call (ok_law_offset T) (hr.mono (by decide)) (by rfl) T.g_law_offset T.F_law_offset.kp T.b_law_offset .nil pass0 (pa_cons (pv 0) (pa_cons (pv 1) pa_nil)))))), ?_⟩
    refine red (σ' := [some (.ref z), some (.int d)]) rfl ?_
    try dsimp only [cxOf]
    walk_at "go"
    refine ⟨z, zs, d, rfl, hz, hne, ?_⟩
    walk_at "go"
    exact q
end
section
variable {P : Program} {w : World} {K : PySem.W.Frag} {mg : Str → Option Value} {base : Heap} {a : Adr}
/-! ### pages of months -/
abbrev sv (ws : List (List Nat)) : List V := ws.map fun z => V.str (S z)
theorem sv_app (ws vs : List Wd.W) : sv ws ++ sv vs = sv (ws ++ vs) := List.map_append.symm
theorem sum_le {m : Nat} : ∀ ws : List (List Nat), (∀ z ∈ ws, z.length ≤ m) → (((ws.map S).map (·.length)).sum : Nat) ≤ m * ws.length
  | [], _ => by simp
  | p :: r, h => by
    have h1 := h p List.mem_cons_self
    have ih := sum_le r fun z hz => h z (List.mem_cons_of_mem _ hz)
    rw [List.map_cons, List.map_cons, List.sum_cons, S_len, List.length_cons, Nat.mul_succ]
    omega
theorem join1 {ws : List Wd.W} {p : Addr} {H : Hp} (hp : H p = some (.lst (sv ws))) : SqL K H p ((ws.map S).map V.str) ∨ SqT K H p ((ws.map S).map V.str) := .inl (by rw [List.map_map]; exact SqL.of hp)
theorem join2 {ws : List Wd.W} {m : Nat} {sep : List Nat} (h : ∀ z ∈ ws, z.length ≤ m) (hs : sep.length ≤ 2) (hm : (m + 2) * ws.length ≤ 1000000) : ((ws.map S).map (·.length)).sum + (ws.map S).length * (S sep).length ≤ 16777216 := by
  have := sum_le ws h
  rw [List.length_map, S_len]
  have h2 := Nat.mul_le_mul_left ws.length hs
  rw [Nat.add_mul] at hm
  omega
def sp_weekday_of : Sp := fun vs H Q _ => ∃ d : Int, vs = [.int d] ∧ Q (.int (d % 7)) H
theorem ok_weekday_of (T : Txt K mg a) : FnOk P w K mg base CX0 1 a.f_weekday_of a.d_weekday_of ["day"] sp_weekday_of := by
  refine T.F_weekday_of.ok sc_weekday_of (fun vs H Q E h => ?_) (fun cdv A outer s H vs Q E hr h => ?_)
  · obtain ⟨d, rfl, _⟩ := h
    rfl
  · obtain ⟨d, rfl, q⟩ := h
    refine ⟨_, (pss_one (ps_ret (pe_op op_modE (pv 0) pe_int))), ?_⟩
    refine red (σ' := [some (.int d)]) rfl ?_
    try dsimp only [cxOf]
    walk_at "go"
    exact q
theorem at_mod {es : List Wd.W} {m : Int} (hn : es.length = 12) : atI (es.map fun z => V.str (S z)) (m % 12) = some (.str (S (es.getD (m % 12).toNat []))) := by
  obtain ⟨j, hj⟩ := Int.eq_ofNat_of_zero_le (show 0 ≤ m % 12 by omega)
  have hl : j < es.length := by omega
  rw [hj, Int.toNat_natCast]
  refine atI_nat ?_
  rw [List.getElem?_map, List.getElem?_eq_getElem hl, List.getD_eq_getElem?_getD, List.getElem?_eq_getElem hl]; rfl
theorem mo_len (j : Nat) : (Wd.MO.getD j []).length ≤ 3 := by
  rcases Nat.lt_or_ge j 12 with h | h
  · have : ∀ j < 12, (Wd.MO.getD j []).length ≤ 3 := by decide
    exact this j h
  · rw [List.getD_eq_getElem?_getD, List.getElem?_eq_none (by show 12 ≤ j; omega)]; decide
theorem title_len {m : Int} (h0 : 0 ≤ m) (h : m < 100000) : (Pg.title m).length ≤ 20 := by
  unfold Pg.title
  have h1 := mo_len (m % 12).toNat
  have h2 := TL.numL_len (k := 5) (by decide) (n := (m / 12 + 1).toNat) (by omega)
  rw [List.length_append, List.length_cons]
  omega
def sp_month_title : Sp := fun vs H Q _ => ∃ m : Int, vs = [.int m] ∧ 0 ≤ m ∧ m < 100000 ∧ Q (.str (S (Pg.title m))) H
theorem ok_month_title (T : Txt K mg a) : FnOk P w K mg base CX0 1 a.f_month_title a.d_month_title ["m"] sp_month_title := by
  refine T.F_month_title.ok sc_month_title (fun vs H Q E h => ?_) (fun cdv A outer s H vs Q E hr h => ?_)
  · obtain ⟨d, rfl, _⟩ := h
    rfl
  · obtain ⟨m, rfl, h0, h1, q⟩ := h
    refine ⟨_, (pss_one (ps_ret (pe_op op_add_str (pe_op op_add_str (pe_ix ix_tup (pe_glob (v := .ref a.A_MONTHS) (by rfl) T.g_MONTHS rfl) (pe_op op_modE (pv 0) pe_int) (fun _ _ => rfl)) pe_str) (pe_callTy call_str_int (by rfl) T.z_str (by decide +kernel) (pa_cons (pe_op op_add (pe_op op_fdivE (pv 0) pe_int) pe_int) pa_nil))))), ?_⟩
    refine red (σ' := [some (.int m)]) rfl ?_
    try dsimp only [cxOf]
    have hl := mo_len (m % 12).toNat
    walk_at "go"
    refine g_ixT (T.h_MONTHS H) (at_mod rfl) ?_
    walk_at "go"
    refine g_catS (b := [32]) (by show _ + 1 ≤ _; omega) ?_
    rw [S_cat]
    walk_at "go"
    have e1 : m / 12 + 1 = (((m / 12 + 1).toNat : Nat) : Int) := by omega
    rw [e1]
    refine g_strI (by omega) ?_
    rw [num_S]
    have h2 := TL.numL_len (k := 5) (by decide) (n := (m / 12 + 1).toNat) (by omega)
    refine g_catS (by rw [List.length_append]; show _ + 1 + _ ≤ _; omega) ?_
    rw [S_cat, List.append_assoc]
    exact q
def sp_cell (K : PySem.W.Frag) : Sp := fun vs H Q _ => ∃ (d : Nat) (p : Addr) (ps : List Per.Piece), vs = [.int d, .ref p] ∧ Dp K H (.ref p) (patD ps) ∧ (∀ p ∈ ps, PcOk p) ∧ ps.length ≤ 1000 ∧ (∃ p, ps[0]? = some p ∧ p.1 ≤ d) ∧
  ∀ mo H', Same H H' → Civ.IsM d mo → Q (.str (S (Pg.cellT ((d : Int) - Civ.fd mo + 1).toNat (Per.inP ps d)))) H'
theorem ok_cell (T : Txt K mg a) : FnOk P w K mg base CX0 5 a.f_cell a.d_cell ["day", "pattern"] (sp_cell K) := by
  refine T.F_cell.ok sc_cell (fun vs H Q E h => ?_) (fun cdv A outer s H vs Q E hr h => ?_)
  · obtain ⟨d, p, ps, rfl, _⟩ := h
    rfl
  · obtain ⟨d, p, ps, rfl, hp, ho, hn, h0, q⟩ := h
    refine ⟨_, (C8.pss_cut (ps_set (i := 2) sc_cell.nd rfl (.inl rfl) (pe_ifExp (pt_val (pe_call (ok_belongs T) (hr.mono (by decide)) (by rfl) T.g_belongs T.F_belongs.kp T.b_belongs .nil pass0 (pa_cons (pv 1) (pa_cons (pv 0) pa_nil)))) pe_str pe_str))
       (pss_cons (ps_set (i := 3) sc_cell.nd rfl (.inl rfl) (pe_callTy call_str_int (by rfl) T.z_str (by decide +kernel) (pa_cons (pe_ix ix_tup (pe_call (ok_date_of T) (hr.mono (by decide)) (by rfl) T.g_date_of T.F_date_of.kp T.b_date_of .nil pass0 (pa_cons (pv 0) pa_nil)) pe_int (fun _ _ => rfl)) pa_nil)))
       (pss_one (ps_ret (pe_op op_add_str (pe_op op_add_str (pe_op op_mul_str pe_str (pe_op op_sub pe_int (pe_callB call_len_str (by rfl) T.z_len (by decide +kernel) (pa_cons (pv 3) pa_nil)))) (pv 3)) (pv 2)))))), ?_⟩
    refine red (σ' := [some (.int d), some (.ref p), none, none]) rfl ?_
    try dsimp only [cxOf]
    refine ⟨fun σ' H' => σ' = [some (.int d), some (.ref p), some (.str (S [if Per.inP ps d = true then 42 else 32])), none] ∧ H' = H, ?_, ?_⟩
    · walk_at "go"
      refine ⟨p, ps, d, rfl, hp, ho, hn, h0, ?_⟩
      walk_at "go"
      cases Per.inP ps d with
      | true =>
        refine iteT ?_
        walk_at "go"
        exact ⟨rfl, rfl⟩
      | false =>
        refine iteF ?_
        walk_at "go"
        exact ⟨rfl, rfl⟩
    rintro σ' H1 ⟨rfl, rfl⟩
    generalize Per.inP ps d = b at q
    walk_at "go"
    refine ⟨d, rfl, fun mo r H2 s2 hm hr => ?_⟩
    walk_at "go"
    have hq := q mo H2 s2 hm
    have hb := Dg.day_date hm
    obtain ⟨k, hk⟩ := Int.eq_ofNat_of_zero_le (show 0 ≤ (d : Int) - Civ.fd mo + 1 by omega)
    rw [hk] at hq hb ⊢
    rw [Int.toNat_natCast] at hq
    have hl := TL.numL_len (k := 2) (by decide) (n := k) (by omega)
    refine g_strI (by omega) ?_
    rw [num_S]
    walk_at "go"
    refine g_lenS (by omega) ?_
    rw [S_len]
    walk_at "go"
    refine g_mulS (z := [32]) ⟨by omega, by omega, by decide⟩ ?_
    walk_at "go"
    have e1 : (List.replicate ((2 : Int) - ((TL.numL k).length : Nat)).toNat [32]).flatten = List.replicate (2 - (TL.numL k).length) 32 := by
      rw [show ((2 : Int) - ((TL.numL k).length : Nat)).toNat = 2 - (TL.numL k).length by omega]
      generalize 2 - (TL.numL k).length = n
      induction n with
      | zero => rfl
      | succ n ih => rw [List.replicate_succ, List.flatten_cons, ih, List.replicate_succ]; rfl
    rw [e1]
    refine g_catS (by rw [List.length_replicate]; omega) ?_
    rw [S_cat]
    walk_at "go"
    refine g_catS (by rw [List.length_append, List.length_replicate, List.length_singleton]; omega) ?_
    rw [S_cat]
    exact hq
def sp_month_page (K : PySem.W.Frag) : Sp := fun vs H Q _ => ∃ (m : Int) (p : Addr) (ps : List Per.Piece), vs = [.int m, .ref p] ∧ 0 ≤ m ∧ m < 100000 ∧ Dp K H (.ref p) (patD ps) ∧ (∀ p ∈ ps, PcOk p) ∧ ps.length ≤ 1000 ∧ (∃ p, ps[0]? = some p ∧ p.1 = 0) ∧
  ∀ H', Same H H' → Q (.str (S (TL.joinL [10] (Pg.title m :: Pg.HEAD :: Pg.fin (Pg.wks (fun k => Pg.cellT (k + 1) (Per.inP ps ((Civ.fd m).toNat + k))) (Pg.blanks (Civ.fd m)) (Civ.len m).toNat))))) H'
theorem ok_month_page (T : Txt K mg a) : FnOk P w K mg base CX0 6 a.f_month_page a.d_month_page ["m", "pattern"] (sp_month_page K) := by
  refine T.F_month_page.ok sc_month_page (fun vs H Q E h => ?_) (fun cdv A outer s H vs Q E hr h => ?_)
  · obtain ⟨m, p, ps, rfl, _⟩ := h
    rfl
  · obtain ⟨m, p, ps, rfl, h0, h1, hp, ho, hn, hps, q⟩ := h
    refine ⟨_, (pss_cons (ps_set (i := 2) sc_month_page.nd rfl (.inl rfl) (pe_lst (pa_cons (pe_call (ok_month_title T) (hr.mono (by decide)) (by rfl) T.g_month_title T.F_month_title.kp T.b_month_title .nil pass0 (pa_cons (pv 0) pa_nil)) (pa_cons (pe_m0 PySem.F.slot_str_rstrip PySem.F.type_str_rstrip mt_rstrip (pe_join pe_str (pe_lc (own := [("name", 6)]) (g := (gName 6)) rfl sc_month_page.nd (pi_tup (pe_glob (v := .ref a.A_WEEKDAYS) (by rfl) T.g_WEEKDAYS rfl)) (blkOk_by (own := [("name", 6)]) (N := ["m", "pattern", "lines", "first", "cells", "day", "name", "k"]) (sc := defScope s_month_page) (by decide +kernel)) (fun _ _ _ _ _ => (pg_name (i := 6) sc_month_page.nd rfl (.inl rfl))) (fun _ _ _ _ _ => pts_nil) (fun _ _ _ _ _ => (pe_op op_add_str (pe_slice sl_str (pv 6) po_none (po_some pe_int)) pe_str))))) pa_nil))))
       (pss_cons (ps_set (i := 3) sc_month_page.nd rfl (.inl rfl) (pe_call (ok_first_day T) (hr.mono (by decide)) (by rfl) T.g_first_day T.F_first_day.kp T.b_first_day .nil pass0 (pa_cons (pv 0) pa_nil)))
       (pss_cons (ps_setLc (i := 4) (own := [("k", 7)]) (g := (gName 7)) rfl sc_month_page.nd rfl rfl (sw_true rfl rfl rfl (by decide +kernel)) (pi_range1 (by rfl) T.z_range (pa_cons (pe_call (ok_weekday_of T) (hr.mono (by decide)) (by rfl) T.g_weekday_of T.F_weekday_of.kp T.b_weekday_of .nil pass0 (pa_cons (pv 3) pa_nil)) pa_nil)) (blkOk_by (own := [("k", 7)]) (N := ["m", "pattern", "lines", "first", "cells", "day", "name", "k"]) (sc := defScope s_month_page) (by decide +kernel)) (fun _ _ _ _ _ => (pg_name (i := 7) sc_month_page.nd rfl (.inl rfl))) (fun _ _ _ _ _ => pts_nil) (fun _ _ _ _ _ => pe_str))
       (pss_cons (ps_for PassesOwn.never rfl (pi_range2 (by rfl) T.z_range (pa_cons (pv 3) (pa_cons (pe_op op_add (pv 3) (pe_call (ok_month_length T) (hr.mono (by decide)) (by rfl) T.g_month_length T.F_month_length.kp T.b_month_length .nil pass0 (pa_cons (pv 0) pa_nil))) pa_nil))) (pg_name (i := 5) sc_month_page.nd rfl (.inl rfl))
       (pss_cons (ps_expr (pe_bm PySem.F.plainAttrs_list PySem.F.slot_list_append PySem.F.type_list_append mt_append (pv 4) (pa_cons (pe_call (ok_cell T) (hr.mono (by decide)) (by rfl) T.g_cell T.F_cell.kp T.b_cell .nil pass0 (pa_cons (pv 5) (pa_cons (pv 1) pa_nil))) pa_nil)))
       (pss_one (ps_if (pt_cmpR op_eq (pe_callB call_len_seq (by rfl) T.z_len (by decide +kernel) (pa_cons (pv 4) pa_nil)) pe_int (nomark _))
       (pss_cons (ps_expr (pe_bm PySem.F.plainAttrs_list PySem.F.slot_list_append PySem.F.type_list_append mt_append (pv 2) (pa_cons (pe_m0 PySem.F.slot_str_rstrip PySem.F.type_str_rstrip mt_rstrip (pe_join pe_str (pv 4))) pa_nil)))
       (pss_one (ps_set (i := 4) sc_month_page.nd rfl (.inl rfl) (pe_lst pa_nil))))
       pss_nil))))
       (C8.pss_cut (ps_if (pt_cmpR op_gt (pe_callB call_len_seq (by rfl) T.z_len (by decide +kernel) (pa_cons (pv 4) pa_nil)) pe_int (nomark _))
       (pss_one (ps_expr (pe_bm PySem.F.plainAttrs_list PySem.F.slot_list_append PySem.F.type_list_append mt_append (pv 2) (pa_cons (pe_m0 PySem.F.slot_str_rstrip PySem.F.type_str_rstrip mt_rstrip (pe_join pe_str (pv 4))) pa_nil))))
       pss_nil)
       (pss_one (ps_ret (pe_join pe_str (pv 2))))))))), ?_⟩
    refine red (σ' := [some (.int m), some (.ref p), none, none, none, none, none, none]) rfl ?_
    try dsimp only [cxOf]
    walk_at "go"
    refine ⟨m, rfl, h0, h1, ?_⟩
    walk_at "go"
    refine ⟨⟨_, rfl⟩, ?_⟩
    walk_at "go"
    refine ⟨_, rfl, ⟨_, T.h_WEEKDAYS H⟩, fun D hD => ?_⟩
    refine lc_tup (K := K) (a := a.A_WEEKDAYS) (xs := Wd.WD.map fun z => V.str (S z)) (fun i H' => Same H H' ∧ H' D = some (.lst (sv ((Wd.WD.take i).map fun z => z.take 2 ++ [32])))) ⟨same_new hD, upd_same⟩ (fun i H' _ _ => T.h_WEEKDAYS H') ?_ ?_
    · rintro i x H1 hi ⟨s1, hD1⟩
      obtain ⟨z, hz, rfl⟩ : ∃ z, Wd.WD[i]? = some z ∧ x = .str (S z) := by
        rw [List.getElem?_map] at hi
        cases e : Wd.WD[i]? with
        | none => rw [e] at hi; cases hi
        | some r => rw [e] at hi; exact ⟨r, rfl, (Option.some.inj hi).symm⟩
      have hz3 : z.length = 3 := by
        have : ∀ z ∈ Wd.WD, z.length = 3 := by decide
        exact this z (List.mem_of_getElem? hz)
      have hi7 : i < 7 := (List.getElem?_eq_some_iff.mp hz).1
      walk_at "go"
      refine ⟨rfl, ?_⟩
      refine g_yes (iteT ?_)
      walk_at "go"
      refine g_slS (by omega) ?_
      rw [show cutL z none (some (2 : Int)) = z.take 2 from cutL_to (n := 2) (by omega)]
      walk_at "go"
      refine g_catS (b := [32]) (by rw [List.length_take]; show _ + 1 ≤ _; omega) ?_
      rw [S_cat]
      refine ⟨_, hD1, ?_, same_put hD s1, ?_⟩
      · have := sizeBig
        rw [List.length_map, List.length_map, List.length_take]
        show min i 7 < _
        omega
      · rw [upd_same, take_more hz, List.map_append]
        exact congrArg (fun z => some (HO.lst z)) (sv_app _ [z.take 2 ++ [32]])
    rintro H1 ⟨s1, hD1⟩
    rw [List.length_map, List.take_length] at hD1
    refine ⟨S [32], D, (Wd.WD.map fun z => z.take 2 ++ [32]).map S, rfl, rfl, join1 hD1, join2 (m := 3) (by decide) (by decide) (by decide), ?_⟩
    rw [join_S]
    refine ⟨⟨_, rfl⟩, ?_⟩
    refine ⟨_, rfl, rfl, by rw [S_len]; have := sizeBig; have e : (TL.joinL [32] (Wd.WD.map fun z => z.take 2 ++ [32])).length = 27 := by decide +kernel
                            rw [e]; omega, ?_⟩
    rw [rstrip_S (fun c hc => space_of (Pg.txt_plain (cs := Wd.WD.map fun z => z.take 2 ++ [32]) (by
      have hall : ∀ c ∈ (Wd.WD.map fun z => z.take 2 ++ [32]), ∀ x ∈ c, x = 32 ∨ (33 ≤ x ∧ x < 128) := by decide
      exact hall) c hc))]
    have ehd : Pg.rs (TL.joinL [32] (Wd.WD.map fun z => z.take 2 ++ [32])) = Pg.HEAD := Pg.head_rs
    rw [ehd]
    walk_at "go"
    refine nwL (ys := sv [Pg.title m, Pg.HEAD]) rfl (by show 2 ≤ 1000000; decide) fun Lr H2 hLr0 s2 hLr => ?_
    have hLrH : H Lr = none := (s1.free hLr0)
    replace s1 := s1.trans s2
    clear s2 hD1 hD
    walk_at "go"
    refine ⟨m, rfl, ?_⟩
    have hf0 : 0 ≤ Civ.fd m := by have := Civ.fd_le h0; rw [Dg.fd_zero] at this; exact this
    have hf1 : Civ.fd m < 4000000 := by
      have := Civ.fd_le (show m ≤ 100000 by omega)
      have h2 : Civ.fd 100000 < 4000000 := by decide +kernel
      omega
    have hlen := Civ.len_le m
    walk_at "go"
    refine ⟨_, rfl, ?_⟩
    walk_at "go"
    refine ⟨_, rfl, by omega, by omega, fun C hC => ?_⟩
    refine lc_range (fun i H' => Same H2 H' ∧ H' C = some (.lst (sv (List.replicate i [32, 32, 32])))) ⟨same_new hC, upd_same⟩ ?_ ?_
    · rintro i H3 hi ⟨s3, hC3⟩
      walk_at "go"
      refine ⟨rfl, ?_⟩
      refine g_yes (iteT ?_)
      walk_at "go"
      refine ⟨_, hC3, ?_, same_put hC s3, ?_⟩
      · have := sizeBig
        rw [List.length_map, List.length_replicate]
        omega
      · rw [upd_same, List.replicate_succ']
        exact congrArg (fun z => some (HO.lst z)) (sv_app _ [[32, 32, 32]])
    rintro H3 ⟨s3, hC3⟩
    have hCL : C ≠ Lr := (ne_of_none hLr hC).symm
    have hCH : H C = none := s1.free hC
    replace hLr := s3 _ _ hLr
    replace s1 := s1.trans s3
    clear s3 hC
    walk_at "go"
    refine ⟨m, rfl, ?_⟩
    walk_at "go"
    obtain ⟨f, hf⟩ := Int.eq_ofNat_of_zero_le hf0
    obtain ⟨n, hln⟩ := Int.eq_ofNat_of_zero_le (show 0 ≤ Civ.len m by omega)
    have hisM : ∀ i : Nat, i < n → Civ.IsM ((f + i : Nat) : Int) m := fun i hi => by
      unfold Civ.IsM
      rw [Civ.fd_succ]
      omega
    have hcell : ∀ k, k < 40 → Pg.Plain (Pg.cellT (k + 1) (Per.inP ps (f + k))) ∧ (Pg.cellT (k + 1) (Per.inP ps (f + k))).length = 3 := fun k hk => ⟨Pg.cellT_plain _ _, Pg.cellT_len _ (by omega)⟩
    have hW := fun i hi => Pg.wks_ok (cell := fun k => Pg.cellT (k + 1) (Per.inP ps (f + k))) hcell (f : Int) i hi
    rw [hf, hln, Int.toNat_natCast, Int.toNat_natCast] at q
    rw [hf] at hC3 ⊢
    rw [hln]
    refine ⟨_, _, rfl, by omega, ?_⟩
    rw [show (((f : Nat) : Int) + (n : Nat) - (f : Nat)).toNat = n by omega]
    have hs0 : Pg.wks (fun k => Pg.cellT (k + 1) (Per.inP ps (f + k))) (Pg.blanks (f : Int)) 0 = ([], Pg.blanks (f : Int)) := rfl
    have hsucc := fun i => Pg.wks_succ (fun k => Pg.cellT (k + 1) (Per.inP ps (f + k))) (Pg.blanks (f : Int)) i
    generalize Pg.wks (fun k => Pg.cellT (k + 1) (Per.inP ps (f + k))) (Pg.blanks (f : Int)) = s_ at hW hs0 hsucc q
    have rsp : ∀ {cs : List Wd.W}, (∀ c ∈ cs, Pg.Plain c) → Txt.rstrip (S (Wd.txt cs)) = S (Pg.rs (Wd.txt cs)) := fun h => rstrip_S fun c hc => space_of (Pg.txt_plain h c hc)
    refine for_range (lo := (f : Int)) (n := n) (fun i σ' H' => ∃ (C : Addr) (y5 : Option V), σ' = [some (.int m), some (.ref p), some (.ref Lr), some (.int f), some (.ref C), y5, none, none] ∧ Same H H' ∧ H' Lr = some (.lst (sv ([Pg.title m, Pg.HEAD] ++ (s_ i).1))) ∧ H' C = some (.lst (sv (s_ i).2)) ∧ C ≠ Lr ∧ H C = none)
      ⟨C, _, rfl, s1, by rw [hs0]; exact hLr, by rw [hs0]; exact hC3, hCL, hCH⟩ ?_ ?_
    · clear hCL hCH hC3 hLr s1
      rintro i σ' H4 hi ⟨C, y5, rfl, s4, hL4, hC4, hCL, hCH⟩
      have I := hW i (by omega)
      walk_at "go"
      refine ⟨.inl ⟨rfl, _, SqL.of hC4⟩, ?_⟩
      walk_at "go"
      rw [show ((f : Nat) : Int) + (i : Nat) = ((f + i : Nat) : Int) by omega]
      refine ⟨f + i, p, ps, rfl, dp_same s4 _ hp, ho, hn, ?_, fun mo H5 s5 hmo => ?_⟩
      · obtain ⟨x, hx, hx0⟩ := hps
        exact ⟨x, hx, by omega⟩
      have emo := Civ.IsM.uniq hmo (hisM i hi)
      subst emo
      rw [hf, show ((((f + i : Nat) : Int) - (f : Nat)) + 1).toNat = i + 1 by omega]
      replace hL4 := s5 _ _ hL4
      replace hC4 := s5 _ _ hC4
      replace s4 := s4.trans s5
      obtain ⟨hp1, hp2⟩ := hcell i (by omega)
      have hnx : s_ (i + 1) = (if ((s_ i).2 ++ [Pg.cellT (i + 1) (Per.inP ps (f + i))]).length = 7 then ((s_ i).1 ++ [Pg.rs (Wd.txt ((s_ i).2 ++ [Pg.cellT (i + 1) (Per.inP ps (f + i))]))], []) else ((s_ i).1, (s_ i).2 ++ [Pg.cellT (i + 1) (Per.inP ps (f + i))])) := hsucc i
      have hcs : ∀ c ∈ (s_ i).2 ++ [Pg.cellT (i + 1) (Per.inP ps (f + i))], Pg.Plain c ∧ c.length = 3 := fun c hc => by
        rcases List.mem_append.mp hc with hc | hc
        · exact I.cells c hc
        · rw [List.mem_singleton.mp hc]; exact ⟨hp1, hp2⟩
      generalize Pg.cellT (i + 1) (Per.inP ps (f + i)) = cl at hp1 hp2 hnx hcs
      have hfew := I.few
      refine ⟨C, _, _, rfl, rfl, hC4, by rw [List.length_map]; have := sizeBig; omega, ?_⟩
      have eC : HO.lst (sv (s_ i).2 ++ [V.str (S cl)]) = .lst (sv ((s_ i).2 ++ [cl])) := congrArg HO.lst (sv_app _ [cl])
      rw [eC]
      have hC5 : upd H5 C (.lst (sv ((s_ i).2 ++ [cl]))) C = some (.lst (sv ((s_ i).2 ++ [cl]))) := upd_same
      have hL5 : upd H5 C (.lst (sv ((s_ i).2 ++ [cl]))) Lr = some (.lst (sv ([Pg.title mo, Pg.HEAD] ++ (s_ i).1))) := (upd_ne hCL.symm).trans hL4
      have s6 : Same H (upd H5 C (.lst (sv ((s_ i).2 ++ [cl])))) := same_put hCH s4
      generalize upd H5 C (.lst (sv ((s_ i).2 ++ [cl]))) = H6 at hC5 hL5 s6
      clear s5 hL4 hC4 s4
      dsimp only
      generalize (s_ i).2 ++ [cl] = cs at hC5 hcs hnx
      walk_at "go"
      rw [List.length_map, dec_int]
      refine iteK (fun h7 => ?_) (fun h7 => ?_)
      · rw [if_pos (by omega)] at hnx
        rw [hnx]
        have h7 : cs.length = 7 := by omega
        walk_at "go"
        refine ⟨.inl ⟨rfl, _, SqL.of hL5⟩, ?_⟩
        walk_at "go"
        refine ⟨⟨_, rfl⟩, ?_⟩
        walk_at "go"
        refine ⟨S [32], C, cs.map S, rfl, rfl, join1 hC5, join2 (m := 3) (fun z hz => Nat.le_of_eq (hcs z hz).2) (by decide) (by omega), ?_⟩
        rw [join_S]
        have hl28 := Pg.txt_len3 fun c hc => (hcs c hc).2
        refine ⟨⟨_, rfl⟩, ?_⟩
        refine ⟨_, rfl, rfl, by rw [S_len]; have := sizeBig; show (Wd.txt cs).length ≤ _; omega, ?_⟩
        rw [show Txt.rstrip (S (TL.joinL [32] cs)) = S (Pg.rs (Wd.txt cs)) from rsp fun c hc => (hcs c hc).1]
        walk_at "go"
        have hll := I.lines
        refine ⟨Lr, _, _, rfl, rfl, hL5, by rw [List.length_map, List.length_append]; show 2 + _ < _; have := sizeBig; omega, ?_⟩
        have eL : HO.lst (sv ([Pg.title mo, Pg.HEAD] ++ (s_ i).1) ++ [V.str (S (Pg.rs (Wd.txt cs)))]) = .lst (sv ([Pg.title mo, Pg.HEAD] ++ ((s_ i).1 ++ [Pg.rs (Wd.txt cs)]))) := by
          rw [← List.append_assoc]
          exact congrArg HO.lst (sv_app _ [Pg.rs (Wd.txt cs)])
        rw [eL]
        have s7 : Same H (upd H6 Lr (.lst (sv ([Pg.title mo, Pg.HEAD] ++ ((s_ i).1 ++ [Pg.rs (Wd.txt cs)]))))) := same_put hLrH s6
        have hL7 : upd H6 Lr (.lst (sv ([Pg.title mo, Pg.HEAD] ++ ((s_ i).1 ++ [Pg.rs (Wd.txt cs)])))) Lr = some (.lst (sv ([Pg.title mo, Pg.HEAD] ++ ((s_ i).1 ++ [Pg.rs (Wd.txt cs)])))) := upd_same
        generalize upd H6 Lr (.lst (sv ([Pg.title mo, Pg.HEAD] ++ ((s_ i).1 ++ [Pg.rs (Wd.txt cs)])))) = H7 at s7 hL7
        dsimp only
        walk_at "go"
        refine nwL (ys := []) rfl (by decide) fun C2 H8 hC20 s8 hC2 => ?_
        walk_at "go"
        exact ⟨C2, _, rfl, s7.trans s8, s8 _ _ hL7, hC2, (ne_of_none hL7 hC20).symm, s7.free hC20⟩
      · rw [if_neg (by omega)] at hnx
        rw [hnx]
        walk_at "go"
        exact ⟨C, _, rfl, s6, hL5, hC5, hCL, hCH⟩
    · rintro σ' H4 ⟨C, y5, rfl, s4, hL4, hC4, hCL, hCH⟩
      have I := hW n (by omega)
      have hcs := I.cells
      have hll := I.lines
      have hlln := I.llen
      have hfew := I.few
      have htl := title_len h0 h1
      refine ⟨fun σ' H' => ∃ (y4 y5 : Option V), σ' = [some (.int m), some (.ref p), some (.ref Lr), some (.int f), y4, y5, none, none] ∧ Same H H' ∧ H' Lr = some (.lst (sv ([Pg.title m, Pg.HEAD] ++ Pg.fin (s_ n)))), ?_, ?_⟩
      · walk_at "go"
        rw [List.length_map]
        unfold Pg.fin
        generalize (s_ n).2 = cs at hC4 hcs hfew
        refine iteK (fun h => ?_) (fun h => ?_)
        · rw [if_neg (fun e => by rw [e] at h; exact absurd h (by decide))]
          walk_at "go"
          refine ⟨.inl ⟨rfl, _, SqL.of hL4⟩, ?_⟩
          walk_at "go"
          refine ⟨⟨_, rfl⟩, ?_⟩
          walk_at "go"
          refine ⟨S [32], C, cs.map S, rfl, rfl, join1 hC4, join2 (m := 3) (fun z hz => Nat.le_of_eq (hcs z hz).2) (by decide) (by omega), ?_⟩
          rw [join_S]
          have hl28 := Pg.txt_len3 fun c hc => (hcs c hc).2
          refine ⟨⟨_, rfl⟩, ?_⟩
          refine ⟨_, rfl, rfl, by rw [S_len]; have := sizeBig; show (Wd.txt cs).length ≤ _; omega, ?_⟩
          rw [show Txt.rstrip (S (TL.joinL [32] cs)) = S (Pg.rs (Wd.txt cs)) from rsp fun c hc => (hcs c hc).1]
          walk_at "go"
          refine ⟨Lr, _, _, rfl, rfl, hL4, by rw [List.length_map, List.length_append]; show 2 + _ < _; have := sizeBig; omega, ?_⟩
          have eL : HO.lst (sv ([Pg.title m, Pg.HEAD] ++ (s_ n).1) ++ [V.str (S (Pg.rs (Wd.txt cs)))]) = .lst (sv ([Pg.title m, Pg.HEAD] ++ ((s_ n).1 ++ [Pg.rs (Wd.txt cs)]))) := by
            rw [← List.append_assoc]
            exact congrArg HO.lst (sv_app _ [Pg.rs (Wd.txt cs)])
          rw [eL]
          exact ⟨_, _, rfl, same_put hLrH s4, upd_same⟩
        · have e : cs = [] := List.length_eq_zero_iff.mp (by omega)
          rw [if_pos e]
          walk_at "go"
          exact ⟨_, _, rfl, s4, hL4⟩
      rintro σ' H5 ⟨y4, y5, rfl, s5, hL5⟩
      walk_at "go"
      refine ⟨⟨_, rfl⟩, ?_⟩
      walk_at "go"
      refine ⟨S [10], Lr, ([Pg.title m, Pg.HEAD] ++ Pg.fin (s_ n)).map S, rfl, rfl, join1 hL5, join2 (m := 28) (fun z hz => ?_) (by decide) ?_, ?_⟩
      · rcases List.mem_append.mp hz with hz | hz
        · simp only [List.mem_cons, List.not_mem_nil, or_false] at hz
          rcases hz with rfl | rfl
          · omega
          · decide
        · unfold Pg.fin at hz
          split at hz
          · exact hlln z hz
          · rcases List.mem_append.mp hz with hz | hz
            · exact hlln z hz
            · rw [List.mem_singleton.mp hz]
              have h3 := Pg.txt_len3 fun c hc => (hcs c hc).2
              have h4 := Pg.rs_len (Wd.txt (s_ n).2)
              omega
      · have : (Pg.fin (s_ n)).length ≤ (s_ n).1.length + 1 := by
          unfold Pg.fin
          split
          · omega
          · rw [List.length_append, List.length_singleton]; exact Nat.le_refl _
        rw [List.length_append]
        show (28 + 2) * (2 + _) ≤ _
        omega
      rw [join_S]
      exact q _ s5
end
section
variable {P : Program} {w : World} {K : PySem.W.Frag} {mg : Str → Option Value} {base : Heap} {a : Adr}
/-! ### moments, rows, opening hours -/
theorem mt_of {zs : Zn.Z} {m d : Int} (ok : Zn.Ok zs) (h0 : 4320 ≤ m) (h1 : m < 4000000) (h : Zn.At zs m d) : 0 ≤ d ∧ d < 100000 ∧ 0 ≤ m - Zn.beg zs d ∧ m - Zn.beg zs d < 2140 := by
  have := ok.day h
  omega
theorem mw_eq {k : Int} (h0 : 0 ≤ k) (h1 : k < 6000) : (pd (k / 60).toNat 2 ++ [46]) ++ pd (k % 60).toNat 2 = Dg.mw k := by
  unfold Dg.mw
  rw [show pd (k / 60).toNat 2 = Dg.dg (k / 60).toNat 2 from Dg.pad (by decide) (by omega), show pd (k % 60).toNat 2 = Dg.dg (k % 60).toNat 2 from Dg.pad (by decide) (by omega), List.append_assoc]; rfl
def sp_moment_text (K : PySem.W.Frag) : Sp := fun vs H Q _ => ∃ (z : Addr) (zs : Zn.Z) (m : Int), vs = [.ref z, .int m] ∧ Dp K H (.ref z) (zD zs) ∧ Zn.Ok zs ∧ 4320 ≤ m ∧ m < 4000000 ∧ ∀ t H', Pg.MT zs m t → Same H H' → Q (.str (S t)) H'
theorem ok_moment_text (T : Txt K mg a) : FnOk P w K mg base CX0 6 a.f_moment_text a.d_moment_text ["zone", "moment"] (sp_moment_text K) := by
  refine T.F_moment_text.ok sc_moment_text (fun vs H Q E h => ?_) (fun cdv A outer s H vs Q E hr h => ?_)
  · obtain ⟨z, zs, m, rfl, _⟩ := h
    rfl
  · obtain ⟨z, zs, m, rfl, hz, ok, h0, h1, q⟩ := h
    refine ⟨_, (pss_cons (ps_asg (pe_call (ok_local_of T) (hr.mono (by decide)) (by rfl) T.g_local_of T.F_local_of.kp T.b_local_of .nil pass0 (pa_cons (pv 0) (pa_cons (pv 1) pa_nil))) (pg_tup (by rfl) (pgs_cons (pg_name (i := 2) sc_moment_text.nd rfl (.inl rfl)) (pgs_cons (pg_name (i := 3) sc_moment_text.nd rfl (.inl rfl)) pgs_nil))))
       (pss_one (ps_ret (pe_op op_add_str (pe_op op_add_str (pe_op op_add_str (pe_op op_add_str (pe_call (ok_day_text T) (hr.mono (by decide)) (by rfl) T.g_day_text T.F_day_text.kp T.b_day_text .nil passL (pa_cons (pv 2) pa_nil)) pe_str) (pe_call (ok_padded T) (hr.mono (by decide)) (by rfl) T.g_padded T.F_padded.kp T.b_padded .nil pass0 (pa_cons (pe_op op_fdivE (pv 3) pe_int) (pa_cons pe_int pa_nil)))) pe_str) (pe_call (ok_padded T) (hr.mono (by decide)) (by rfl) T.g_padded T.F_padded.kp T.b_padded .nil pass0 (pa_cons (pe_op op_modE (pv 3) pe_int) (pa_cons pe_int pa_nil))))))), ?_⟩
    refine red (σ' := [some (.ref z), some (.int m), none, none]) rfl ?_
    try dsimp only [cxOf]
    walk_at "go"
    refine ⟨z, zs, m, rfl, hz, ok, fun d r H1 hd s1 hr => ?_⟩
    refine g_gtup ⟨r, _, rfl, SqT.of hr, rfl, ?_⟩
    obtain ⟨d0, d1, k0, k1⟩ := mt_of ok h0 h1 hd
    have q' : ∀ mo H', Civ.IsM d mo → Same H H' → Q (.str (S (Pg.mtx d mo (m - Zn.beg zs d)))) H' := fun mo H' hm s => q _ H' ⟨d, mo, hd, hm, rfl⟩ s
    generalize m - Zn.beg zs d = k at k0 k1 q'
    walk_at "go"
    refine ⟨d, rfl, fun mo H2 s2 hm => ⟨fun hn => ?_, fun _ _ => ?_⟩⟩
    · have hmr := Dg.month_range hm d0 (by omega)
      exact absurd ⟨by omega, by omega⟩ hn
    have hl := Dg.dw_len d mo
    refine g_catS (b := [32]) (by show _ + 1 ≤ _; omega) ?_
    rw [S_cat]
    walk_at "go"
    refine ⟨_, _, rfl, by omega, by omega, by decide, by decide, ?_⟩
    have l1 : (pd (k / 60).toNat (Int.toNat 2)).length ≤ 100 := by
      rw [show pd (k / 60).toNat (Int.toNat 2) = Dg.dg (k / 60).toNat 2 from Dg.pad (by decide) (by show _ < 100; omega), Dg.dg_len]; decide
    have l2 : (pd (k % 60).toNat (Int.toNat 2)).length ≤ 100 := by
      rw [show pd (k % 60).toNat (Int.toNat 2) = Dg.dg (k % 60).toNat 2 from Dg.pad (by decide) (by show _ < 100; omega), Dg.dg_len]; decide
    refine g_catS (by rw [List.length_append]; show _ + 1 + _ ≤ _; omega) ?_
    rw [S_cat]
    walk_at "go"
    refine g_catS (b := [46]) (by rw [List.length_append, List.length_append]; show _ + 1 + _ + 1 ≤ _; omega) ?_
    rw [S_cat]
    walk_at "go"
    refine ⟨_, _, rfl, by omega, by omega, by decide, by decide, ?_⟩
    refine g_catS (by rw [List.length_append, List.length_append, List.length_append]; show _ + 1 + _ + 1 + _ ≤ _; omega) ?_
    rw [S_cat]
    have := q' mo H2 hm (s1.trans s2)
    unfold Pg.mtx at this
    rw [← mw_eq k0 (by omega)] at this
    simp only [List.append_assoc] at this ⊢
    exact this
def itD : Option (Wd.W × Wd.W × Wd.W) → PyData
  | none => .none
  | some (x, y, z) => .tuple [.str (S x), .str (S y), .str (S z)]
def rowD (r : Pg.Row) : PyData := .tuple [.int r.1, .int r.2.1, itD r.2.2]
structure RowIn (r : Pg.Row) : Prop where
  lo : 4320 ≤ r.1
  hi : r.1 < 4000000
  b : 1 ≤ r.2.1 - r.1 ∧ r.2.1 - r.1 ≤ 100000
  it : ∀ x y z, r.2.2 = some (x, y, z) → y.length ≤ 100 ∧ z.length ≤ 100
theorem row_inv {H : Hp} {v : V} {r : Pg.Row} (h : Dp K H v (rowD r)) : ∃ a u, v = .ref a ∧ SqT K H a [.int r.1, .int r.2.1, u] ∧ Dp K H u (itD r.2.2) := by
  unfold rowD at h
  cases h with
  | tup s d =>
    cases d with
    | cons d1 d =>
      cases d with
      | cons d2 d =>
        cases d with
        | cons d3 d =>
          cases d
          cases d1
          cases d2
          exact ⟨_, _, rfl, s, d3⟩
theorem what_len {r : Pg.Row} (h : RowIn r) : (Pg.what r.2.2).length ≤ 300 := by
  cases e : r.2.2 with
  | none => decide
  | some x =>
    obtain ⟨x, y, z⟩ := x
    have := h.it x y z e
    show (y ++ 32 :: z).length ≤ 300
    rw [List.length_append, List.length_cons]
    omega
def sp_row_text (K : PySem.W.Frag) : Sp := fun vs H Q _ => ∃ (z : Addr) (zs : Zn.Z) (v : V) (r : Pg.Row), vs = [.ref z, v] ∧ Dp K H (.ref z) (zD zs) ∧ Zn.Ok zs ∧ Dp K H v (rowD r) ∧ RowIn r ∧ ∀ t H', Pg.RT zs r t → Same H H' → Q (.str (S t)) H'
theorem ok_row_text (T : Txt K mg a) : FnOk P w K mg base CX0 7 a.f_row_text a.d_row_text ["zone", "row"] (sp_row_text K) := by
  refine T.F_row_text.ok sc_row_text (fun vs H Q E h => ?_) (fun cdv A outer s H vs Q E hr h => ?_)
  · obtain ⟨z, zs, v, r, rfl, _⟩ := h
    rfl
  · obtain ⟨z, zs, v, r, rfl, hz, ok, hv, hin, q⟩ := h
    refine ⟨_, (pss_cons (ps_asg (pv 1) (pg_tup (by rfl) (pgs_cons (pg_name (i := 2) sc_row_text.nd rfl (.inl rfl)) (pgs_cons (pg_name (i := 3) sc_row_text.nd rfl (.inl rfl)) (pgs_cons (pg_name (i := 4) sc_row_text.nd rfl (.inl rfl)) pgs_nil)))))
       (pss_cons (ps_set (i := 5) sc_row_text.nd rfl (.inl rfl) pe_str)
       (C8.pss_cut (ps_if (pt_cmpR op_notN (pv 4) pe_non (nomark _))
       (pss_one (ps_set (i := 5) sc_row_text.nd rfl (.inl rfl) (pe_op op_add_str (pe_op op_add_str (pe_ix ix_tup (pv 4) pe_int (fun _ _ => rfl)) pe_str) (pe_ix ix_tup (pv 4) pe_int (fun _ _ => rfl)))))
       pss_nil)
       (pss_one (ps_ret (pe_op op_add_str (pe_op op_add_str (pe_op op_add_str (pe_op op_add_str (pe_call (ok_moment_text T) (hr.mono (by decide)) (by rfl) T.g_moment_text T.F_moment_text.kp T.b_moment_text .nil pass0 (pa_cons (pv 0) (pa_cons (pv 2) pa_nil))) pe_str) (pe_callTy call_str_int (by rfl) T.z_str (by decide +kernel) (pa_cons (pe_op op_sub (pv 3) (pv 2)) pa_nil))) pe_str) (pv 5))))))), ?_⟩
    refine red (σ' := [some (.ref z), some v, none, none, none, none]) rfl ?_
    try dsimp only [cxOf]
    obtain ⟨ra, u, rfl, hra, hu⟩ := row_inv hv
    have hwl := what_len hin
    obtain ⟨b0, b1⟩ := hin.b
    walk_at "go"
    refine g_gtup ⟨ra, _, rfl, hra, rfl, ?_⟩
    walk_at "go"
    refine ⟨fun σ' H' => σ' = [some (.ref z), some (.ref ra), some (.int r.1), some (.int r.2.1), some u, some (.str (S (Pg.what r.2.2)))] ∧ H' = H, ?_, ?_⟩
    · walk_at "go"
      cases e : r.2.2 with
      | none =>
        rw [e] at hu
        cases hu
        refine ite_n rfl ?_
        walk_at "go"
        exact ⟨rfl, rfl⟩
      | some x =>
        obtain ⟨x, y, y2⟩ := x
        rw [e] at hu
        have hl := hin.it x y y2 e
        obtain ⟨ia, rfl, hia⟩ : ∃ ia, u = .ref ia ∧ SqT K H ia [.str (S x), .str (S y), .str (S y2)] := by
          cases hu with
          | tup s d =>
            cases d with
            | cons d1 d =>
              cases d with
              | cons d2 d =>
                cases d with
                | cons d3 d =>
                  cases d
                  cases d1
                  cases d2
                  cases d3
                  exact ⟨_, rfl, s⟩
        refine ite_y rfl ?_
        walk_at "go"
        refine g_catS (b := [32]) (by show _ + 1 ≤ _; omega) ?_
        rw [S_cat]
        walk_at "go"
        refine g_catS (by rw [List.length_append]; show _ + 1 + _ ≤ _; omega) ?_
        rw [S_cat, List.append_assoc]
        exact ⟨rfl, rfl⟩
    rintro σ' H1 ⟨rfl, rfl⟩
    walk_at "go"
    refine ⟨z, zs, r.1, rfl, hz, ok, hin.lo, hin.hi, fun t H2 ht s2 => ?_⟩
    have hq := q _ H2 ⟨t, ht, rfl⟩ s2
    have htl := ht.len
    obtain ⟨n, hn⟩ := Int.eq_ofNat_of_zero_le (show 0 ≤ r.2.1 - r.1 by omega)
    rw [hn, Int.toNat_natCast] at hq
    rw [hn] at b1
    have hnl := TL.numL_len (k := 6) (by decide) (n := n) (by omega)
    refine g_catS (b := [32]) (by show _ + 1 ≤ _; omega) ?_
    rw [S_cat]
    walk_at "go"
    rw [hn]
    refine g_strI (by omega) ?_
    rw [num_S]
    refine g_catS (by rw [List.length_append]; show _ + 1 + _ ≤ _; omega) ?_
    rw [S_cat]
    walk_at "go"
    refine g_catS (b := [32]) (by rw [List.length_append, List.length_append]; show _ + 1 + _ + 1 ≤ _; omega) ?_
    rw [S_cat]
    walk_at "go"
    refine g_catS (by rw [List.length_append, List.length_append, List.length_append]; show _ + 1 + _ + 1 + _ ≤ _; omega) ?_
    rw [S_cat]
    simp only [List.append_assoc]
    exact hq
def sp_opening_text : Sp := fun vs H Q _ => ∃ o c : Int, vs = [.int o, .int c] ∧ 0 ≤ o ∧ o ≤ 1440 ∧ 0 ≤ c ∧ c ≤ 1440 ∧ Q (.str (S (Dg.mw o ++ 45 :: Dg.mw c))) H
theorem ok_opening_text (T : Txt K mg a) : FnOk P w K mg base CX0 3 a.f_opening_text a.d_opening_text ["opens", "closes"] sp_opening_text := by
  refine T.F_opening_text.ok sc_opening_text (fun vs H Q E h => ?_) (fun cdv A outer s H vs Q E hr h => ?_)
  · obtain ⟨o, c, rfl, _⟩ := h
    rfl
  · obtain ⟨o, c, rfl, o0, o1, c0, c1, q⟩ := h
    refine ⟨_, (pss_one (ps_ret (pe_op op_add_str (pe_op op_add_str (pe_call (ok_minute_text T) (hr.mono (by decide)) (by rfl) T.g_minute_text T.F_minute_text.kp T.b_minute_text .nil pass0 (pa_cons (pv 0) pa_nil)) pe_str) (pe_call (ok_minute_text T) (hr.mono (by decide)) (by rfl) T.g_minute_text T.F_minute_text.kp T.b_minute_text .nil pass0 (pa_cons (pv 1) pa_nil))))), ?_⟩
    refine red (σ' := [some (.int o), some (.int c)]) rfl ?_
    try dsimp only [cxOf]
    have l1 := Dg.mw_len o
    have l2 := Dg.mw_len c
    walk_at "go"
    refine ⟨o, rfl, o0, by omega, ?_⟩
    refine g_catS (b := [45]) (by show _ + 1 ≤ _; omega) ?_
    rw [S_cat]
    walk_at "go"
    refine ⟨c, rfl, c0, by omega, ?_⟩
    refine g_catS (by rw [List.length_append]; show _ + 1 + _ ≤ _; omega) ?_
    rw [S_cat, List.append_assoc]
    exact q
def sp_law_minute_text : Sp := fun vs H Q _ => ∃ k : Int, vs = [.int k] ∧ 0 ≤ k ∧ k < 6000 ∧ Q (.str (S (Dg.mw k))) H
theorem ok_law_minute_text (T : Txt K mg a) : FnOk P w K mg base CX0 3 a.f_law_minute_text a.d_law_minute_text ["minute"] sp_law_minute_text := by
  refine T.F_law_minute_text.ok sc_law_minute_text (fun vs H Q E h => ?_) (fun cdv A outer s H vs Q E hr h => ?_)
  · obtain ⟨k, rfl, _⟩ := h
    rfl
  · obtain ⟨k, rfl, k0, k1, q⟩ := h
    refine ⟨_, (pss_one (ps_ret (pe_op op_add_str (pe_op op_add_str (pe_call (ok_law_digits2 T) (hr.mono (by decide)) (by rfl) T.g_law_digits2 T.F_law_digits2.kp T.b_law_digits2 .nil pass0 (pa_cons (pe_op op_fdivE (pv 0) pe_int) (pa_cons pe_int pa_nil))) pe_str) (pe_call (ok_law_digits2 T) (hr.mono (by decide)) (by rfl) T.g_law_digits2 T.F_law_digits2.kp T.b_law_digits2 .nil pass0 (pa_cons (pe_call (ok_law_mod T) (hr.mono (by decide)) (by rfl) T.g_law_mod T.F_law_mod.kp T.b_law_mod .nil pass0 (pa_cons (pv 0) (pa_cons pe_int pa_nil))) (pa_cons pe_int pa_nil)))))), ?_⟩
    refine red (σ' := [some (.int k)]) rfl ?_
    try dsimp only [cxOf]
    walk_at "go"
    refine ⟨_, _, rfl, by omega, by decide, by decide, ?_⟩
    refine g_catS (b := [46]) (by rw [Dg.dg_len]; decide) ?_
    rw [S_cat]
    walk_at "go"
    refine ⟨k, 60, rfl, by decide, by decide, ?_⟩
    walk_at "go"
    refine ⟨_, _, rfl, by omega, by decide, by decide, ?_⟩
    refine g_catS (by rw [List.length_append, Dg.dg_len, Dg.dg_len]; decide) ?_
    rw [S_cat, List.append_assoc]
    exact q
end
section
variable {P : Program} {w : World} {K : PySem.W.Frag} {mg : Str → Option Value} {base : Heap} {a : Adr}
/-! ### sheets; the law's own moments and zones; a pattern from a day on -/
theorem noL_row (r : Pg.Row) : noL (rowD r) = true := by
  obtain ⟨x, y, o⟩ := r
  cases o with
  | none => simp [rowD, itD, noL, noLAll]
  | some z => obtain ⟨a, b, c⟩ := z; simp [rowD, itD, noL, noLAll]
theorem rt_len {zs : Zn.Z} {r : Pg.Row} {t : Wd.W} (hin : RowIn r) (h : Pg.RT zs r t) : t.length ≤ 400 := by
  obtain ⟨u, hu, rfl⟩ := h
  have h1 := hu.len
  have h2 := what_len hin
  obtain ⟨b0, b1⟩ := hin.b
  have h3 := TL.numL_len (k := 6) (by decide) (n := (r.2.1 - r.1).toNat) (by omega)
  rw [List.length_append, List.length_cons, List.length_append, List.length_cons]
  omega
theorem rt_ex {zs : Zn.Z} (ok : Zn.Ok zs) (m : Int) : ∃ d, Zn.At zs m d := by
  have hb : ∀ d, 1440 * d - 1440 < Zn.beg zs d ∧ Zn.beg zs d < 1440 * d + 1440 := fun d => by
    have := ok.bd d
    unfold Zn.beg
    omega
  have key : ∀ n : Nat, ∀ d : Int, Zn.beg zs d ≤ m → m < Zn.beg zs (d + n) → ∃ d, Zn.At zs m d := by
    intro n
    induction n with
    | zero => intro d h1 h2; rw [show d + ((0 : Nat) : Int) = d by omega] at h2; omega
    | succ n ih =>
      intro d h1 h2
      by_cases c : m < Zn.beg zs (d + 1)
      · exact ⟨d, h1, c⟩
      · exact ih (d + 1) (by omega) (by rw [show d + 1 + (n : Int) = d + ((n + 1 : Nat) : Int) by omega]; exact h2)
  exact key 5 (m / 1440 - 2) (by have := hb (m / 1440 - 2); omega) (by have := hb (m / 1440 - 2 + ((5 : Nat) : Int)); omega)
theorem mt_ex {zs : Zn.Z} (ok : Zn.Ok zs) (m : Int) : ∃ t, Pg.MT zs m t := by
  obtain ⟨d, hd⟩ := rt_ex ok m
  exact ⟨_, d, _, hd, Civ.mOf_is d, rfl⟩
def sp_sheet_page (K : PySem.W.Frag) : Sp := fun vs H Q _ => ∃ (z L : Addr) (zs : Zn.Z) (xs : List V) (rs : List Pg.Row), vs = [.ref z, .ref L] ∧ Dp K H (.ref z) (zD zs) ∧ Zn.Ok zs ∧ H L = some (.lst xs) ∧ DpAll K H xs (rs.map rowD) ∧ (∀ r ∈ rs, RowIn r) ∧ rs.length ≤ 100 ∧
  ∀ ts H', Pg.RTs zs rs ts → Same H H' → Q (.str (S (TL.joinL [10] ts))) H'
theorem ok_sheet_page (T : Txt K mg a) : FnOk P w K mg base CX0 8 a.f_sheet_page a.d_sheet_page ["zone", "rows"] (sp_sheet_page K) := by
  refine T.F_sheet_page.ok sc_sheet_page (fun vs H Q E h => ?_) (fun cdv A outer s H vs Q E hr h => ?_)
  · obtain ⟨z, L, zs, xs, rs, rfl, _⟩ := h
    rfl
  · obtain ⟨z, L, zs, xs, rs, rfl, hz, ok, hL, hd, hin, hn, q⟩ := h
    refine ⟨_, (pss_one (ps_ret (pe_join pe_str (pe_lc (own := [("row", 2)]) (g := (gName 2)) rfl sc_sheet_page.nd (pi_list (pv 1)) (blkOk_by (own := [("row", 2)]) (N := ["zone", "rows", "row"]) (sc := defScope s_sheet_page) (by decide +kernel)) (fun _ _ _ _ _ => (pg_name (i := 2) sc_sheet_page.nd rfl (.inl rfl))) (fun _ _ _ _ _ => pts_nil) (fun _ _ _ _ _ => (pe_call (ok_row_text T) (hr.mono (by decide)) (by rfl) T.g_row_text T.F_row_text.kp T.b_row_text .nil pass0 (pa_cons (pv 0) (pa_cons (pv 2) pa_nil)))))))), ?_⟩
    refine red (σ' := [some (.ref z), some (.ref L), none]) rfl ?_
    try dsimp only [cxOf]
    have hlen : xs.length = rs.length := by have := dpAll_len hd; rw [List.length_map] at this; exact this
    walk_at "go"
    refine ⟨⟨_, rfl⟩, ?_⟩
    walk_at "go"
    refine ⟨L, rfl, ⟨_, SqL.of hL⟩, fun D hD => ?_⟩
    refine lc_list (K := K) (a := L) (xs := xs) (fun i H' => Same H H' ∧ ∃ ts, Pg.RTs zs (rs.take i) ts ∧ H' D = some (.lst (sv ts))) ⟨same_new hD, [], ⟨rfl, fun i r t h => by cases h⟩, upd_same⟩ (fun i H' _ h => SqL.of (h.1 _ _ hL)) ?_ ?_
    · rintro i x H1 hi ⟨s1, ts, hts, hD1⟩
      obtain ⟨e, hd', hx⟩ := dpAll_at' hd hi
      obtain ⟨r, hr, rfl⟩ : ∃ r, rs[i]? = some r ∧ e = rowD r := by
        rw [List.getElem?_map] at hd'
        cases e : rs[i]? with
        | none => rw [e] at hd'; cases hd'
        | some p => rw [e] at hd'; exact ⟨p, rfl, (Option.some.inj hd').symm⟩
      have hil := (List.getElem?_eq_some_iff.mp hr).1
      walk_at "go"
      refine ⟨rfl, ?_⟩
      refine g_yes (iteT ?_)
      walk_at "go"
      refine ⟨z, zs, x, r, rfl, dp_same s1 _ hz, ok, dp_same s1 _ hx, hin r (List.mem_of_getElem? hr), fun t H2 ht s2 => ?_⟩
      refine ⟨_, s2 _ _ hD1, ?_, same_put hD (s1.trans s2), ts ++ [t], ?_, ?_⟩
      · rw [List.length_map, hts.1, List.length_take]
        have := sizeBig
        omega
      · rw [take_more hr]; exact hts.snoc ht
      · rw [upd_same]
        exact congrArg (fun z => some (HO.lst z)) (sv_app _ [t])
    · rintro H1 ⟨s1, ts, hts, hD1⟩
      rw [hlen, List.take_length] at hts
      refine ⟨S [10], D, ts.map S, rfl, rfl, join1 hD1, join2 (m := 400) (fun t ht => ?_) (by decide) (by rw [hts.1]; omega), ?_⟩
      · obtain ⟨i, hi⟩ := List.getElem?_of_mem ht
        have hil : i < rs.length := by rw [← hts.1]; exact (List.getElem?_eq_some_iff.mp hi).1
        exact rt_len (hin _ (List.getElem_mem hil)) (hts.2 i _ _ (List.getElem?_eq_getElem hil) hi)
      rw [join_S]
      exact q ts H1 hts s1
def sp_law_moment_text (K : PySem.W.Frag) : Sp := fun vs H Q _ => ∃ (z : Addr) (zs : Zn.Z) (m : Int), vs = [.ref z, .int m] ∧ Dp K H (.ref z) (zD zs) ∧ Zn.Ok zs ∧ 4320 ≤ m ∧ m < 4000000 ∧ ∀ t H', Pg.MT zs m t → Same H H' → Q (.str (S t)) H'
theorem ok_law_moment_text (T : Txt K mg a) : FnOk P w K mg base CX0 6 a.f_law_moment_text a.d_law_moment_text ["zone", "moment"] (sp_law_moment_text K) := by
  refine T.F_law_moment_text.ok sc_law_moment_text (fun vs H Q E h => ?_) (fun cdv A outer s H vs Q E hr h => ?_)
  · obtain ⟨z, zs, m, rfl, _⟩ := h
    rfl
  · obtain ⟨z, zs, m, rfl, hz, ok, h0, h1, q⟩ := h
    refine ⟨_, (pss_cons (ps_set (i := 2) sc_law_moment_text.nd rfl (.inl rfl) (pe_op op_add (pe_op op_fdivE (pv 1) pe_int) pe_int))
       (pss_cons (ps_for PassesOwn.never rfl (pi_range1 (by rfl) T.z_range (pa_cons pe_int pa_nil)) (pg_name (i := 3) sc_law_moment_text.nd rfl (.inl rfl))
       (pss_one (ps_if (pt_cmpR op_gt (pe_call (ok_law_begin T) (hr.mono (by decide)) (by rfl) T.g_law_begin T.F_law_begin.kp T.b_law_begin .nil pass0 (pa_cons (pv 0) (pa_cons (pv 2) pa_nil))) (pv 1) (nomark _))
       (pss_one (ps_set (i := 2) sc_law_moment_text.nd rfl (.inl rfl) (pe_op op_sub (pv 2) pe_int)))
       pss_nil)))
       (pss_cons (ps_set (i := 4) sc_law_moment_text.nd rfl (.inl rfl) (pe_op op_sub (pv 1) (pe_call (ok_law_begin T) (hr.mono (by decide)) (by rfl) T.g_law_begin T.F_law_begin.kp T.b_law_begin .nil pass0 (pa_cons (pv 0) (pa_cons (pv 2) pa_nil)))))
       (pss_one (ps_ret (pe_op op_add_str (pe_op op_add_str (pe_call (ok_law_day_text T) (hr.mono (by decide)) (by rfl) T.g_law_day_text T.F_law_day_text.kp T.b_law_day_text .nil pass0 (pa_cons (pv 2) pa_nil)) pe_str) (pe_call (ok_law_minute_text T) (hr.mono (by decide)) (by rfl) T.g_law_minute_text T.F_law_minute_text.kp T.b_law_minute_text .nil pass0 (pa_cons (pv 4) pa_nil)))))))), ?_⟩
    refine red (σ' := [some (.ref z), some (.int m), none, none, none]) rfl ?_
    try dsimp only [cxOf]
    have hb : ∀ d, 1440 * d - 1440 < Zn.beg zs d ∧ Zn.beg zs d < 1440 * d + 1440 := fun d => by
      have := ok.bd d
      unfold Zn.beg
      omega
    walk_at "go"
    refine ⟨_, rfl, by decide, by decide, ?_⟩
    refine for_range (lo := 0) (n := 6) (fun i σ' H' => ∃ (d : Int) (y : Option V), σ' = [some (.ref z), some (.int m), some (.int d), y, none] ∧ H' = H ∧ m < Zn.beg zs (d + 1) ∧ (Zn.beg zs d ≤ m ∨ d = m / 1440 + 2 - i))
      ⟨m / 1440 + 2, _, rfl, rfl, by have := hb (m / 1440 + 2 + 1); omega, .inr (by omega)⟩ ?_ ?_
    · rintro i σ' H1 hi ⟨d, y, rfl, rfl, hd, hor⟩
      walk_at "go"
      refine ⟨z, zs, d, rfl, hz, ok.ne, ?_⟩
      walk_at "go"
      refine iteK (fun h => ?_) (fun h => ?_)
      · walk_at "go"
        refine ⟨d - 1, _, rfl, rfl, by rw [show d - 1 + 1 = d by omega]; exact h, .inr ?_⟩
        rcases hor with g | g <;> omega
      · walk_at "go"
        exact ⟨d, _, rfl, rfl, hd, .inl (by omega)⟩
    · rintro σ' H1 ⟨d, y, rfl, rfl, hd, hor⟩
      have hat : Zn.At zs m d := ⟨by
        rcases hor with g | g
        · exact g
        · have := hb d; omega, hd⟩
      obtain ⟨d0, d1, k0, k1⟩ := mt_of ok h0 h1 hat
      walk_at "go"
      refine ⟨z, zs, d, rfl, hz, ok.ne, ?_⟩
      walk_at "go"
      have q' : ∀ mo H', Civ.IsM d mo → Same H1 H' → Q (.str (S (Pg.mtx d mo (m - Zn.beg zs d)))) H' := fun mo H' hm s => q _ H' ⟨d, mo, hat, hm, rfl⟩ s
      generalize m - Zn.beg zs d = k at k0 k1 q'
      refine ⟨d, rfl, d0, fun mo H2 s2 hm => ?_⟩
      have hl := Dg.dw_len d mo
      refine g_catS (b := [32]) (by show _ + 1 ≤ _; omega) ?_
      rw [S_cat]
      walk_at "go"
      refine ⟨k, rfl, k0, by omega, ?_⟩
      have hl2 := Dg.mw_len k
      refine g_catS (by rw [List.length_append]; show _ + 1 + _ ≤ _; omega) ?_
      rw [S_cat, List.append_assoc]
      exact q' mo H2 hm s2
def sp_from_day (K : PySem.W.Frag) : Sp := fun vs H Q _ => ∃ (s p r : Nat) (t : Addr), vs = [.int s, .int p, .ref t] ∧ SqT K H t (ni [r]) ∧ 1 ≤ p ∧ p < 1000000 ∧ r < p ∧ ∀ u H', Same H H' → Dp K H' (.ref u) (patD (Pg.fdp s p [r])) → Q (.ref u) H'
theorem ok_from_day (T : Txt K mg a) : FnOk P w K mg base CX0 4 a.f_from_day a.d_from_day ["start", "period", "residues"] (sp_from_day K) := by
  refine T.F_from_day.ok sc_from_day (fun vs H Q E h => ?_) (fun cdv A outer s H vs Q E hr h => ?_)
  · obtain ⟨s, p, r, t, rfl, _⟩ := h
    rfl
  · obtain ⟨s, p, r, t, rfl, ht, p0, p1, hr2, q⟩ := h
    refine ⟨_, (pss_cons (ps_if (pt_cmpR op_le (pv 0) pe_int (nomark _))
       (pss_one (ps_ret (pe_call (ok_tidied T) (hr.mono (by decide)) (by rfl) T.g_tidied T.F_tidied.kp T.b_tidied .nil pass0 (pa_cons (pe_lst (pa_cons (pe_tup (pa_cons pe_int (pa_cons (pv 1) (pa_cons (pv 2) pa_nil)))) pa_nil)) pa_nil))))
       pss_nil)
       (pss_one (ps_ret (pe_call (ok_tidied T) (hr.mono (by decide)) (by rfl) T.g_tidied T.F_tidied.kp T.b_tidied .nil pass0 (pa_cons (pe_lst (pa_cons (pe_tup (pa_cons pe_int (pa_cons pe_int (pa_cons (pe_tup pa_nil) pa_nil)))) (pa_cons (pe_tup (pa_cons (pv 0) (pa_cons (pv 1) (pa_cons (pv 2) pa_nil)))) pa_nil))) pa_nil))))), ?_⟩
    refine red (σ' := [some (.int s), some (.int p), some (.ref t)]) rfl ?_
    try dsimp only [cxOf]
    have hpc : ∀ x : Nat, PcOk ((x, p, [r]) : Per.Piece) := fun x => ⟨⟨p0, List.pairwise_singleton _ _, fun y hy => by rw [List.mem_singleton.mp hy]; exact hr2⟩, by show p < 1073741824; omega, by show 1 ≤ 1000; decide⟩
    rw [← Pg.fdp_tid p0] at q
    unfold Pg.fdp at q
    walk_at "go"
    refine iteK (fun h => ?_) (fun h => ?_)
    · rw [if_pos (by omega)] at q
      walk_at "go"
      refine nwT (ys := [.int (0 : Nat), .int (p : Nat), .ref t]) rfl (by show 3 ≤ 1000000; decide) fun u H1 _ s1 hu => ?_
      walk_at "go"
      refine nwL (ys := [.ref u]) rfl (by show 1 ≤ 1000000; decide) fun L H2 _ s2 hL => ?_
      refine ⟨L, _, [(0, p, [r])], rfl, hL, .cons (dp_same s2 _ (pc_mk (p := (0, p, [r])) (SqT.of hu) (SqT.ext ht s1))) .nil, fun x hx => by rw [List.mem_singleton.mp hx]; exact hpc 0, by show 1 ≤ 1000; decide, fun v H3 s3 hv => q v H3 (s1.trans (s2.trans s3)) hv⟩
    · rw [if_neg (by omega)] at q
      walk_at "go"
      refine nwT (ys := ni []) rfl (by show 0 ≤ 1000000; decide) fun e H1 _ s1 he => ?_
      walk_at "go"
      refine nwT (ys := [.int (0 : Nat), .int (1 : Nat), .ref e]) rfl (by show 3 ≤ 1000000; decide) fun u H2 _ s2 hu => ?_
      walk_at "go"
      refine nwT (ys := [.int (s : Nat), .int (p : Nat), .ref t]) rfl (by show 3 ≤ 1000000; decide) fun v H3 _ s3 hv => ?_
      walk_at "go"
      refine nwL (ys := [.ref u, .ref v]) rfl (by show 2 ≤ 1000000; decide) fun L H4 _ s4 hL => ?_
      refine ⟨L, _, [(0, 1, []), (s, p, [r])], rfl, hL, .cons (dp_same (s3.trans s4) _ (pc_mk (p := (0, 1, [])) (SqT.of hu) (SqT.ext (SqT.of he) s2))) (.cons (dp_same s4 _ (pc_mk (p := (s, p, [r])) (SqT.of hv) (SqT.ext ht (s1.trans (s2.trans s3))))) .nil), fun x hx => ?_, by show 2 ≤ 1000; decide, fun v H5 s5 hv => q v H5 (s1.trans (s2.trans (s3.trans (s4.trans s5)))) hv⟩
      simp only [List.mem_cons, List.not_mem_nil, or_false] at hx
      rcases hx with rfl | rfl
      · exact ⟨⟨by decide, List.Pairwise.nil, fun y hy => by cases hy⟩, by decide, by decide⟩
      · exact hpc s
end
section
variable {P : Program} {w : World} {K : PySem.W.Frag} {mg : Str → Option Value} {base : Heap} {a : Adr}
theorem Tp.keep {t c : Addr} {ns : List Int} {H H' : Hp} (I : Tp t c ns H) (r : RelT t H H') : KeepT H H' := fun b o h tt => by
  by_cases e : b = t
  · subst e
    obtain ⟨⟨k, z, _, _, ht⟩, _⟩ := I
    rw [ht] at h
    cases h
    rcases tt with ⟨xs, e⟩ | ⟨q, xs, e⟩
    · cases e
    · cases e
  · exact r b o e h
theorem Tp.putF {t c F : Addr} {ns : List Int} {H : Hp} {o : HO} (I : Tp t c ns H) (h1 : F ≠ t) (h2 : F ≠ c) : Tp t c ns (upd H F o) := by
  obtain ⟨⟨k, z, k0, z0, ht⟩, hc⟩ := I
  exact ⟨⟨k, z, k0, z0, (upd_ne h1.symm).trans ht⟩, (upd_ne h2.symm).trans hc⟩
def zL (zs : Zn.Z) : List PyData := zs.map fun e => PyData.tuple [.int e.1, .int e.2]
theorem noL_zL (zs : Zn.Z) : noLAll (zL zs) = true := noLAll_of fun x hx => by
  obtain ⟨e, _, rfl⟩ := List.mem_map.mp hx
  simp [noL, noLAll]
def sp_law_zone (K : PySem.W.Frag) : Sp := fun vs H Q _ => ∃ (t c : Addr) (ns : List Int), vs = [.ref t] ∧ Tp t c ns H ∧ ∀ z zs H', Tp t c ns H' → RelT t H H' → Dp K H' (.ref z) (zD zs) → Zn.Ok zs → Q (.ref z) H'
theorem ok_law_zone (T : Txt K mg a) : FnOk P w K mg base CX0 2 a.f_law_zone a.d_law_zone ["tape"] (sp_law_zone K) := by
  refine T.F_law_zone.ok sc_law_zone (fun vs H Q E h => ?_) (fun cdv A outer s H vs Q E hr h => ?_)
  · obtain ⟨t, c, ns, rfl, _⟩ := h
    rfl
  · obtain ⟨t, c, ns, rfl, I, q⟩ := h
    refine ⟨_, (pss_cons (ps_set (i := 1) sc_law_zone.nd rfl (.inl rfl) (pe_op op_sub (pe_op op_mul pe_int (pe_call (ok_law_draw T) (hr.mono (by decide)) (by rfl) T.g_law_draw T.F_law_draw.kp T.b_law_draw .nil pass0 (pa_cons (pv 0) (pa_cons pe_int pa_nil)))) pe_int))
       (pss_cons (ps_set (i := 2) sc_law_zone.nd rfl (.inl rfl) (pe_lst (pa_cons (pe_tup (pa_cons pe_int (pa_cons (pv 1) pa_nil))) pa_nil)))
       (pss_cons (ps_for PassesOwn.never rfl (pi_range1 (by rfl) T.z_range (pa_cons (pe_call (ok_law_draw T) (hr.mono (by decide)) (by rfl) T.g_law_draw T.F_law_draw.kp T.b_law_draw .nil pass0 (pa_cons (pv 0) (pa_cons pe_int pa_nil))) pa_nil)) (pg_name (i := 3) sc_law_zone.nd rfl (.inl rfl))
       (pss_cons (ps_set (i := 4) sc_law_zone.nd rfl (.inl rfl) (pe_op op_add (pe_op op_add (pe_ix ix_seq (pe_ix ix_list (pv 2) (pe_op op_sub (pe_callB call_len_seq (by rfl) T.z_len (by decide +kernel) (pa_cons (pv 2) pa_nil)) pe_int) (fun _ _ => rfl)) pe_int (fun _ _ => rfl)) pe_int) (pe_call (ok_law_draw T) (hr.mono (by decide)) (by rfl) T.g_law_draw T.F_law_draw.kp T.b_law_draw .nil pass0 (pa_cons (pv 0) (pa_cons pe_int pa_nil)))))
       (pss_cons (ps_set (i := 5) sc_law_zone.nd rfl (.inl rfl) (pe_op op_add (pe_ix ix_seq (pe_ix ix_list (pv 2) (pe_op op_sub (pe_callB call_len_seq (by rfl) T.z_len (by decide +kernel) (pa_cons (pv 2) pa_nil)) pe_int) (fun _ _ => rfl)) pe_int (fun _ _ => rfl)) (pe_ix ix_list (pe_lst (pa_cons pe_int (pa_cons (pe_op op_sub pe_int pe_int) (pa_cons pe_int (pa_cons (pe_op op_sub pe_int pe_int) (pa_cons pe_int (pa_cons (pe_op op_sub pe_int pe_int) pa_nil))))))) (pe_call (ok_law_draw T) (hr.mono (by decide)) (by rfl) T.g_law_draw T.F_law_draw.kp T.b_law_draw .nil pass0 (pa_cons (pv 0) (pa_cons pe_int pa_nil))) (fun _ _ => rfl))))
       (pss_one (ps_if (pt_chain op_lt op_lt (pe_op op_sub pe_int pe_int) (pv 5) pe_int)
       (pss_one (ps_expr (pe_bm PySem.F.plainAttrs_list PySem.F.slot_list_append PySem.F.type_list_append mt_append (pv 2) (pa_cons (pe_tup (pa_cons (pv 4) (pa_cons (pv 5) pa_nil))) pa_nil))))
       pss_nil)))))
       (pss_one (ps_ret (pe_callTy call_tuple_of (by rfl) T.z_tuple (by decide +kernel) (pa_cons (pv 2) pa_nil))))))), ?_⟩
    refine red (σ' := [some (.ref t), none, none, none, none, none]) rfl ?_
    try dsimp only [cxOf]
    walk_at "go"
    refine I.draw (by decide) (by decide) fun o H1 o0 o1 I1 rel1 => ?_
    walk_at "go"
    have hFc0 := I1.2
    refine nwT (ys := [.int 0, .int (30 * o - 720)]) rfl (by show 2 ≤ 1000000; decide) fun u H2 _ s2 hu => ?_
    walk_at "go"
    refine nwL (ys := [.ref u]) rfl (by show 1 ≤ 1000000; decide) fun F H3 hF s3 hFF => ?_
    have hFt : F ≠ t := (I1.same s2).ne_none hF
    have hFc : F ≠ c := (ne_of_none (I1.same s2).2 hF).symm
    have hFH : ∀ {b o'}, H b = some o' → b ≠ t → b ≠ F := fun hb hbt => ne_of_none (s2 _ _ (rel1 _ _ hbt hb)) hF
    have I3 := I1.same (s2.trans s3)
    have rel3 : RelT t H H3 := rel1.trans (RelT.of (s2.trans s3))
    have hu3 := s3 _ _ hu
    clear I I1 rel1 s2 s3 hF
    walk_at "go"
    refine I3.draw (by decide) (by decide) fun n H4 n0 n1 I4 rel4 => ?_
    obtain ⟨n, rfl⟩ := Int.eq_ofNat_of_zero_le n0
    refine ⟨_, rfl, by omega, by omega, ?_⟩
    rw [Int.toNat_natCast]
    refine for_range (lo := 0) (n := n) (fun i σ' H' => ∃ (fv : List V) (zs : Zn.Z) (f O : Int) (y3 y4 y5 : Option V), σ' = [some (.ref t), some (.int (30 * o - 720)), some (.ref F), y3, y4, y5] ∧ Tp t c ns H' ∧ RelT t H H' ∧ H' F = some (.lst fv) ∧ DpAll K H' fv (zL (zs ++ [(f, O)])) ∧ Zn.Gd (zs ++ [(f, O)]) f O ∧ zs.length ≤ i)
      ⟨[.ref u], [], 0, 30 * o - 720, _, _, _, rfl, I4, rel3.trans rel4, rel4 _ _ hFt hFF, .cons (.tup (SqT.of (rel4 _ _ (I3.ne hu3 fun _ _ e => by cases e) hu3)) (.cons (.int _) (.cons (.int _) .nil))) .nil, Zn.Gd.start (by omega), Nat.le_refl _⟩ ?_ ?_
    · clear hFF hu3 rel3 I3 I4 rel4
      rintro i σ' H5 hi ⟨fv, zs, f, O, y3, y4, y5, rfl, I5, rel5, hF5, hd5, gd, hzl⟩
      have last : ∀ {H' : Hp}, DpAll K H' fv (zL (zs ++ [(f, O)])) → ∃ us la, fv = us ++ [.ref la] ∧ SqT K H' la [.int f, .int O] := fun h => by
        unfold zL at h
        rw [List.map_append] at h
        obtain ⟨us, v, e, _, hv⟩ := dpAll_last h
        obtain ⟨la, rfl, hla⟩ := pr_inv hv
        exact ⟨us, la, e, hla⟩
      have hfl := dpAll_len hd5
      unfold zL at hfl
      rw [List.length_map, List.length_append, List.length_singleton] at hfl
      have atl : ∀ {H' : Hp}, DpAll K H' fv (zL (zs ++ [(f, O)])) → ∃ la, atI fv ((fv.length : Nat) - 1 : Int) = some (.ref la) ∧ SqT K H' la [.int f, .int O] := fun h => by
        obtain ⟨us, la, e, hla⟩ := last h
        refine ⟨la, ?_, hla⟩
        rw [e, List.length_append, List.length_singleton, show (((us.length + 1 : Nat) : Int) - 1) = ((us.length : Nat) : Int) by omega]
        exact atI_nat (by rw [List.getElem?_append_right (Nat.le_refl _), Nat.sub_self]; rfl)
      obtain ⟨la, al, hla⟩ := atl hd5
      walk_at "go"
      refine g_ixL (SqL.of hF5) al ?_
      walk_at "go"
      refine .inr (.inl (g_ixT hla (v := .int f) rfl ?_))
      walk_at "go"
      refine I5.draw (by decide) (by decide) fun x H6 x0 x1 I6 rel6 => ?_
      have k6 := I5.keep rel6
      replace hF5 := rel6 _ _ hFt hF5
      replace hd5 := dpAll_keep k6 _ (noL_zL _) hd5
      replace rel5 := rel5.trans rel6
      obtain ⟨la2, al2, hla2⟩ := atl hd5
      clear I5 rel6 k6 hla al la
      walk_at "go"
      refine g_ixL (SqL.of hF5) al2 ?_
      walk_at "go"
      refine .inr (.inl (g_ixT hla2 (v := .int O) rfl ?_))
      walk_at "go"
      refine nwL (ys := [60, -60, 30, -120, 700, -700].map V.int) rfl (by show 6 ≤ 1000000; decide) fun L6 H7 _ s7 h7 => ?_
      walk_at "go"
      have I7 := I6.same s7
      replace hF5 := s7 _ _ hF5
      replace hd5 := dpAll_same s7 _ hd5
      replace rel5 := rel5.trans (RelT.of s7)
      refine I7.draw (by decide) (by decide) fun j H8 j0 j1 I8 rel8 => ?_
      have k8 := I7.keep rel8
      replace h7 := rel8 _ _ (I7.ne h7 fun _ _ => ne_ints) h7
      replace hF5 := rel8 _ _ hFt hF5
      replace hd5 := dpAll_keep k8 _ (noL_zL _) hd5
      replace rel5 := rel5.trans rel8
      clear I6 I7 s7 rel8 k8 hla2 al2 la2
      obtain ⟨j, rfl⟩ := Int.eq_ofNat_of_zero_le j0
      have hjl : j < [60, -60, 30, -120, 700, -700].length := by show j < 6; omega
      have hjb : ∀ x ∈ [(60 : Int), -60, 30, -120, 700, -700], -700 ≤ x ∧ x ≤ 700 := by decide
      have hj := hjb _ (List.getElem_mem hjl)
      have aj : atI (([60, -60, 30, -120, 700, -700] : List Int).map V.int) ((j : Nat) : Int) = some (.int ([60, -60, 30, -120, 700, -700] : List Int)[j]) := atI_nat (by rw [List.getElem?_map, List.getElem?_eq_getElem hjl]; rfl)
      generalize ([60, -60, 30, -120, 700, -700] : List Int)[j] = dz at hj aj
      refine g_ixL (SqL.of h7) aj ?_
      clear h7 aj hjb
      walk_at "go"
      have hst : ∀ (y3 y4 y5 : Option V), ∃ (fv : List V) (zs : Zn.Z) (f O : Int) (z3 z4 z5 : Option V), [some (V.ref t), some (.int (30 * o - 720)), some (.ref F), y3, y4, y5] = [some (V.ref t), some (.int (30 * o - 720)), some (.ref F), z3, z4, z5] ∧ Tp t c ns H8 ∧ RelT t H H8 ∧ H8 F = some (.lst fv) ∧ DpAll K H8 fv (zL (zs ++ [(f, O)])) ∧ Zn.Gd (zs ++ [(f, O)]) f O ∧ zs.length ≤ i + 1 :=
        fun y3 y4 y5 => ⟨fv, zs, f, O, y3, y4, y5, rfl, I8, rel5, hF5, hd5, gd, by omega⟩
      refine iteK (fun h1 => ?_) (fun h1 => ?_)
      · walk_at "go"
        refine iteK (fun h2 => ?_) (fun h2 => ?_)
        · walk_at "go"
          refine ⟨.inl ⟨rfl, _, SqL.of hF5⟩, ?_⟩
          walk_at "go"
          refine nwT (ys := [.int (f + 1 + x), .int (O + dz)]) rfl (by show 2 ≤ 1000000; decide) fun u2 H9 _ s9 hu2 => ?_
          have I9 := I8.same s9
          replace hF5 := s9 _ _ hF5
          replace hd5 := dpAll_same s9 _ hd5
          replace rel5 := rel5.trans (RelT.of s9)
          refine ⟨F, _, _, rfl, rfl, hF5, by rw [hfl]; have := sizeBig; omega, ?_⟩
          have kp : KeepT H9 (upd H9 F (.lst (fv ++ [.ref u2]))) := KeepT.putL hF5
          refine ⟨fv ++ [.ref u2], zs ++ [(f, O)], f + 1 + x, O + dz, _, _, _, rfl, I9.putF hFt hFc, fun b o' hb ho => ?_, upd_same, ?_, gd.snoc (by omega) (by omega) (by omega), by rw [List.length_append, List.length_singleton]; omega⟩
          · rw [upd_ne (hFH ho hb)]; exact rel5 b o' hb ho
          · unfold zL
            rw [List.map_append]
            exact dpAll_app (dpAll_keep kp _ (noL_zL _) hd5) (.cons (.tup (sqT_keep (SqT.of hu2) kp) (.cons (.int _) (.cons (.int _) .nil))) .nil)
        · walk_at "go"
          exact hst _ _ _
      · walk_at "go"
        first | exact hst _ _ _ | (refine iteF ?_; walk_at "go"; exact hst _ _ _)
    · rintro σ' H5 ⟨fv, zs, f, O, y3, y4, y5, rfl, I5, rel5, hF5, hd5, gd, hzl⟩
      walk_at "go"
      refine ⟨F, _, rfl, .inl ⟨SqL.of hF5, fun u2 hu2 => ?_⟩⟩
      have s6 := same_new (o := .tup fv) hu2
      exact q u2 _ _ (I5.same s6) (rel5.trans (RelT.of s6)) (.tup (SqT.of upd_same) (dpAll_same s6 _ hd5)) gd.ok
end
section
variable {P : Program} {w : World} {K : PySem.W.Frag} {mg : Str → Option Value} {base : Heap} {a : Adr}
theorem flat_ni (R : List Nat) : (ni R).all flatV = true := by
  rw [List.all_map]; simp [flatV, Function.comp_def]
theorem inV_ni (r : Nat) : ∀ R : List Nat, inV (.int (r : Nat)) (ni R) = decide (r ∈ R)
  | [] => rfl
  | x :: R => by
    have ih := inV_ni r R
    unfold inV at ih ⊢
    rw [ni, List.map_cons, List.any_cons, ih]
    show (((x : Nat) : Int) == ((r : Nat) : Int) || decide (r ∈ R)) = decide (r ∈ x :: R)
    by_cases h : x = r
    · subst h; simp
    · have h' : ¬ r = x := fun z => h z.symm
      have h2 : ¬ ((x : Nat) : Int) = ((r : Nat) : Int) := by omega
      simp [h, h', h2]
def Sm (l : List Nat) : Prop := ∀ c ∈ l, c < 1114112
theorem shaped_S {l : List Nat} (h : Sm l) : SeqAt.shaped (.str (S l)) = true := by
  refine shaped_of ?_ (by simp [PyData.depth])
  simp only [pl]
  unfold PyData.strOk
  rw [Array.all_eq_true_iff_forall_mem]
  intro c hc
  exact decide_eq_true (h c (by simpa [S] using hc))
theorem Sm.app {l k : List Nat} (h : Sm l) (g : Sm k) : Sm (l ++ k) := fun c hc => by
  rcases List.mem_append.mp hc with hc | hc
  · exact h c hc
  · exact g c hc
theorem Sm.cons {x : Nat} {k : List Nat} (h : x < 1114112) (g : Sm k) : Sm (x :: k) := fun c hc => by
  rcases List.mem_cons.mp hc with hc | hc
  · rw [hc]; exact h
  · exact g c hc
theorem numL_small (n : Nat) : Sm (TL.numL n) := fun c hc => by
  have := TL.numL_digits n c hc
  omega
theorem title_small (m : Int) : Sm (Pg.title m) := by
  have h : ∀ j : Nat, Sm (Wd.MO.getD j []) := fun j => by
    rcases Nat.lt_or_ge j 12 with h | h
    · have : ∀ j < 12, ∀ c ∈ Wd.MO.getD j [], c < 1114112 := by decide
      exact this j h
    · rw [List.getD_eq_getElem?_getD, List.getElem?_eq_none (by show 12 ≤ j; omega)]
      intro c hc
      cases hc
  exact (h _).app (Sm.cons (by decide) (numL_small _))
theorem joinL_small {ls : List (List Nat)} (h : ∀ l ∈ ls, Sm l) : Sm (TL.joinL [10] ls) := by
  induction ls with
  | nil => exact fun c hc => by cases hc
  | cons l ls ih =>
    cases ls with
    | nil => exact h l List.mem_cons_self
    | cons k ls => exact (h l List.mem_cons_self).app (Sm.cons (by decide) (ih fun x hx => h x (List.mem_cons_of_mem _ hx)))
theorem plain_small {l : List Nat} (h : Pg.Plain l) : Sm l := fun c hc => by
  have := h c hc
  omega
theorem rs_small {l : List Nat} (h : Sm l) : Sm (Pg.rs l) := fun c hc => h c (List.mem_of_mem_take hc)
theorem wks_small {cell : Nat → Wd.W} (hc : ∀ k, k < 40 → Pg.Plain (cell k) ∧ (cell k).length = 3) (f : Int) : ∀ n, n ≤ 40 → ∀ l ∈ (Pg.wks cell (Pg.blanks f) n).1, Sm l
  | 0, _, l, h => by cases h
  | n + 1, hn, l, h => by
    have ih := wks_small hc f n (by omega)
    have I := Pg.wks_ok hc f n (by omega)
    rw [Pg.wks_succ] at h
    unfold Pg.wk at h
    split at h
    · rcases List.mem_append.mp h with h | h
      · exact ih l h
      · rw [List.mem_singleton.mp h]
        refine rs_small (plain_small (Pg.txt_plain fun c hc2 => ?_))
        rcases List.mem_append.mp hc2 with hc2 | hc2
        · exact (I.cells c hc2).1
        · rw [List.mem_singleton.mp hc2]; exact (hc n (by omega)).1
    · exact ih l h
theorem fin_small {cell : Nat → Wd.W} (hc : ∀ k, k < 40 → Pg.Plain (cell k) ∧ (cell k).length = 3) (f : Int) (n : Nat) (hn : n ≤ 40) : ∀ l ∈ Pg.fin (Pg.wks cell (Pg.blanks f) n), Sm l := fun l h => by
  have I := Pg.wks_ok hc f n hn
  unfold Pg.fin at h
  split at h
  · exact wks_small hc f n hn l h
  · rcases List.mem_append.mp h with h | h
    · exact wks_small hc f n hn l h
    · rw [List.mem_singleton.mp h]
      exact rs_small (plain_small (Pg.txt_plain fun c hc2 => (I.cells c hc2).1))
theorem noL_rows (rs : List Pg.Row) : noLAll (rs.map rowD) = true := noLAll_of fun x hx => by
  obtain ⟨e, _, rfl⟩ := List.mem_map.mp hx
  exact noL_row e
abbrev EVENT : List Nat := [101, 118, 101, 110, 116]
abbrev ANN : List Nat := [97, 110, 110]
abbrev BOB : List Nat := [98, 111, 98]
def sp_law (K : PySem.W.Frag) : Sp := fun vs H Q _ => ∃ (a : Addr) (ns : List Int), vs = [.ref a] ∧ SqL K H a (ns.map V.int) ∧ ns.length ≤ 63 ∧ ∀ H', Q (.bl true) H'
theorem ne_sv {c k r} {ws : List Wd.W} : HO.lst (sv ws) ≠ tp c k r := by intro z; unfold tp at z; cases ws <;> simp at z
theorem ok_law (T : Txt K mg a) : FnOk P w K mg base CX0 14 a.f_law a.d_law ["script"] (sp_law K) := by
  refine T.F_law.ok sc_law (fun vs H Q E h => ?_) (fun cdv A outer s H vs Q E hr h => ?_)
  · obtain ⟨b, ns, rfl, _⟩ := h
    rfl
  · obtain ⟨b, ns, rfl, hb, hl, q⟩ := h
    refine ⟨_, (pss_cons (ps_set (i := 1) sc_law.nd rfl (.inl rfl) (pe_call (ok_law_tape T) (hr.mono (by decide)) (by rfl) T.g_law_tape T.F_law_tape.kp T.b_law_tape .nil pass0 (pa_cons (pv 0) pa_nil)))
       (pss_cons (ps_set (i := 2) sc_law.nd rfl (.inl rfl) (pe_lst (pa_cons pe_str (pa_cons pe_str (pa_cons pe_str (pa_cons pe_str (pa_cons pe_str (pa_cons pe_str (pa_cons pe_str (pa_cons pe_str (pa_cons pe_str (pa_cons pe_str (pa_cons pe_str (pa_cons pe_str pa_nil))))))))))))))
       (pss_cons (ps_set (i := 3) sc_law.nd rfl (.inl rfl) (pe_call (ok_law_draw T) (hr.mono (by decide)) (by rfl) T.g_law_draw T.F_law_draw.kp T.b_law_draw .nil pass0 (pa_cons (pv 1) (pa_cons pe_int pa_nil))))
       (pss_cons (ps_set (i := 4) sc_law.nd rfl (.inl rfl) (pe_call (ok_law_month_first T) (hr.mono (by decide)) (by rfl) T.g_law_month_first T.F_law_month_first.kp T.b_law_month_first .nil pass0 (pa_cons pe_str (pa_cons (pv 3) pa_nil))))
       (pss_cons (ps_set (i := 5) sc_law.nd rfl (.inl rfl) (pe_op op_add_str (pe_op op_add_str (pe_ix ix_list (pv 2) (pe_call (ok_law_mod T) (hr.mono (by decide)) (by rfl) T.g_law_mod T.F_law_mod.kp T.b_law_mod .nil pass0 (pa_cons (pv 3) (pa_cons pe_int pa_nil))) (fun _ _ => rfl)) pe_str) (pe_callTy call_str_int (by rfl) T.z_str (by decide +kernel) (pa_cons (pe_op op_add (pe_op op_fdivE (pv 3) pe_int) pe_int) pa_nil))))
       (pss_cons (ps_set (i := 6) sc_law.nd rfl (.inl rfl) (pe_op op_add pe_int (pe_call (ok_law_draw T) (hr.mono (by decide)) (by rfl) T.g_law_draw T.F_law_draw.kp T.b_law_draw .nil pass0 (pa_cons (pv 1) (pa_cons pe_int pa_nil)))))
       (pss_cons (ps_set (i := 7) sc_law.nd rfl (.inl rfl) (pe_call (ok_from_day T) (hr.mono (by decide)) (by rfl) T.g_from_day T.F_from_day.kp T.b_from_day .nil pass0 (pa_cons (pe_callB (call_max2 rfl) (by rfl) T.z_max (by decide +kernel) (pa_cons (pe_op op_sub (pv 4) pe_int) (pa_cons pe_int pa_nil))) (pa_cons (pv 6) (pa_cons (pe_tup (pa_cons (pe_call (ok_law_draw T) (hr.mono (by decide)) (by rfl) T.g_law_draw T.F_law_draw.kp T.b_law_draw .nil pass0 (pa_cons (pv 1) (pa_cons (pv 6) pa_nil))) pa_nil)) pa_nil)))))
       (pss_cons (ps_set (i := 8) sc_law.nd rfl (.inl rfl) (pe_lst (pa_cons (pv 5) (pa_cons pe_str pa_nil))))
       (pss_cons (ps_set (i := 9) sc_law.nd rfl (.inl rfl) (pe_op op_mul_str pe_str (pe_call (ok_law_mod T) (hr.mono (by decide)) (by rfl) T.g_law_mod T.F_law_mod.kp T.b_law_mod .nil pass0 (pa_cons (pv 4) (pa_cons pe_int pa_nil)))))
       (pss_cons (ps_for PassesOwn.never rfl (pi_range1 (by rfl) T.z_range (pa_cons (pe_call (ok_law_length T) (hr.mono (by decide)) (by rfl) T.g_law_length T.F_law_length.kp T.b_law_length .nil pass0 (pa_cons pe_str (pa_cons (pv 3) pa_nil))) pa_nil)) (pg_name (i := 10) sc_law.nd rfl (.inl rfl))
       (pss_cons (ps_set (i := 11) sc_law.nd rfl (.inl rfl) (pe_op op_add (pv 4) (pv 10)))
       (pss_cons (ps_set (i := 12) sc_law.nd rfl (.inl rfl) (pe_and (pe_cmpR op_ge (pv 11) (pe_callB (call_max2 rfl) (by rfl) T.z_max (by decide +kernel) (pa_cons (pe_op op_sub (pv 4) pe_int) (pa_cons pe_int pa_nil))) (nomark _)) (pe_one (pe_cmpR op_in_seq (pe_call (ok_law_mod T) (hr.mono (by decide)) (by rfl) T.g_law_mod T.F_law_mod.kp T.b_law_mod .nil pass0 (pa_cons (pv 11) (pa_cons (pv 6) pa_nil))) (pe_ix ix_tup (pe_ix ix_tup (pv 7) (pe_op op_sub (pe_callB call_len_seq (by rfl) T.z_len (by decide +kernel) (pa_cons (pv 7) pa_nil)) pe_int) (fun _ _ => rfl)) pe_int (fun _ _ => rfl)) rfl))))
       (pss_cons (ps_set (i := 9) sc_law.nd rfl (.inl rfl) (pe_op op_add_str (pe_op op_add_str (pe_op op_add_str (pe_op op_add_str (pv 9) (pe_ix ix_list (pe_lst (pa_cons pe_str (pa_cons pe_str pa_nil))) (pe_callTy call_int1 (by rfl) T.z_int (by decide +kernel) (pa_cons (pe_cmpR op_ge (pv 10) pe_int (nomark _)) pa_nil)) (fun _ _ => rfl))) (pe_callTy call_str_int (by rfl) T.z_str (by decide +kernel) (pa_cons (pe_op op_add (pv 10) pe_int) pa_nil))) (pe_ix ix_list (pe_lst (pa_cons pe_str (pa_cons pe_str pa_nil))) (pe_callTy call_int1 (by rfl) T.z_int (by decide +kernel) (pa_cons (pv 12) pa_nil)) (fun _ _ => rfl))) pe_str))
       (pss_one (ps_if (PW.pt (pw_or (pt_cmpR op_eq (pe_call (ok_law_mod T) (hr.mono (by decide)) (by rfl) T.g_law_mod T.F_law_mod.kp T.b_law_mod .nil pass0 (pa_cons (pv 11) (pa_cons pe_int pa_nil))) pe_int (nomark _)) (pw_or1 (pt_cmpR op_eq (pe_op op_add (pv 10) pe_int) (pe_call (ok_law_length T) (hr.mono (by decide)) (by rfl) T.g_law_length T.F_law_length.kp T.b_law_length .nil pass0 (pa_cons pe_str (pa_cons (pv 3) pa_nil))) (nomark _)))))
       (pss_cons (ps_expr (pe_bm PySem.F.plainAttrs_list PySem.F.slot_list_append PySem.F.type_list_append mt_append (pv 8) (pa_cons (pe_bm PySem.F.plainAttrs_str PySem.F.slot_str_rstrip PySem.F.type_str_rstrip mt_rstripChars (pv 9) (pa_cons pe_str pa_nil)) pa_nil)))
       (pss_one (ps_set (i := 9) sc_law.nd rfl (.inl rfl) pe_str)))
       pss_nil))))))
       (pss_cons (ps_if (PW.pt (pw_or (pt_not (pt_val (pe_call (ok_law_is T) (hr.mono (by decide)) (by rfl) T.g_law_is T.F_law_is.kp T.b_law_is .nil pass0 (pa_cons (pe_call (ok_month_title T) (hr.mono (by decide)) (by rfl) T.g_month_title T.F_month_title.kp T.b_month_title .nil pass0 (pa_cons (pv 3) pa_nil)) (pa_cons (pv 5) pa_nil))))) (pw_or1 (pt_not (pt_val (pe_call (ok_law_is T) (hr.mono (by decide)) (by rfl) T.g_law_is T.F_law_is.kp T.b_law_is .nil pass0 (pa_cons (pe_call (ok_month_page T) (hr.mono (by decide)) (by rfl) T.g_month_page T.F_month_page.kp T.b_month_page .nil pass0 (pa_cons (pv 3) (pa_cons (pv 7) pa_nil))) (pa_cons (pe_join pe_str (pv 8)) pa_nil))))))))
       (pss_one (ps_ret pe_bl))
       pss_nil)
       (pss_cons (ps_set (i := 13) sc_law.nd rfl (.inl rfl) (pe_call (ok_law_zone T) (hr.mono (by decide)) (by rfl) T.g_law_zone T.F_law_zone.kp T.b_law_zone .nil pass0 (pa_cons (pv 1) pa_nil)))
       (pss_cons (ps_set (i := 14) sc_law.nd rfl (.inl rfl) (pe_lst pa_nil))
       (pss_cons (ps_for PassesOwn.never rfl (pi_range1 (by rfl) T.z_range (pa_cons (pe_call (ok_law_draw T) (hr.mono (by decide)) (by rfl) T.g_law_draw T.F_law_draw.kp T.b_law_draw .nil pass0 (pa_cons (pv 1) (pa_cons pe_int pa_nil))) pa_nil)) (pg_name (i := 10) sc_law.nd rfl (.inl rfl))
       (pss_cons (ps_set (i := 15) sc_law.nd rfl (.inl rfl) (pe_op op_add (pe_op op_mul pe_int (pe_op op_add pe_int (pe_call (ok_law_draw T) (hr.mono (by decide)) (by rfl) T.g_law_draw T.F_law_draw.kp T.b_law_draw .nil pass0 (pa_cons (pv 1) (pa_cons pe_int pa_nil))))) (pe_call (ok_law_draw T) (hr.mono (by decide)) (by rfl) T.g_law_draw T.F_law_draw.kp T.b_law_draw .nil pass0 (pa_cons (pv 1) (pa_cons pe_int pa_nil)))))
       (pss_one (ps_expr (pe_bm PySem.F.plainAttrs_list PySem.F.slot_list_append PySem.F.type_list_append mt_append (pv 14) (pa_cons (pe_tup (pa_cons (pv 15) (pa_cons (pe_op op_add (pe_op op_add (pv 15) pe_int) (pe_call (ok_law_draw T) (hr.mono (by decide)) (by rfl) T.g_law_draw T.F_law_draw.kp T.b_law_draw .nil pass0 (pa_cons (pv 1) (pa_cons pe_int pa_nil)))) (pa_cons (pe_ix ix_list (pe_lst (pa_cons pe_non (pa_cons (pe_tup (pa_cons pe_str (pa_cons pe_str (pa_cons pe_str pa_nil)))) (pa_cons (pe_tup (pa_cons pe_str (pa_cons pe_str (pa_cons pe_str pa_nil)))) pa_nil)))) (pe_call (ok_law_draw T) (hr.mono (by decide)) (by rfl) T.g_law_draw T.F_law_draw.kp T.b_law_draw .nil pass0 (pa_cons (pv 1) (pa_cons pe_int pa_nil))) (fun _ _ => rfl)) pa_nil)))) pa_nil))))))
       (pss_cons (ps_set (i := 16) sc_law.nd rfl (.inl rfl) (pe_lst pa_nil))
       (pss_cons (ps_for PassesOwn.never rfl (pi_list (pv 14)) (pg_tup (by rfl) (pgs_cons (pg_name (i := 15) sc_law.nd rfl (.inl rfl)) (pgs_cons (pg_name (i := 17) sc_law.nd rfl (.inl rfl)) (pgs_cons (pg_name (i := 18) sc_law.nd rfl (.inl rfl)) pgs_nil))))
       (C8.pss_cut (ps_set (i := 19) sc_law.nd rfl (.inl rfl) (pe_ifExp (pt_cmpR op_isN (pv 18) pe_non (nomark _)) pe_str (pe_op op_add_str (pe_op op_add_str (pe_ix ix_tup (pv 18) pe_int (fun _ _ => rfl)) pe_str) (pe_ix ix_tup (pv 18) pe_int (fun _ _ => rfl)))))
       (pss_cons (ps_set (i := 20) sc_law.nd rfl (.inl rfl) (pe_op op_add_str (pe_op op_add_str (pe_op op_add_str (pe_op op_add_str (pe_call (ok_law_moment_text T) (hr.mono (by decide)) (by rfl) T.g_law_moment_text T.F_law_moment_text.kp T.b_law_moment_text .nil pass0 (pa_cons (pv 13) (pa_cons (pv 15) pa_nil))) pe_str) (pe_callTy call_str_int (by rfl) T.z_str (by decide +kernel) (pa_cons (pe_op op_sub (pv 17) (pv 15)) pa_nil))) pe_str) (pv 19)))
       (pss_cons (ps_if (PW.pt (pw_or (pt_cmpR op_ne (pe_call (ok_moment_text T) (hr.mono (by decide)) (by rfl) T.g_moment_text T.F_moment_text.kp T.b_moment_text .nil pass0 (pa_cons (pv 13) (pa_cons (pv 15) pa_nil))) (pe_call (ok_law_moment_text T) (hr.mono (by decide)) (by rfl) T.g_law_moment_text T.F_law_moment_text.kp T.b_law_moment_text .nil pass0 (pa_cons (pv 13) (pa_cons (pv 15) pa_nil))) (nomark _)) (pw_or1 (pt_cmpR op_ne (pe_call (ok_row_text T) (hr.mono (by decide)) (by rfl) T.g_row_text T.F_row_text.kp T.b_row_text .nil pass0 (pa_cons (pv 13) (pa_cons (pe_tup (pa_cons (pv 15) (pa_cons (pv 17) (pa_cons (pv 18) pa_nil)))) pa_nil))) (pv 20) (nomark _)))))
       (pss_one (ps_ret pe_bl))
       pss_nil)
       (pss_one (ps_expr (pe_bm PySem.F.plainAttrs_list PySem.F.slot_list_append PySem.F.type_list_append mt_append (pv 16) (pa_cons (pv 20) pa_nil))))))))
       (pss_cons (ps_if (pt_cmpR op_ne (pe_call (ok_sheet_page T) (hr.mono (by decide)) (by rfl) T.g_sheet_page T.F_sheet_page.kp T.b_sheet_page .nil pass0 (pa_cons (pv 13) (pa_cons (pv 14) pa_nil))) (pe_join pe_str (pv 16)) (nomark _))
       (pss_one (ps_ret pe_bl))
       pss_nil)
       (pss_cons (ps_set (i := 21) sc_law.nd rfl (.inl rfl) (pe_call (ok_law_draw T) (hr.mono (by decide)) (by rfl) T.g_law_draw T.F_law_draw.kp T.b_law_draw .nil pass0 (pa_cons (pv 1) (pa_cons pe_int pa_nil))))
       (pss_cons (ps_set (i := 22) sc_law.nd rfl (.inl rfl) (pe_op op_add (pv 21) (pe_call (ok_law_draw T) (hr.mono (by decide)) (by rfl) T.g_law_draw T.F_law_draw.kp T.b_law_draw .nil pass0 (pa_cons (pv 1) (pa_cons (pe_op op_sub pe_int (pv 21)) pa_nil)))))
       (pss_one (ps_ret (pe_cmpR op_eq (pe_call (ok_opening_text T) (hr.mono (by decide)) (by rfl) T.g_opening_text T.F_opening_text.kp T.b_opening_text .nil pass0 (pa_cons (pv 21) (pa_cons (pv 22) pa_nil))) (pe_op op_add_str (pe_op op_add_str (pe_call (ok_law_minute_text T) (hr.mono (by decide)) (by rfl) T.g_law_minute_text T.F_law_minute_text.kp T.b_law_minute_text .nil pass0 (pa_cons (pv 21) pa_nil)) pe_str) (pe_call (ok_law_minute_text T) (hr.mono (by decide)) (by rfl) T.g_law_minute_text T.F_law_minute_text.kp T.b_law_minute_text .nil pass0 (pa_cons (pv 22) pa_nil))) (nomark _))))))))))))))))))))))), ?_⟩
    refine red (σ' := [some (.ref b), none, none, none, none, none, none, none, none, none, none, none, none, none, none, none, none, none, none, none, none, none, none]) rfl ?_
    try dsimp only [cxOf]
    walk_at "go"
    refine ⟨b, _, rfl, hb, by rw [List.length_map]; omega, fun t c hc ht ct => ?_⟩
    have I : Tp t c ns _ := Tp.made hc ht ct
    generalize upd (upd H c (.lst (ns.map V.int))) t (tp c 0 0) = H1 at I
    clear hc ht
    walk_at "go"
    refine nwL (ys := sv Wd.MO) rfl (by show 12 ≤ 1000000; decide) fun Lm H2 _ sm hm => ?_
    replace I := I.same sm
    clear sm
    walk_at "go"
    refine I.draw (by decide) (by decide) fun m H3 m0 m1 I2 rel => ?_
    replace hm := rel _ _ (I.ne hm fun _ _ => ne_sv) hm
    replace I := I2
    clear I2 rel
    walk_at "go"
    refine ⟨m, rfl, fun H4 sm => ?_⟩
    replace I := I.same sm
    replace hm := sm _ _ hm
    clear sm
    walk_at "go"
    refine ⟨m, 12, rfl, by decide, by decide, ?_⟩
    refine g_ixL (SqL.of hm) (at_mod rfl) ?_
    walk_at "go"
    have hml := mo_len (m % 12).toNat
    refine g_catS (b := [32]) (by show _ + 1 ≤ _; omega) ?_
    rw [S_cat]
    walk_at "go"
    have e1 : m / 12 + 1 = (((m / 12 + 1).toNat : Nat) : Int) := by omega
    rw [e1]
    refine g_strI (by omega) ?_
    rw [num_S]
    have h2 := TL.numL_len (k := 5) (by decide) (n := (m / 12 + 1).toNat) (by omega)
    refine g_catS (by rw [List.length_append]; show _ + 1 + _ ≤ _; omega) ?_
    rw [S_cat, List.append_assoc]
    rw [show Wd.MO.getD (m % 12).toNat [] ++ ([32] ++ TL.numL (m / 12 + 1).toNat) = Pg.title m from rfl]
    clear hml h2 e1
    walk_at "go"
    refine I.draw (by decide) (by decide) fun st H5 st0 st1 I2 rel => ?_
    replace I := I2
    clear I2 rel hm
    walk_at "go"
    have hf0 : 0 ≤ Civ.fd m := by have := Civ.fd_le m0; rw [Dg.fd_zero] at this; exact this
    have hf1 : Civ.fd m < 4000000 := by
      have := Civ.fd_le (show m ≤ 100000 by omega)
      have h2 : Civ.fd 100000 < 4000000 := by decide +kernel
      omega
    have hlen := Civ.len_le m
    obtain ⟨s0, hs0, hs01⟩ : ∃ s0 : Nat, (if 0 > Civ.fd m - 20 then (0 : Int) else Civ.fd m - 20) = (s0 : Int) ∧ (s0 : Int) ≤ Civ.fd m := by
      refine ⟨(if 0 > Civ.fd m - 20 then (0 : Int) else Civ.fd m - 20).toNat, ?_, ?_⟩ <;> split <;> omega
    obtain ⟨Pn, hP⟩ := Int.eq_ofNat_of_zero_le (show 0 ≤ 1 + st by omega)
    have hP0 : 1 ≤ Pn := by omega
    have hP1 : Pn ≤ 9 := by omega
    rw [hP]
    clear hP st0 st1
    refine ⟨_, _, rfl, ?_⟩
    rw [hs0]
    walk_at "go"
    refine I.draw (by omega) (by omega) fun r H6 r0 r1 I2 rel => ?_
    replace I := I2
    clear I2 rel
    obtain ⟨r, rfl⟩ := Int.eq_ofNat_of_zero_le r0
    walk_at "go"
    refine nwT (ys := ni [r]) rfl (by show 1 ≤ 1000000; decide) fun rt H7 _ sm hrt => ?_
    replace I := I.same sm
    clear sm
    refine ⟨s0, Pn, r, rt, rfl, SqT.of hrt, hP0, by omega, by omega, fun pa H8 sm hpa => ?_⟩
    replace I := I.same sm
    clear sm hrt r0
    have hfo : ∀ p ∈ Pg.fdp s0 Pn [r], PcOk p := by
      have hpc : ∀ x : Nat, PcOk ((x, Pn, [r]) : Per.Piece) := fun x => ⟨⟨hP0, List.pairwise_singleton _ _, fun y hy => by rw [List.mem_singleton.mp hy]; show r < Pn; omega⟩, by show Pn < 1073741824; omega, by show 1 ≤ 1000; decide⟩
      intro x hx
      unfold Pg.fdp at hx
      split at hx
      · rw [List.mem_singleton.mp hx]; exact hpc 0
      · simp only [List.mem_cons, List.not_mem_nil, or_false] at hx
        rcases hx with rfl | rfl
        · exact ⟨⟨by decide, List.Pairwise.nil, fun y hy => by cases hy⟩, by decide, by decide⟩
        · exact hpc s0
    have hfn : (Pg.fdp s0 Pn [r]).length ≤ 2 := by
      unfold Pg.fdp
      split
      · show 1 ≤ 2; decide
      · show 2 ≤ 2; decide
    have hfz : ∃ p, (Pg.fdp s0 Pn [r])[0]? = some p ∧ p.1 = 0 := by
      unfold Pg.fdp
      split
      · exact ⟨_, rfl, rfl⟩
      · exact ⟨_, rfl, rfl⟩
    have hfl : ∃ qs, Pg.fdp s0 Pn [r] = qs ++ [(s0, Pn, [r])] := by
      unfold Pg.fdp
      split
      · next h => rw [h]; exact ⟨[], rfl⟩
      · exact ⟨[(0, 1, [])], rfl⟩
    have hfin : ∀ d : Nat, s0 ≤ d → Per.inP (Pg.fdp s0 Pn [r]) d = decide (d % Pn ∈ [r]) := fun d h => Pg.fdp_in h
    generalize Pg.fdp s0 Pn [r] = ps at hpa hfo hfn hfz hfl hfin
    walk_at "go"
    refine nwL (ys := sv [Pg.title m, Pg.HEAD]) rfl (by show 2 ≤ 1000000; decide) fun Lr H9 _ sm hLr => ?_
    replace I := I.same sm
    replace hpa := dp_same sm _ hpa
    clear sm
    walk_at "go"
    refine ⟨Civ.fd m, 7, rfl, by decide, by decide, ?_⟩
    walk_at "go"
    refine g_mulS (z := [32, 32, 32, 32]) ⟨by omega, by omega, by decide⟩ ?_
    have ebl : (List.replicate (Civ.fd m % 7).toNat [32, 32, 32, 32]).flatten = Pg.flat (Pg.blanks (Civ.fd m)) := by
      unfold Pg.flat Pg.blanks
      rw [List.map_replicate]; rfl
    rw [ebl]
    clear ebl
    walk_at "go"
    refine ⟨m, rfl, fun H10 sm => ?_⟩
    replace I := I.same sm
    replace hpa := dp_same sm _ hpa
    replace hLr := sm _ _ hLr
    clear sm
    obtain ⟨f, hf⟩ := Int.eq_ofNat_of_zero_le hf0
    obtain ⟨n, hln⟩ := Int.eq_ofNat_of_zero_le (show 0 ≤ Civ.len m by omega)
    rw [hln]
    refine ⟨_, rfl, by omega, by omega, ?_⟩
    rw [Int.toNat_natCast]
    have hcell : ∀ k, k < 40 → Pg.Plain (Pg.cellT (k + 1) (Per.inP ps (f + k))) ∧ (Pg.cellT (k + 1) (Per.inP ps (f + k))).length = 3 := fun k hk => ⟨Pg.cellT_plain _ _, Pg.cellT_len _ (by omega)⟩
    have hW := fun i hi => Pg.wks_ok (cell := fun k => Pg.cellT (k + 1) (Per.inP ps (f + k))) hcell (f : Int) i hi
    have hwl := fun i => Pg.wks_len (fun k => Pg.cellT (k + 1) (Per.inP ps (f + k))) (f : Int) i
    have hz0 : Pg.wks (fun k => Pg.cellT (k + 1) (Per.inP ps (f + k))) (Pg.blanks (f : Int)) 0 = ([], Pg.blanks (f : Int)) := rfl
    have hsucc := fun i => Pg.wks_succ (fun k => Pg.cellT (k + 1) (Per.inP ps (f + k))) (Pg.blanks (f : Int)) i
    rw [hf]
    rw [hf] at hs0 hs01
    generalize hs_ : Pg.wks (fun k => Pg.cellT (k + 1) (Per.inP ps (f + k))) (Pg.blanks (f : Int)) = s_ at hW hz0 hsucc hwl
    have hLc : Lr ≠ c := fun e => by
      have h1 := I.2
      rw [← e, hLr] at h1
      cases ns with
      | nil => cases h1
      | cons x xs => cases h1
    refine for_range (lo := 0) (n := n) (fun i σ' H' => ∃ (w9 : List Nat) (ls : List Wd.W) (y10 y11 y12 : Option V), σ' = [some (.ref b), some (.ref t), some (.ref Lm), some (.int m), some (.int f), some (.str (S (Pg.title m))), some (.int Pn), some (.ref pa), some (.ref Lr), some (.str (S w9)), y10, y11, y12, none, none, none, none, none, none, none, none, none, none] ∧ Tp t c ns H' ∧ Dp K H' (.ref pa) (patD ps) ∧ H' Lr = some (.lst (sv ([Pg.title m, Pg.HEAD] ++ ls))) ∧ (i < n → w9 = Pg.flat (s_ i).2 ∧ ls = (s_ i).1) ∧ (i = n → ls = Pg.fin (s_ n)))
      ⟨_, _, _, _, _, rfl, I, hpa, hLr, fun _ => by rw [hz0]; exact ⟨rfl, rfl⟩, fun e => absurd e (by omega)⟩ ?_ ?_
    · clear I hpa hLr
      rintro i σ' H11 hi ⟨w9, ls, y10, y11, y12, rfl, I, hpa, hLr, hlt, _⟩
      obtain ⟨rfl, rfl⟩ := hlt hi
      clear hlt
      walk_at "go"
      rw [show (f : Int) + (0 + (i : Nat)) = ((f + i : Nat) : Int) by omega]
      refine ⟨_, _, rfl, ?_⟩
      rw [hs0]
      walk_at "go"
      refine iteK (fun _ => ?_) (fun h => absurd (by omega) h)
      walk_at "go"
      refine ⟨((f + i : Nat) : Int), (Pn : Nat), rfl, by omega, by omega, ?_⟩
      obtain ⟨xs, ht, hxs⟩ : ∃ xs, SqT K H11 pa xs ∧ DpAll K H11 xs (ps.map pcD) := by
        cases hpa with
        | tup s d => exact ⟨_, s, d⟩
      obtain ⟨qs, hqs⟩ := hfl
      have hxl := dpAll_len hxs
      rw [hqs, List.map_append] at hxs
      obtain ⟨us, lv, rfl, hus, hlv⟩ := dpAll_last hxs
      obtain ⟨la, lt, rfl, hla, hlt⟩ := pc_inv hlv
      have e1 : atI (us ++ [V.ref la]) (((us ++ [V.ref la]).length : Nat) - 1 : Int) = some (.ref la) := by
        rw [List.length_append, List.length_singleton, show (((us.length + 1 : Nat) : Int) - 1) = ((us.length : Nat) : Int) by omega]
        exact atI_nat (by rw [List.getElem?_append_right (Nat.le_refl _), Nat.sub_self]; rfl)
      walk_at "go"
      refine g_ixT ht e1 ?_
      walk_at "go"
      refine ⟨lt, _, rfl, .inr hlt, rfl, flat_ni _, ?_⟩
      have em : ((f + i : Nat) : Int) % (Pn : Nat) = (((f + i) % Pn : Nat) : Int) := (Int.natCast_emod (f + i) Pn).symm
      rw [em, if_neg (by decide : ¬ (false = true)), inV_ni]
      rw [show decide ((f + i) % Pn ∈ (s0, Pn, [r]).2.2) = Per.inP ps (f + i) from (hfin (f + i) (by omega)).symm]
      clear em e1 hlt hla hlv hxl hxs ht hus hqs
      walk_at "go"
      have hI := hW i (by omega)
      have hnl := TL.numL_len (k := 2) (by decide) (n := i + 1) (by omega)
      have hfw := hI.few
      have hfl : (Pg.flat (s_ i).2).length ≤ 28 := by
        have hall : ∀ cs : List Wd.W, (∀ c ∈ cs, c.length = 3) → (Pg.flat cs).length = 4 * cs.length := fun cs => by
          induction cs with
          | nil => intro _; rfl
          | cons c cs ih =>
            intro h
            have h1 := h c List.mem_cons_self
            have h2 := ih fun x hx => h x (List.mem_cons_of_mem _ hx)
            show ((c ++ [32]) ++ Pg.flat cs).length = _
            rw [List.length_append, List.length_append, h1, h2]
            show 3 + 1 + 4 * cs.length = 4 * (cs.length + 1)
            omega
        rw [hall _ fun c hc => (hI.cells c hc).2]
        omega
      refine nwL (ys := sv [[32], []]) rfl (by show 2 ≤ 1000000; decide) fun La H12 _ sm hLa => ?_
      replace I := I.same sm
      replace hpa := dp_same sm _ hpa
      replace hLr := sm _ _ hLr
      clear sm
      walk_at "go"
      refine g_ixL (v := .str (S (if 9 ≤ i then [] else [32]))) (SqL.of hLa) ?_ ?_
      · by_cases h9 : 9 ≤ i
        · rw [if_pos h9, if_pos (decide_eq_true (by omega))]; rfl
        · rw [if_neg h9, if_neg (by rw [decide_eq_true_eq]; omega)]; rfl
      have he0 : (if 9 ≤ i then [] else [32]) = List.replicate (2 - (TL.numL (i + 1)).length) 32 := by
        have : ∀ i < 40, (if 9 ≤ i then [] else [32]) = List.replicate (2 - (TL.numL (i + 1)).length) 32 := by decide +kernel
        exact this i (by omega)
      rw [he0]
      clear he0 hLa
      refine g_catS (by rw [List.length_replicate]; omega) ?_
      rw [S_cat]
      walk_at "go"
      rw [show (0 : Int) + (i : Nat) + 1 = ((i + 1 : Nat) : Int) by omega]
      refine g_strI (by omega) ?_
      rw [num_S]
      refine g_catS (by rw [List.length_append, List.length_replicate]; omega) ?_
      rw [S_cat]
      walk_at "go"
      refine nwL (ys := sv [[32], [42]]) rfl (by show 2 ≤ 1000000; decide) fun La H13 _ sm hLa => ?_
      replace I := I.same sm
      replace hpa := dp_same sm _ hpa
      replace hLr := sm _ _ hLr
      clear sm
      walk_at "go"
      refine g_ixL (v := .str (S [if Per.inP ps (f + i) = true then 42 else 32])) (SqL.of hLa) (by cases Per.inP ps (f + i) <;> rfl) ?_
      walk_at "go"
      refine g_catS (by rw [List.length_append, List.length_append, List.length_replicate]; show _ + 1 ≤ _; omega) ?_
      rw [S_cat]
      walk_at "go"
      refine g_catS (b := [32]) (by rw [List.length_append, List.length_append, List.length_append, List.length_replicate]; show _ + 1 + 1 ≤ _; omega) ?_
      rw [S_cat]
      have erow : Pg.flat (s_ i).2 ++ List.replicate (2 - (TL.numL (i + 1)).length) 32 ++ TL.numL (i + 1) ++ [if Per.inP ps (f + i) = true then 42 else 32] ++ [32] = Pg.flat ((s_ i).2 ++ [Pg.cellT (i + 1) (Per.inP ps (f + i))]) := by
        rw [Pg.flat_snoc]
        unfold Pg.cellT
        simp only [List.append_assoc]
      rw [erow]
      clear erow hLa
      have hnx : s_ (i + 1) = (if ((s_ i).2 ++ [Pg.cellT (i + 1) (Per.inP ps (f + i))]).length = 7 then ((s_ i).1 ++ [Pg.rs (Wd.txt ((s_ i).2 ++ [Pg.cellT (i + 1) (Per.inP ps (f + i))]))], []) else ((s_ i).1, (s_ i).2 ++ [Pg.cellT (i + 1) (Per.inP ps (f + i))])) := hsucc i
      have hc7 : (((s_ i).2 ++ [Pg.cellT (i + 1) (Per.inP ps (f + i))]).length : Int) = ((f : Int) + i) % 7 + 1 := by
        have := hwl i
        rw [List.length_append, List.length_singleton]
        omega
      have hfc : (Pg.flat ((s_ i).2 ++ [Pg.cellT (i + 1) (Per.inP ps (f + i))])).length ≤ 40 := by
        rw [Pg.flat_snoc, List.length_append, List.length_append, (hcell i (by omega)).2]
        show _ + (3 + 1) ≤ _
        omega
      have hne : (s_ i).2 ++ [Pg.cellT (i + 1) (Per.inP ps (f + i))] ≠ [] := by simp
      have hll := hI.lines
      generalize (s_ i).2 ++ [Pg.cellT (i + 1) (Per.inP ps (f + i))] = cs at hnx hc7 hne hfc
      clear hnl hfw hfl
      walk_at "go"
      refine ⟨_, 7, rfl, by decide, by decide, ?_⟩
      walk_at "go"
      rw [dec_int]
      refine iteK (fun h6 => ?_) (fun h6 => ?_)
      · rw [if_pos (by omega)] at hnx
        have k1 : i + 1 < n → s_ (i + 1) = ((s_ i).1 ++ [Pg.rs (Wd.txt cs)], []) := fun _ => hnx
        have k2 : i + 1 = n → (s_ i).1 ++ [Pg.rs (Wd.txt cs)] = Pg.fin (s_ n) := fun e => by rw [← e, hnx]; rfl
        rw [if_pos rfl]
        walk_at "go"
        refine ⟨.inl ⟨rfl, _, SqL.of hLr⟩, ?_⟩
        walk_at "go"
        refine ⟨rfl, ?_⟩
        walk_at "go"
        refine ⟨S (Pg.flat cs), S [32], rfl, rfl, by rw [S_len]; have := sizeBig; omega, ?_⟩
        rw [rstripChars_S, Pg.rs_flat hne]
        walk_at "go"
        refine ⟨Lr, _, _, rfl, rfl, hLr, by rw [List.length_map, List.length_append]; show 2 + _ < _; have := sizeBig; omega, ?_⟩
        have eL : HO.lst (sv ([Pg.title m, Pg.HEAD] ++ (s_ i).1) ++ [V.str (S (Pg.rs (Wd.txt cs)))]) = .lst (sv ([Pg.title m, Pg.HEAD] ++ ((s_ i).1 ++ [Pg.rs (Wd.txt cs)]))) := by
          rw [← List.append_assoc]
          exact congrArg HO.lst (sv_app _ [Pg.rs (Wd.txt cs)])
        rw [eL]
        replace hpa := dp_keep (KeepT.putL (o := .lst (sv ([Pg.title m, Pg.HEAD] ++ ((s_ i).1 ++ [Pg.rs (Wd.txt cs)])))) hLr) _ (noL_pat ps) hpa
        replace I := I.putF (F := Lr) (o := .lst (sv ([Pg.title m, Pg.HEAD] ++ ((s_ i).1 ++ [Pg.rs (Wd.txt cs)])))) (I.ne hLr fun _ _ => ne_sv) hLc
        walk_at "go"
        exact ⟨[], _, _, _, _, rfl, I, hpa, upd_same, fun h => ⟨(by rw [k1 h]; rfl), (by rw [k1 h])⟩, k2⟩
      · rw [if_neg (by omega)] at hnx
        walk_at "go"
        refine ⟨m, rfl, fun H14 sm => ?_⟩
        replace I := I.same sm
        replace hpa := dp_same sm _ hpa
        replace hLr := sm _ _ hLr
        clear sm
        rw [hln]
        walk_at "go"
        rw [dec_int]
        refine iteK (fun h7 => ?_) (fun h7 => ?_)
        · have k1 : i + 1 < n → s_ (i + 1) = ((s_ i).1 ++ [Pg.rs (Wd.txt cs)], []) := fun h => absurd h (by omega)
          have k2 : i + 1 = n → (s_ i).1 ++ [Pg.rs (Wd.txt cs)] = Pg.fin (s_ n) := fun e => by
            rw [← e, hnx]
            unfold Pg.fin
            rw [if_neg hne]
          walk_at "go"
          refine ⟨.inl ⟨rfl, _, SqL.of hLr⟩, ?_⟩
          walk_at "go"
          refine ⟨rfl, ?_⟩
          walk_at "go"
          refine ⟨S (Pg.flat cs), S [32], rfl, rfl, by rw [S_len]; have := sizeBig; omega, ?_⟩
          rw [rstripChars_S, Pg.rs_flat hne]
          walk_at "go"
          refine ⟨Lr, _, _, rfl, rfl, hLr, by rw [List.length_map, List.length_append]; show 2 + _ < _; have := sizeBig; omega, ?_⟩
          have eL : HO.lst (sv ([Pg.title m, Pg.HEAD] ++ (s_ i).1) ++ [V.str (S (Pg.rs (Wd.txt cs)))]) = .lst (sv ([Pg.title m, Pg.HEAD] ++ ((s_ i).1 ++ [Pg.rs (Wd.txt cs)]))) := by
            rw [← List.append_assoc]
            exact congrArg HO.lst (sv_app _ [Pg.rs (Wd.txt cs)])
          rw [eL]
          replace hpa := dp_keep (KeepT.putL (o := .lst (sv ([Pg.title m, Pg.HEAD] ++ ((s_ i).1 ++ [Pg.rs (Wd.txt cs)])))) hLr) _ (noL_pat ps) hpa
          replace I := I.putF (F := Lr) (o := .lst (sv ([Pg.title m, Pg.HEAD] ++ ((s_ i).1 ++ [Pg.rs (Wd.txt cs)])))) (I.ne hLr fun _ _ => ne_sv) hLc
          walk_at "go"
          exact ⟨[], _, _, _, _, rfl, I, hpa, upd_same, fun h => ⟨(by rw [k1 h]; rfl), (by rw [k1 h])⟩, k2⟩
        · walk_at "go"
          exact ⟨_, _, _, _, _, rfl, I, hpa, hLr, fun _ => by rw [hnx]; exact ⟨rfl, rfl⟩, fun e => absurd e (by omega)⟩
    · rintro σ' H11 ⟨w9, ls, y10, y11, y12, rfl, I, hpa, hLr, hj1, hls⟩
      obtain rfl := hls rfl
      clear hls hj1
      walk_at "go"
      refine ⟨m, rfl, m0, by omega, ?_⟩
      walk_at "go"
      refine ⟨_, _, rfl, .str _ (shaped_S (title_small m)), ?_⟩
      walk_at "go"
      refine iteF ?_
      walk_at "go"
      have hI := hW n (by omega)
      have hll := hI.lines
      have hlln := hI.llen
      have hcs := hI.cells
      have hfew := hI.few
      have hfin2 : (Pg.fin (s_ n)).length ≤ 50 ∧ ∀ l ∈ Pg.fin (s_ n), l.length ≤ 28 := by
        unfold Pg.fin
        split
        · exact ⟨by omega, hlln⟩
        · refine ⟨by rw [List.length_append, List.length_singleton]; omega, fun l hl => ?_⟩
          rcases List.mem_append.mp hl with hl | hl
          · exact hlln l hl
          · rw [List.mem_singleton.mp hl]
            have h28 := Pg.txt_len3 fun c hc => (hcs c hc).2
            have := Pg.rs_len (Wd.txt (s_ n).2)
            omega
      have hsm : Sm (TL.joinL [10] (Pg.title m :: Pg.HEAD :: Pg.fin (s_ n))) := by
        refine joinL_small fun l hl => ?_
        rcases List.mem_cons.mp hl with hl | hl
        · rw [hl]; exact title_small m
        rcases List.mem_cons.mp hl with hl | hl
        · rw [hl]
          have : ∀ c ∈ Pg.HEAD, c < 1114112 := by decide
          exact this
        · rw [← hs_] at hl
          exact fin_small hcell (f : Int) n (by omega) l hl
      have htl := title_len m0 (by omega)
      refine ⟨m, pa, ps, rfl, m0, by omega, hpa, hfo, by omega, hfz, fun H12 sm => ?_⟩
      replace I := I.same sm
      replace hLr := sm _ _ hLr
      rw [hf, hln, Int.toNat_natCast, Int.toNat_natCast, hs_]
      clear sm hpa hfo hfn hfz hfl hfin hcell hW hz0 hsucc hwl hI hll hlln hcs hfew
      generalize Pg.fin (s_ n) = fl at hLr hfin2 hsm
      clear hs_ s_ hs0 hs01 hf0 hf1 hf hlen hln
      walk_at "go"
      refine ⟨⟨_, rfl⟩, ?_⟩
      walk_at "go"
      refine ⟨S [10], Lr, (Pg.title m :: Pg.HEAD :: fl).map S, rfl, rfl, join1 hLr, join2 (m := 30) (fun z hz => ?_) (by decide) (by show 32 * (fl.length + 2) ≤ _; omega), ?_⟩
      · rcases List.mem_cons.mp hz with hz | hz
        · rw [hz]; omega
        rcases List.mem_cons.mp hz with hz | hz
        · rw [hz]; decide
        · have := hfin2.2 z hz; omega
      rw [join_S]
      walk_at "go"
      refine ⟨_, _, rfl, .str _ (shaped_S hsm), ?_⟩
      clear hsm hfin2 hLr htl
      walk_at "go"
      refine iteF ?_
      walk_at "go"
      refine ⟨t, c, ns, rfl, I, fun za zs H13 I2 rel hz ok => ?_⟩
      replace I := I2
      clear I2 rel
      walk_at "go"
      refine nwL (ys := []) rfl (by decide) fun R H14 hR0 sm hR => ?_
      have hRc : R ≠ c := (ne_of_none I.2 hR0).symm
      have hRt : R ≠ t := I.ne_none hR0
      replace I := I.same sm
      replace hz := dp_same sm _ hz
      clear sm hR0
      have nz : noL (zD zs) = true := by simp [zD, noL]; exact noL_zL zs
      walk_at "go"
      refine I.draw (by decide) (by decide) fun k H15 k0 k1 I2 rel => ?_
      replace hz := dp_keep (I.keep rel) _ nz hz
      replace hR := rel _ _ (I.ne hR fun _ _ e => by cases e) hR
      replace I := I2
      clear I2 rel
      obtain ⟨k, rfl⟩ := Int.eq_ofNat_of_zero_le k0
      refine ⟨_, rfl, by omega, by omega, ?_⟩
      rw [Int.toNat_natCast]
      refine for_range (lo := 0) (n := k) (fun i σ' H' => ∃ (xs : List V) (rs : List Pg.Row) (z10 z15 : Option V), σ' = [some (.ref b), some (.ref t), some (.ref Lm), some (.int m), some (.int f), some (.str (S (Pg.title m))), some (.int Pn), some (.ref pa), some (.ref Lr), some (.str (S w9)), z10, y11, y12, some (.ref za), some (.ref R), z15, none, none, none, none, none, none, none] ∧ Tp t c ns H' ∧ Dp K H' (.ref za) (zD zs) ∧ H' R = some (.lst xs) ∧ DpAll K H' xs (rs.map rowD) ∧ (∀ r ∈ rs, RowIn r) ∧ rs.length ≤ i)
        ⟨[], [], _, _, rfl, I, hz, hR, .nil, fun r hr => (by cases hr), Nat.le_refl _⟩ ?_ ?_
      · clear I hz hR
        rintro i σ' H16 hi ⟨xs, rs, z10, z15, rfl, I, hz, hR, hd, hin, hrn⟩
        walk_at "go"
        refine I.draw (by decide) (by decide) fun x1 H17 x10 x11 I2 rel => ?_
        have kp := I.keep rel
        replace hz := dp_keep kp _ nz hz
        replace hd := dpAll_keep kp _ (noL_rows rs) hd
        replace hR := rel _ _ hRt hR
        replace I := I2
        clear I2 rel kp
        walk_at "go"
        refine I.draw (by decide) (by decide) fun x2 H18 x20 x21 I2 rel => ?_
        replace hd := dpAll_keep (I.keep rel) _ (noL_rows rs) hd
        replace hz := dp_keep (I.keep rel) _ nz hz
        replace hR := rel _ _ hRt hR
        replace I := I2
        clear I2 rel
        walk_at "go"
        obtain ⟨s, hs⟩ : ∃ s : Int, s = 1440 * (3 + x1) + x2 := ⟨_, rfl⟩
        rw [← hs]
        have s0 : 4320 ≤ s := by omega
        have s1 : s < 4000000 := by omega
        clear hs x10 x11 x20 x21
        refine ⟨.inl ⟨rfl, _, SqL.of hR⟩, ?_⟩
        walk_at "go"
        refine I.draw (by decide) (by decide) fun x3 H19 x30 x31 I2 rel => ?_
        replace hd := dpAll_keep (I.keep rel) _ (noL_rows rs) hd
        replace hz := dp_keep (I.keep rel) _ nz hz
        replace hR := rel _ _ hRt hR
        replace I := I2
        clear I2 rel
        walk_at "go"
        refine nwT (ys := sv [EVENT, ANN, [109]]) rfl (by show 3 ≤ 1000000; decide) fun u1 H20 _ sm hu1 => ?_
        replace I := I.same sm
        replace hz := dp_same sm _ hz
        replace hd := dpAll_same sm _ hd
        replace hR := sm _ _ hR
        clear sm
        walk_at "go"
        refine nwT (ys := sv [EVENT, BOB, [110, 50]]) rfl (by show 3 ≤ 1000000; decide) fun u2 H21 _ sm hu2 => ?_
        replace I := I.same sm
        replace hz := dp_same sm _ hz
        replace hd := dpAll_same sm _ hd
        replace hR := sm _ _ hR
        replace hu1 := sm _ _ hu1
        clear sm
        walk_at "go"
        refine nwL (ys := [.non, .ref u1, .ref u2]) rfl (by show 3 ≤ 1000000; decide) fun Li H22 _ sm hLi => ?_
        replace I := I.same sm
        replace hz := dp_same sm _ hz
        replace hd := dpAll_same sm _ hd
        replace hR := sm _ _ hR
        replace hu1 := sm _ _ hu1
        replace hu2 := sm _ _ hu2
        clear sm
        walk_at "go"
        refine I.draw (by decide) (by decide) fun j H23 j0 j1 I2 rel => ?_
        replace hd := dpAll_keep (I.keep rel) _ (noL_rows rs) hd
        replace hz := dp_keep (I.keep rel) _ nz hz
        replace hR := rel _ _ hRt hR
        replace hu1 := rel _ _ (I.ne hu1 fun _ _ e => by cases e) hu1
        replace hu2 := rel _ _ (I.ne hu2 fun _ _ e => by cases e) hu2
        replace hLi := rel _ _ (I.ne hLi fun _ _ e => by cases e) hLi
        replace I := I2
        clear I2 rel
        obtain ⟨v, o, hv, hvd, ho⟩ : ∃ v o, atI [.non, .ref u1, .ref u2] j = some v ∧ Dp K H23 v (itD o) ∧ ∀ x y z, o = some (x, y, z) → y.length ≤ 100 ∧ z.length ≤ 100 := by
          obtain ⟨j, rfl⟩ := Int.eq_ofNat_of_zero_le j0
          match j, j1 with
          | 0, _ => exact ⟨.non, none, rfl, .non, fun _ _ _ e => by cases e⟩
          | 1, _ => exact ⟨.ref u1, some (EVENT, ANN, [109]), rfl, .tup (SqT.of hu1) (.cons (.str _) (.cons (.str _) (.cons (.str _) .nil))), fun _ _ _ e => by cases e; decide⟩
          | 2, _ => exact ⟨.ref u2, some (EVENT, BOB, [110, 50]), rfl, .tup (SqT.of hu2) (.cons (.str _) (.cons (.str _) (.cons (.str _) .nil))), fun _ _ _ e => by cases e; decide⟩
          | j + 3, h => exact absurd h (by omega)
        refine g_ixL (SqL.of hLi) hv ?_
        clear hLi hv hu1 hu2 j0 j1
        walk_at "go"
        refine nwT (ys := [.int s, .int (s + 1 + x3), v]) rfl (by show 3 ≤ 1000000; decide) fun ra H24 _ sm hra => ?_
        replace I := I.same sm
        replace hz := dp_same sm _ hz
        replace hd := dpAll_same sm _ hd
        replace hR := sm _ _ hR
        replace hvd := dp_same sm _ hvd
        clear sm
        walk_at "go"
        have hxl := dpAll_len hd
        rw [List.length_map] at hxl
        refine ⟨R, _, _, rfl, rfl, hR, by have := sizeBig; omega, ?_⟩
        have kp : KeepT H24 (upd H24 R (.lst (xs ++ [.ref ra]))) := KeepT.putL hR
        refine ⟨xs ++ [.ref ra], rs ++ [(s, s + 1 + x3, o)], _, _, rfl, I.putF hRt hRc, dp_keep kp _ nz hz, upd_same, ?_, fun r hr => ?_, by rw [List.length_append, List.length_singleton]; omega⟩
        · rw [List.map_append]
          exact dpAll_app (dpAll_keep kp _ (noL_rows rs) hd) (.cons (dp_keep kp _ (noL_row _) (.tup (SqT.of hra) (.cons (.int _) (.cons (.int _) (.cons hvd .nil))))) .nil)
        · rcases List.mem_append.mp hr with hr | hr
          · exact hin r hr
          · rw [List.mem_singleton.mp hr]
            exact ⟨s0, s1, by show 1 ≤ s + 1 + x3 - s ∧ s + 1 + x3 - s ≤ 100000; omega, ho⟩
      · rintro σ' H16 ⟨xs, rs, z10, z15, rfl, I, hz, hR, hd, hin, hrn⟩
        walk_at "go"
        refine nwL (ys := []) rfl (by decide) fun Pg_ H17 hP0 sm hP => ?_
        have hPc : Pg_ ≠ c := (ne_of_none I.2 hP0).symm
        have hPt : Pg_ ≠ t := I.ne_none hP0
        have hPR : Pg_ ≠ R := (ne_of_none hR hP0).symm
        replace I := I.same sm
        replace hz := dp_same sm _ hz
        replace hd := dpAll_same sm _ hd
        replace hR := sm _ _ hR
        clear sm hP0
        walk_at "go"
        have hxl := dpAll_len hd
        rw [List.length_map] at hxl
        refine ⟨R, rfl, ⟨_, SqL.of hR⟩, ?_⟩
        refine for_list (K := K) (a := R) (xs := xs) (fun i σ' H' => ∃ (ts : List Wd.W) (z15 z17 z18 z19 z20 : Option V), σ' = [some (.ref b), some (.ref t), some (.ref Lm), some (.int m), some (.int f), some (.str (S (Pg.title m))), some (.int Pn), some (.ref pa), some (.ref Lr), some (.str (S w9)), z10, y11, y12, some (.ref za), some (.ref R), z15, some (.ref Pg_), z17, z18, z19, z20, none, none] ∧ Tp t c ns H' ∧ Dp K H' (.ref za) (zD zs) ∧ H' R = some (.lst xs) ∧ DpAll K H' xs (rs.map rowD) ∧ H' Pg_ = some (.lst (sv ts)) ∧ Pg.RTs zs (rs.take i) ts)
          ⟨[], _, _, _, _, _, rfl, I, hz, hR, hd, hP, ⟨rfl, fun i r t h => by cases h⟩⟩ (fun i σ' H' _ h => ?_) ?_ ?_
        · obtain ⟨_, _, _, _, _, _, _, _, _, h, _⟩ := h
          exact SqL.of h
        · clear I hz hR hd hP
          rintro i x σ' H18 hi ⟨ts, z15, z17, z18, z19, z20, rfl, I, hz, hR, hd, hP, hts⟩
          obtain ⟨e, hd', hx⟩ := dpAll_at' hd hi
          obtain ⟨r, hr, rfl⟩ : ∃ r, rs[i]? = some r ∧ e = rowD r := by
            rw [List.getElem?_map] at hd'
            cases e : rs[i]? with
            | none => rw [e] at hd'; cases hd'
            | some p => rw [e] at hd'; exact ⟨p, rfl, (Option.some.inj hd').symm⟩
          have hil := (List.getElem?_eq_some_iff.mp hr).1
          have hin1 := hin r (List.mem_of_getElem? hr)
          obtain ⟨ra, u, rfl, hra, hu⟩ := row_inv hx
          have hwl := what_len hin1
          obtain ⟨b0, b1⟩ := hin1.b
          refine g_gtup ⟨ra, _, rfl, hra, rfl, ?_⟩
          walk_at "go"
          refine ⟨fun σ' H' => σ' = [some (.ref b), some (.ref t), some (.ref Lm), some (.int m), some (.int f), some (.str (S (Pg.title m))), some (.int Pn), some (.ref pa), some (.ref Lr), some (.str (S w9)), z10, y11, y12, some (.ref za), some (.ref R), some (.int r.1), some (.ref Pg_), some (.int r.2.1), some u, some (.str (S (Pg.what r.2.2))), z20, none, none] ∧ H' = H18, ?_, ?_⟩
          · walk_at "go"
            cases e : r.2.2 with
            | none =>
              rw [e] at hu
              cases hu
              refine ite_y rfl ?_
              walk_at "go"
              exact ⟨rfl, rfl⟩
            | some x =>
              obtain ⟨x, y, y2⟩ := x
              rw [e] at hu
              have hl := hin1.it x y y2 e
              obtain ⟨ia, rfl, hia⟩ : ∃ ia, u = .ref ia ∧ SqT K H18 ia [.str (S x), .str (S y), .str (S y2)] := by
                cases hu with
                | tup s d =>
                  cases d with
                  | cons d1 d =>
                    cases d with
                    | cons d2 d =>
                      cases d with
                      | cons d3 d =>
                        cases d
                        cases d1
                        cases d2
                        cases d3
                        exact ⟨_, rfl, s⟩
              refine ite_n rfl ?_
              walk_at "go"
              refine g_catS (b := [32]) (by show _ + 1 ≤ _; omega) ?_
              rw [S_cat]
              walk_at "go"
              refine g_catS (by rw [List.length_append]; show _ + 1 + _ ≤ _; omega) ?_
              rw [S_cat, List.append_assoc]
              exact ⟨rfl, rfl⟩
          rintro σ' H18 ⟨rfl, rfl⟩
          clear hra
          walk_at "go"
          refine ⟨za, zs, r.1, rfl, hz, ok, hin1.lo, hin1.hi, fun t1 H19 ht1 sm => ?_⟩
          replace I := I.same sm
          replace hz := dp_same sm _ hz
          replace hd := dpAll_same sm _ hd
          replace hx := dp_same sm _ hx
          replace hu := dp_same sm _ hu
          replace hR := sm _ _ hR
          replace hP := sm _ _ hP
          clear sm
          have htl := ht1.len
          have hRT : Pg.RT zs r (t1 ++ 32 :: (TL.numL (r.2.1 - r.1).toNat ++ 32 :: Pg.what r.2.2)) := ⟨t1, ht1, rfl⟩
          obtain ⟨nn, hn⟩ := Int.eq_ofNat_of_zero_le (show 0 ≤ r.2.1 - r.1 by omega)
          rw [hn, Int.toNat_natCast] at hRT
          rw [hn] at b1
          have hnl := TL.numL_len (k := 6) (by decide) (n := nn) (by omega)
          refine g_catS (b := [32]) (by show _ + 1 ≤ _; omega) ?_
          rw [S_cat]
          walk_at "go"
          rw [hn]
          refine g_strI (by omega) ?_
          rw [num_S]
          refine g_catS (by rw [List.length_append]; show _ + 1 + _ ≤ _; omega) ?_
          rw [S_cat]
          walk_at "go"
          refine g_catS (b := [32]) (by rw [List.length_append, List.length_append]; show _ + 1 + _ + 1 ≤ _; omega) ?_
          rw [S_cat]
          walk_at "go"
          refine g_catS (by rw [List.length_append, List.length_append, List.length_append]; show _ + 1 + _ + 1 + _ ≤ _; omega) ?_
          rw [S_cat]
          rw [show t1 ++ [32] ++ TL.numL nn ++ [32] ++ Pg.what r.2.2 = t1 ++ 32 :: (TL.numL nn ++ 32 :: Pg.what r.2.2) by simp only [List.append_assoc, List.cons_append, List.nil_append]]
          generalize t1 ++ 32 :: (TL.numL nn ++ 32 :: Pg.what r.2.2) = line at hRT
          clear hnl htl hn
          walk_at "go"
          refine ⟨za, zs, r.1, rfl, hz, ok, hin1.lo, hin1.hi, fun t2 H20 ht2 sm => ?_⟩
          replace I := I.same sm
          replace hz := dp_same sm _ hz
          replace hu := dp_same sm _ hu
          replace hd := dpAll_same sm _ hd
          replace hR := sm _ _ hR
          replace hP := sm _ _ hP
          clear sm hx
          walk_at "go"
          refine ⟨za, zs, r.1, rfl, hz, ok, hin1.lo, hin1.hi, fun t3 H21 ht3 sm => ?_⟩
          replace I := I.same sm
          replace hz := dp_same sm _ hz
          replace hu := dp_same sm _ hu
          replace hd := dpAll_same sm _ hd
          replace hR := sm _ _ hR
          replace hP := sm _ _ hP
          clear sm
          obtain rfl := ht3.uniq ok ht2
          walk_at "go"
          rw [decide_eq_true (rfl : V.str (S t3) = V.str (S t3))]
          refine iteF ?_
          walk_at "go"
          refine nwT (ys := [.int r.1, .int r.2.1, u]) rfl (by show 3 ≤ 1000000; decide) fun rb H22 _ sm hrb => ?_
          replace I := I.same sm
          replace hz := dp_same sm _ hz
          replace hu := dp_same sm _ hu
          replace hd := dpAll_same sm _ hd
          replace hR := sm _ _ hR
          replace hP := sm _ _ hP
          clear sm
          refine ⟨za, zs, .ref rb, r, rfl, hz, ok, .tup (SqT.of hrb) (.cons (.int _) (.cons (.int _) (.cons hu .nil))), hin1, fun t4 H23 ht4 sm => ?_⟩
          replace I := I.same sm
          replace hz := dp_same sm _ hz
          replace hd := dpAll_same sm _ hd
          replace hR := sm _ _ hR
          replace hP := sm _ _ hP
          clear sm hu hrb
          obtain rfl := ht4.uniq ok hRT
          walk_at "go"
          rw [decide_eq_true (rfl : V.str (S t4) = V.str (S t4))]
          refine iteF ?_
          walk_at "go"
          refine ⟨.inl ⟨rfl, _, SqL.of hP⟩, ?_⟩
          walk_at "go"
          have htl := hts.1
          rw [List.length_take] at htl
          refine ⟨Pg_, _, _, rfl, rfl, hP, by rw [List.length_map]; have := sizeBig; omega, ?_⟩
          have kp : KeepT H23 (upd H23 Pg_ (.lst (sv ts ++ [V.str (S t4)]))) := KeepT.putL hP
          refine ⟨ts ++ [t4], _, _, _, _, _, rfl, I.putF hPt hPc, dp_keep kp _ nz hz, (upd_ne hPR.symm).trans hR, dpAll_keep kp _ (noL_rows rs) hd, ?_, ?_⟩
          · rw [upd_same]; exact congrArg (fun z => some (HO.lst z)) (sv_app _ [t4])
          · rw [take_more hr]; exact hts.snoc ht4
        · clear I hz hR hd hP
          rintro σ' H18 ⟨ts, z15, z17, z18, z19, z20, rfl, I, hz, hR, hd, hP, hts⟩
          rw [hxl, List.take_length] at hts
          walk_at "go"
          refine ⟨za, R, zs, xs, rs, rfl, hz, ok, hR, hd, hin, by omega, fun us H19 hus sm => ?_⟩
          obtain rfl := hus.uniq ok hts
          replace I := I.same sm
          replace hP := sm _ _ hP
          clear sm hz hd hR
          have hul : ∀ z ∈ us, z.length ≤ 400 := fun z hz => by
            obtain ⟨i, hi⟩ := List.getElem?_of_mem hz
            have hil : i < rs.length := by rw [← hus.1]; exact (List.getElem?_eq_some_iff.mp hi).1
            exact rt_len (hin _ (List.getElem_mem hil)) (hus.2 i _ _ (List.getElem?_eq_getElem hil) hi)
          have hun := hus.1
          walk_at "go"
          refine ⟨⟨_, rfl⟩, ?_⟩
          walk_at "go"
          refine ⟨S [10], Pg_, us.map S, rfl, rfl, join1 hP, join2 (m := 400) hul (by decide) (by omega), ?_⟩
          rw [join_S]
          refine ⟨rfl, ?_⟩
          rw [decide_eq_true (rfl : V.str (S (TL.joinL [10] us)) = V.str (S (TL.joinL [10] us)))]
          refine ⟨_, rfl, ?_⟩
          refine iteF ?_
          clear hP hul hun hts hus
          walk_at "go"
          refine I.draw (by decide) (by decide) fun op H20 o0 o1 I2 rel => ?_
          replace I := I2
          clear I2 rel
          walk_at "go"
          refine I.draw (by omega) (by omega) fun cl H21 c0 c1 I2 rel => ?_
          replace I := I2
          clear I2 rel
          walk_at "go"
          refine ⟨op, op + cl, rfl, o0, by omega, by omega, by omega, ?_⟩
          walk_at "go"
          refine ⟨op, rfl, o0, by omega, ?_⟩
          have l1 := Dg.mw_len op
          have l2 := Dg.mw_len (op + cl)
          refine g_catS (b := [45]) (by show _ + 1 ≤ _; omega) ?_
          rw [S_cat]
          walk_at "go"
          refine ⟨op + cl, rfl, by omega, by omega, ?_⟩
          refine g_catS (by rw [List.length_append]; show _ + 1 + _ ≤ _; omega) ?_
          rw [S_cat, List.append_assoc]
          refine ⟨rfl, ?_⟩
          rw [show (Dg.mw op ++ ([45] ++ Dg.mw (op + cl))) = Dg.mw op ++ 45 :: Dg.mw (op + cl) from rfl]
          rw [decide_eq_true (rfl : V.str (S (Dg.mw op ++ 45 :: Dg.mw (op + cl))) = V.str (S (Dg.mw op ++ 45 :: Dg.mw (op + cl))))]
          exact q _
end
theorem all_mk {l : PySem.W.OpenLaw} {w : World} {K : PySem.W.Frag} {h : Heap} {mg : Str → Option Value} {fa : Addr} (X : K.In h) (G : h.Ns mainGlobals mg) (hfa : mg "law" = some (.ref fa))
    {f_is_leap : Addr} {oc_is_leap : Value} {od_is_leap an_is_leap : Option Addr} {sl_is_leap : Array (Option Value)} {kV_is_leap dc_is_leap pm_is_leap cd_is_leap ct_is_leap : Value}
    {f_year_of_month : Addr} {oc_year_of_month : Value} {od_year_of_month an_year_of_month : Option Addr} {sl_year_of_month : Array (Option Value)} {kV_year_of_month dc_year_of_month pm_year_of_month cd_year_of_month ct_year_of_month : Value}
    {f_month_length : Addr} {oc_month_length : Value} {od_month_length an_month_length : Option Addr} {sl_month_length : Array (Option Value)} {kV_month_length dc_month_length pm_month_length cd_month_length ct_month_length : Value}
    {f_first_day : Addr} {oc_first_day : Value} {od_first_day an_first_day : Option Addr} {sl_first_day : Array (Option Value)} {kV_first_day dc_first_day pm_first_day cd_first_day ct_first_day : Value}
    {f_month_of : Addr} {oc_month_of : Value} {od_month_of an_month_of : Option Addr} {sl_month_of : Array (Option Value)} {kV_month_of dc_month_of pm_month_of cd_month_of ct_month_of : Value}
    {f_date_of : Addr} {oc_date_of : Value} {od_date_of an_date_of : Option Addr} {sl_date_of : Array (Option Value)} {kV_date_of dc_date_of pm_date_of cd_date_of ct_date_of : Value}
    {f_weekday_of : Addr} {oc_weekday_of : Value} {od_weekday_of an_weekday_of : Option Addr} {sl_weekday_of : Array (Option Value)} {kV_weekday_of dc_weekday_of pm_weekday_of cd_weekday_of ct_weekday_of : Value}
    {f_primes_of : Addr} {oc_primes_of : Value} {od_primes_of an_primes_of : Option Addr} {sl_primes_of : Array (Option Value)} {kV_primes_of dc_primes_of pm_primes_of cd_primes_of ct_primes_of : Value}
    {f_place_in : Addr} {oc_place_in : Value} {od_place_in an_place_in : Option Addr} {sl_place_in : Array (Option Value)} {kV_place_in dc_place_in pm_place_in cd_place_in ct_place_in : Value}
    {f_shrunk : Addr} {oc_shrunk : Value} {od_shrunk an_shrunk : Option Addr} {sl_shrunk : Array (Option Value)} {kV_shrunk dc_shrunk pm_shrunk cd_shrunk ct_shrunk : Value}
    {f_repeats : Addr} {oc_repeats : Value} {od_repeats an_repeats : Option Addr} {sl_repeats : Array (Option Value)} {kV_repeats dc_repeats pm_repeats cd_repeats ct_repeats : Value}
    {f_has : Addr} {oc_has : Value} {od_has an_has : Option Addr} {sl_has : Array (Option Value)} {kV_has dc_has pm_has cd_has ct_has : Value}
    {f_tidied : Addr} {oc_tidied : Value} {od_tidied an_tidied : Option Addr} {sl_tidied : Array (Option Value)} {kV_tidied dc_tidied pm_tidied cd_tidied ct_tidied : Value}
    {f_from_day : Addr} {oc_from_day : Value} {od_from_day an_from_day : Option Addr} {sl_from_day : Array (Option Value)} {kV_from_day dc_from_day pm_from_day cd_from_day ct_from_day : Value}
    {f_belongs : Addr} {oc_belongs : Value} {od_belongs an_belongs : Option Addr} {sl_belongs : Array (Option Value)} {kV_belongs dc_belongs pm_belongs cd_belongs ct_belongs : Value}
    {f_padded : Addr} {oc_padded : Value} {od_padded an_padded : Option Addr} {sl_padded : Array (Option Value)} {kV_padded dc_padded pm_padded cd_padded ct_padded : Value}
    {f_day_text : Addr} {oc_day_text : Value} {od_day_text an_day_text : Option Addr} {sl_day_text : Array (Option Value)} {kV_day_text dc_day_text pm_day_text cd_day_text ct_day_text : Value}
    {f_minute_text : Addr} {oc_minute_text : Value} {od_minute_text an_minute_text : Option Addr} {sl_minute_text : Array (Option Value)} {kV_minute_text dc_minute_text pm_minute_text cd_minute_text ct_minute_text : Value}
    {f_offset_on : Addr} {oc_offset_on : Value} {od_offset_on an_offset_on : Option Addr} {sl_offset_on : Array (Option Value)} {kV_offset_on dc_offset_on pm_offset_on cd_offset_on ct_offset_on : Value}
    {f_begin_of : Addr} {oc_begin_of : Value} {od_begin_of an_begin_of : Option Addr} {sl_begin_of : Array (Option Value)} {kV_begin_of dc_begin_of pm_begin_of cd_begin_of ct_begin_of : Value}
    {f_local_of : Addr} {oc_local_of : Value} {od_local_of an_local_of : Option Addr} {sl_local_of : Array (Option Value)} {kV_local_of dc_local_of pm_local_of cd_local_of ct_local_of : Value}
    {f_month_title : Addr} {oc_month_title : Value} {od_month_title an_month_title : Option Addr} {sl_month_title : Array (Option Value)} {kV_month_title dc_month_title pm_month_title cd_month_title ct_month_title : Value}
    {f_cell : Addr} {oc_cell : Value} {od_cell an_cell : Option Addr} {sl_cell : Array (Option Value)} {kV_cell dc_cell pm_cell cd_cell ct_cell : Value}
    {f_month_page : Addr} {oc_month_page : Value} {od_month_page an_month_page : Option Addr} {sl_month_page : Array (Option Value)} {kV_month_page dc_month_page pm_month_page cd_month_page ct_month_page : Value}
    {f_moment_text : Addr} {oc_moment_text : Value} {od_moment_text an_moment_text : Option Addr} {sl_moment_text : Array (Option Value)} {kV_moment_text dc_moment_text pm_moment_text cd_moment_text ct_moment_text : Value}
    {f_row_text : Addr} {oc_row_text : Value} {od_row_text an_row_text : Option Addr} {sl_row_text : Array (Option Value)} {kV_row_text dc_row_text pm_row_text cd_row_text ct_row_text : Value}
    {f_sheet_page : Addr} {oc_sheet_page : Value} {od_sheet_page an_sheet_page : Option Addr} {sl_sheet_page : Array (Option Value)} {kV_sheet_page dc_sheet_page pm_sheet_page cd_sheet_page ct_sheet_page : Value}
    {f_opening_text : Addr} {oc_opening_text : Value} {od_opening_text an_opening_text : Option Addr} {sl_opening_text : Array (Option Value)} {kV_opening_text dc_opening_text pm_opening_text cd_opening_text ct_opening_text : Value}
    {f_law_is : Addr} {oc_law_is : Value} {od_law_is an_law_is : Option Addr} {sl_law_is : Array (Option Value)} {kV_law_is dc_law_is pm_law_is cd_law_is ct_law_is : Value}
    {f_law_draw : Addr} {oc_law_draw : Value} {od_law_draw an_law_draw : Option Addr} {sl_law_draw : Array (Option Value)} {kV_law_draw dc_law_draw pm_law_draw cd_law_draw ct_law_draw : Value}
    {f_law_tape : Addr} {oc_law_tape : Value} {od_law_tape an_law_tape : Option Addr} {sl_law_tape : Array (Option Value)} {kV_law_tape dc_law_tape pm_law_tape cd_law_tape ct_law_tape : Value}
    {f_law_mod : Addr} {oc_law_mod : Value} {od_law_mod an_law_mod : Option Addr} {sl_law_mod : Array (Option Value)} {kV_law_mod dc_law_mod pm_law_mod cd_law_mod ct_law_mod : Value}
    {f_law_leap : Addr} {oc_law_leap : Value} {od_law_leap an_law_leap : Option Addr} {sl_law_leap : Array (Option Value)} {kV_law_leap dc_law_leap pm_law_leap cd_law_leap ct_law_leap : Value}
    {f_law_length : Addr} {oc_law_length : Value} {od_law_length an_law_length : Option Addr} {sl_law_length : Array (Option Value)} {kV_law_length dc_law_length pm_law_length cd_law_length ct_law_length : Value}
    {f_law_year_first : Addr} {oc_law_year_first : Value} {od_law_year_first an_law_year_first : Option Addr} {sl_law_year_first : Array (Option Value)} {kV_law_year_first dc_law_year_first pm_law_year_first cd_law_year_first ct_law_year_first : Value}
    {f_law_month_first : Addr} {oc_law_month_first : Value} {od_law_month_first an_law_month_first : Option Addr} {sl_law_month_first : Array (Option Value)} {kV_law_month_first dc_law_month_first pm_law_month_first cd_law_month_first ct_law_month_first : Value}
    {f_law_month_at : Addr} {oc_law_month_at : Value} {od_law_month_at an_law_month_at : Option Addr} {sl_law_month_at : Array (Option Value)} {kV_law_month_at dc_law_month_at pm_law_month_at cd_law_month_at ct_law_month_at : Value}
    {f_law_zone : Addr} {oc_law_zone : Value} {od_law_zone an_law_zone : Option Addr} {sl_law_zone : Array (Option Value)} {kV_law_zone dc_law_zone pm_law_zone cd_law_zone ct_law_zone : Value}
    {f_law_offset : Addr} {oc_law_offset : Value} {od_law_offset an_law_offset : Option Addr} {sl_law_offset : Array (Option Value)} {kV_law_offset dc_law_offset pm_law_offset cd_law_offset ct_law_offset : Value}
    {f_law_begin : Addr} {oc_law_begin : Value} {od_law_begin an_law_begin : Option Addr} {sl_law_begin : Array (Option Value)} {kV_law_begin dc_law_begin pm_law_begin cd_law_begin ct_law_begin : Value}
    {f_law_digits2 : Addr} {oc_law_digits2 : Value} {od_law_digits2 an_law_digits2 : Option Addr} {sl_law_digits2 : Array (Option Value)} {kV_law_digits2 dc_law_digits2 pm_law_digits2 cd_law_digits2 ct_law_digits2 : Value}
    {f_law_day_text : Addr} {oc_law_day_text : Value} {od_law_day_text an_law_day_text : Option Addr} {sl_law_day_text : Array (Option Value)} {kV_law_day_text dc_law_day_text pm_law_day_text cd_law_day_text ct_law_day_text : Value}
    {f_law_minute_text : Addr} {oc_law_minute_text : Value} {od_law_minute_text an_law_minute_text : Option Addr} {sl_law_minute_text : Array (Option Value)} {kV_law_minute_text dc_law_minute_text pm_law_minute_text cd_law_minute_text ct_law_minute_text : Value}
    {f_law_moment_text : Addr} {oc_law_moment_text : Value} {od_law_moment_text an_law_moment_text : Option Addr} {sl_law_moment_text : Array (Option Value)} {kV_law_moment_text dc_law_moment_text pm_law_moment_text cd_law_moment_text ct_law_moment_text : Value}
    {f_law : Addr} {oc_law : Value} {od_law an_law : Option Addr} {sl_law : Array (Option Value)} {kV_law dc_law pm_law cd_law ct_law : Value}
    {C_BadDate : Addr}
    {C_DaysError : Addr} {M_DaysError : Value}
    {A_LENGTHS : Addr} {o_LENGTHS : Obj}
    {A_BEFORE : Addr} {o_BEFORE : Obj}
    {tk_CYCLE_MONTHS : Tok}
    {tk_CYCLE_DAYS : Tok}
    {tk_YEAR_MOST : Tok}
    {A_WEEKDAYS : Addr} {o_WEEKDAYS : Obj}
    {A_MONTHS : Addr} {o_MONTHS : Obj}
    {tk_MINUTES : Tok}
    (a_is_leap : PySem.W.nsIn K mainGlobals "is_leap" = some (some (.ref f_is_leap)))
    (l_is_leap : K.lookup f_is_leap = some ⟨oc_is_leap, od_is_leap, .func (PySem.W.fnOf "is_leap" "is_leap" (defArgs s_is_leap) (defBody s_is_leap) (defScope s_is_leap) .none kV_is_leap dc_is_leap pm_is_leap an_is_leap cd_is_leap ct_is_leap), sl_is_leap⟩)
    (c_is_leap : PySem.W.codeIn K cd_is_leap "is_leap" = true)
    (k_is_leap : PySem.W.keepIn K (.ref f_is_leap) = true)
    (a_year_of_month : PySem.W.nsIn K mainGlobals "year_of_month" = some (some (.ref f_year_of_month)))
    (l_year_of_month : K.lookup f_year_of_month = some ⟨oc_year_of_month, od_year_of_month, .func (PySem.W.fnOf "year_of_month" "year_of_month" (defArgs s_year_of_month) (defBody s_year_of_month) (defScope s_year_of_month) .none kV_year_of_month dc_year_of_month pm_year_of_month an_year_of_month cd_year_of_month ct_year_of_month), sl_year_of_month⟩)
    (c_year_of_month : PySem.W.codeIn K cd_year_of_month "year_of_month" = true)
    (k_year_of_month : PySem.W.keepIn K (.ref f_year_of_month) = true)
    (a_month_length : PySem.W.nsIn K mainGlobals "month_length" = some (some (.ref f_month_length)))
    (l_month_length : K.lookup f_month_length = some ⟨oc_month_length, od_month_length, .func (PySem.W.fnOf "month_length" "month_length" (defArgs s_month_length) (defBody s_month_length) (defScope s_month_length) .none kV_month_length dc_month_length pm_month_length an_month_length cd_month_length ct_month_length), sl_month_length⟩)
    (c_month_length : PySem.W.codeIn K cd_month_length "month_length" = true)
    (k_month_length : PySem.W.keepIn K (.ref f_month_length) = true)
    (a_first_day : PySem.W.nsIn K mainGlobals "first_day" = some (some (.ref f_first_day)))
    (l_first_day : K.lookup f_first_day = some ⟨oc_first_day, od_first_day, .func (PySem.W.fnOf "first_day" "first_day" (defArgs s_first_day) (defBody s_first_day) (defScope s_first_day) .none kV_first_day dc_first_day pm_first_day an_first_day cd_first_day ct_first_day), sl_first_day⟩)
    (c_first_day : PySem.W.codeIn K cd_first_day "first_day" = true)
    (k_first_day : PySem.W.keepIn K (.ref f_first_day) = true)
    (a_month_of : PySem.W.nsIn K mainGlobals "month_of" = some (some (.ref f_month_of)))
    (l_month_of : K.lookup f_month_of = some ⟨oc_month_of, od_month_of, .func (PySem.W.fnOf "month_of" "month_of" (defArgs s_month_of) (defBody s_month_of) (defScope s_month_of) .none kV_month_of dc_month_of pm_month_of an_month_of cd_month_of ct_month_of), sl_month_of⟩)
    (c_month_of : PySem.W.codeIn K cd_month_of "month_of" = true)
    (k_month_of : PySem.W.keepIn K (.ref f_month_of) = true)
    (a_date_of : PySem.W.nsIn K mainGlobals "date_of" = some (some (.ref f_date_of)))
    (l_date_of : K.lookup f_date_of = some ⟨oc_date_of, od_date_of, .func (PySem.W.fnOf "date_of" "date_of" (defArgs s_date_of) (defBody s_date_of) (defScope s_date_of) .none kV_date_of dc_date_of pm_date_of an_date_of cd_date_of ct_date_of), sl_date_of⟩)
    (c_date_of : PySem.W.codeIn K cd_date_of "date_of" = true)
    (k_date_of : PySem.W.keepIn K (.ref f_date_of) = true)
    (a_weekday_of : PySem.W.nsIn K mainGlobals "weekday_of" = some (some (.ref f_weekday_of)))
    (l_weekday_of : K.lookup f_weekday_of = some ⟨oc_weekday_of, od_weekday_of, .func (PySem.W.fnOf "weekday_of" "weekday_of" (defArgs s_weekday_of) (defBody s_weekday_of) (defScope s_weekday_of) .none kV_weekday_of dc_weekday_of pm_weekday_of an_weekday_of cd_weekday_of ct_weekday_of), sl_weekday_of⟩)
    (c_weekday_of : PySem.W.codeIn K cd_weekday_of "weekday_of" = true)
    (k_weekday_of : PySem.W.keepIn K (.ref f_weekday_of) = true)
    (a_primes_of : PySem.W.nsIn K mainGlobals "primes_of" = some (some (.ref f_primes_of)))
    (l_primes_of : K.lookup f_primes_of = some ⟨oc_primes_of, od_primes_of, .func (PySem.W.fnOf "primes_of" "primes_of" (defArgs s_primes_of) (defBody s_primes_of) (defScope s_primes_of) .none kV_primes_of dc_primes_of pm_primes_of an_primes_of cd_primes_of ct_primes_of), sl_primes_of⟩)
    (c_primes_of : PySem.W.codeIn K cd_primes_of "primes_of" = true)
    (k_primes_of : PySem.W.keepIn K (.ref f_primes_of) = true)
    (a_place_in : PySem.W.nsIn K mainGlobals "place_in" = some (some (.ref f_place_in)))
    (l_place_in : K.lookup f_place_in = some ⟨oc_place_in, od_place_in, .func (PySem.W.fnOf "place_in" "place_in" (defArgs s_place_in) (defBody s_place_in) (defScope s_place_in) .none kV_place_in dc_place_in pm_place_in an_place_in cd_place_in ct_place_in), sl_place_in⟩)
    (c_place_in : PySem.W.codeIn K cd_place_in "place_in" = true)
    (k_place_in : PySem.W.keepIn K (.ref f_place_in) = true)
    (a_shrunk : PySem.W.nsIn K mainGlobals "shrunk" = some (some (.ref f_shrunk)))
    (l_shrunk : K.lookup f_shrunk = some ⟨oc_shrunk, od_shrunk, .func (PySem.W.fnOf "shrunk" "shrunk" (defArgs s_shrunk) (defBody s_shrunk) (defScope s_shrunk) .none kV_shrunk dc_shrunk pm_shrunk an_shrunk cd_shrunk ct_shrunk), sl_shrunk⟩)
    (c_shrunk : PySem.W.codeIn K cd_shrunk "shrunk" = true)
    (k_shrunk : PySem.W.keepIn K (.ref f_shrunk) = true)
    (a_repeats : PySem.W.nsIn K mainGlobals "repeats" = some (some (.ref f_repeats)))
    (l_repeats : K.lookup f_repeats = some ⟨oc_repeats, od_repeats, .func (PySem.W.fnOf "repeats" "repeats" (defArgs s_repeats) (defBody s_repeats) (defScope s_repeats) .none kV_repeats dc_repeats pm_repeats an_repeats cd_repeats ct_repeats), sl_repeats⟩)
    (c_repeats : PySem.W.codeIn K cd_repeats "repeats" = true)
    (k_repeats : PySem.W.keepIn K (.ref f_repeats) = true)
    (a_has : PySem.W.nsIn K mainGlobals "has" = some (some (.ref f_has)))
    (l_has : K.lookup f_has = some ⟨oc_has, od_has, .func (PySem.W.fnOf "has" "has" (defArgs s_has) (defBody s_has) (defScope s_has) .none kV_has dc_has pm_has an_has cd_has ct_has), sl_has⟩)
    (c_has : PySem.W.codeIn K cd_has "has" = true)
    (k_has : PySem.W.keepIn K (.ref f_has) = true)
    (a_tidied : PySem.W.nsIn K mainGlobals "tidied" = some (some (.ref f_tidied)))
    (l_tidied : K.lookup f_tidied = some ⟨oc_tidied, od_tidied, .func (PySem.W.fnOf "tidied" "tidied" (defArgs s_tidied) (defBody s_tidied) (defScope s_tidied) .none kV_tidied dc_tidied pm_tidied an_tidied cd_tidied ct_tidied), sl_tidied⟩)
    (c_tidied : PySem.W.codeIn K cd_tidied "tidied" = true)
    (k_tidied : PySem.W.keepIn K (.ref f_tidied) = true)
    (a_from_day : PySem.W.nsIn K mainGlobals "from_day" = some (some (.ref f_from_day)))
    (l_from_day : K.lookup f_from_day = some ⟨oc_from_day, od_from_day, .func (PySem.W.fnOf "from_day" "from_day" (defArgs s_from_day) (defBody s_from_day) (defScope s_from_day) .none kV_from_day dc_from_day pm_from_day an_from_day cd_from_day ct_from_day), sl_from_day⟩)
    (c_from_day : PySem.W.codeIn K cd_from_day "from_day" = true)
    (k_from_day : PySem.W.keepIn K (.ref f_from_day) = true)
    (a_belongs : PySem.W.nsIn K mainGlobals "belongs" = some (some (.ref f_belongs)))
    (l_belongs : K.lookup f_belongs = some ⟨oc_belongs, od_belongs, .func (PySem.W.fnOf "belongs" "belongs" (defArgs s_belongs) (defBody s_belongs) (defScope s_belongs) .none kV_belongs dc_belongs pm_belongs an_belongs cd_belongs ct_belongs), sl_belongs⟩)
    (c_belongs : PySem.W.codeIn K cd_belongs "belongs" = true)
    (k_belongs : PySem.W.keepIn K (.ref f_belongs) = true)
    (a_padded : PySem.W.nsIn K mainGlobals "padded" = some (some (.ref f_padded)))
    (l_padded : K.lookup f_padded = some ⟨oc_padded, od_padded, .func (PySem.W.fnOf "padded" "padded" (defArgs s_padded) (defBody s_padded) (defScope s_padded) .none kV_padded dc_padded pm_padded an_padded cd_padded ct_padded), sl_padded⟩)
    (c_padded : PySem.W.codeIn K cd_padded "padded" = true)
    (k_padded : PySem.W.keepIn K (.ref f_padded) = true)
    (a_day_text : PySem.W.nsIn K mainGlobals "day_text" = some (some (.ref f_day_text)))
    (l_day_text : K.lookup f_day_text = some ⟨oc_day_text, od_day_text, .func (PySem.W.fnOf "day_text" "day_text" (defArgs s_day_text) (defBody s_day_text) (defScope s_day_text) .none kV_day_text dc_day_text pm_day_text an_day_text cd_day_text ct_day_text), sl_day_text⟩)
    (c_day_text : PySem.W.codeIn K cd_day_text "day_text" = true)
    (k_day_text : PySem.W.keepIn K (.ref f_day_text) = true)
    (a_minute_text : PySem.W.nsIn K mainGlobals "minute_text" = some (some (.ref f_minute_text)))
    (l_minute_text : K.lookup f_minute_text = some ⟨oc_minute_text, od_minute_text, .func (PySem.W.fnOf "minute_text" "minute_text" (defArgs s_minute_text) (defBody s_minute_text) (defScope s_minute_text) .none kV_minute_text dc_minute_text pm_minute_text an_minute_text cd_minute_text ct_minute_text), sl_minute_text⟩)
    (c_minute_text : PySem.W.codeIn K cd_minute_text "minute_text" = true)
    (k_minute_text : PySem.W.keepIn K (.ref f_minute_text) = true)
    (a_offset_on : PySem.W.nsIn K mainGlobals "offset_on" = some (some (.ref f_offset_on)))
    (l_offset_on : K.lookup f_offset_on = some ⟨oc_offset_on, od_offset_on, .func (PySem.W.fnOf "offset_on" "offset_on" (defArgs s_offset_on) (defBody s_offset_on) (defScope s_offset_on) .none kV_offset_on dc_offset_on pm_offset_on an_offset_on cd_offset_on ct_offset_on), sl_offset_on⟩)
    (c_offset_on : PySem.W.codeIn K cd_offset_on "offset_on" = true)
    (k_offset_on : PySem.W.keepIn K (.ref f_offset_on) = true)
    (a_begin_of : PySem.W.nsIn K mainGlobals "begin_of" = some (some (.ref f_begin_of)))
    (l_begin_of : K.lookup f_begin_of = some ⟨oc_begin_of, od_begin_of, .func (PySem.W.fnOf "begin_of" "begin_of" (defArgs s_begin_of) (defBody s_begin_of) (defScope s_begin_of) .none kV_begin_of dc_begin_of pm_begin_of an_begin_of cd_begin_of ct_begin_of), sl_begin_of⟩)
    (c_begin_of : PySem.W.codeIn K cd_begin_of "begin_of" = true)
    (k_begin_of : PySem.W.keepIn K (.ref f_begin_of) = true)
    (a_local_of : PySem.W.nsIn K mainGlobals "local_of" = some (some (.ref f_local_of)))
    (l_local_of : K.lookup f_local_of = some ⟨oc_local_of, od_local_of, .func (PySem.W.fnOf "local_of" "local_of" (defArgs s_local_of) (defBody s_local_of) (defScope s_local_of) .none kV_local_of dc_local_of pm_local_of an_local_of cd_local_of ct_local_of), sl_local_of⟩)
    (c_local_of : PySem.W.codeIn K cd_local_of "local_of" = true)
    (k_local_of : PySem.W.keepIn K (.ref f_local_of) = true)
    (a_month_title : PySem.W.nsIn K mainGlobals "month_title" = some (some (.ref f_month_title)))
    (l_month_title : K.lookup f_month_title = some ⟨oc_month_title, od_month_title, .func (PySem.W.fnOf "month_title" "month_title" (defArgs s_month_title) (defBody s_month_title) (defScope s_month_title) .none kV_month_title dc_month_title pm_month_title an_month_title cd_month_title ct_month_title), sl_month_title⟩)
    (c_month_title : PySem.W.codeIn K cd_month_title "month_title" = true)
    (k_month_title : PySem.W.keepIn K (.ref f_month_title) = true)
    (a_cell : PySem.W.nsIn K mainGlobals "cell" = some (some (.ref f_cell)))
    (l_cell : K.lookup f_cell = some ⟨oc_cell, od_cell, .func (PySem.W.fnOf "cell" "cell" (defArgs s_cell) (defBody s_cell) (defScope s_cell) .none kV_cell dc_cell pm_cell an_cell cd_cell ct_cell), sl_cell⟩)
    (c_cell : PySem.W.codeIn K cd_cell "cell" = true)
    (k_cell : PySem.W.keepIn K (.ref f_cell) = true)
    (a_month_page : PySem.W.nsIn K mainGlobals "month_page" = some (some (.ref f_month_page)))
    (l_month_page : K.lookup f_month_page = some ⟨oc_month_page, od_month_page, .func (PySem.W.fnOf "month_page" "month_page" (defArgs s_month_page) (defBody s_month_page) (defScope s_month_page) .none kV_month_page dc_month_page pm_month_page an_month_page cd_month_page ct_month_page), sl_month_page⟩)
    (c_month_page : PySem.W.codeIn K cd_month_page "month_page" = true)
    (k_month_page : PySem.W.keepIn K (.ref f_month_page) = true)
    (a_moment_text : PySem.W.nsIn K mainGlobals "moment_text" = some (some (.ref f_moment_text)))
    (l_moment_text : K.lookup f_moment_text = some ⟨oc_moment_text, od_moment_text, .func (PySem.W.fnOf "moment_text" "moment_text" (defArgs s_moment_text) (defBody s_moment_text) (defScope s_moment_text) .none kV_moment_text dc_moment_text pm_moment_text an_moment_text cd_moment_text ct_moment_text), sl_moment_text⟩)
    (c_moment_text : PySem.W.codeIn K cd_moment_text "moment_text" = true)
    (k_moment_text : PySem.W.keepIn K (.ref f_moment_text) = true)
    (a_row_text : PySem.W.nsIn K mainGlobals "row_text" = some (some (.ref f_row_text)))
    (l_row_text : K.lookup f_row_text = some ⟨oc_row_text, od_row_text, .func (PySem.W.fnOf "row_text" "row_text" (defArgs s_row_text) (defBody s_row_text) (defScope s_row_text) .none kV_row_text dc_row_text pm_row_text an_row_text cd_row_text ct_row_text), sl_row_text⟩)
    (c_row_text : PySem.W.codeIn K cd_row_text "row_text" = true)
    (k_row_text : PySem.W.keepIn K (.ref f_row_text) = true)
    (a_sheet_page : PySem.W.nsIn K mainGlobals "sheet_page" = some (some (.ref f_sheet_page)))
    (l_sheet_page : K.lookup f_sheet_page = some ⟨oc_sheet_page, od_sheet_page, .func (PySem.W.fnOf "sheet_page" "sheet_page" (defArgs s_sheet_page) (defBody s_sheet_page) (defScope s_sheet_page) .none kV_sheet_page dc_sheet_page pm_sheet_page an_sheet_page cd_sheet_page ct_sheet_page), sl_sheet_page⟩)
    (c_sheet_page : PySem.W.codeIn K cd_sheet_page "sheet_page" = true)
    (k_sheet_page : PySem.W.keepIn K (.ref f_sheet_page) = true)
    (a_opening_text : PySem.W.nsIn K mainGlobals "opening_text" = some (some (.ref f_opening_text)))
    (l_opening_text : K.lookup f_opening_text = some ⟨oc_opening_text, od_opening_text, .func (PySem.W.fnOf "opening_text" "opening_text" (defArgs s_opening_text) (defBody s_opening_text) (defScope s_opening_text) .none kV_opening_text dc_opening_text pm_opening_text an_opening_text cd_opening_text ct_opening_text), sl_opening_text⟩)
    (c_opening_text : PySem.W.codeIn K cd_opening_text "opening_text" = true)
    (k_opening_text : PySem.W.keepIn K (.ref f_opening_text) = true)
    (a_law_is : PySem.W.nsIn K mainGlobals "_law_is" = some (some (.ref f_law_is)))
    (l_law_is : K.lookup f_law_is = some ⟨oc_law_is, od_law_is, .func (PySem.W.fnOf "_law_is" "_law_is" (defArgs s_law_is) (defBody s_law_is) (defScope s_law_is) .none kV_law_is dc_law_is pm_law_is an_law_is cd_law_is ct_law_is), sl_law_is⟩)
    (c_law_is : PySem.W.codeIn K cd_law_is "_law_is" = true)
    (k_law_is : PySem.W.keepIn K (.ref f_law_is) = true)
    (a_law_draw : PySem.W.nsIn K mainGlobals "_law_draw" = some (some (.ref f_law_draw)))
    (l_law_draw : K.lookup f_law_draw = some ⟨oc_law_draw, od_law_draw, .func (PySem.W.fnOf "_law_draw" "_law_draw" (defArgs s_law_draw) (defBody s_law_draw) (defScope s_law_draw) .none kV_law_draw dc_law_draw pm_law_draw an_law_draw cd_law_draw ct_law_draw), sl_law_draw⟩)
    (c_law_draw : PySem.W.codeIn K cd_law_draw "_law_draw" = true)
    (k_law_draw : PySem.W.keepIn K (.ref f_law_draw) = true)
    (a_law_tape : PySem.W.nsIn K mainGlobals "_law_tape" = some (some (.ref f_law_tape)))
    (l_law_tape : K.lookup f_law_tape = some ⟨oc_law_tape, od_law_tape, .func (PySem.W.fnOf "_law_tape" "_law_tape" (defArgs s_law_tape) (defBody s_law_tape) (defScope s_law_tape) .none kV_law_tape dc_law_tape pm_law_tape an_law_tape cd_law_tape ct_law_tape), sl_law_tape⟩)
    (c_law_tape : PySem.W.codeIn K cd_law_tape "_law_tape" = true)
    (k_law_tape : PySem.W.keepIn K (.ref f_law_tape) = true)
    (a_law_mod : PySem.W.nsIn K mainGlobals "_law_mod" = some (some (.ref f_law_mod)))
    (l_law_mod : K.lookup f_law_mod = some ⟨oc_law_mod, od_law_mod, .func (PySem.W.fnOf "_law_mod" "_law_mod" (defArgs s_law_mod) (defBody s_law_mod) (defScope s_law_mod) .none kV_law_mod dc_law_mod pm_law_mod an_law_mod cd_law_mod ct_law_mod), sl_law_mod⟩)
    (c_law_mod : PySem.W.codeIn K cd_law_mod "_law_mod" = true)
    (k_law_mod : PySem.W.keepIn K (.ref f_law_mod) = true)
    (a_law_leap : PySem.W.nsIn K mainGlobals "_law_leap" = some (some (.ref f_law_leap)))
    (l_law_leap : K.lookup f_law_leap = some ⟨oc_law_leap, od_law_leap, .func (PySem.W.fnOf "_law_leap" "_law_leap" (defArgs s_law_leap) (defBody s_law_leap) (defScope s_law_leap) .none kV_law_leap dc_law_leap pm_law_leap an_law_leap cd_law_leap ct_law_leap), sl_law_leap⟩)
    (c_law_leap : PySem.W.codeIn K cd_law_leap "_law_leap" = true)
    (k_law_leap : PySem.W.keepIn K (.ref f_law_leap) = true)
    (a_law_length : PySem.W.nsIn K mainGlobals "_law_length" = some (some (.ref f_law_length)))
    (l_law_length : K.lookup f_law_length = some ⟨oc_law_length, od_law_length, .func (PySem.W.fnOf "_law_length" "_law_length" (defArgs s_law_length) (defBody s_law_length) (defScope s_law_length) .none kV_law_length dc_law_length pm_law_length an_law_length cd_law_length ct_law_length), sl_law_length⟩)
    (c_law_length : PySem.W.codeIn K cd_law_length "_law_length" = true)
    (k_law_length : PySem.W.keepIn K (.ref f_law_length) = true)
    (a_law_year_first : PySem.W.nsIn K mainGlobals "_law_year_first" = some (some (.ref f_law_year_first)))
    (l_law_year_first : K.lookup f_law_year_first = some ⟨oc_law_year_first, od_law_year_first, .func (PySem.W.fnOf "_law_year_first" "_law_year_first" (defArgs s_law_year_first) (defBody s_law_year_first) (defScope s_law_year_first) .none kV_law_year_first dc_law_year_first pm_law_year_first an_law_year_first cd_law_year_first ct_law_year_first), sl_law_year_first⟩)
    (c_law_year_first : PySem.W.codeIn K cd_law_year_first "_law_year_first" = true)
    (k_law_year_first : PySem.W.keepIn K (.ref f_law_year_first) = true)
    (a_law_month_first : PySem.W.nsIn K mainGlobals "_law_month_first" = some (some (.ref f_law_month_first)))
    (l_law_month_first : K.lookup f_law_month_first = some ⟨oc_law_month_first, od_law_month_first, .func (PySem.W.fnOf "_law_month_first" "_law_month_first" (defArgs s_law_month_first) (defBody s_law_month_first) (defScope s_law_month_first) .none kV_law_month_first dc_law_month_first pm_law_month_first an_law_month_first cd_law_month_first ct_law_month_first), sl_law_month_first⟩)
    (c_law_month_first : PySem.W.codeIn K cd_law_month_first "_law_month_first" = true)
    (k_law_month_first : PySem.W.keepIn K (.ref f_law_month_first) = true)
    (a_law_month_at : PySem.W.nsIn K mainGlobals "_law_month_at" = some (some (.ref f_law_month_at)))
    (l_law_month_at : K.lookup f_law_month_at = some ⟨oc_law_month_at, od_law_month_at, .func (PySem.W.fnOf "_law_month_at" "_law_month_at" (defArgs s_law_month_at) (defBody s_law_month_at) (defScope s_law_month_at) .none kV_law_month_at dc_law_month_at pm_law_month_at an_law_month_at cd_law_month_at ct_law_month_at), sl_law_month_at⟩)
    (c_law_month_at : PySem.W.codeIn K cd_law_month_at "_law_month_at" = true)
    (k_law_month_at : PySem.W.keepIn K (.ref f_law_month_at) = true)
    (a_law_zone : PySem.W.nsIn K mainGlobals "_law_zone" = some (some (.ref f_law_zone)))
    (l_law_zone : K.lookup f_law_zone = some ⟨oc_law_zone, od_law_zone, .func (PySem.W.fnOf "_law_zone" "_law_zone" (defArgs s_law_zone) (defBody s_law_zone) (defScope s_law_zone) .none kV_law_zone dc_law_zone pm_law_zone an_law_zone cd_law_zone ct_law_zone), sl_law_zone⟩)
    (c_law_zone : PySem.W.codeIn K cd_law_zone "_law_zone" = true)
    (k_law_zone : PySem.W.keepIn K (.ref f_law_zone) = true)
    (a_law_offset : PySem.W.nsIn K mainGlobals "_law_offset" = some (some (.ref f_law_offset)))
    (l_law_offset : K.lookup f_law_offset = some ⟨oc_law_offset, od_law_offset, .func (PySem.W.fnOf "_law_offset" "_law_offset" (defArgs s_law_offset) (defBody s_law_offset) (defScope s_law_offset) .none kV_law_offset dc_law_offset pm_law_offset an_law_offset cd_law_offset ct_law_offset), sl_law_offset⟩)
    (c_law_offset : PySem.W.codeIn K cd_law_offset "_law_offset" = true)
    (k_law_offset : PySem.W.keepIn K (.ref f_law_offset) = true)
    (a_law_begin : PySem.W.nsIn K mainGlobals "_law_begin" = some (some (.ref f_law_begin)))
    (l_law_begin : K.lookup f_law_begin = some ⟨oc_law_begin, od_law_begin, .func (PySem.W.fnOf "_law_begin" "_law_begin" (defArgs s_law_begin) (defBody s_law_begin) (defScope s_law_begin) .none kV_law_begin dc_law_begin pm_law_begin an_law_begin cd_law_begin ct_law_begin), sl_law_begin⟩)
    (c_law_begin : PySem.W.codeIn K cd_law_begin "_law_begin" = true)
    (k_law_begin : PySem.W.keepIn K (.ref f_law_begin) = true)
    (a_law_digits2 : PySem.W.nsIn K mainGlobals "_law_digits2" = some (some (.ref f_law_digits2)))
    (l_law_digits2 : K.lookup f_law_digits2 = some ⟨oc_law_digits2, od_law_digits2, .func (PySem.W.fnOf "_law_digits2" "_law_digits2" (defArgs s_law_digits2) (defBody s_law_digits2) (defScope s_law_digits2) .none kV_law_digits2 dc_law_digits2 pm_law_digits2 an_law_digits2 cd_law_digits2 ct_law_digits2), sl_law_digits2⟩)
    (c_law_digits2 : PySem.W.codeIn K cd_law_digits2 "_law_digits2" = true)
    (k_law_digits2 : PySem.W.keepIn K (.ref f_law_digits2) = true)
    (a_law_day_text : PySem.W.nsIn K mainGlobals "_law_day_text" = some (some (.ref f_law_day_text)))
    (l_law_day_text : K.lookup f_law_day_text = some ⟨oc_law_day_text, od_law_day_text, .func (PySem.W.fnOf "_law_day_text" "_law_day_text" (defArgs s_law_day_text) (defBody s_law_day_text) (defScope s_law_day_text) .none kV_law_day_text dc_law_day_text pm_law_day_text an_law_day_text cd_law_day_text ct_law_day_text), sl_law_day_text⟩)
    (c_law_day_text : PySem.W.codeIn K cd_law_day_text "_law_day_text" = true)
    (k_law_day_text : PySem.W.keepIn K (.ref f_law_day_text) = true)
    (a_law_minute_text : PySem.W.nsIn K mainGlobals "_law_minute_text" = some (some (.ref f_law_minute_text)))
    (l_law_minute_text : K.lookup f_law_minute_text = some ⟨oc_law_minute_text, od_law_minute_text, .func (PySem.W.fnOf "_law_minute_text" "_law_minute_text" (defArgs s_law_minute_text) (defBody s_law_minute_text) (defScope s_law_minute_text) .none kV_law_minute_text dc_law_minute_text pm_law_minute_text an_law_minute_text cd_law_minute_text ct_law_minute_text), sl_law_minute_text⟩)
    (c_law_minute_text : PySem.W.codeIn K cd_law_minute_text "_law_minute_text" = true)
    (k_law_minute_text : PySem.W.keepIn K (.ref f_law_minute_text) = true)
    (a_law_moment_text : PySem.W.nsIn K mainGlobals "_law_moment_text" = some (some (.ref f_law_moment_text)))
    (l_law_moment_text : K.lookup f_law_moment_text = some ⟨oc_law_moment_text, od_law_moment_text, .func (PySem.W.fnOf "_law_moment_text" "_law_moment_text" (defArgs s_law_moment_text) (defBody s_law_moment_text) (defScope s_law_moment_text) .none kV_law_moment_text dc_law_moment_text pm_law_moment_text an_law_moment_text cd_law_moment_text ct_law_moment_text), sl_law_moment_text⟩)
    (c_law_moment_text : PySem.W.codeIn K cd_law_moment_text "_law_moment_text" = true)
    (k_law_moment_text : PySem.W.keepIn K (.ref f_law_moment_text) = true)
    (a_law : PySem.W.nsIn K mainGlobals "law" = some (some (.ref f_law)))
    (l_law : K.lookup f_law = some ⟨oc_law, od_law, .func (PySem.W.fnOf "law" "law" (defArgs s_law) (defBody s_law) (defScope s_law) .none kV_law dc_law pm_law an_law cd_law ct_law), sl_law⟩)
    (c_law : PySem.W.codeIn K cd_law "law" = true)
    (k_law : PySem.W.keepIn K (.ref f_law) = true)
    (aC_BadDate : PySem.W.nsIn K mainGlobals "BadDate" = some (some (.ref C_BadDate)))
    (r_BadDate : PySem.W.subIn K (.ref C_BadDate) (.type "BaseException") = some true)
    (t_BadDate : PySem.W.typeIn K (.ref C_BadDate) = some (.type "type"))
    (k_BadDate : PySem.W.keepIn K (.ref C_BadDate) = true)
    (ic_BadDate : PySem.W.isClsIn K C_BadDate = true)
    (xI_BadDate : PySem.W.excIn K C_BadDate [.type "ValueError", .type "Exception", .type "BaseException", .type "object"] "ValueError.__new__" = true)
    (aC_DaysError : PySem.W.nsIn K mainGlobals "DaysError" = some (some (.ref C_DaysError)))
    (ty_DaysError : PySem.W.typeIn K (.ref C_DaysError) = some M_DaysError)
    (rd_DaysError : PySem.W.readsIn K C_DaysError M_DaysError = true)
    (gs_DaysError : PySem.W.specialIn K (.ref C_DaysError) "__getattribute__" = some (some (.builtin "type.__getattribute__")))
    (fc_DaysError : PySem.W.findCls K (.ref C_DaysError) M_DaysError "__init__" = some (.val (.builtin "ValueError.__init__")))
    (z_len : PySem.W.nsIn K mainGlobals "len" = some none)
    (z_int : PySem.W.nsIn K mainGlobals "int" = some none)
    (z_str : PySem.W.nsIn K mainGlobals "str" = some none)
    (z_list : PySem.W.nsIn K mainGlobals "list" = some none)
    (z_range : PySem.W.nsIn K mainGlobals "range" = some none)
    (z_divmod : PySem.W.nsIn K mainGlobals "divmod" = some none)
    (z_all : PySem.W.nsIn K mainGlobals "all" = some none)
    (z_tuple : PySem.W.nsIn K mainGlobals "tuple" = some none)
    (z_set : PySem.W.nsIn K mainGlobals "set" = some none)
    (z_max : PySem.W.nsIn K mainGlobals "max" = some none)
    (z_min : PySem.W.nsIn K mainGlobals "min" = some none)
    (z_isinstance : PySem.W.nsIn K mainGlobals "isinstance" = some none)
    (z_bool : PySem.W.nsIn K mainGlobals "bool" = some none)
    (g_LENGTHS : PySem.W.nsIn K mainGlobals "LENGTHS" = some (some (.ref A_LENGTHS)))
    (h_LENGTHS : K.lookup A_LENGTHS = some o_LENGTHS)
    (hs_LENGTHS : absT o_LENGTHS = some ([31, 28, 31, 30, 31, 30, 31, 31, 30, 31, 30, 31].map V.int))
    (ht_LENGTHS : o_LENGTHS.cls = .type "tuple")
    (hu_LENGTHS : o_LENGTHS.dict = none)
    (g_BEFORE : PySem.W.nsIn K mainGlobals "BEFORE" = some (some (.ref A_BEFORE)))
    (h_BEFORE : K.lookup A_BEFORE = some o_BEFORE)
    (hs_BEFORE : absT o_BEFORE = some ([0, 31, 59, 90, 120, 151, 181, 212, 243, 273, 304, 334].map V.int))
    (ht_BEFORE : o_BEFORE.cls = .type "tuple")
    (hu_BEFORE : o_BEFORE.dict = none)
    (g_CYCLE_MONTHS : PySem.W.nsIn K mainGlobals "CYCLE_MONTHS" = some (some (.int 4800 tk_CYCLE_MONTHS)))
    (g_CYCLE_DAYS : PySem.W.nsIn K mainGlobals "CYCLE_DAYS" = some (some (.int 146097 tk_CYCLE_DAYS)))
    (g_YEAR_MOST : PySem.W.nsIn K mainGlobals "YEAR_MOST" = some (some (.int 9999 tk_YEAR_MOST)))
    (g_WEEKDAYS : PySem.W.nsIn K mainGlobals "WEEKDAYS" = some (some (.ref A_WEEKDAYS)))
    (h_WEEKDAYS : K.lookup A_WEEKDAYS = some o_WEEKDAYS)
    (hs_WEEKDAYS : absT o_WEEKDAYS = some (Wd.WD.map fun z => V.str (S z)))
    (ht_WEEKDAYS : o_WEEKDAYS.cls = .type "tuple")
    (hu_WEEKDAYS : o_WEEKDAYS.dict = none)
    (g_MONTHS : PySem.W.nsIn K mainGlobals "MONTHS" = some (some (.ref A_MONTHS)))
    (h_MONTHS : K.lookup A_MONTHS = some o_MONTHS)
    (hs_MONTHS : absT o_MONTHS = some (Wd.MO.map fun z => V.str (S z)))
    (ht_MONTHS : o_MONTHS.cls = .type "tuple")
    (hu_MONTHS : o_MONTHS.dict = none)
    (g_MINUTES : PySem.W.nsIn K mainGlobals "MINUTES" = some (some (.int 1440 tk_MINUTES))) :
    ∃ fd : FuncData, (∀ (s : Shared) (v : Value), BindsTo s fd ⟨[v], []⟩ [("script", v)]) ∧ ∀ base : Heap, K.In base → base.Ns mainGlobals mg → FnOk l.prog w K mg base CX0 14 fa fd ["script"] (sp_law K) := by
  have e := hfa.symm.trans (PySem.W.mg_of X G a_law)
  cases e
  have T : Txt K mg { f_is_leap := f_is_leap, d_is_leap := (PySem.W.fnOf "is_leap" "is_leap" (defArgs s_is_leap) (defBody s_is_leap) (defScope s_is_leap) .none kV_is_leap dc_is_leap pm_is_leap an_is_leap cd_is_leap ct_is_leap), f_year_of_month := f_year_of_month, d_year_of_month := (PySem.W.fnOf "year_of_month" "year_of_month" (defArgs s_year_of_month) (defBody s_year_of_month) (defScope s_year_of_month) .none kV_year_of_month dc_year_of_month pm_year_of_month an_year_of_month cd_year_of_month ct_year_of_month), f_month_length := f_month_length, d_month_length := (PySem.W.fnOf "month_length" "month_length" (defArgs s_month_length) (defBody s_month_length) (defScope s_month_length) .none kV_month_length dc_month_length pm_month_length an_month_length cd_month_length ct_month_length), f_first_day := f_first_day, d_first_day := (PySem.W.fnOf "first_day" "first_day" (defArgs s_first_day) (defBody s_first_day) (defScope s_first_day) .none kV_first_day dc_first_day pm_first_day an_first_day cd_first_day ct_first_day), f_month_of := f_month_of, d_month_of := (PySem.W.fnOf "month_of" "month_of" (defArgs s_month_of) (defBody s_month_of) (defScope s_month_of) .none kV_month_of dc_month_of pm_month_of an_month_of cd_month_of ct_month_of), f_date_of := f_date_of, d_date_of := (PySem.W.fnOf "date_of" "date_of" (defArgs s_date_of) (defBody s_date_of) (defScope s_date_of) .none kV_date_of dc_date_of pm_date_of an_date_of cd_date_of ct_date_of), f_weekday_of := f_weekday_of, d_weekday_of := (PySem.W.fnOf "weekday_of" "weekday_of" (defArgs s_weekday_of) (defBody s_weekday_of) (defScope s_weekday_of) .none kV_weekday_of dc_weekday_of pm_weekday_of an_weekday_of cd_weekday_of ct_weekday_of), f_primes_of := f_primes_of, d_primes_of := (PySem.W.fnOf "primes_of" "primes_of" (defArgs s_primes_of) (defBody s_primes_of) (defScope s_primes_of) .none kV_primes_of dc_primes_of pm_primes_of an_primes_of cd_primes_of ct_primes_of), f_place_in := f_place_in, d_place_in := (PySem.W.fnOf "place_in" "place_in" (defArgs s_place_in) (defBody s_place_in) (defScope s_place_in) .none kV_place_in dc_place_in pm_place_in an_place_in cd_place_in ct_place_in), f_shrunk := f_shrunk, d_shrunk := (PySem.W.fnOf "shrunk" "shrunk" (defArgs s_shrunk) (defBody s_shrunk) (defScope s_shrunk) .none kV_shrunk dc_shrunk pm_shrunk an_shrunk cd_shrunk ct_shrunk), f_repeats := f_repeats, d_repeats := (PySem.W.fnOf "repeats" "repeats" (defArgs s_repeats) (defBody s_repeats) (defScope s_repeats) .none kV_repeats dc_repeats pm_repeats an_repeats cd_repeats ct_repeats), f_has := f_has, d_has := (PySem.W.fnOf "has" "has" (defArgs s_has) (defBody s_has) (defScope s_has) .none kV_has dc_has pm_has an_has cd_has ct_has), f_tidied := f_tidied, d_tidied := (PySem.W.fnOf "tidied" "tidied" (defArgs s_tidied) (defBody s_tidied) (defScope s_tidied) .none kV_tidied dc_tidied pm_tidied an_tidied cd_tidied ct_tidied), f_from_day := f_from_day, d_from_day := (PySem.W.fnOf "from_day" "from_day" (defArgs s_from_day) (defBody s_from_day) (defScope s_from_day) .none kV_from_day dc_from_day pm_from_day an_from_day cd_from_day ct_from_day), f_belongs := f_belongs, d_belongs := (PySem.W.fnOf "belongs" "belongs" (defArgs s_belongs) (defBody s_belongs) (defScope s_belongs) .none kV_belongs dc_belongs pm_belongs an_belongs cd_belongs ct_belongs), f_padded := f_padded, d_padded := (PySem.W.fnOf "padded" "padded" (defArgs s_padded) (defBody s_padded) (defScope s_padded) .none kV_padded dc_padded pm_padded an_padded cd_padded ct_padded), f_day_text := f_day_text, d_day_text := (PySem.W.fnOf "day_text" "day_text" (defArgs s_day_text) (defBody s_day_text) (defScope s_day_text) .none kV_day_text dc_day_text pm_day_text an_day_text cd_day_text ct_day_text), f_minute_text := f_minute_text, d_minute_text := (PySem.W.fnOf "minute_text" "minute_text" (defArgs s_minute_text) (defBody s_minute_text) (defScope s_minute_text) .none kV_minute_text dc_minute_text pm_minute_text an_minute_text cd_minute_text ct_minute_text), f_offset_on := f_offset_on, d_offset_on := (PySem.W.fnOf "offset_on" "offset_on" (defArgs s_offset_on) (defBody s_offset_on) (defScope s_offset_on) .none kV_offset_on dc_offset_on pm_offset_on an_offset_on cd_offset_on ct_offset_on), f_begin_of := f_begin_of, d_begin_of := (PySem.W.fnOf "begin_of" "begin_of" (defArgs s_begin_of) (defBody s_begin_of) (defScope s_begin_of) .none kV_begin_of dc_begin_of pm_begin_of an_begin_of cd_begin_of ct_begin_of), f_local_of := f_local_of, d_local_of := (PySem.W.fnOf "local_of" "local_of" (defArgs s_local_of) (defBody s_local_of) (defScope s_local_of) .none kV_local_of dc_local_of pm_local_of an_local_of cd_local_of ct_local_of), f_month_title := f_month_title, d_month_title := (PySem.W.fnOf "month_title" "month_title" (defArgs s_month_title) (defBody s_month_title) (defScope s_month_title) .none kV_month_title dc_month_title pm_month_title an_month_title cd_month_title ct_month_title), f_cell := f_cell, d_cell := (PySem.W.fnOf "cell" "cell" (defArgs s_cell) (defBody s_cell) (defScope s_cell) .none kV_cell dc_cell pm_cell an_cell cd_cell ct_cell), f_month_page := f_month_page, d_month_page := (PySem.W.fnOf "month_page" "month_page" (defArgs s_month_page) (defBody s_month_page) (defScope s_month_page) .none kV_month_page dc_month_page pm_month_page an_month_page cd_month_page ct_month_page), f_moment_text := f_moment_text, d_moment_text := (PySem.W.fnOf "moment_text" "moment_text" (defArgs s_moment_text) (defBody s_moment_text) (defScope s_moment_text) .none kV_moment_text dc_moment_text pm_moment_text an_moment_text cd_moment_text ct_moment_text), f_row_text := f_row_text, d_row_text := (PySem.W.fnOf "row_text" "row_text" (defArgs s_row_text) (defBody s_row_text) (defScope s_row_text) .none kV_row_text dc_row_text pm_row_text an_row_text cd_row_text ct_row_text), f_sheet_page := f_sheet_page, d_sheet_page := (PySem.W.fnOf "sheet_page" "sheet_page" (defArgs s_sheet_page) (defBody s_sheet_page) (defScope s_sheet_page) .none kV_sheet_page dc_sheet_page pm_sheet_page an_sheet_page cd_sheet_page ct_sheet_page), f_opening_text := f_opening_text, d_opening_text := (PySem.W.fnOf "opening_text" "opening_text" (defArgs s_opening_text) (defBody s_opening_text) (defScope s_opening_text) .none kV_opening_text dc_opening_text pm_opening_text an_opening_text cd_opening_text ct_opening_text), f_law_is := f_law_is, d_law_is := (PySem.W.fnOf "_law_is" "_law_is" (defArgs s_law_is) (defBody s_law_is) (defScope s_law_is) .none kV_law_is dc_law_is pm_law_is an_law_is cd_law_is ct_law_is), f_law_draw := f_law_draw, d_law_draw := (PySem.W.fnOf "_law_draw" "_law_draw" (defArgs s_law_draw) (defBody s_law_draw) (defScope s_law_draw) .none kV_law_draw dc_law_draw pm_law_draw an_law_draw cd_law_draw ct_law_draw), f_law_tape := f_law_tape, d_law_tape := (PySem.W.fnOf "_law_tape" "_law_tape" (defArgs s_law_tape) (defBody s_law_tape) (defScope s_law_tape) .none kV_law_tape dc_law_tape pm_law_tape an_law_tape cd_law_tape ct_law_tape), f_law_mod := f_law_mod, d_law_mod := (PySem.W.fnOf "_law_mod" "_law_mod" (defArgs s_law_mod) (defBody s_law_mod) (defScope s_law_mod) .none kV_law_mod dc_law_mod pm_law_mod an_law_mod cd_law_mod ct_law_mod), f_law_leap := f_law_leap, d_law_leap := (PySem.W.fnOf "_law_leap" "_law_leap" (defArgs s_law_leap) (defBody s_law_leap) (defScope s_law_leap) .none kV_law_leap dc_law_leap pm_law_leap an_law_leap cd_law_leap ct_law_leap), f_law_length := f_law_length, d_law_length := (PySem.W.fnOf "_law_length" "_law_length" (defArgs s_law_length) (defBody s_law_length) (defScope s_law_length) .none kV_law_length dc_law_length pm_law_length an_law_length cd_law_length ct_law_length), f_law_year_first := f_law_year_first, d_law_year_first := (PySem.W.fnOf "_law_year_first" "_law_year_first" (defArgs s_law_year_first) (defBody s_law_year_first) (defScope s_law_year_first) .none kV_law_year_first dc_law_year_first pm_law_year_first an_law_year_first cd_law_year_first ct_law_year_first), f_law_month_first := f_law_month_first, d_law_month_first := (PySem.W.fnOf "_law_month_first" "_law_month_first" (defArgs s_law_month_first) (defBody s_law_month_first) (defScope s_law_month_first) .none kV_law_month_first dc_law_month_first pm_law_month_first an_law_month_first cd_law_month_first ct_law_month_first), f_law_month_at := f_law_month_at, d_law_month_at := (PySem.W.fnOf "_law_month_at" "_law_month_at" (defArgs s_law_month_at) (defBody s_law_month_at) (defScope s_law_month_at) .none kV_law_month_at dc_law_month_at pm_law_month_at an_law_month_at cd_law_month_at ct_law_month_at), f_law_zone := f_law_zone, d_law_zone := (PySem.W.fnOf "_law_zone" "_law_zone" (defArgs s_law_zone) (defBody s_law_zone) (defScope s_law_zone) .none kV_law_zone dc_law_zone pm_law_zone an_law_zone cd_law_zone ct_law_zone), f_law_offset := f_law_offset, d_law_offset := (PySem.W.fnOf "_law_offset" "_law_offset" (defArgs s_law_offset) (defBody s_law_offset) (defScope s_law_offset) .none kV_law_offset dc_law_offset pm_law_offset an_law_offset cd_law_offset ct_law_offset), f_law_begin := f_law_begin, d_law_begin := (PySem.W.fnOf "_law_begin" "_law_begin" (defArgs s_law_begin) (defBody s_law_begin) (defScope s_law_begin) .none kV_law_begin dc_law_begin pm_law_begin an_law_begin cd_law_begin ct_law_begin), f_law_digits2 := f_law_digits2, d_law_digits2 := (PySem.W.fnOf "_law_digits2" "_law_digits2" (defArgs s_law_digits2) (defBody s_law_digits2) (defScope s_law_digits2) .none kV_law_digits2 dc_law_digits2 pm_law_digits2 an_law_digits2 cd_law_digits2 ct_law_digits2), f_law_day_text := f_law_day_text, d_law_day_text := (PySem.W.fnOf "_law_day_text" "_law_day_text" (defArgs s_law_day_text) (defBody s_law_day_text) (defScope s_law_day_text) .none kV_law_day_text dc_law_day_text pm_law_day_text an_law_day_text cd_law_day_text ct_law_day_text), f_law_minute_text := f_law_minute_text, d_law_minute_text := (PySem.W.fnOf "_law_minute_text" "_law_minute_text" (defArgs s_law_minute_text) (defBody s_law_minute_text) (defScope s_law_minute_text) .none kV_law_minute_text dc_law_minute_text pm_law_minute_text an_law_minute_text cd_law_minute_text ct_law_minute_text), f_law_moment_text := f_law_moment_text, d_law_moment_text := (PySem.W.fnOf "_law_moment_text" "_law_moment_text" (defArgs s_law_moment_text) (defBody s_law_moment_text) (defScope s_law_moment_text) .none kV_law_moment_text dc_law_moment_text pm_law_moment_text an_law_moment_text cd_law_moment_text ct_law_moment_text), f_law := fa, d_law := (PySem.W.fnOf "law" "law" (defArgs s_law) (defBody s_law) (defScope s_law) .none kV_law dc_law pm_law an_law cd_law ct_law), C_BadDate := C_BadDate, C_DaysError := C_DaysError, A_LENGTHS := A_LENGTHS, A_BEFORE := A_BEFORE, A_WEEKDAYS := A_WEEKDAYS, A_MONTHS := A_MONTHS, M_DaysError := M_DaysError } := {
    F_is_leap := fun_mk (st := s_is_leap) l_is_leap c_is_leap k_is_leap
    b_is_leap := (fun_mk (st := s_is_leap) l_is_leap c_is_leap k_is_leap).binds (ps := ["year"]) fun _ _ _ _ _ _ us hl => match us, hl with | [_], _ => rfl
    g_is_leap := PySem.W.mg_of X G a_is_leap
    F_year_of_month := fun_mk (st := s_year_of_month) l_year_of_month c_year_of_month k_year_of_month
    b_year_of_month := (fun_mk (st := s_year_of_month) l_year_of_month c_year_of_month k_year_of_month).binds (ps := ["m"]) fun _ _ _ _ _ _ us hl => match us, hl with | [_], _ => rfl
    g_year_of_month := PySem.W.mg_of X G a_year_of_month
    F_month_length := fun_mk (st := s_month_length) l_month_length c_month_length k_month_length
    b_month_length := (fun_mk (st := s_month_length) l_month_length c_month_length k_month_length).binds (ps := ["m"]) fun _ _ _ _ _ _ us hl => match us, hl with | [_], _ => rfl
    g_month_length := PySem.W.mg_of X G a_month_length
    F_first_day := fun_mk (st := s_first_day) l_first_day c_first_day k_first_day
    b_first_day := (fun_mk (st := s_first_day) l_first_day c_first_day k_first_day).binds (ps := ["m"]) fun _ _ _ _ _ _ us hl => match us, hl with | [_], _ => rfl
    g_first_day := PySem.W.mg_of X G a_first_day
    F_month_of := fun_mk (st := s_month_of) l_month_of c_month_of k_month_of
    b_month_of := (fun_mk (st := s_month_of) l_month_of c_month_of k_month_of).binds (ps := ["day"]) fun _ _ _ _ _ _ us hl => match us, hl with | [_], _ => rfl
    g_month_of := PySem.W.mg_of X G a_month_of
    F_date_of := fun_mk (st := s_date_of) l_date_of c_date_of k_date_of
    b_date_of := (fun_mk (st := s_date_of) l_date_of c_date_of k_date_of).binds (ps := ["day"]) fun _ _ _ _ _ _ us hl => match us, hl with | [_], _ => rfl
    g_date_of := PySem.W.mg_of X G a_date_of
    F_weekday_of := fun_mk (st := s_weekday_of) l_weekday_of c_weekday_of k_weekday_of
    b_weekday_of := (fun_mk (st := s_weekday_of) l_weekday_of c_weekday_of k_weekday_of).binds (ps := ["day"]) fun _ _ _ _ _ _ us hl => match us, hl with | [_], _ => rfl
    g_weekday_of := PySem.W.mg_of X G a_weekday_of
    F_primes_of := fun_mk (st := s_primes_of) l_primes_of c_primes_of k_primes_of
    b_primes_of := (fun_mk (st := s_primes_of) l_primes_of c_primes_of k_primes_of).binds (ps := ["n"]) fun _ _ _ _ _ _ us hl => match us, hl with | [_], _ => rfl
    g_primes_of := PySem.W.mg_of X G a_primes_of
    F_place_in := fun_mk (st := s_place_in) l_place_in c_place_in k_place_in
    b_place_in := (fun_mk (st := s_place_in) l_place_in c_place_in k_place_in).binds (ps := ["residues", "r"]) fun _ _ _ _ _ _ us hl => match us, hl with | [_, _], _ => rfl
    g_place_in := PySem.W.mg_of X G a_place_in
    F_shrunk := fun_mk (st := s_shrunk) l_shrunk c_shrunk k_shrunk
    b_shrunk := (fun_mk (st := s_shrunk) l_shrunk c_shrunk k_shrunk).binds (ps := ["period", "residues"]) fun _ _ _ _ _ _ us hl => match us, hl with | [_, _], _ => rfl
    g_shrunk := PySem.W.mg_of X G a_shrunk
    F_repeats := fun_mk (st := s_repeats) l_repeats c_repeats k_repeats
    b_repeats := (fun_mk (st := s_repeats) l_repeats c_repeats k_repeats).binds (ps := ["period", "residues", "step"]) fun _ _ _ _ _ _ us hl => match us, hl with | [_, _, _], _ => rfl
    g_repeats := PySem.W.mg_of X G a_repeats
    F_has := fun_mk (st := s_has) l_has c_has k_has
    b_has := (fun_mk (st := s_has) l_has c_has k_has).binds (ps := ["period", "residues", "d"]) fun _ _ _ _ _ _ us hl => match us, hl with | [_, _, _], _ => rfl
    g_has := PySem.W.mg_of X G a_has
    F_tidied := fun_mk (st := s_tidied) l_tidied c_tidied k_tidied
    b_tidied := (fun_mk (st := s_tidied) l_tidied c_tidied k_tidied).binds (ps := ["pieces"]) fun _ _ _ _ _ _ us hl => match us, hl with | [_], _ => rfl
    g_tidied := PySem.W.mg_of X G a_tidied
    F_from_day := fun_mk (st := s_from_day) l_from_day c_from_day k_from_day
    b_from_day := (fun_mk (st := s_from_day) l_from_day c_from_day k_from_day).binds (ps := ["start", "period", "residues"]) fun _ _ _ _ _ _ us hl => match us, hl with | [_, _, _], _ => rfl
    g_from_day := PySem.W.mg_of X G a_from_day
    F_belongs := fun_mk (st := s_belongs) l_belongs c_belongs k_belongs
    b_belongs := (fun_mk (st := s_belongs) l_belongs c_belongs k_belongs).binds (ps := ["pattern", "day"]) fun _ _ _ _ _ _ us hl => match us, hl with | [_, _], _ => rfl
    g_belongs := PySem.W.mg_of X G a_belongs
    F_padded := fun_mk (st := s_padded) l_padded c_padded k_padded
    b_padded := (fun_mk (st := s_padded) l_padded c_padded k_padded).binds (ps := ["n", "many"]) fun _ _ _ _ _ _ us hl => match us, hl with | [_, _], _ => rfl
    g_padded := PySem.W.mg_of X G a_padded
    F_day_text := fun_mk (st := s_day_text) l_day_text c_day_text k_day_text
    b_day_text := (fun_mk (st := s_day_text) l_day_text c_day_text k_day_text).binds (ps := ["day"]) fun _ _ _ _ _ _ us hl => match us, hl with | [_], _ => rfl
    g_day_text := PySem.W.mg_of X G a_day_text
    F_minute_text := fun_mk (st := s_minute_text) l_minute_text c_minute_text k_minute_text
    b_minute_text := (fun_mk (st := s_minute_text) l_minute_text c_minute_text k_minute_text).binds (ps := ["minute"]) fun _ _ _ _ _ _ us hl => match us, hl with | [_], _ => rfl
    g_minute_text := PySem.W.mg_of X G a_minute_text
    F_offset_on := fun_mk (st := s_offset_on) l_offset_on c_offset_on k_offset_on
    b_offset_on := (fun_mk (st := s_offset_on) l_offset_on c_offset_on k_offset_on).binds (ps := ["zone", "day"]) fun _ _ _ _ _ _ us hl => match us, hl with | [_, _], _ => rfl
    g_offset_on := PySem.W.mg_of X G a_offset_on
    F_begin_of := fun_mk (st := s_begin_of) l_begin_of c_begin_of k_begin_of
    b_begin_of := (fun_mk (st := s_begin_of) l_begin_of c_begin_of k_begin_of).binds (ps := ["zone", "day"]) fun _ _ _ _ _ _ us hl => match us, hl with | [_, _], _ => rfl
    g_begin_of := PySem.W.mg_of X G a_begin_of
    F_local_of := fun_mk (st := s_local_of) l_local_of c_local_of k_local_of
    b_local_of := (fun_mk (st := s_local_of) l_local_of c_local_of k_local_of).binds (ps := ["zone", "moment"]) fun _ _ _ _ _ _ us hl => match us, hl with | [_, _], _ => rfl
    g_local_of := PySem.W.mg_of X G a_local_of
    F_month_title := fun_mk (st := s_month_title) l_month_title c_month_title k_month_title
    b_month_title := (fun_mk (st := s_month_title) l_month_title c_month_title k_month_title).binds (ps := ["m"]) fun _ _ _ _ _ _ us hl => match us, hl with | [_], _ => rfl
    g_month_title := PySem.W.mg_of X G a_month_title
    F_cell := fun_mk (st := s_cell) l_cell c_cell k_cell
    b_cell := (fun_mk (st := s_cell) l_cell c_cell k_cell).binds (ps := ["day", "pattern"]) fun _ _ _ _ _ _ us hl => match us, hl with | [_, _], _ => rfl
    g_cell := PySem.W.mg_of X G a_cell
    F_month_page := fun_mk (st := s_month_page) l_month_page c_month_page k_month_page
    b_month_page := (fun_mk (st := s_month_page) l_month_page c_month_page k_month_page).binds (ps := ["m", "pattern"]) fun _ _ _ _ _ _ us hl => match us, hl with | [_, _], _ => rfl
    g_month_page := PySem.W.mg_of X G a_month_page
    F_moment_text := fun_mk (st := s_moment_text) l_moment_text c_moment_text k_moment_text
    b_moment_text := (fun_mk (st := s_moment_text) l_moment_text c_moment_text k_moment_text).binds (ps := ["zone", "moment"]) fun _ _ _ _ _ _ us hl => match us, hl with | [_, _], _ => rfl
    g_moment_text := PySem.W.mg_of X G a_moment_text
    F_row_text := fun_mk (st := s_row_text) l_row_text c_row_text k_row_text
    b_row_text := (fun_mk (st := s_row_text) l_row_text c_row_text k_row_text).binds (ps := ["zone", "row"]) fun _ _ _ _ _ _ us hl => match us, hl with | [_, _], _ => rfl
    g_row_text := PySem.W.mg_of X G a_row_text
    F_sheet_page := fun_mk (st := s_sheet_page) l_sheet_page c_sheet_page k_sheet_page
    b_sheet_page := (fun_mk (st := s_sheet_page) l_sheet_page c_sheet_page k_sheet_page).binds (ps := ["zone", "rows"]) fun _ _ _ _ _ _ us hl => match us, hl with | [_, _], _ => rfl
    g_sheet_page := PySem.W.mg_of X G a_sheet_page
    F_opening_text := fun_mk (st := s_opening_text) l_opening_text c_opening_text k_opening_text
    b_opening_text := (fun_mk (st := s_opening_text) l_opening_text c_opening_text k_opening_text).binds (ps := ["opens", "closes"]) fun _ _ _ _ _ _ us hl => match us, hl with | [_, _], _ => rfl
    g_opening_text := PySem.W.mg_of X G a_opening_text
    F_law_is := fun_mk (st := s_law_is) l_law_is c_law_is k_law_is
    b_law_is := (fun_mk (st := s_law_is) l_law_is c_law_is k_law_is).binds (ps := ["told", "due"]) fun _ _ _ _ _ _ us hl => match us, hl with | [_, _], _ => rfl
    g_law_is := PySem.W.mg_of X G a_law_is
    F_law_draw := fun_mk (st := s_law_draw) l_law_draw c_law_draw k_law_draw
    b_law_draw := (fun_mk (st := s_law_draw) l_law_draw c_law_draw k_law_draw).binds (ps := ["tape", "many"]) fun _ _ _ _ _ _ us hl => match us, hl with | [_, _], _ => rfl
    g_law_draw := PySem.W.mg_of X G a_law_draw
    F_law_tape := fun_mk (st := s_law_tape) l_law_tape c_law_tape k_law_tape
    b_law_tape := (fun_mk (st := s_law_tape) l_law_tape c_law_tape k_law_tape).binds (ps := ["script"]) fun _ _ _ _ _ _ us hl => match us, hl with | [_], _ => rfl
    g_law_tape := PySem.W.mg_of X G a_law_tape
    F_law_mod := fun_mk (st := s_law_mod) l_law_mod c_law_mod k_law_mod
    b_law_mod := (fun_mk (st := s_law_mod) l_law_mod c_law_mod k_law_mod).binds (ps := ["a", "n"]) fun _ _ _ _ _ _ us hl => match us, hl with | [_, _], _ => rfl
    g_law_mod := PySem.W.mg_of X G a_law_mod
    F_law_leap := fun_mk (st := s_law_leap) l_law_leap c_law_leap k_law_leap
    b_law_leap := (fun_mk (st := s_law_leap) l_law_leap c_law_leap k_law_leap).binds (ps := ["calendar", "y"]) fun _ _ _ _ _ _ us hl => match us, hl with | [_, _], _ => rfl
    g_law_leap := PySem.W.mg_of X G a_law_leap
    F_law_length := fun_mk (st := s_law_length) l_law_length c_law_length k_law_length
    b_law_length := (fun_mk (st := s_law_length) l_law_length c_law_length k_law_length).binds (ps := ["calendar", "m"]) fun _ _ _ _ _ _ us hl => match us, hl with | [_, _], _ => rfl
    g_law_length := PySem.W.mg_of X G a_law_length
    F_law_year_first := fun_mk (st := s_law_year_first) l_law_year_first c_law_year_first k_law_year_first
    b_law_year_first := (fun_mk (st := s_law_year_first) l_law_year_first c_law_year_first k_law_year_first).binds (ps := ["calendar", "y"]) fun _ _ _ _ _ _ us hl => match us, hl with | [_, _], _ => rfl
    g_law_year_first := PySem.W.mg_of X G a_law_year_first
    F_law_month_first := fun_mk (st := s_law_month_first) l_law_month_first c_law_month_first k_law_month_first
    b_law_month_first := (fun_mk (st := s_law_month_first) l_law_month_first c_law_month_first k_law_month_first).binds (ps := ["calendar", "m"]) fun _ _ _ _ _ _ us hl => match us, hl with | [_, _], _ => rfl
    g_law_month_first := PySem.W.mg_of X G a_law_month_first
    F_law_month_at := fun_mk (st := s_law_month_at) l_law_month_at c_law_month_at k_law_month_at
    b_law_month_at := (fun_mk (st := s_law_month_at) l_law_month_at c_law_month_at k_law_month_at).binds (ps := ["calendar", "day"]) fun _ _ _ _ _ _ us hl => match us, hl with | [_, _], _ => rfl
    g_law_month_at := PySem.W.mg_of X G a_law_month_at
    F_law_zone := fun_mk (st := s_law_zone) l_law_zone c_law_zone k_law_zone
    b_law_zone := (fun_mk (st := s_law_zone) l_law_zone c_law_zone k_law_zone).binds (ps := ["tape"]) fun _ _ _ _ _ _ us hl => match us, hl with | [_], _ => rfl
    g_law_zone := PySem.W.mg_of X G a_law_zone
    F_law_offset := fun_mk (st := s_law_offset) l_law_offset c_law_offset k_law_offset
    b_law_offset := (fun_mk (st := s_law_offset) l_law_offset c_law_offset k_law_offset).binds (ps := ["zone", "day"]) fun _ _ _ _ _ _ us hl => match us, hl with | [_, _], _ => rfl
    g_law_offset := PySem.W.mg_of X G a_law_offset
    F_law_begin := fun_mk (st := s_law_begin) l_law_begin c_law_begin k_law_begin
    b_law_begin := (fun_mk (st := s_law_begin) l_law_begin c_law_begin k_law_begin).binds (ps := ["zone", "day"]) fun _ _ _ _ _ _ us hl => match us, hl with | [_, _], _ => rfl
    g_law_begin := PySem.W.mg_of X G a_law_begin
    F_law_digits2 := fun_mk (st := s_law_digits2) l_law_digits2 c_law_digits2 k_law_digits2
    b_law_digits2 := (fun_mk (st := s_law_digits2) l_law_digits2 c_law_digits2 k_law_digits2).binds (ps := ["n", "many"]) fun _ _ _ _ _ _ us hl => match us, hl with | [_, _], _ => rfl
    g_law_digits2 := PySem.W.mg_of X G a_law_digits2
    F_law_day_text := fun_mk (st := s_law_day_text) l_law_day_text c_law_day_text k_law_day_text
    b_law_day_text := (fun_mk (st := s_law_day_text) l_law_day_text c_law_day_text k_law_day_text).binds (ps := ["day"]) fun _ _ _ _ _ _ us hl => match us, hl with | [_], _ => rfl
    g_law_day_text := PySem.W.mg_of X G a_law_day_text
    F_law_minute_text := fun_mk (st := s_law_minute_text) l_law_minute_text c_law_minute_text k_law_minute_text
    b_law_minute_text := (fun_mk (st := s_law_minute_text) l_law_minute_text c_law_minute_text k_law_minute_text).binds (ps := ["minute"]) fun _ _ _ _ _ _ us hl => match us, hl with | [_], _ => rfl
    g_law_minute_text := PySem.W.mg_of X G a_law_minute_text
    F_law_moment_text := fun_mk (st := s_law_moment_text) l_law_moment_text c_law_moment_text k_law_moment_text
    b_law_moment_text := (fun_mk (st := s_law_moment_text) l_law_moment_text c_law_moment_text k_law_moment_text).binds (ps := ["zone", "moment"]) fun _ _ _ _ _ _ us hl => match us, hl with | [_, _], _ => rfl
    g_law_moment_text := PySem.W.mg_of X G a_law_moment_text
    F_law := fun_mk (st := s_law) l_law c_law k_law
    b_law := (fun_mk (st := s_law) l_law c_law k_law).binds (ps := ["script"]) fun _ _ _ _ _ _ us hl => match us, hl with | [_], _ => rfl
    g_law := PySem.W.mg_of X G a_law
    r_BadDate := r_BadDate
    t_BadDate := t_BadDate
    k_BadDate := k_BadDate
    g_BadDate := PySem.W.mg_of X G aC_BadDate
    x_BadDate := xI_BadDate
    g_DaysError := PySem.W.mg_of X G aC_DaysError
    B_DaysError := ⟨rd_DaysError, gs_DaysError, fc_DaysError⟩
    z_len := PySem.W.mg_none_of X G z_len
    z_int := PySem.W.mg_none_of X G z_int
    z_str := PySem.W.mg_none_of X G z_str
    z_list := PySem.W.mg_none_of X G z_list
    z_range := PySem.W.mg_none_of X G z_range
    z_divmod := PySem.W.mg_none_of X G z_divmod
    z_all := PySem.W.mg_none_of X G z_all
    z_tuple := PySem.W.mg_none_of X G z_tuple
    z_set := PySem.W.mg_none_of X G z_set
    z_max := PySem.W.mg_none_of X G z_max
    z_min := PySem.W.mg_none_of X G z_min
    z_isinstance := PySem.W.mg_none_of X G z_isinstance
    z_bool := PySem.W.mg_none_of X G z_bool
    g_LENGTHS := PySem.W.mg_of X G g_LENGTHS
    h_LENGTHS := fun H => sqT_of h_LENGTHS hs_LENGTHS
    k_LENGTHS := ⟨_, h_LENGTHS, ht_LENGTHS, hu_LENGTHS⟩
    g_BEFORE := PySem.W.mg_of X G g_BEFORE
    h_BEFORE := fun H => sqT_of h_BEFORE hs_BEFORE
    k_BEFORE := ⟨_, h_BEFORE, ht_BEFORE, hu_BEFORE⟩
    g_CYCLE_MONTHS := ⟨_, PySem.W.mg_of X G g_CYCLE_MONTHS, _, rfl⟩
    g_CYCLE_DAYS := ⟨_, PySem.W.mg_of X G g_CYCLE_DAYS, _, rfl⟩
    g_YEAR_MOST := ⟨_, PySem.W.mg_of X G g_YEAR_MOST, _, rfl⟩
    g_WEEKDAYS := PySem.W.mg_of X G g_WEEKDAYS
    h_WEEKDAYS := fun H => sqT_of h_WEEKDAYS hs_WEEKDAYS
    k_WEEKDAYS := ⟨_, h_WEEKDAYS, ht_WEEKDAYS, hu_WEEKDAYS⟩
    g_MONTHS := PySem.W.mg_of X G g_MONTHS
    h_MONTHS := fun H => sqT_of h_MONTHS hs_MONTHS
    k_MONTHS := ⟨_, h_MONTHS, ht_MONTHS, hu_MONTHS⟩
    g_MINUTES := ⟨_, PySem.W.mg_of X G g_MINUTES, _, rfl⟩ }
  exact ⟨_, fun s v => .of_eq rfl, fun base _ _ => ok_law T⟩

end Q
open PySem PySem.W PyProof.Rows in
set_option maxRecDepth 100000 in
set_option maxHeartbeats 0 in
theorem PySem.Challenge.cw_everdays_k83_pages_holds : PySem.Challenge.rw_everdays_k83_pages.Holds := by
  w_on; o_law; k_head; (case hw => w_witness2)
  k_fill
  refine L2.walk_of (l := PySem.Challenge.rw_everdays_k83_pages) (n := 63) (k := 14) (x := "script") (CX := fun _ => L2.CX0) (sp := fun w => Q.sp_law _) rfl (by decide) rfl ⟨rfl, by decide, by decide⟩ (fun w h Y => PySem.W.kIn_of Y) ?F (fun _ _ a ns hl _ hS => ⟨a, ns, rfl, hS, hl, fun _ => rfl⟩) (fun _ _ _ _ _ h => h)
  case F =>
    intro w mg fa h KX G hmg
    refine' Q.all_mk KX G hmg ?a_is_leap ?l_is_leap ?c_is_leap ?k_is_leap ?a_year_of_month ?l_year_of_month ?c_year_of_month ?k_year_of_month ?a_month_length ?l_month_length ?c_month_length ?k_month_length ?a_first_day ?l_first_day ?c_first_day ?k_first_day ?a_month_of ?l_month_of ?c_month_of ?k_month_of ?a_date_of ?l_date_of ?c_date_of ?k_date_of ?a_weekday_of ?l_weekday_of ?c_weekday_of ?k_weekday_of ?a_primes_of ?l_primes_of ?c_primes_of ?k_primes_of ?a_place_in ?l_place_in ?c_place_in ?k_place_in ?a_shrunk ?l_shrunk ?c_shrunk ?k_shrunk ?a_repeats ?l_repeats ?c_repeats ?k_repeats ?a_has ?l_has ?c_has ?k_has ?a_tidied ?l_tidied ?c_tidied ?k_tidied ?a_from_day ?l_from_day ?c_from_day ?k_from_day ?a_belongs ?l_belongs ?c_belongs ?k_belongs ?a_padded ?l_padded ?c_padded ?k_padded ?a_day_text ?l_day_text ?c_day_text ?k_day_text ?a_minute_text ?l_minute_text ?c_minute_text ?k_minute_text ?a_offset_on ?l_offset_on ?c_offset_on ?k_offset_on ?a_begin_of ?l_begin_of ?c_begin_of ?k_begin_of ?a_local_of ?l_local_of ?c_local_of ?k_local_of ?a_month_title ?l_month_title ?c_month_title ?k_month_title ?a_cell ?l_cell ?c_cell ?k_cell ?a_month_page ?l_month_page ?c_month_page ?k_month_page ?a_moment_text ?l_moment_text ?c_moment_text ?k_moment_text ?a_row_text ?l_row_text ?c_row_text ?k_row_text ?a_sheet_page ?l_sheet_page ?c_sheet_page ?k_sheet_page ?a_opening_text ?l_opening_text ?c_opening_text ?k_opening_text ?a_law_is ?l_law_is ?c_law_is ?k_law_is ?a_law_draw ?l_law_draw ?c_law_draw ?k_law_draw ?a_law_tape ?l_law_tape ?c_law_tape ?k_law_tape ?a_law_mod ?l_law_mod ?c_law_mod ?k_law_mod ?a_law_leap ?l_law_leap ?c_law_leap ?k_law_leap ?a_law_length ?l_law_length ?c_law_length ?k_law_length ?a_law_year_first ?l_law_year_first ?c_law_year_first ?k_law_year_first ?a_law_month_first ?l_law_month_first ?c_law_month_first ?k_law_month_first ?a_law_month_at ?l_law_month_at ?c_law_month_at ?k_law_month_at ?a_law_zone ?l_law_zone ?c_law_zone ?k_law_zone ?a_law_offset ?l_law_offset ?c_law_offset ?k_law_offset ?a_law_begin ?l_law_begin ?c_law_begin ?k_law_begin ?a_law_digits2 ?l_law_digits2 ?c_law_digits2 ?k_law_digits2 ?a_law_day_text ?l_law_day_text ?c_law_day_text ?k_law_day_text ?a_law_minute_text ?l_law_minute_text ?c_law_minute_text ?k_law_minute_text ?a_law_moment_text ?l_law_moment_text ?c_law_moment_text ?k_law_moment_text ?a_law ?l_law ?c_law ?k_law ?aC_BadDate ?r_BadDate ?t_BadDate ?k_BadDate ?ic_BadDate ?xI_BadDate ?aC_DaysError ?ty_DaysError ?rd_DaysError ?gs_DaysError ?fc_DaysError ?z_len ?z_int ?z_str ?z_list ?z_range ?z_divmod ?z_all ?z_tuple ?z_set ?z_max ?z_min ?z_isinstance ?z_bool ?g_LENGTHS ?h_LENGTHS ?hs_LENGTHS ?ht_LENGTHS ?hu_LENGTHS ?g_BEFORE ?h_BEFORE ?hs_BEFORE ?ht_BEFORE ?hu_BEFORE ?g_CYCLE_MONTHS ?g_CYCLE_DAYS ?g_YEAR_MOST ?g_WEEKDAYS ?h_WEEKDAYS ?hs_WEEKDAYS ?ht_WEEKDAYS ?hu_WEEKDAYS ?g_MONTHS ?h_MONTHS ?hs_MONTHS ?ht_MONTHS ?hu_MONTHS ?g_MINUTES
    (case aC_BadDate => k_is)
    (case aC_DaysError => k_is)
    (case ty_DaysError => k_is)
    (case a_is_leap => k_is)
    (case l_is_leap => k_is)
    (case c_is_leap => k_is)
    (case k_is_leap => k_is)
    (case a_year_of_month => k_is)
    (case l_year_of_month => k_is)
    (case c_year_of_month => k_is)
    (case k_year_of_month => k_is)
    (case a_month_length => k_is)
    (case l_month_length => k_is)
    (case c_month_length => k_is)
    (case k_month_length => k_is)
    (case a_first_day => k_is)
    (case l_first_day => k_is)
    (case c_first_day => k_is)
    (case k_first_day => k_is)
    (case a_month_of => k_is)
    (case l_month_of => k_is)
    (case c_month_of => k_is)
    (case k_month_of => k_is)
    (case a_date_of => k_is)
    (case l_date_of => k_is)
    (case c_date_of => k_is)
    (case k_date_of => k_is)
    (case a_weekday_of => k_is)
    (case l_weekday_of => k_is)
    (case c_weekday_of => k_is)
    (case k_weekday_of => k_is)
    (case a_primes_of => k_is)
    (case l_primes_of => k_is)
    (case c_primes_of => k_is)
    (case k_primes_of => k_is)
    (case a_place_in => k_is)
    (case l_place_in => k_is)
    (case c_place_in => k_is)
    (case k_place_in => k_is)
    (case a_shrunk => k_is)
    (case l_shrunk => k_is)
    (case c_shrunk => k_is)
    (case k_shrunk => k_is)
    (case a_repeats => k_is)
    (case l_repeats => k_is)
    (case c_repeats => k_is)
    (case k_repeats => k_is)
    (case a_has => k_is)
    (case l_has => k_is)
    (case c_has => k_is)
    (case k_has => k_is)
    (case a_tidied => k_is)
    (case l_tidied => k_is)
    (case c_tidied => k_is)
    (case k_tidied => k_is)
    (case a_from_day => k_is)
    (case l_from_day => k_is)
    (case c_from_day => k_is)
    (case k_from_day => k_is)
    (case a_belongs => k_is)
    (case l_belongs => k_is)
    (case c_belongs => k_is)
    (case k_belongs => k_is)
    (case a_padded => k_is)
    (case l_padded => k_is)
    (case c_padded => k_is)
    (case k_padded => k_is)
    (case a_day_text => k_is)
    (case l_day_text => k_is)
    (case c_day_text => k_is)
    (case k_day_text => k_is)
    (case a_minute_text => k_is)
    (case l_minute_text => k_is)
    (case c_minute_text => k_is)
    (case k_minute_text => k_is)
    (case a_offset_on => k_is)
    (case l_offset_on => k_is)
    (case c_offset_on => k_is)
    (case k_offset_on => k_is)
    (case a_begin_of => k_is)
    (case l_begin_of => k_is)
    (case c_begin_of => k_is)
    (case k_begin_of => k_is)
    (case a_local_of => k_is)
    (case l_local_of => k_is)
    (case c_local_of => k_is)
    (case k_local_of => k_is)
    (case a_month_title => k_is)
    (case l_month_title => k_is)
    (case c_month_title => k_is)
    (case k_month_title => k_is)
    (case a_cell => k_is)
    (case l_cell => k_is)
    (case c_cell => k_is)
    (case k_cell => k_is)
    (case a_month_page => k_is)
    (case l_month_page => k_is)
    (case c_month_page => k_is)
    (case k_month_page => k_is)
    (case a_moment_text => k_is)
    (case l_moment_text => k_is)
    (case c_moment_text => k_is)
    (case k_moment_text => k_is)
    (case a_row_text => k_is)
    (case l_row_text => k_is)
    (case c_row_text => k_is)
    (case k_row_text => k_is)
    (case a_sheet_page => k_is)
    (case l_sheet_page => k_is)
    (case c_sheet_page => k_is)
    (case k_sheet_page => k_is)
    (case a_opening_text => k_is)
    (case l_opening_text => k_is)
    (case c_opening_text => k_is)
    (case k_opening_text => k_is)
    (case a_law_is => k_is)
    (case l_law_is => k_is)
    (case c_law_is => k_is)
    (case k_law_is => k_is)
    (case a_law_draw => k_is)
    (case l_law_draw => k_is)
    (case c_law_draw => k_is)
    (case k_law_draw => k_is)
    (case a_law_tape => k_is)
    (case l_law_tape => k_is)
    (case c_law_tape => k_is)
    (case k_law_tape => k_is)
    (case a_law_mod => k_is)
    (case l_law_mod => k_is)
    (case c_law_mod => k_is)
    (case k_law_mod => k_is)
    (case a_law_leap => k_is)
    (case l_law_leap => k_is)
    (case c_law_leap => k_is)
    (case k_law_leap => k_is)
    (case a_law_length => k_is)
    (case l_law_length => k_is)
    (case c_law_length => k_is)
    (case k_law_length => k_is)
    (case a_law_year_first => k_is)
    (case l_law_year_first => k_is)
    (case c_law_year_first => k_is)
    (case k_law_year_first => k_is)
    (case a_law_month_first => k_is)
    (case l_law_month_first => k_is)
    (case c_law_month_first => k_is)
    (case k_law_month_first => k_is)
    (case a_law_month_at => k_is)
    (case l_law_month_at => k_is)
    (case c_law_month_at => k_is)
    (case k_law_month_at => k_is)
    (case a_law_zone => k_is)
    (case l_law_zone => k_is)
    (case c_law_zone => k_is)
    (case k_law_zone => k_is)
    (case a_law_offset => k_is)
    (case l_law_offset => k_is)
    (case c_law_offset => k_is)
    (case k_law_offset => k_is)
    (case a_law_begin => k_is)
    (case l_law_begin => k_is)
    (case c_law_begin => k_is)
    (case k_law_begin => k_is)
    (case a_law_digits2 => k_is)
    (case l_law_digits2 => k_is)
    (case c_law_digits2 => k_is)
    (case k_law_digits2 => k_is)
    (case a_law_day_text => k_is)
    (case l_law_day_text => k_is)
    (case c_law_day_text => k_is)
    (case k_law_day_text => k_is)
    (case a_law_minute_text => k_is)
    (case l_law_minute_text => k_is)
    (case c_law_minute_text => k_is)
    (case k_law_minute_text => k_is)
    (case a_law_moment_text => k_is)
    (case l_law_moment_text => k_is)
    (case c_law_moment_text => k_is)
    (case k_law_moment_text => k_is)
    (case a_law => k_is)
    (case l_law => k_is)
    (case c_law => k_is)
    (case k_law => k_is)
    (case r_BadDate => k_is)
    (case t_BadDate => k_is)
    (case k_BadDate => k_is)
    (case ic_BadDate => k_is)
    (case xI_BadDate => k_exc)
    (case rd_DaysError => k_is)
    (case gs_DaysError => k_is)
    (case fc_DaysError => k_is)
    (case z_len => k_is)
    (case z_int => k_is)
    (case z_str => k_is)
    (case z_list => k_is)
    (case z_range => k_is)
    (case z_divmod => k_is)
    (case z_all => k_is)
    (case z_tuple => k_is)
    (case z_set => k_is)
    (case z_max => k_is)
    (case z_min => k_is)
    (case z_isinstance => k_is)
    (case z_bool => k_is)
    (case g_LENGTHS => k_is)
    (case h_LENGTHS => k_is)
    (case hs_LENGTHS => first | rfl | decide +kernel | k_is)
    (case ht_LENGTHS => rfl)
    (case hu_LENGTHS => rfl)
    (case g_BEFORE => k_is)
    (case h_BEFORE => k_is)
    (case hs_BEFORE => first | rfl | decide +kernel | k_is)
    (case ht_BEFORE => rfl)
    (case hu_BEFORE => rfl)
    (case g_CYCLE_MONTHS => k_is)
    (case g_CYCLE_DAYS => k_is)
    (case g_YEAR_MOST => k_is)
    (case g_WEEKDAYS => k_is)
    (case h_WEEKDAYS => k_is)
    (case hs_WEEKDAYS => first | rfl | decide +kernel | k_is)
    (case ht_WEEKDAYS => rfl)
    (case hu_WEEKDAYS => rfl)
    (case g_MONTHS => k_is)
    (case h_MONTHS => k_is)
    (case hs_MONTHS => first | rfl | decide +kernel | k_is)
    (case ht_MONTHS => rfl)
    (case hu_MONTHS => rfl)
    (case g_MINUTES => k_is)

