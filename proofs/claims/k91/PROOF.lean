import PyProof.Rows.All
import Wide.All
import OpenK.AllK
import Wide.FinOn
import HandS.ForMost
import HandS.Style
import HandS.ExcOwn
import HandS.Exc
import HandS.TryMany
import HandS.ExcInit
import HandS.ExcField
import HandS.WordsExc
import HandS.Conv
import HandS.Codes
import HandS.FStr
import HandS.DictComp
import KE.KEqDict
import PySem.Challenge.RW_everdays_k91_ways_between_places
set_option Elab.async false
set_option linter.all false
set_option maxRecDepth 100000
set_option maxHeartbeats 4000000
namespace Q
open PySem PySem.Spec PyProof.Rows L2
theorem op_fdivE {X : Cx} : OpR X (binaryOp .FloorDiv) (rI CDiv fun i j => .int (i / j)) := op_fdiv
theorem op_modE {X : Cx} : OpR X (binaryOp .Mod) (rI (fun _ j => 0 < j) fun i j => .int (i % j)) := op_mod
theorem cmul_r {i j : Int} (h1 : -(2 ^ 64) < j) (h2 : j < 2 ^ 64) : CMul i j := .inr ⟨h1, h2⟩
theorem cmul_l {i j : Int} (h1 : -(2 ^ 64) < i) (h2 : i < 2 ^ 64) : CMul i j := .inl ⟨h1, h2⟩
theorem iteK {c A B : Prop} {inst : Decidable c} (h1 : c → A) (h2 : ¬ c → B) : if decide c = true then A else B := by
  by_cases h : c
  · rw [if_pos (decide_eq_true h)]; exact h1 h
  · rw [if_neg (by simpa using h)]; exact h2 h
theorem ite_y {c : Bool} {A B : Prop} (hc : c = true) (h : A) : if c = true then A else B := by
  rw [if_pos hc]; exact h
theorem ite_n {c : Bool} {A B : Prop} (hc : c = false) (h : B) : if c = true then A else B := by
  rw [if_neg (by rw [hc]; decide)]; exact h
end Q
namespace Q
open PySem PySem.Spec PyProof.Rows L2
section
variable {K : PySem.W.Frag} {σ : L2.St} {H H' : Hp} {i j : Nat} {v x y z : V} {Q : VK} {R : Bool → Hp → Prop} {ta tb te : TE} {D : Ends} {t u : TS} {p : Addr} {xs : List V}
theorem red {σ' : L2.St} (e : σ = σ') (h : t D σ' H) : t D σ H := e ▸ h
theorem g_var (h : σ[i]? = some (some v)) (q : Q v H) : tVar i σ H Q := ⟨v, h, q⟩
theorem g_c (q : Q v H) : tC v σ H Q := q
theorem g_op {r : R2} (q : ta σ H fun x H1 => tb σ H1 fun y H2 => r x y H2 Q) : tOp r ta tb σ H Q := q
theorem g_un {r : V → Hp → VK → Prop} (q : ta σ H fun x H1 => r x H1 Q) : tUn r ta σ H Q := q
theorem g_tt (q : te σ H fun x H' => ∃ k, x = .bl k ∧ R k H') : tTest te σ H R := q
theorem g_tB (q : te σ H fun x H' => ∃ k, x = .bl k ∧ R k H') : tB te σ H R := q
theorem g_ifs {c : TT} (q : c σ H fun b H1 => if b = true then t D σ H1 else u D σ H1) : tIfS c t u D σ H := q
theorem g_seq (q : t { D with nx := u D } σ H) : tSeq t u D σ H := q
theorem g_next (q : D.nx σ H) : tNext D σ H := q
theorem g_asg {g : TG} (q : te σ H fun x H1 => g x σ H1 D.nx) : tAsg te g D σ H := q
theorem g_name {R : L2.St → Hp → Prop} (q : R (σ.set i (some v)) H) : gName i v σ H R := q
theorem g_ret (q : te σ H D.rt) : tRet te D σ H := q
theorem g_drop (q : te σ H fun _ H1 => D.nx σ H1) : tDrop te D σ H := q
theorem g_nil {R : List V → Hp → Prop} (q : R [] H) : tNil σ H R := q
theorem g_cons {tr : TA} {R : List V → Hp → Prop} (q : te σ H fun x H1 => tr σ H1 fun xs H2 => R (x :: xs) H2) : tCons te tr σ H R := q
theorem g_cb {r : List V → Hp → VK → Prop} {ta : TA} (q : ta σ H fun vs H1 => r vs H1 Q) : tCB r ta σ H Q := q
theorem g_sub {to ti : TE} {ts : TSet} {R : L2.St → Hp → Prop} (q : to σ H fun o H1 => ti σ H1 fun i H2 => ts o i v H2 fun H3 => R σ H3) : gSub to ti ts v σ H R := q
theorem g_call {sp : Sp} {dvs : List V} {E : XK} {ta : TA} (q : ta σ H fun vs H1 => sp (vs ++ dvs) H1 Q E) : tCall sp dvs E ta σ H Q := q
theorem g_if {c : TT} (q : c σ H fun b H1 => if b = true then ta σ H1 Q else tb σ H1 Q) : tIf c ta tb σ H Q := q
theorem g_and {c d : TT} (q : c σ H fun b H1 => if b = true then d σ H1 R else R false H1) : tAnd c d σ H R := q
theorem g_or {c d : TT} (q : c σ H fun b H1 => if b = true then R true H1 else d σ H1 R) : tOr c d σ H R := q
theorem g_not {c : TT} (q : c σ H fun b H1 => R (!b) H1) : tNot c σ H R := q
theorem g_tup {ta : TA} (q : ta σ H fun xs H1 => xs.length ≤ sizeLine ∧ ∀ p, H1 p = none → Q (.ref p) (upd H1 p (.tup xs))) : tTup ta σ H Q := q
theorem g_lst {ta : TA} (q : ta σ H fun xs H1 => xs.length ≤ sizeLine ∧ ∀ p, H1 p = none → Q (.ref p) (upd H1 p (.lst xs))) : tLst ta σ H Q := q
theorem g_vei {ta : TA} (q : ta σ H fun vs H1 => ∃ (a C : Addr) (ws : List V), vs = .ref a :: ws ∧ ws.length ≤ 1000 ∧ OexC K C ∧ H1 a = some (exo a C none) ∧ Q .non H1) : tVeI K ta σ H Q := q
theorem g_jc {t : TE} {ts : List TE} {acc : Str} {R : Str → Hp → Prop} (q : t σ H fun x H1 => ∃ y : Str, x = .str y ∧ (acc ++ y).length ≤ sizeLine ∧ tJs ts (acc ++ y) σ H1 R) : tJs (t :: ts) acc σ H R := q
theorem g_jn {acc : Str} {R : Str → Hp → Prop} (q : R acc H) : tJs [] acc σ H R := q
theorem g_fmt (q : te σ H fun x H1 => (∃ y : Str, x = .str y ∧ y.length ≤ sizeLine ∧ Q (.str y) H1) ∨ ∃ i : Int, x = .int i ∧ i.natAbs.log2 < 1920 ∧ Q (.str (toString i)) H1) : tFmt te σ H Q := q
theorem g_ost {f : Str} {to : TE} (q : te σ H fun y H1 => to σ H1 fun x H2 => ∃ a C : Addr, x = .ref a ∧ OexC K C ∧ PySem.W.findIn K (.ref C) f = some none ∧
  ((H2 a = some (exo a C none) ∧ ∀ dx, H2 dx = none → dx ≠ a → D.nx σ (upd (upd H2 dx (exd dx [(f, y)])) a (exo a C (some dx)))) ∨
    ∃ (dx : Addr) (fs : List (Str × V)), H2 a = some (exo a C (some dx)) ∧ H2 dx = some (exd dx fs) ∧ fs.length ≤ 900 ∧ D.nx σ (upd H2 dx (exd dx ((f, y) :: fs))))) : tOst K f to te D σ H := q
theorem g_mko {C : Addr} {sp : Sp} {dvs : List V} {ta : TA} {R : XK} (q : ta σ H fun vs H1 => vs.length ≤ 1000 ∧ ∀ a, H1 a = none → sp (.ref a :: (vs ++ dvs)) (upd H1 a (exo a C none))
  (fun v H2 => v = .non ∧ ∃ (d : Addr) (fs : List (Str × V)), H2 a = some (exo a C (some d)) ∧ H2 d = some (exd d fs) ∧ H1 d = none ∧ R (.ref C) (some d) (upd (del H2 a) d (.xd fs))) (fun _ _ _ => False)) : tMkO C sp dvs ta σ H R := q
theorem g_fld {f : Str} (q : ta σ H fun x H1 => ∃ a C dx fs v, x = .ref a ∧ H1 a = some (.ins C dx fs) ∧ Cls K C ∧ NoAttr K C f ∧ fs.lookup f = some v ∧ Q v H1) : tFld K ta f σ H Q := q
theorem g_sfld {f : Str} {tv : TE} (q : tv σ H fun y H1 => ta σ H1 fun x H2 => ∃ a C dx fs, x = .ref a ∧ H2 a = some (.ins C dx fs) ∧ Cls K C ∧ NoAttr K C f ∧ fs.length < 1000 ∧ D.nx σ (upd H2 a (.ins C dx (putF f y fs)))) : sFld K ta tv f D σ H := q
theorem g_meth {C : Addr} {m : Str} {sp : Sp} {dvs : List V} {E : XK} {tr : TA} (q : ta σ H fun x H1 => ∃ a dx fs, x = .ref a ∧ H1 a = some (.ins C dx fs) ∧ fs.lookup m = none ∧ tr σ H1 fun vs H2 => sp (x :: (vs ++ dvs)) H2 Q E) : tMeth C m sp dvs E ta tr σ H Q := q
theorem g_make {C : Addr} {sp : Sp} {dvs : List V} {E : XK} {tr : TA} (q : tr σ H fun vs H1 => ∀ x dx, H1 x = none → H1 dx = none → dx ≠ x → sp (.ref x :: (vs ++ dvs)) (upd (upd H1 dx (.own x)) x (.ins C dx [])) (fun v H2 => v = .non ∧ Q (.ref x) H2) E) : tMake C sp dvs E tr σ H Q := q
theorem g_ofld {f : Str} {C dx : Addr} {fs : List (Str × V)} (h : H p = some (.ins C dx fs)) (c : Cls K C) (n : NoAttr K C f) (l : fs.lookup f = some v) {R : V → Prop} (q : R v) : ∃ a C dx fs v, V.ref p = .ref a ∧ H a = some (.ins C dx fs) ∧ Cls K C ∧ NoAttr K C f ∧ fs.lookup f = some v ∧ R v := ⟨p, C, dx, fs, v, rfl, h, c, n, l, q⟩
theorem g_omet {m : Str} {C dx : Addr} {fs : List (Str × V)} (h : H p = some (.ins C dx fs)) (l : fs.lookup m = none) {R : Prop} (q : R) : ∃ a dx fs, V.ref p = .ref a ∧ H a = some (.ins C dx fs) ∧ fs.lookup m = none ∧ R := ⟨p, dx, fs, rfl, h, l, q⟩
theorem g_dget {td ty : TE} (q : td σ H fun x H1 => ty σ H1 fun y H2 => ∃ a v, x = .ref a ∧ DGet H2 a y (some v) ∧ Q v H2) : tDGet td ty σ H Q := q
theorem g_din {td ty : TE} (q : ty σ H fun y H1 => td σ H1 fun x H2 => ∃ a o, x = .ref a ∧ DGet H2 a y o ∧ Q (.bl o.isSome) H2) : tDIn ty td σ H Q := q
theorem g_dni {td ty : TE} (q : ty σ H fun y H1 => td σ H1 fun x H2 => ∃ a o, x = .ref a ∧ DGet H2 a y o ∧ Q (.bl (!o.isSome)) H2) : tDNotIn ty td σ H Q := q
theorem g_dput {td ty tv : TE} (q : tv σ H fun v H1 => td σ H1 fun x H2 => ty σ H2 fun y H3 => ∃ a H4, x = .ref a ∧ DPut H3 a y v H4 ∧ D.nx σ H4) : sDPut td ty tv D σ H := q
theorem g_dg1 {td ty : TE} (q : td σ H fun x H1 => ∃ a, x = .ref a ∧ IsD H1 a ∧ ty σ H1 fun y H2 => ∃ o, DGet H2 a y o ∧ Q (o.getD .non) H2) : tDGet1 td ty σ H Q := q
theorem g_dg2 {td ty tx : TE} (q : td σ H fun x H1 => ∃ a, x = .ref a ∧ IsD H1 a ∧ ty σ H1 fun y H2 => tx σ H2 fun z H3 => ∃ o, DGet H3 a y o ∧ Q (o.getD z) H3) : tDGet2 td ty tx σ H Q := q
theorem g_or2 {c d : TE} (q : c σ H fun x H1 => ∃ k, x = .bl k ∧ if k = true then Q (.bl true) H1 else d σ H1 Q) : tOrV c d σ H Q := q
theorem g_an2 {c d : TE} (q : c σ H fun x H1 => ∃ k, x = .bl k ∧ if k = true then d σ H1 Q else Q (.bl false) H1) : tAndV c d σ H Q := q
theorem g_no2 {c : TE} (q : c σ H fun x H1 => ∃ k, x = .bl k ∧ Q (.bl (!k)) H1) : tNotV c σ H Q := q
theorem g_I0 {g : Int → Int → V} {m n : Int} (q : Q (g m n) H) : rI0 g (.int m) (.int n) H Q := ⟨m, n, rfl, rfl, q⟩
theorem g_I {C : Int → Int → Prop} {g : Int → Int → V} {m n : Int} (c : C m n) (q : Q (g m n) H) : rI C g (.int m) (.int n) H Q := ⟨m, n, rfl, rfl, c, q⟩
theorem g_U {g : Int → V} {m : Int} (q : Q (g m) H) : rU g (.int m) H Q := ⟨m, rfl, q⟩
theorem g_eq (c : scal x y = true) (q : Q (.bl (decide (x = y))) H) : rEq x y H Q := ⟨c, q⟩
theorem g_ne (c : scal x y = true) (q : Q (.bl (!decide (x = y))) H) : rNe x y H Q := ⟨c, q⟩
theorem g_ixL {n : Int} (h : SqL K H p xs) (a : atI xs n = some v) (q : Q v H) : rIxL K (.ref p) (.int n) H Q := ⟨p, xs, n, v, rfl, rfl, h, a, q⟩
theorem g_ixT {n : Int} (h : SqT K H p xs) (a : atI xs n = some v) (q : Q v H) : rIxT K (.ref p) (.int n) H Q := ⟨p, xs, n, v, rfl, rfl, h, a, q⟩
theorem g_setL {n : Int} (h : H p = some (.lst xs)) (a : ixN xs.length n = some j) {Q : Hp → Prop} (q : Q (upd H p (.lst (xs.set j v)))) : rSetL (.ref p) (.int n) v H Q := ⟨p, xs, n, j, rfl, rfl, h, a, q⟩
theorem g_test {b : Bool} {R : Bool → Prop} (q : R b) : (∃ k, V.bl b = .bl k ∧ R k) := ⟨b, rfl, q⟩
theorem g_int1 {n : Int} {R : Int → Prop} {S : Bool → Prop} (q : R n) : (∃ i, [V.int n] = [V.int i] ∧ R i) ∨ (∃ k, [V.int n] = [V.bl k] ∧ S k) := .inl ⟨n, rfl, q⟩
theorem g_bl1 {b : Bool} {R : Int → Prop} {S : Bool → Prop} (q : S b) : (∃ i, [V.bl b] = [V.int i] ∧ R i) ∨ (∃ k, [V.bl b] = [V.bl k] ∧ S k) := .inr ⟨b, rfl, q⟩
theorem g_lenL {R : List V → Prop} (h : SqL K H p xs) (q : R xs) : ∃ p' ys, [V.ref p] = [V.ref p'] ∧ (SqL K H p' ys ∨ SqT K H p' ys) ∧ R ys := ⟨p, xs, rfl, .inl h, q⟩
theorem g_lenT {R : List V → Prop} (h : SqT K H p xs) (q : R xs) : ∃ p' ys, [V.ref p] = [V.ref p'] ∧ (SqL K H p' ys ∨ SqT K H p' ys) ∧ R ys := ⟨p, xs, rfl, .inr h, q⟩
end
section
variable {K : PySem.W.Frag} {σ : L2.St} {H : Hp} {te : TE} {ta : TA} {wi : TI} {g : TG} {gs : TGs} {tt : TT} {tb t : TS} {D : Ends} {Q : VK} {R : It → Hp → Prop} {v : V}
theorem g_itup (q : te σ H fun x H1 => ∃ a, x = .ref a ∧ (∃ xs, SqT K H1 a xs) ∧ R (Itt K a) H1) : iTup K te σ H R := q
theorem g_ilist (q : te σ H fun x H1 => ∃ a, x = .ref a ∧ (∃ xs, SqL K H1 a xs) ∧ R (Itl K a) H1) : iList K te σ H R := q
theorem g_ikeys (q : te σ H fun x H1 => ∃ d o, x = .ref d ∧ ((∃ kvs, H1 d = some (.frz o (.dK kvs)) ∧ R (Itk d o kvs) H1) ∨ ∃ kvs, H1 d = some (.frz o (.dT kvs)) ∧ R (Itkt d o kvs) H1)) : iKeys te σ H R := q
theorem g_irng1 (q : ta σ H fun vs H1 => ∃ j : Int, vs = [.int j] ∧ -(2 ^ 62) ≤ j ∧ j < 2 ^ 62 ∧ R (Itr 0 j.toNat) H1) : iRng1 ta σ H R := q
theorem g_irng2 (q : ta σ H fun vs H1 => ∃ i j : Int, vs = [.int i, .int j] ∧ (-(2 ^ 62) ≤ i ∧ i < 2 ^ 62 ∧ -(2 ^ 62) ≤ j ∧ j < 2 ^ 62) ∧ R (Itr i (j - i).toNat) H1) : iRng2 ta σ H R := q
theorem g_for (q : wi σ H fun J H1 => ∃ W : Nat → Nat → L2.St → Hp → Prop, (∃ m, W 0 m σ H1) ∧ ∀ i m σ H, W i m σ H →
  (J.stop i H ∧ D.nx σ H) ∨ (J.go i H ∧ ∃ N : L2.St → Hp → Prop, (∀ σ' H', N σ' H' → ∃ m', m' < m ∧ W (i + 1) m' σ' H') ∧ ∀ x H', J.yld i H x H' → g x σ H' fun σ2 H2 => tb { D with nx := N, ct := N, bk := D.nx } σ2 H2)) : tFor wi g tb D σ H := q
theorem g_lc {vs : List Nat} (q : wi σ H fun J H1 => ∀ D, H1 D = none → ∃ W : Nat → Nat → Hp → Prop, (∃ m, W 0 m (upd H1 D (.lst []))) ∧ ∀ i m H, W i m H →
  (J.stop i H ∧ Q (.ref D) H) ∨ (J.go i H ∧ ∃ Nx : Hp → Prop, (∀ H', Nx H' → ∃ m', m' < m ∧ W (i + 1) m' H') ∧ ∀ x H', J.yld i H x H' → g x (wipe σ vs) H' fun σ2 H2 => wipe σ2 vs = wipe σ vs ∧ tt σ2 H2 fun b H3 =>
    if b = true then te σ2 H3 fun y H4 => ∃ acc, H4 D = some (.lst acc) ∧ acc.length < sizeLine ∧ Nx (upd H4 D (.lst (acc ++ [y]))) else Nx H3)) : tLc wi g tt te vs σ H Q := q
theorem g_lock (q : ∃ d u, H d = some u ∧ Mut (some u) ∧ ∀ od, t ⟨fun σ' H' => H' d = some (.frz od u) ∧ D.nx σ' (upd H' d u), fun v H' => H' d = some (.frz od u) ∧ D.rt v (upd H' d u), fun σ' H' => H' d = some (.frz od u) ∧ D.bk σ' (upd H' d u), fun σ' H' => H' d = some (.frz od u) ∧ D.ct σ' (upd H' d u)⟩ σ (upd H d (.frz od u))) : tLock t D σ H := q
theorem g_gtup {n : Nat} {R : L2.St → Hp → Prop} (q : ∃ a xs, v = .ref a ∧ SqT K H a xs ∧ xs.length = n ∧ gs xs σ H R) : gTup K n gs v σ H R := q
theorem g_gcons {vs : List V} {R : L2.St → Hp → Prop} (q : g v σ H fun σ' H' => gs vs σ' H' R) : gCons g gs (v :: vs) σ H R := ⟨v, vs, rfl, q⟩
theorem g_gnil {R : L2.St → Hp → Prop} (q : R σ H) : gNil [] σ H R := ⟨rfl, q⟩
theorem g_sl {r : V → Option Int → Option Int → Hp → VK → Prop} {tl th : TO} (q : te σ H fun x H1 => tl σ H1 fun l H2 => th σ H2 fun u H3 => r x l u H3 Q) : tSl r te tl th σ H Q := q
theorem g_npart {R : Option Int → Hp → Prop} (q : R none H) : tNoPart σ H R := q
theorem g_part {R : Option Int → Hp → Prop} (q : te σ H fun x H1 => ∃ i, x = .int i ∧ R (some i) H1) : tPart te σ H R := q
theorem g_dnt (q : ∀ p, H p = none → Q (.ref p) (upd H p (.dT []))) : tDNewT σ H Q := q
theorem g_dnk (q : ∀ p, H p = none → Q (.ref p) (upd H p (.dK []))) : tDNewK σ H Q := q
theorem g_yes {R : Bool → Hp → Prop} (q : R true H) : tYes σ H R := q
theorem g_par {i j : Nat} (q : ta σ H fun vs H1 => ∃ v w, vs = [v, w] ∧ D.nx ((σ.set i (some v)).set j (some w)) H1) : tPar i j ta D σ H := q
theorem g_par3 {i j l : Nat} (q : ta σ H fun vs H1 => ∃ u v w, vs = [u, v, w] ∧ D.nx (((σ.set i (some u)).set j (some v)).set l (some w)) H1) : tPar3 i j l ta D σ H := q
theorem g_calls {sp : Sp} {E : L2.St → XK} (q : ta σ H fun vs H1 => sp vs H1 Q (E σ)) : tCallS sp E ta σ H Q := q
end
end Q
namespace Q
open PySem PySem.Spec PyProof.Rows L2
/-- what the written part says of a class of the program whose __init__ is ValueError's own, read off the class: D.__init__ -/
structure BaseInit (K : PySem.W.Frag) (D : Addr) (mc : Value) : Prop where
  rd : PySem.W.readsIn K D mc = true
  ga : PySem.W.specialIn K (.ref D) "__getattribute__" = some (some (.builtin "type.__getattribute__"))
  at_ : PySem.W.findCls K (.ref D) mc "__init__" = some (.val (.builtin "ValueError.__init__"))
/-- D.__init__(self, ..), D a class of the program: the same as ValueError.__init__ -/
theorem pe_deinit {X : Cx} {e : Expr} {es : List Expr} {ta : TA} {x : Str} {D : Addr} {mc : Value} {p1 p2 pos : PySem.Pos} {pl : Sem Bool} (hg : Gl X x) (hm : X.mg x = some (.ref D)) (B : BaseInit X.K D mc) (ha : PA X (e :: es) ta)
    (hdb : (x == ("__debug__" : Str)) = false := by decide)
    (hc : eval (.Call (.Attribute (.Name x p1) "__init__" p2) (e :: es) [] pos) X.env = (do
      let ov ← eval (.Name x p1) X.env
      standAt p2.atName
      let (f, first) ← holding [ov] (getMethod ov "__init__" pl)
      callWith pos f first (backTo pos (starEach (e :: es) X.env)) (backToKw pos (keywordEach [] X.env))) := by rfl)
    (he : starEach (e :: es) X.env = (false, eval e X.env) :: starEach es X.env := by rfl) (hpl : (backTo pos (starEach es X.env)).any (·.1) = false := by rfl) :
    PE X (.Call (.Attribute (.Name x p1) "__init__" p2) (e :: es) [] pos) (tVeI X.K ta) := by
  refine ⟨fun pins s σ H Q I h => ?_⟩
  refine PySem.W.methodCall_KW (ld_glob I hg hm ?_ hdb) hc
  refine PySem.W.method_cls I.kIn B.ga (PySem.W.cls_value I.kIn B.rd B.at_ (by decide +kernel) ?_)
  show wpAny _ _ (callWith pos (Value.builtin "ValueError.__init__") [] (backTo pos (starEach (e :: es) X.env)) []) _ _ _
  have I0 : Inv X pins σ H { s with toks := s.toks + 1 } := I.tok _
  refine PyProof.Rows.callWith_method1 (thn (ha.run pos pins _ σ H _ I0 h) fun us s1 hv => ?_) he hpl
  obtain ⟨vs, H1, I1, r1, a, C, ws, ev, hl, T, ea, q⟩ := hv
  subst ev
  cases r1 with
  | @cons _ u0 _ ur ra rw' =>
    obtain rfl : u0 = Value.ref a := ra
    have hlen : ur.length ≤ sizeLine := by
      rw [← Paired.length rw', sizeLine_eq]; omega
    exact oinit_ok T I1 ea hlen fun s' J => ⟨.non, H1, J, rfl, q⟩
end Q
namespace Q
open PySem PySem.Spec PyProof.Rows L2
/-- X(), an own exception class without own __init__ -/
theorem pmk_own0 {X : Cx} {C : Addr} {bmB : List Value} {B newId initId : String} {x : Str} {p pos : PySem.Pos} (F : ExcBaseFacts B newId initId bmB) (q : PySem.W.excIn X.K C bmB newId = true) (gC : X.mg x = some (.ref C))
    (kC : PySem.W.keepIn X.K (.ref C) = true) (r : Raises X (.ref C)) (hg : Gl X x) (hdb : (x == ("__debug__" : Str)) = false := by decide) : PMk X (.Call (.Name x p) [] [] pos) (fun _ H Q => Q (.ref C) none H) := by
  intro pins s σ H Q I h
  refine wpAny_Call_Name_kw (ld_glob I hg gC ?_ hdb)
  refine PySem.W.callWith_K0 I.kIn kC ?_
  obtain ⟨bm, N, nm, qn, bs, hdct, sn, sub, ab, col, dd, k0, k1, k2, k3, k5, mN, hC, hN, hni, T⟩ := exc_obj I.kIn q
  exact wpAny_call_exc_subT F T hC hN hni (fun h' e hm => mk_of I hm r h (I.hok.gone hm.new)) (Nat.zero_le _)
end Q
namespace Q
/-- does «except D» take an error of the class C -/
theorem exm_sub {K : PySem.W.Frag} {C D : PySem.Addr} {b : Bool} (h1 : PySem.W.subIn K (.ref D) (.type "BaseException") = some true) (h2 : PySem.W.isClsIn K D = true) (h3 : PySem.W.typeIn K (.ref D) = some (.type "type")) (h4 : PySem.W.subIn K (.ref C) (.ref D) = some b) :
    PySem.W.exmOne K (.ref C) (.ref D) = some b := by
  have e1 : (PySem.W.subIn K (.ref D) (.type "BaseException") == some true) = true := by rw [h1]; rfl
  have e2 : ((PySem.W.clsIn K D).isSome && PySem.W.typeIn K (.ref D) == some (.type "type")) = true := by
    have h2' : (PySem.W.clsIn K D).isSome = true := h2
    rw [h2', h3]; rfl
  show (if (PySem.W.subIn K (.ref D) (.type "BaseException") == some true) = true then (if ((PySem.W.clsIn K D).isSome && PySem.W.typeIn K (.ref D) == some (.type "type")) = true then PySem.W.subIn K (.ref C) (.ref D) else none) else none) = some b
  rw [if_pos e1, if_pos e2]
  exact h4
end Q
namespace Q
open PySem PySem.Spec PyProof.Rows L2
/-- o.m(e, ..) where what is raised is wished for at the caller's slots -/
def tMethX (C : Addr) (m : Str) (sp : Sp) (E : L2.St → XK) (ta : TE) (t : TA) : TE := fun σ H Q => ta σ H fun x H1 => ∃ a dx fs, x = .ref a ∧ H1 a = some (.ins C dx fs) ∧ fs.lookup m = none ∧ t σ H1 fun vs H2 => sp (x :: vs) H2 Q (E σ)
theorem g_methx {C : Addr} {m : Str} {sp : Sp} {E : L2.St → XK} {ta : TE} {t : TA} {σ : L2.St} {H : Hp} {Q : VK} (q : ta σ H fun x H1 => ∃ a dx fs, x = .ref a ∧ H1 a = some (.ins C dx fs) ∧ fs.lookup m = none ∧ t σ H1 fun vs H2 => sp (x :: vs) H2 Q (E σ)) : tMethX C m sp E ta t σ H Q := q
theorem pe_methX {X : Cx} {CX : CXT} {k : Nat} {f C : Addr} {fd : FuncData} {ps : List Str} {sp : Sp} {E : L2.St → XK} {m : Str} {apos pos : PySem.Pos} {e o : Expr} {es : List Expr} {ta : TE} {t : TA} {pl : Sem Bool} (he : PE X o ta) (c : Cls X.K C) (hm : Meth X.K C m f)
    (F : FnOk X.prog X.w X.K X.mg X.base CX k f fd ps sp) (hr : Room k X.A) (hb : Binds X.K fd ps []) (hx : ∀ σ, PassesAt CX X σ (E σ)) (ha : PA X (e :: es) t)
    (hst : starEach (e :: es) X.env = (false, eval e X.env) :: starEach es X.env := by rfl) (hpl : (backTo pos (starEach es X.env)).any (·.1) = false := by rfl)
    (ht : eval (.Call (.Attribute o m apos) (e :: es) [] pos) X.env = (do
      let ov ← eval o X.env
      standAt apos.atName
      let (f, first) ← holding [ov] (getMethod ov m pl)
      callWith pos f first (backTo pos (starEach (e :: es) X.env)) (backToKw pos (keywordEach [] X.env))) := by rfl) :
    PE X (.Call (.Attribute o m apos) (e :: es) [] pos) (tMethX C m sp E ta t) := by
  refine ⟨fun pins s σ H Q I h => PySem.W.methodCall_KW (pl := pl) (thn (he.run pins s σ H _ I h) fun u s1 hv => ?_) ht⟩
  obtain ⟨x, H1, I1, rx, a, dx, fs, rfl, ea, l, q⟩ := hv
  obtain rfl : u = Value.ref a := rx
  refine getmeth_ok I1 ea c hm l (PySem.W.callWith_K (first := [.ref a]) (h₀ := X.base) I.ok.mod.kin hm.kp (thn (ha.run pos pins s1 σ H1 _ I1 q) fun us s2 hv => ?_) hst hpl)
  obtain ⟨vs, H2, I2, r, q2⟩ := hv
  exact ⟨I2.kIn, run_fnS (us := .ref a :: us) (vs := .ref a :: vs) F hr hb (hx σ) I2 (.cons rfl r) q2⟩
theorem pe_meth0X {X : Cx} {CX : CXT} {k : Nat} {f C : Addr} {fd : FuncData} {ps : List Str} {sp : Sp} {E : L2.St → XK} {m : Str} {apos pos : PySem.Pos} {o : Expr} {ta : TE} {pl : Sem Bool} (he : PE X o ta) (c : Cls X.K C) (hm : Meth X.K C m f)
    (F : FnOk X.prog X.w X.K X.mg X.base CX k f fd ps sp) (hr : Room k X.A) (hb : Binds X.K fd ps []) (hx : ∀ σ, PassesAt CX X σ (E σ))
    (ht : eval (.Call (.Attribute o m apos) [] [] pos) X.env = (do
      let ov ← eval o X.env
      standAt apos.atName
      let (f, first) ← holding [ov] (getMethod ov m pl)
      callWith pos f first (backTo pos (starEach [] X.env)) (backToKw pos (keywordEach [] X.env))) := by rfl) :
    PE X (.Call (.Attribute o m apos) [] [] pos) (tMethX C m sp E ta tNil) := by
  refine ⟨fun pins s σ H Q I h => PySem.W.methodCall_KW (pl := pl) (thn (he.run pins s σ H _ I h) fun u s1 hv => ?_) ht⟩
  obtain ⟨x, H1, I1, rx, a, dx, fs, rfl, ea, l, q⟩ := hv
  obtain rfl : u = Value.ref a := rx
  exact getmeth_ok I1 ea c hm l (PySem.W.callWith_K0 (first := [.ref a]) I1.kIn hm.kp (run_fnS (us := [.ref a]) (vs := [.ref a]) F hr hb (hx σ) I1 (.cons rfl .nil) q))
end Q
/-! several except clauses, some of them with a name -/
namespace Q
open PySem PySem.Spec PyProof.Rows L2
abbrev Suite := Addr → Value → Option Addr → TS
/-- the ends and the slots of a clause: slot i (if any) is the clause's own name -/
def cEnds (D : Ends) : Option Nat → Ends
  | none => D
  | some i => { nx := fun σ' H' => D.nx (σ'.set i none) H', rt := D.rt, bk := fun σ' H' => D.bk (σ'.set i none) H', ct := fun σ' H' => D.ct (σ'.set i none) H' }
def cSlot (σ : L2.St) (a : Addr) : Option Nat → L2.St
  | none => σ
  | some i => σ.set i (some (.ref a))
def wCl (K : PySem.W.Frag) (Wout : WX) (D : Ends) : List (Value × Option Nat × Suite) → WX
  | [] => Wout
  | (c, o, ts) :: r => fun cls d σ H => ∃ b, PySem.W.exmOne K cls c = some b ∧ (b = true → ∀ a, H a = none → ts a cls d (cEnds D o) (cSlot σ a o) H) ∧ (b = false → wCl K Wout D r cls d σ H)
inductive ClOk (X : Cx) : List ExceptHandler → List (Value × Option Nat × Suite) → Prop
  | nil : ClOk X [] []
  | bare {x : Str} {c : Value} {ts : Suite} {b₀ : Stmt} {su : List Stmt} {np p' : PySem.Pos} {hds : List ExceptHandler} {l : List (Value × Option Nat × Suite)} (hc : Names X x c)
      (hsu : ∀ (a : Addr) (oe : Obj) (cls : Value) (d : Option Addr) (pn : List (Addr × Obj)), Zc cls d oe → (∃ vs, oe.data = .fields vs) → PSs (X.suite a ((a, oe) :: pn)) (b₀ :: su) (ts a cls d)) (r : ClOk X hds l) :
      ClOk X (.ExceptHandler (some (.Name x np)) none (b₀ :: su) p' :: hds) ((c, none, ts) :: l)
  | named {x n : Str} {c : Value} {i : Nat} {ts : Suite} {b₀ : Stmt} {su : List Stmt} {np p' : PySem.Pos} {hds : List ExceptHandler} {l : List (Value × Option Nat × Suite)} (hc : Names X x c) (hi : X.N[i]? = some n) (hln : X.env.kindOf n = some .local)
      (hsu : ∀ (a : Addr) (oe : Obj) (cls : Value) (d : Option Addr) (pn : List (Addr × Obj)), Zc cls d oe → (∃ vs, oe.data = .fields vs) → PSs (X.suite a ((a, oe) :: pn)) (b₀ :: su) (ts a cls d)) (r : ClOk X hds l) :
      ClOk X (.ExceptHandler (some (.Name x np)) (some n) (b₀ :: su) p' :: hds) ((c, some i, ts) :: l)
section
variable {X : Cx} {pins : List (Addr × Obj)} {D : Ends} {Wout : WX} {a : Addr} {B : Heap} {sI s' : Shared} {σ' : L2.St} {H' : Hp} {cls : Value} {d : Option Addr} {h3 : Heap}
/-- the exception on the ground of the try: what is known of it -/
structure Grd (X : Cx) (pins : List (Addr × Obj)) (a : Addr) (B : Heap) (sI s' : Shared) (σ' : L2.St) (H' : Hp) (cls : Value) (d : Option Addr) (h3 : Heap) : Prop where
  J : Inv X pins σ' H' sI
  nb : ∀ b o, sI.heap.get? b = some o → b ∉ frs X.stack → B.get? b = some o
  up : sI.heap.UpToSlots h3
  fl : HandSPX.FlyingZ B (X.env :: X.outer) a (Zc cls d) h3
  na : H' a = none
  os : s'.os = sI.os
  ag : AllBare s'.gens
theorem Grd.inv (g : Grd X pins a B sI s' σ' H' cls d h3) : Inv X pins σ' H' { s' with heap := h3 } := g.J.landed (s' := { s' with heap := h3 }) g.nb g.fl.1 g.up g.os g.ag
theorem Grd.away (g : Grd X pins a B sI s' σ' H' cls d h3) (hf : X.env.frame = some X.env.locals) : a ≠ X.env.locals ∧ a ∉ X.fs := by
  obtain ⟨oe, vs, he, _, hd⟩ := g.fl.there
  have key : a ∉ frs (X.env :: X.outer) := fun hm => by
    obtain ⟨_, o', e', hnf⟩ := g.fl.2.2.1.mem hm
    rw [he] at e'; cases e'
    exact hnf _ hd
  refine ⟨fun z => key (List.mem_filterMap.mpr ⟨X.env, List.mem_cons_self, by rw [hf, z]⟩), fun hm => ?_⟩
  obtain ⟨e, he, q⟩ := List.mem_filterMap.mp hm
  exact key (List.mem_filterMap.mpr ⟨e, List.mem_cons_of_mem _ he, q⟩)
/-- the clauses, one after the other, over an exception on the ground -/
theorem clauses {hds : List ExceptHandler} {l : List (Value × Option Nat × Suite)} (hs : X.stack = X.env :: X.outer) (hf : X.env.frame = some X.env.locals) (hN : X.N.Nodup) (tk : Takes X Wout) (ok : ClOk X hds l) :
    Grd X pins a B sI s' σ' H' cls d h3 → wCl X.K Wout D l cls d σ' H' → wpAny (model X.prog X.w) X.A (handleBy (.ref a) X.env hds) (SP X pins D) X.xe { s' with heap := h3 } := by
  induction ok with
  | nil =>
    intro g w
    refine wpAny_handleBy_nil ?_
    obtain ⟨_, _, _, oe, vs, T, _, _, he, _, hd, h1, _⟩ := id g.fl
    unfold PySem.passOn
    refine wpAny_bind (wpAny_field he hd h1 ?_)
    have no : ¬ ((Value.ref T == Value.none) = true) := by simp
    rw [if_neg no]
    have out : wpAny (model X.prog X.w) X.A (setFlight (.ref a) X.env.frame) (fun _ s4 => wpAny (model X.prog X.w) X.A (throw (.ref a) : Sem Flow) (SP X pins D) X.xe s4) X.xe { s' with heap := h3 } := by
      rw [hf]
      refine HandSPX.setFlight_upZ g.fl fun h4 held up4 => wpAny_throw (tk _ _ ?_)
      refine ⟨a, B, sI, pins, σ', H', cls, d, rfl, g.J, g.nb, g.up.trans up4, .inr (.inr ?_), g.na, g.os, g.ag, w⟩
      rw [hs]; exact held
    first
      | exact wpAny_bind (wpAny_pure (wpAny_bind out))
      | exact wpAny_bind out
  | @bare x c ts b₀ su np p' hds l hc hsu r ih =>
    intro g w
    obtain ⟨b, hb, hy, hn⟩ := w
    obtain ⟨nL, nF⟩ := g.away hf
    obtain ⟨oe, vs, he, hz, hd⟩ := g.fl.there
    have S := g.inv.suite he hd g.na nL nF
    have LM := PySem.W.exm_one (M := model X.prog X.w) (g.inv.kIn) (fun A Q E s k q => wpAny_typeOf_ref (k _ _ he) (by rw [hz.1]; exact q)) hb
    refine wpAny_handleBy_cons (codeAny_handlers_test ?_) (by intro q; cases q)
    have rd : ∀ {Q : Value → Shared → Prop} {E : Value → Shared → Prop}, Q c { s' with heap := h3 } → wpAny (model X.prog X.w) (X.A.mark (some (.ref a))) (eval (.Name x np) X.env) Q E { s' with heap := h3 } := fun {Q E} q => by
      obtain ⟨hg, hdb, hm | ⟨hm, hv, hnn⟩⟩ := hc
      · exact ld_glob (X := X.suite a ((a, oe) :: (X.pn ++ pins))) S hg hm q hdb
      · exact ld_blt (X := X.suite a ((a, oe) :: (X.pn ++ pins))) S hg hm hv q hnn hdb
    refine rd (LM.here ?_)
    cases b with
    | false => exact ih g (hn rfl)
    | true =>
      refine codeAny_handlers_suite (HandSPX.lands_againZ g.fl fun h4 fl4 up4 => ?_)
      have J4 : Inv X pins σ' H' { s' with heap := h4 } := g.J.landed (s' := { s' with heap := h4 }) g.nb fl4.1 (g.up.trans up4) g.os g.ag
      obtain ⟨oe4, vs4, he4, hz4, hd4⟩ := fl4.there
      refine wpAny_mono ((hsu a oe4 cls d (X.pn ++ pins) hz4 ⟨_, hd4⟩).run [] _ _ H' _ (J4.suite he4 hd4 g.na nL nF) (hy rfl a g.na)) (fun f s6 hsp => ?_) (fun _ _ z => False.elim z)
      have ok := g.J.ok
      cases f with
      | next => obtain ⟨σ6, H6, S6, q6⟩ := hsp; exact ⟨_, _, S6.unsuite ok, q6⟩
      | brk => obtain ⟨σ6, H6, S6, q6⟩ := hsp; exact ⟨_, _, S6.unsuite ok, q6⟩
      | cont => obtain ⟨σ6, H6, S6, q6⟩ := hsp; exact ⟨_, _, S6.unsuite ok, q6⟩
      | ret u => obtain ⟨v6, σ6, H6, S6, r6, q6⟩ := hsp; exact ⟨_, _, _, S6.unsuite ok, r6, q6⟩
  | @named x n c i ts b₀ su np p' hds l hc hi hln hsu r ih =>
    intro g w
    obtain ⟨b, hb, hy, hn⟩ := w
    obtain ⟨nL, nF⟩ := g.away hf
    obtain ⟨oe, vs, he, hz, hd⟩ := g.fl.there
    have S := g.inv.suite he hd g.na nL nF
    have LM := PySem.W.exm_one (M := model X.prog X.w) (g.inv.kIn) (fun A Q E s k q => wpAny_typeOf_ref (k _ _ he) (by rw [hz.1]; exact q)) hb
    refine wpAny_handleBy_cons (codeAny_handlers_test ?_) (by intro q; cases q)
    have rd : ∀ {Q : Value → Shared → Prop} {E : Value → Shared → Prop}, Q c { s' with heap := h3 } → wpAny (model X.prog X.w) (X.A.mark (some (.ref a))) (eval (.Name x np) X.env) Q E { s' with heap := h3 } := fun {Q E} q => by
      obtain ⟨hg, hdb, hm | ⟨hm, hv, hnn⟩⟩ := hc
      · exact ld_glob (X := X.suite a ((a, oe) :: (X.pn ++ pins))) S hg hm q hdb
      · exact ld_blt (X := X.suite a ((a, oe) :: (X.pn ++ pins))) S hg hm hv q hnn hdb
    refine rd (LM.here ?_)
    cases b with
    | false => exact ih g (hn rfl)
    | true =>
      refine codeAny_handlers_suite_as (HandSPX.lands_againZ g.fl fun h4 fl4 up4 => ?_)
      have J4 : Inv X pins σ' H' { s' with heap := h4 } := g.J.landed (s' := { s' with heap := h4 }) g.nb fl4.1 (g.up.trans up4) g.os g.ag
      obtain ⟨oe4, vs4, he4, hz4, hd4⟩ := fl4.there
      have S4 := J4.suite he4 hd4 g.na nL nF
      refine store_ok (X := X.suite a ((a, oe4) :: (X.pn ++ pins))) (v := .ref a) S4 hN hi (.inl hln) rfl (fun s5 S5 => ?_) (.inr hln)
      refine wpAny_mono ((hsu a oe4 cls d (X.pn ++ pins) hz4 ⟨_, hd4⟩).run [] s5 _ H' _ S5 (hy rfl a g.na)) (fun f s6 hsp => ?_) (fun _ _ z => False.elim z)
      have ok := g.J.ok
      have out : ∀ {σ6 : L2.St} {H6 : Hp} {Q : Shared → Prop}, Inv (X.suite a ((a, oe4) :: (X.pn ++ pins))) [] σ6 H6 s6 → (∀ s7, Inv X pins (σ6.set i none) H6 s7 → Q s7) →
          wpAny (model X.prog X.w) X.A (do bindName X.env n .none; unbindBehindTheSuite X.env n p') (fun _ s7 => Q s7) X.xe s6 := fun {σ6 H6 Q} S6 hq => gone_ok (S6.unsuite ok) hN hi hln hq
      cases f with
      | next => obtain ⟨σ6, H6, S6, q6⟩ := hsp; exact out S6 fun s7 J7 => ⟨_, _, J7, q6⟩
      | brk => obtain ⟨σ6, H6, S6, q6⟩ := hsp; exact out S6 fun s7 J7 => ⟨_, _, J7, q6⟩
      | cont => obtain ⟨σ6, H6, S6, q6⟩ := hsp; exact out S6 fun s7 J7 => ⟨_, _, J7, q6⟩
      | ret u => obtain ⟨v6, σ6, H6, S6, r6, q6⟩ := hsp; exact out S6 fun s7 J7 => ⟨_, _, _, J7, r6, q6⟩
/-- try: body, any clauses -/
theorem ps_try_cl {body : List Stmt} {h₀ : ExceptHandler} {hds : List ExceptHandler} {l : List (Value × Option Nat × Suite)} {pos : PySem.Pos} {tb : WX → TS} (hs : X.stack = X.env :: X.outer) (hf : X.env.frame = some X.env.locals) (hN : X.N.Nodup) (tk : Takes X Wout)
    (hb : ∀ (W : WX) (pn : List (Addr × Obj)) (xe : Value → Shared → Prop), Takes (X.tr pn xe) W → PassesOwn (model X.prog X.w) X.A X.env xe → PSs (X.tr pn xe) body (tb W))
    (hh : ClOk X (h₀ :: hds) l) : PS X (.Try body (h₀ :: hds) [] [] pos) (fun D σ H => tb (wCl X.K Wout D l) D σ H) := by
  refine ⟨fun pins s σ H D I h => ?_⟩
  have ok := I.ok
  have hfr : X.A.frames = some (X.env :: X.outer) := by rw [ok.frames, hs]
  refine wpAny_Try_except (wpAny_mono ((hb (wCl X.K Wout D l) (X.pn ++ pins) (fun e s₁ => wpAny (model X.prog X.w) X.A (noteFrame e X.env) (fun _ s₂ => wpAny (model X.prog X.w) X.A (setFlight e none) (fun _ s₃ =>
    wpAny (model X.prog X.w) X.A (handleBy e X.env (h₀ :: hds)) (SP X pins D) X.xe s₃) X.xe s₂) X.xe s₁) (fun u s' xx => ?_) PassesOwn.looking).run [] s σ H D (I.toTry _) h) (fun f s1 hsp => ?_) (fun e s1 he => he))
  · obtain ⟨a, B, sI, pins', σ', H', cls, d, rfl, J', nb, up, sky, na, os, ag, w⟩ := xx
    have sky' : Sky B (X.env :: X.outer) a (Zc cls d) X.env.locals s'.heap := by rw [← hs]; exact sky
    show wpAny (model X.prog X.w) X.A (noteFrame (.ref a) X.env) _ _ _
    exact Sky.land Zc.steady hfr hf sky' fun h3 fl3 up3 => clauses hs hf hN tk hh ⟨J'.ofTry ok, nb, up.trans up3, fl3, na, os, ag⟩ w
  · cases f with
    | next => obtain ⟨σ', H', J', q⟩ := hsp; exact wpAny_execs_nil ⟨σ', H', J'.ofTry ok, q⟩
    | brk => obtain ⟨σ', H', J', q⟩ := hsp; exact ⟨σ', H', J'.ofTry ok, q⟩
    | cont => obtain ⟨σ', H', J', q⟩ := hsp; exact ⟨σ', H', J'.ofTry ok, q⟩
    | ret u => obtain ⟨v, σ', H', J', r, q⟩ := hsp; exact ⟨v, σ', H', J'.ofTry ok, r, q⟩
end
end Q
/-! a dict comprehension whose keys are tuples of ints and texts -/
namespace Q
open PySem PySem.Spec PyProof.Rows L2
/-- what is stored into a dict by its keys' own way (no __setitem__): a dict of tuple keys -/
theorem t_dictSet {X : Cx} {pins : List (Addr × Obj)} {σ : L2.St} {H : Hp} {s : Shared} {A : Around} {E : Value → Shared → Prop} {D b : Addr} {kvs : List (List Key × V)} {k : List Key} {v : V} {r : Value} {Q : Unit → Shared → Prop}
    (hu : A.units + 1 < cLine) (I : Inv X pins σ H s) (hD : H D = some (.dT kvs)) (hb : H b = some (.tup (k.map kV))) (hz : kvs.length < sizeLine) (rv : RelV v r)
    (h : ∀ s', Inv X pins σ (upd H D (.dT (putK kvs k v))) s' → Q () s') : wpAny (model X.prog X.w) A (dictSet D (.ref b) r) Q E s := by
  obtain ⟨z, hd, xs, rel, dd⟩ := dt_of I.hok hD
  have hx : xs.length ≤ sizeLine := by rw [← Paired.length rel]; exact z
  have hl : (putK kvs k v).length ≤ sizeLine := by have := length_putK kvs k v; omega
  have room : (tupleKind (mixKind X.prog X.w)).room A := Nat.lt_of_succ_lt hu
  refine wpAny_dictSet_heap (hsz := hx) room (key_of I.hok hb) dd fun h' dd' hs => h _ ?_
  obtain ⟨q, es, ep, hq, h2, h3, h4, _, h5⟩ := dd'
  refine d_write I (by rw [hD]; exact True.intro) hs ⟨q, hq⟩ ⟨hl, hd, _, (rel.put k hb rv).keeps fun c ys ec => ?_, q, es, ep, hq, h2, h3, h4, h5⟩
  rw [upd_ne (ne_of ec hD (fun z => nomatch z))]
  exact ec
/-- the reading: D is the new dict -/
def tDcT (wi : TI) (g : TG) (tt : TT) (tk tv : TE) (vs : List Nat) : TE := fun σ H Q => wi σ H fun J H1 => ∀ D, H1 D = none → ∃ W : Nat → Nat → Hp → Prop, (∃ m, W 0 m (upd H1 D (.dT []))) ∧ ∀ i m H, W i m H →
  (J.stop i H ∧ Q (.ref D) H) ∨ (J.go i H ∧ ∃ Nx : Hp → Prop, (∀ H', Nx H' → ∃ m', m' < m ∧ W (i + 1) m' H') ∧ ∀ x H', J.yld i H x H' → g x (wipe σ vs) H' fun σ2 H2 => wipe σ2 vs = wipe σ vs ∧ tt σ2 H2 fun b H3 =>
    if b = true then tk σ2 H3 fun y H4 => tv σ2 H4 fun z H5 => ∃ kvs k p, y = .ref p ∧ H5 p = some (.tup (k.map kV)) ∧ H5 D = some (.dT kvs) ∧ kvs.length < sizeLine ∧ Nx (upd H5 D (.dT (putK kvs k z))) else Nx H3)
theorem g_dct {wi : TI} {g : TG} {tt : TT} {tk tv : TE} {vs : List Nat} {σ : L2.St} {H : Hp} {Q : VK} (q : wi σ H fun J H1 => ∀ D, H1 D = none → ∃ W : Nat → Nat → Hp → Prop, (∃ m, W 0 m (upd H1 D (.dT []))) ∧ ∀ i m H, W i m H →
  (J.stop i H ∧ Q (.ref D) H) ∨ (J.go i H ∧ ∃ Nx : Hp → Prop, (∀ H', Nx H' → ∃ m', m' < m ∧ W (i + 1) m' H') ∧ ∀ x H', J.yld i H x H' → g x (wipe σ vs) H' fun σ2 H2 => wipe σ2 vs = wipe σ vs ∧ tt σ2 H2 fun b H3 =>
    if b = true then tk σ2 H3 fun y H4 => tv σ2 H4 fun z H5 => ∃ kvs k p, y = .ref p ∧ H5 p = some (.tup (k.map kV)) ∧ H5 D = some (.dT kvs) ∧ kvs.length < sizeLine ∧ Nx (upd H5 D (.dT (putK kvs k z))) else Nx H3)) : tDcT wi g tt tk tv vs σ H Q := q
section
variable {X : Cx}
theorem dcT_core {pins : List (Addr × Obj)} {s : Shared} {σ : L2.St} {H : Hp} {Q : VK} {use : Option (Value → Sem Unit)} {Qf : Value → Shared → Prop} {kx vx tg iter : Expr} {ifs : List Expr} {scope : Scope} {own : List (Str × Nat)} {pos pos' : PySem.Pos} {wi : TI} {g : TG} {tt : TT} {tk tv : TE} (hu : X.A.units + 1 < cLine) (hc : X.calm = true) (hN : X.N.Nodup) (I : Inv X pins σ H s) (hi : PI X tg iter wi) (ok : BlkOk X.N X.env.scope scope own)
    (hg : ∀ (s : Shared) (H : Hp) (C : Addr) (cl : List (Str × Addr)) (fp : List Addr), PG (X.blk s H scope (compEnvC scope cl C X.env) fp) tg g)
    (ht : ∀ (s : Shared) (H : Hp) (C : Addr) (cl : List (Str × Addr)) (fp : List Addr), PTs (X.blk s H scope (compEnvC scope cl C X.env) fp) ifs tt)
    (hk : ∀ (s : Shared) (H : Hp) (C : Addr) (cl : List (Str × Addr)) (fp : List Addr), PE (X.blk s H scope (compEnvC scope cl C X.env) fp) kx tk)
    (he : ∀ (s : Shared) (H : Hp) (C : Addr) (cl : List (Str × Addr)) (fp : List Addr), PE (X.blk s H scope (compEnvC scope cl C X.env) fp) vx tv) (hs : ∀ x, foldedSetIterable iter X.env x = pure x) (h : tDcT wi g tt tk tv (own.map (·.2)) σ H Q)
    (hRR : ∀ D C s' m H', Inv X pins σ H' s' → Q (.ref D) H' → s'.heap.Ns C m → FpOk X pins H' C → compPost (model X.prog X.w) X.A X.xe use Qf (.ref D) C (.ok .next) s') :
    wpAny (model X.prog X.w) X.A (comprehension (.DictComp kx vx [⟨tg, iter, ifs, 0⟩] scope pos) scope X.env pos' newDict false (eval iter X.env) use) Qf X.xe s := by
  have hfree : ∀ y ∈ scope.names, y.2 = .free → ∃ c, X.env.cells.lookup y.1 = some c := fun y hy e => by
    rcases ok.free y hy e with k | k
    · exact I.ok.has _ (.inl k)
    · exact I.ok.has _ (.inr k)
  refine wpAny_comprehension_free (use := use) rfl hs (closure_ok hfree) ok.kind (fun y hy e => by rw [ok.uniq y hy, e])
    (thn (hi.run pins s σ H _ I h) fun xv s1 hx => thn hx fun itv s2 h2 => ?_)
  obtain ⟨it, fp, tn, J, H2, rfl, I2, T, st2, f2, q⟩ := h2
  refine wpAny_newObj_type (newEnv_comp ?_)
  obtain ⟨D, hD⟩ : ∃ D, D = s2.heap.objs.size := ⟨_, rfl⟩
  have fresh : H2 D = none := I2.hok.fresh (Nat.le_of_eq hD.symm)
  obtain ⟨W, ⟨m0, w0⟩, turn⟩ := q D fresh
  rw [← hD]
  obtain ⟨s3, hs3⟩ : ∃ s3 : Shared, s3 = { s2 with heap := s2.heap.push { cls := .type "dict", data := .dict #[] } } := ⟨_, rfl⟩
  have I3 : Inv X pins σ (upd H2 D (.dT [])) s3 := by
    rw [hs3, hD]
    exact I2.laid (t' := s2.toks) (fun b o e => Heap.get?_push_of_some _ e) (Nat.le_refl _) (dt_empty s2.heap I2.big)
  have h3 : s3.heap = s2.heap.push { cls := .type "dict", data := .dict #[] } := by rw [hs3]
  have below : ∀ b ∈ fp, b < s2.heap.objs.size := fun b hb => by
    obtain ⟨o, e, _⟩ := T.obj _ _ st2 b hb
    exact Heap.lt_size e
  have f3 : ∀ b ∈ fp, FpOk X pins (upd H2 D (.dT [])) b ∧ b < s3.heap.objs.size := fun b hb => by
    have lt := below b hb
    have bD : b ≠ D := by rw [hD]; exact Nat.ne_of_lt lt
    refine ⟨⟨?_, (f2 b hb).2⟩, by rw [h3, Heap.size_push]; exact Nat.lt_succ_of_lt lt⟩
    rw [upd_ne bD]
    exact (f2 b hb).1
  have st3 : tn 0 s3.heap := T.keep _ _ _ st2 fun b _ o e => by rw [h3]; exact Heap.get?_push_of_some _ e
  have I4 := block_start I3 ok hN f3
  obtain ⟨ce, hce⟩ : ∃ ce, ce = compEnvC scope (cellsFrom (s3.heap.objs.size + 1) scope.names (cloFrom X.env.cells scope.names [])) s3.heap.objs.size X.env := ⟨_, rfl⟩
  have pg := hg s3 (upd H2 D (.dT [])) s3.heap.objs.size (cellsFrom (s3.heap.objs.size + 1) scope.names (cloFrom X.env.cells scope.names [])) fp
  have pt := ht s3 (upd H2 D (.dT [])) s3.heap.objs.size (cellsFrom (s3.heap.objs.size + 1) scope.names (cloFrom X.env.cells scope.names [])) fp
  have pk := hk s3 (upd H2 D (.dT [])) s3.heap.objs.size (cellsFrom (s3.heap.objs.size + 1) scope.names (cloFrom X.env.cells scope.names [])) fp
  have pv := he s3 (upd H2 D (.dT [])) s3.heap.objs.size (cellsFrom (s3.heap.objs.size + 1) scope.names (cloFrom X.env.cells scope.names [])) fp
  rw [← hce] at I4 pg pt pk pv
  have cL : ce.locals = s3.heap.objs.size := by rw [hce]; rfl
  rw [← hs3]
  show codeAny _ _ (.compStart (.DictComp kx vx [⟨tg, iter, ifs, 0⟩] scope pos) 0 (.ref it) (.ref D) (compEnvC scope (cellsFrom (s3.heap.objs.size + 1) scope.names (cloFrom X.env.cells scope.names [])) s3.heap.objs.size X.env)) (compPost (model X.prog X.w) X.A X.xe use Qf (.ref D) s3.heap.objs.size) { s3 with heap := pushCells (s3.heap.push { cls := .type "dict", data := .dict #[] }) scope.names }
  rw [← hce]
  have nfp : ∀ b ∈ fp, (upd H2 D (.dT [])) b = none := fun b hb => (f3 b hb).1.1
  generalize hH3 : upd H2 D (.dT []) = H3 at I3 I4 pg pt pk pv w0 nfp f3
  generalize hs4 : ({ s3 with heap := pushCells (s3.heap.push { cls := .type "dict", data := .dict #[] }) scope.names } : Shared) = s4 at I4 ⊢
  have st4 : tn 0 s4.heap := T.keep _ _ _ st3 fun b _ o e => by rw [← hs4]; exact pushCells_keeps _ _ _ _ (Heap.get?_push_of_some _ e)
  have stat : ∀ {σ' : L2.St} {H' : Hp} {s' : Shared}, Inv (X.blk s3 H3 scope ce fp) [] σ' H' s' → (∀ b ∈ fp, H' b = none) → ∀ b ∈ fp, FpOk (X.blk s3 H3 scope ce fp) [] H' b := fun {σ' H' s'} I' hn b hb =>
    ⟨hn b hb, (I'.ok.exf b hb).1, I'.ok.exfs b hb, .inl hb, fun x c e => (I'.ok.exf b hb).2 x c e, fun p hp => absurd (show p ∈ ([] : List (Addr × Obj)) ++ [] from hp) (by simp)⟩
  have loop : codeAny (model X.prog X.w) X.A (.compLoop (.DictComp kx vx [⟨tg, iter, ifs, 0⟩] scope pos) 0 (.ref it) (.ref D) ce) (compPost (model X.prog X.w) X.A X.xe use Qf (.ref D) s3.heap.objs.size) s4 := by
    refine compLoop_anyD (fun n s' => ∃ i H', Inv (X.blk s3 H3 scope ce fp) [] (wipe σ (own.map (·.2))) H' s' ∧ tn i s'.heap ∧ (∀ b ∈ fp, H' b = none) ∧ W i n H') ?_ m0 ⟨0, H3, I4, st4, nfp, w0⟩
    rintro n s5 ⟨i, H5, I5, st5, n5, w5⟩
    rcases turn i n H5 w5 with ⟨stop, qq⟩ | ⟨go, Nx, hNx, step⟩
    · refine thnF (T.done (X.blk s3 H3 scope ce fp) rfl rfl rfl hc i [] s5 _ H5 (fun _ _ => False) I5 (stat I5 n5) st5 stop) fun r s6 hr => ?_
      obtain ⟨rfl, I6⟩ := hr
      have I7 : Inv X pins σ H5 s6 := I3.call' (ch := fp) I6.os I6.base I6.hok I6.bare fun b hb => ⟨(f3 b hb).1.2.2.2.1, (f3 b hb).1.2.1, (f3 b hb).1.2.2.2.2.1, (f3 b hb).1.2.2.2.2.2⟩
      have nC : H5 s3.heap.objs.size = none := by
        have z : H5 ce.locals = none := I6.free
        rw [cL] at z; exact z
      obtain ⟨m, hn, _⟩ := I6.loc
      have hn : s6.heap.Ns ce.locals m := hn
      rw [cL] at hn
      exact hRR D s3.heap.objs.size s6 m H5 I7 qq hn (I3.fpOk (Nat.le_refl _) nC)
    · refine thnF (T.item (X.blk s3 H3 scope ce fp) rfl rfl rfl hc i [] s5 _ H5 (fun _ _ => False) I5 (stat I5 n5) st5 go) fun r s6 hr => ?_
      obtain ⟨u, rfl, h6⟩ := hr
      refine thnF h6 fun _ s7 ⟨x, H7, I7, r7, y7, st7, n7⟩ => ?_
      refine thnF (pg.run _ s7 _ H7 x u _ (I7.pinned (stat I7 n7) (T.obj _ _ st7)) r7 (step x H7 y7)) fun _ s8 ⟨σ8, H8, I8, hw8, q8⟩ => ?_
      refine thnF (pt.run _ s8 σ8 H8 _ I8 q8) fun b s9 ⟨H9, I9, q9⟩ => ?_
      have fin : ∀ {s' : Shared} {H' : Hp}, Inv (X.blk s3 H3 scope ce fp) ([] ++ pinsAt fp s7.heap) σ8 H' s' → Nx H' → ∃ m, m < n ∧ ∃ i H', Inv (X.blk s3 H3 scope ce fp) [] (wipe σ (own.map (·.2))) H' s' ∧ tn i s'.heap ∧ (∀ b ∈ fp, H' b = none) ∧ W i m H' := fun {s' H'} I' nx => by
        obtain ⟨m', hm, w'⟩ := hNx H' nx
        have pin' : ∀ b ∈ fp, ∀ o, s7.heap.get? b = some o → s'.heap.get? b = some o ∧ H' b = none := fun b hb o e =>
          let z := I'.pin (b, o) (List.mem_append_right _ (List.mem_append_right _ (mem_pinsAt hb e)))
          ⟨z.1, z.2.1⟩
        have hl : (wipe σ (own.map (·.2))).length = σ8.length := by rw [← hw8, wipe_length]
        refine ⟨m', hm, i + 1, H', (I'.unpinned (pins := [])).weak hl (fun j v e => ?_), T.keep _ _ _ st7 fun b hb o e => (pin' b hb o e).1, fun b hb => ?_, w'⟩
        · rw [← hw8] at e
          exact (wipe_some e).1
        · obtain ⟨o, e, _⟩ := T.obj _ _ st7 b hb
          exact (pin' b hb o e).2
      cases b with
      | false =>
        rw [if_neg (by decide)] at q9 ⊢
        exact fin I9 q9
      | true =>
        rw [if_pos rfl] at q9 ⊢
        refine thnF (pk.run _ s9 σ8 H9 _ I9 q9) fun z s10 ⟨yk, H10, I10, r10, q10⟩ => ?_
        refine thnF (pv.run _ s10 σ8 H10 _ I10 q10) fun z2 s11 ⟨yv, H11, I11, r11, kvs, k, p, ek, hp, hD11, hz11, nx⟩ => ?_
        subst ek
        obtain rfl : z = Value.ref p := r10
        exact t_dictSet (X := X.blk s3 H3 scope ce fp) (A := X.A) hu I11 hD11 hp hz11 r11 fun s12 I12 => fin I12 nx
  exact codeAny_compStart_dict loop (T.self X.A 0 _ _ _ st4 loop)
/-- as a value -/
theorem pe_dcT {kx vx tg iter : Expr} {ifs : List Expr} {scope : Scope} {own : List (Str × Nat)} {pos : PySem.Pos} {wi : TI} {g : TG} {tt : TT} {tk tv : TE} (hu : X.A.units + 1 < cLine) (hc : X.calm = true) (hN : X.N.Nodup) (hi : PI X tg iter wi) (ok : BlkOk X.N X.env.scope scope own)
    (hg : ∀ (s : Shared) (H : Hp) (C : Addr) (cl : List (Str × Addr)) (fp : List Addr), PG (X.blk s H scope (compEnvC scope cl C X.env) fp) tg g)
    (ht : ∀ (s : Shared) (H : Hp) (C : Addr) (cl : List (Str × Addr)) (fp : List Addr), PTs (X.blk s H scope (compEnvC scope cl C X.env) fp) ifs tt)
    (hk : ∀ (s : Shared) (H : Hp) (C : Addr) (cl : List (Str × Addr)) (fp : List Addr), PE (X.blk s H scope (compEnvC scope cl C X.env) fp) kx tk)
    (he : ∀ (s : Shared) (H : Hp) (C : Addr) (cl : List (Str × Addr)) (fp : List Addr), PE (X.blk s H scope (compEnvC scope cl C X.env) fp) vx tv) (hs : ∀ x, foldedSetIterable iter X.env x = pure x := by intro _; rfl) :
    PE X (.DictComp kx vx [⟨tg, iter, ifs, 0⟩] scope pos) (tDcT wi g tt tk tv (own.map (·.2))) := by
  refine ⟨fun pins s σ H Q I h => ?_⟩
  rw [arm_eval_DictComp]
  refine dcT_core hu hc hN I hi ok hg ht hk he hs h fun D C s' m H' I' q hn f => ⟨m, hn, fun h'' sb => ?_⟩
  obtain ⟨f0, f1, _, f3, f4, f5⟩ := f
  exact ⟨.ref D, H', I'.turned (t' := s'.toks) (fun b o hb e => (sb.2 b hb).trans e) f0 f1 f3 f4 f5, rfl, q⟩
/-- name = {..} on one line -/
theorem ps_setDcT {i : Nat} {y : Str} {py : PySem.Pos} {kx vx tg iter : Expr} {ifs : List Expr} {scope : Scope} {own : List (Str × Nat)} {pos spos : PySem.Pos} {wi : TI} {g : TG} {tt : TT} {tk tv : TE} (hu : X.A.units + 1 < cLine) (hc : X.calm = true) (hN : X.N.Nodup) (hy : X.N[i]? = some y) (hyl : X.env.scope.names.lookup y = some .local)
    (hsw : swapsWith (.DictComp kx vx [⟨tg, iter, ifs, 0⟩] scope pos) (some (.Name y py)) spos.line X.env = pure true) (hi : PI X tg iter wi) (ok : BlkOk X.N X.env.scope scope own)
    (hg : ∀ (s : Shared) (H : Hp) (C : Addr) (cl : List (Str × Addr)) (fp : List Addr), PG (X.blk s H scope (compEnvC scope cl C X.env) fp) tg g)
    (ht : ∀ (s : Shared) (H : Hp) (C : Addr) (cl : List (Str × Addr)) (fp : List Addr), PTs (X.blk s H scope (compEnvC scope cl C X.env) fp) ifs tt)
    (hk : ∀ (s : Shared) (H : Hp) (C : Addr) (cl : List (Str × Addr)) (fp : List Addr), PE (X.blk s H scope (compEnvC scope cl C X.env) fp) kx tk)
    (he : ∀ (s : Shared) (H : Hp) (C : Addr) (cl : List (Str × Addr)) (fp : List Addr), PE (X.blk s H scope (compEnvC scope cl C X.env) fp) vx tv) (hs : ∀ x, foldedSetIterable iter X.env x = pure x := by intro _; rfl) :
    PS X (.Assign [.Name y py] (.DictComp kx vx [⟨tg, iter, ifs, 0⟩] scope pos) spos) (tAsg (tDcT wi g tt tk tv (own.map (·.2))) (gName i)) := by
  refine ⟨fun pins s σ H D I h => ?_⟩
  rw [exec_Assign_Name_used _ _ _ _ hsw]
  refine wpAny_bind (wpAny_standAt (wpAny_bind ?_))
  have h : tDcT wi g tt tk tv (own.map (·.2)) σ H (fun x H1 => gName i x σ H1 D.nx) := h
  show wpAny _ X.A (do let _ ← comprehension (.DictComp kx vx [⟨tg, iter, ifs, 0⟩] scope pos) scope X.env (firstIterPos [⟨tg, iter, ifs, 0⟩] pos) newDict false (eval iter X.env) (some (assign (.Name y py) X.env))) _ _ s
  refine wpAny_bind (thn (dcT_core (Qf := fun _ s' => SP X pins D .next s') hu hc hN I hi ok hg ht hk he hs h fun L C s' m H' I' q hn f => ?_) fun _ s' hq => wpAny_pure (wpAny_pure hq))
  show wpAny _ _ (assign (.Name y py) X.env (.ref L)) _ _ _
  refine wpAny_assign_Name (store_ok2 (v := V.ref L) I' hN hy (.inl hyl) rfl (fun s2 I2 z => ?_) (.inr hyl))
  obtain ⟨a, sb, ha⟩ := z
  obtain ⟨f0, f1, _, f3, f4, f5⟩ := f
  have haC : C ≠ a := by
    rcases ha with z | z
    · rw [z]; exact f1
    · exact fun e => f4 y a z e.symm
  refine ⟨m, hn.sameBut sb haC, fun h3 sb3 => ?_⟩
  exact ⟨_, H', I2.turned (t' := s2.toks) (fun b o hb e => (sb3.2 b hb).trans e) f0 f1 f3 f4 f5, q⟩
theorem sw_trueD {kx vx : Expr} {gs : List Comprehension} {scope : Scope} {pos py : PySem.Pos} {y : Str} {l : Nat} {env : Env} (hk : env.scope.kind = .function) (hy : env.scope.names.lookup y = some .local) (hl : (py.line == pos.line) = true)
    (ha : (scope.names.any fun (n, k) => n == y && (k == .local || k == .cell)) = false) : swapsWith (.DictComp kx vx gs scope pos) (some (.Name y py)) l env = pure true := by
  have ky : env.kindOf y = some .local := hy
  have hb : env.blockKind = .function := by unfold Env.blockKind; rw [hk]; rfl
  unfold swapsWith
  simp only [hb, ky, ha, Expr.pos, hl]
  rfl
/-- over a tuple that stays -/
theorem dcT_tup {K : PySem.W.Frag} {a : Addr} {xs : List V} {g : TG} {tt : TT} {tk tv : TE} {vs : List Nat} {σ : L2.St} {H1 : Hp} {D : Addr} {Qd : Hp → Prop} (Pv : Nat → Hp → Prop) (h0 : Pv 0 (upd H1 D (.dT []))) (hl : ∀ i H, i ≤ xs.length → Pv i H → SqT K H a xs)
    (hs : ∀ i x H, xs[i]? = some x → Pv i H → g x (wipe σ vs) H fun σ2 H2 => wipe σ2 vs = wipe σ vs ∧ tt σ2 H2 fun b H3 =>
      if b = true then tk σ2 H3 fun y H4 => tv σ2 H4 fun z H5 => ∃ kvs k p, y = .ref p ∧ H5 p = some (.tup (k.map kV)) ∧ H5 D = some (.dT kvs) ∧ kvs.length < sizeLine ∧ Pv (i + 1) (upd H5 D (.dT (putK kvs k z))) else Pv (i + 1) H3) (hd : ∀ H, Pv xs.length H → Qd H) :
    ∃ W : Nat → Nat → Hp → Prop, (∃ m, W 0 m (upd H1 D (.dT []))) ∧ ∀ i m H, W i m H →
      ((Itt K a).stop i H ∧ Qd H) ∨ ((Itt K a).go i H ∧ ∃ Nx : Hp → Prop, (∀ H', Nx H' → ∃ m', m' < m ∧ W (i + 1) m' H') ∧ ∀ x H', (Itt K a).yld i H x H' → g x (wipe σ vs) H' fun σ2 H2 => wipe σ2 vs = wipe σ vs ∧ tt σ2 H2 fun b H3 =>
        if b = true then tk σ2 H3 fun y H4 => tv σ2 H4 fun z H5 => ∃ kvs k p, y = .ref p ∧ H5 p = some (.tup (k.map kV)) ∧ H5 D = some (.dT kvs) ∧ kvs.length < sizeLine ∧ Nx (upd H5 D (.dT (putK kvs k z))) else Nx H3) := by
  refine ⟨fun i m H => m = xs.length - i ∧ i ≤ xs.length ∧ Pv i H, ⟨xs.length, by simp, Nat.zero_le _, h0⟩, ?_⟩
  rintro i m H ⟨rfl, hi, p⟩
  have q := hl i H hi p
  by_cases lt : i < xs.length
  · refine .inr ⟨⟨xs, xs[i], q, by simp [lt]⟩, Pv (i + 1), fun H' p' => ⟨xs.length - (i + 1), by omega, rfl, lt, p'⟩, fun x H' y => ?_⟩
    obtain ⟨rfl, y⟩ := y
    exact hs i x _ (y xs q) p
  · have e : i = xs.length := by omega
    subst e
    exact .inl ⟨⟨xs, q, Nat.le_refl _⟩, hd H p⟩
/-- the keys of a locked dict with tuple keys -/
theorem for_keysT {d : Addr} {od : Obj} {kvs : List (List Key × V)} {g : TG} {tb : TS} {D : Ends} {σ : L2.St} {H : Hp} (Pv : Nat → L2.St → Hp → Prop) (h0 : Pv 0 σ H) (hl : ∀ i σ H, i ≤ kvs.length → Pv i σ H → H d = some (.frz od (.dT kvs)))
    (hs : ∀ i k v q σ H, kvs[i]? = some (k, v) → H q = some (.tup (k.map kV)) → Pv i σ H → g (.ref q) σ H fun σ2 H2 => tb { D with nx := Pv (i + 1), ct := Pv (i + 1), bk := D.nx } σ2 H2) (hd : ∀ σ H, Pv kvs.length σ H → D.nx σ H) :
    ∃ W : Nat → Nat → L2.St → Hp → Prop, (∃ m, W 0 m σ H) ∧ ∀ i m σ H, W i m σ H →
      ((Itkt d od kvs).stop i H ∧ D.nx σ H) ∨ ((Itkt d od kvs).go i H ∧ ∃ N : L2.St → Hp → Prop, (∀ σ' H', N σ' H' → ∃ m', m' < m ∧ W (i + 1) m' σ' H') ∧ ∀ x H', (Itkt d od kvs).yld i H x H' → g x σ H' fun σ2 H2 => tb { D with nx := N, ct := N, bk := D.nx } σ2 H2) := by
  refine ⟨fun i m σ H => m = kvs.length - i ∧ i ≤ kvs.length ∧ Pv i σ H, ⟨kvs.length, by simp, Nat.zero_le _, h0⟩, ?_⟩
  rintro i m σ H ⟨rfl, hi, p⟩
  have q := hl i σ H hi p
  by_cases lt : i < kvs.length
  · refine .inr ⟨⟨q, lt⟩, Pv (i + 1), fun σ' H' p' => ⟨kvs.length - (i + 1), by omega, rfl, lt, p'⟩, fun x H' y => ?_⟩
    obtain ⟨rfl, k, v, b, h1, rfl, h2⟩ := y
    exact hs i k v b _ _ h1 h2 p
  · have e : i = kvs.length := by omega
    subst e
    exact .inl ⟨⟨q, Nat.le_refl _⟩, hd σ H p⟩
end
end Q
/-! two dicts with tuple keys that hold the same: == gives True, != False -/
namespace Q
open PySem PySem.Spec PyProof.Rows PySem.Calls PyProof.V
section
variable {prog : Program} {w : World} {K : Type} [DecidableEq K] {knd : HeapKind prog w K} {A : Around} {E : Value → Shared → Prop} {s : Shared}
theorem same_h {nm : String} {a b : Addr} {xa xb : List (K × Addr × Value)} {Q : Bool → Shared → Prop} (hu : knd.room A) (na : (a == sysModules) = false) (nb : (b == sysModules) = false) (da : s.heap.DictOfH knd a xa) (db : s.heap.DictOfH knd b xb)
    (hl : xa.length = xb.length) (hits : ∀ x ∈ xa, ∃ p : Addr × Value, (∃ j : Nat, xb[j]? = some (x.1, p)) ∧ SeqAt.EqAt A s x.2.2 p.2 true) (h : Q true s) : wpAny (model prog w) A (Builtin.Dict.samePairs nm a b) Q E s := by
  obtain ⟨oa, ea, ep, hoa, _, hda, hka, hia, hna⟩ := da
  obtain ⟨ob, eb, ep', hob, _, hdb, hkb, hib, hnb⟩ := db
  have sa := size_of_entries hka
  have sb := size_of_entries hkb
  have sz : ea.size = eb.size := by rw [sa, sb, hl]
  unfold Builtin.Dict.samePairs Builtin.Dict.showsAll
  have n1 : ¬ (a == sysModules) = true := by rw [na]; exact Bool.false_ne_true
  have n2 : ¬ (b == sysModules) = true := by rw [nb]; exact Bool.false_ne_true
  rw [if_neg n1, if_neg n2]
  refine wpAny_bind (wpAny_pure (wpAny_bind (wpAny_pure (wpAny_bind (wpAny_dictEntries hoa hda ?_)))))
  dsimp only
  refine wpAny_bind (wpAny_dictEntries hob hdb ?_)
  rw [if_neg (by rw [sz]; simp)]
  refine wpAny_bind (wpAny_dictEpoch hoa hda (wpAny_bind ?_))
  rw [Std.Legacy.Range.forIn_eq_forIn_range']
  simp only [Std.Legacy.Range.size, Nat.sub_zero, Nat.add_sub_cancel, Nat.div_one]
  refine wpAny_forIn_list _ (fun rest q s' => s' = s ∧ q = (none, ()) ∧ ∃ i, rest = List.range' i (ea.size - i) ∧ i ≤ ea.size) _ ?_ ?_ _ _ ⟨rfl, rfl, 0, by simp, Nat.zero_le _⟩
  · rintro x rest q s' ⟨rfl, rfl, i, hr, hi⟩
    have lt : i < ea.size := by
      rcases Nat.lt_or_ge i ea.size with z | z
      · exact z
      · rw [Nat.sub_eq_zero_of_le z] at hr; simp at hr
    have e1 : ea.size - i = (ea.size - (i + 1)) + 1 := by omega
    rw [e1, List.range'_succ] at hr
    injection hr with hx hrest
    subst hx
    refine wpAny_bind (wpAny_dictEntries hoa hda ?_)
    have lx : x < xa.length := by rw [← sa]; exact lt
    have en : ea[x]? = some (entryOfKey knd xa[x]) := by rw [entry_at hka x, List.getElem?_eq_getElem lx]; rfl
    rw [en]
    obtain ⟨p, ⟨j, hj⟩, he⟩ := hits xa[x] (List.getElem_mem lx)
    have ky := hia xa[x] (List.getElem_mem lx)
    show wpAny _ _ (holding [Value.ref xa[x].2.1, xa[x].2.2] _ >>= _) _ _ _
    refine wpAny_bind (wpAny_holding (wpAny_bind ?_))
    show wpAny _ _ (dictFind b (Value.ref xa[x].2.1) (knd.hash xa[x].1)) _ _ _
    refine wpAny_dictFind_heap hu ky hob hdb hkb hib hnb (fun hno => absurd hj (hno j p)) (fun j' p' hj' => ?_)
    have same : p' = p := by
      have := idxH_unique hnb hj hj'
      subst this
      rw [hj] at hj'
      exact ((Prod.mk.inj (Option.some.inj hj')).2).symm
    subst same
    refine wpAny_bind (wpAny_dictEntries hob hdb ?_)
    rw [entry_at hkb j', hj']
    refine wpAny_holding (he _ _ _ _ ?_)
    show wpAny _ _ (if (!true) = true then _ else _) _ _ _
    rw [if_neg (by decide)]
    refine wpAny_bind (wpAny_dictEpoch hoa hda ?_)
    rw [if_neg (by simp)]
    exact wpAny_pure ⟨rfl, rfl, x + 1, hrest, lt⟩
  · rintro q s' ⟨rfl, rfl, i, hr, hi⟩
    exact wpAny_pure h
theorem key_in {xb : List (K × Addr × Value)} {k : K} {p : Addr × Value} (h : atKey xb k = some p) : ∃ j : Nat, xb[j]? = some (k, p) := by
  unfold atKey at h
  obtain ⟨y, hy, e⟩ := Option.map_eq_some_iff.mp h
  have e1 : y.1 = k := by simpa using List.find?_some hy
  obtain ⟨j, hj⟩ := List.mem_iff_getElem?.mp (List.mem_of_find?_eq_some hy)
  refine ⟨j, ?_⟩
  rw [hj, ← e1, ← e]
end
end Q
namespace Q
open PySem PySem.Spec PyProof.Rows L2
section
variable {X : Cx}
def rEqDT : R2 := fun x y H Q => ∃ a b ks ls, x = .ref a ∧ y = .ref b ∧ H a = some (.dT ks) ∧ H b = some (.dT ls) ∧ ks.length = ls.length ∧ (∀ p ∈ ks, valV ls p.1 = some p.2 ∧ flatB p.2 = true) ∧ Q (.bl true) H
def rNeDT : R2 := fun x y H Q => ∃ a b ks ls, x = .ref a ∧ y = .ref b ∧ H a = some (.dT ks) ∧ H b = some (.dT ls) ∧ ks.length = ls.length ∧ (∀ p ∈ ks, valV ls p.1 = some p.2 ∧ flatB p.2 = true) ∧ Q (.bl false) H
theorem hits_t {A : Around} {s : Shared} {H : Hp} {ls : List (List Key × V)} {xb : List (List Key × Addr × Value)} (rb : KT H ls xb) {ks : List (List Key × V)} {xa : List (List Key × Addr × Value)} (ra : KT H ks xa)
    (hp : ∀ p ∈ ks, valV ls p.1 = some p.2 ∧ flatB p.2 = true) : ∀ x ∈ xa, ∃ p : Addr × Value, (∃ j : Nat, xb[j]? = some (x.1, p)) ∧ SeqAt.EqAt A s x.2.2 p.2 true := by
  induction ra with
  | nil => intro x hx; exact absurd hx (by simp)
  | @cons p q ps qs h t ih =>
    intro x hx
    rcases List.mem_cons.mp hx with e | hx
    · subst e
      obtain ⟨h1, _, h2⟩ := h
      obtain ⟨e, f⟩ := hp p List.mem_cons_self
      have rr := rb.val p.1
      rw [e] at rr
      obtain ⟨y, hy, ry⟩ := rr.some_of
      obtain ⟨z, hz, ez⟩ := Option.map_eq_some_iff.mp hy
      rw [h1] at hz
      exact ⟨z, key_in hz, by rw [ez]; exact eqAt_same h2 ry f⟩
    · exact ih (fun p' hp' => hp p' (List.mem_cons_of_mem _ hp')) x hx
theorem op_eq_dictT (hu : X.A.units + 1 < cLine) : OpR X (compareOp .Eq) rEqDT := by
  intro pins s σ H x y v u Q I rx ry h
  obtain ⟨a, b, ks, ls, rfl, rfl, ea, eb, hlen, hp, q⟩ := h
  obtain rfl : v = Value.ref a := rx
  obtain rfl : u = Value.ref b := ry
  obtain ⟨_, na, xa, ra, da⟩ := dt_of I.hok ea
  obtain ⟨_, nb, xb, rb, db⟩ := dt_of I.hok eb
  refine wpAny_richCompare_same_room (op := .Eq) da.typeIs db.typeIs PySem.F.slot_dict_eq (wpAny_call_entry PySem.F.slot_dict_eq da.typeIs PySem.F.entry_dict_eq ?_ (PySem.F.args_dict_eq_2 _ _)) (Nat.lt_of_succ_lt hu)
  show wpAny _ _ (Builtin.Dict.dictSlotArgs "__eq__" ⟨[.ref a, .ref b], []⟩ >>= _) _ _ s
  refine wpAny_bind ?_
  unfold Builtin.Dict.dictSlotArgs
  refine wpAny_bind (wpAny_notOrdered_dict da.typeIs (show wpAny _ _ (pure (Value.ref a, Value.ref b)) _ _ s from wpAny_pure ?_))
  refine wpAny_bind (wpAny_isInstance (T := "dict") db.typeIs PySem.F.sub_dict_dict ?_)
  simp only [Bool.not_true, Bool.false_eq_true, if_false]
  refine wpAny_bind (wpAny_pure (wpAny_bind (wpAny_pure (wpAny_bind ?_))))
  have hl : xa.length = xb.length := by rw [← Paired.length ra, ← Paired.length rb]; exact hlen
  refine same_h (knd := tupleKind (mixKind X.prog X.w)) (show _ < _ from by first | exact hu | (have := hu; omega)) na nb da db hl (hits_t rb ra hp) ?_
  refine wpAny_pure ⟨_, rfl, ?_, ?_⟩
  · exact fun x => nomatch x
  · exact fin_bl I q (by simp)
theorem op_ne_dictT (hu : X.A.units + 1 < cLine) : OpR X (compareOp .NotEq) rNeDT := by
  intro pins s σ H x y v u Q I rx ry h
  obtain ⟨a, b, ks, ls, rfl, rfl, ea, eb, hlen, hp, q⟩ := h
  obtain rfl : v = Value.ref a := rx
  obtain rfl : u = Value.ref b := ry
  obtain ⟨_, na, xa, ra, da⟩ := dt_of I.hok ea
  obtain ⟨_, nb, xb, rb, db⟩ := dt_of I.hok eb
  refine wpAny_richCompare_same_room (op := .NotEq) da.typeIs db.typeIs PySem.F.slot_dict_ne (wpAny_call_entry PySem.F.slot_dict_ne da.typeIs PySem.F.entry_dict_ne ?_ (PySem.F.args_dict_ne_2 _ _)) (Nat.lt_of_succ_lt hu)
  show wpAny _ _ (Builtin.Dict.dictSlotArgs "__ne__" ⟨[.ref a, .ref b], []⟩ >>= _) _ _ s
  refine wpAny_bind ?_
  unfold Builtin.Dict.dictSlotArgs
  refine wpAny_bind (wpAny_notOrdered_dict da.typeIs (show wpAny _ _ (pure (Value.ref a, Value.ref b)) _ _ s from wpAny_pure ?_))
  refine wpAny_bind (wpAny_isInstance (T := "dict") db.typeIs PySem.F.sub_dict_dict ?_)
  simp only [Bool.not_true, Bool.false_eq_true, if_false]
  refine wpAny_bind (wpAny_pure (wpAny_bind (wpAny_pure (wpAny_bind ?_))))
  have hl : xa.length = xb.length := by rw [← Paired.length ra, ← Paired.length rb]; exact hlen
  refine same_h (knd := tupleKind (mixKind X.prog X.w)) (show _ < _ from by first | exact hu | (have := hu; omega)) na nb da db hl (hits_t rb ra hp) ?_
  refine wpAny_pure ⟨_, rfl, ?_, ?_⟩
  · exact fun x => nomatch x
  · exact fin_bl I q (by simp)
end
end Q
/-! k91, the mathematics: Floyd's table and six turns of relaxing tell the same -/
namespace K91
open PySem (Str)
abbrev Pr := Str × Str
abbrev DD := List (Pr × Int)
def gt (d : DD) (k : Pr) : Option Int := (d.find? fun e => decide (e.1 = k)).map (·.2)
def pt (d : DD) (k : Pr) (v : Int) : DD := if (gt d k).isSome then d.map (fun e => if e.1 = k then (e.1, v) else e) else d ++ [(k, v)]
theorem gt_nil (k : Pr) : gt [] k = none := rfl
theorem gt_cons (e : Pr × Int) (d : DD) (k : Pr) : gt (e :: d) k = if e.1 = k then some e.2 else gt d k := by
  unfold gt
  rw [List.find?_cons]
  by_cases h : e.1 = k
  · rw [decide_eq_true h, if_pos h]; rfl
  · rw [decide_eq_false h, if_neg h]
theorem gt_map (k j : Pr) (v : Int) : ∀ d : DD, gt (d.map fun e => if e.1 = k then (e.1, v) else e) j = if j = k then (gt d j).map fun _ => v else gt d j
  | [] => by simp [gt_nil]
  | e :: d => by
    rw [List.map_cons, gt_cons, gt_map k j v d, gt_cons]
    by_cases h1 : e.1 = k
    · rw [if_pos h1]
      by_cases h2 : e.1 = j
      · have h3 : j = k := h2.symm.trans h1
        simp only [if_pos h2, if_pos h3]; rfl
      · simp only [if_neg h2]
    · rw [if_neg h1]
      by_cases h2 : e.1 = j
      · have h3 : ¬ j = k := fun q => h1 (h2.trans q)
        simp only [if_pos h2, if_neg h3]
      · simp only [if_neg h2]
theorem gt_snoc (k j : Pr) (v : Int) : ∀ d : DD, gt d k = none → gt (d ++ [(k, v)]) j = if j = k then some v else gt d j
  | [], _ => by
    rw [List.nil_append, gt_cons, gt_nil]
    by_cases h : j = k
    · rw [if_pos h.symm, if_pos h]
    · rw [if_neg (fun q => h q.symm), if_neg h]
  | e :: d, h => by
    rw [gt_cons] at h
    have h1 : ¬ e.1 = k := fun q => by rw [if_pos q] at h; cases h
    rw [if_neg h1] at h
    rw [List.cons_append, gt_cons, gt_snoc k j v d h, gt_cons]
    by_cases h2 : e.1 = j
    · have h3 : ¬ j = k := fun q => h1 (h2.trans q)
      simp only [if_pos h2, if_neg h3]
    · simp only [if_neg h2]
theorem gt_pt (d : DD) (k j : Pr) (v : Int) : gt (pt d k v) j = if j = k then some v else gt d j := by
  unfold pt
  by_cases h : (gt d k).isSome = true
  · rw [if_pos h, gt_map]
    by_cases h2 : j = k
    · rw [if_pos h2, if_pos h2, h2]
      obtain ⟨c, hc⟩ := Option.isSome_iff_exists.mp h
      rw [hc]; rfl
    · rw [if_neg h2, if_neg h2]
  · rw [if_neg h]
    have hn : gt d k = none := by simpa using h
    exact gt_snoc k j v d hn
theorem gt_some_mem : ∀ {d : DD} {k : Pr} {c : Int}, gt d k = some c → (k, c) ∈ d
  | [], _, _, h => by cases h
  | e :: d, k, c, h => by
    rw [gt_cons] at h
    by_cases h1 : e.1 = k
    · rw [if_pos h1] at h
      obtain ⟨p, v⟩ := e
      cases h; cases h1
      exact List.mem_cons_self
    · rw [if_neg h1] at h
      exact List.mem_cons_of_mem _ (gt_some_mem h)
theorem gt_of_mem : ∀ {d : DD} {k : Pr} {c : Int}, (d.map (·.1)).Nodup → (k, c) ∈ d → gt d k = some c
  | e :: d, k, c, hn, h => by
    rw [List.map_cons, List.nodup_cons] at hn
    rw [gt_cons]
    rcases List.mem_cons.mp h with h | h
    · rw [← h, if_pos rfl]
    · have : ¬ e.1 = k := fun q => hn.1 (by rw [q]; exact List.mem_map.mpr ⟨_, h, rfl⟩)
      rw [if_neg this]
      exact gt_of_mem hn.2 h
theorem gt_none_iff {d : DD} {k : Pr} : gt d k = none ↔ k ∉ d.map (·.1) := by
  constructor
  · intro h hm
    obtain ⟨e, he, hk⟩ := List.mem_map.mp hm
    have : ∀ {d : DD}, e ∈ d → gt d k ≠ none := by
      intro d
      induction d with
      | nil => intro h; cases h
      | cons x d ih =>
        intro h q
        rw [gt_cons] at q
        by_cases h1 : x.1 = k
        · rw [if_pos h1] at q; cases q
        · rw [if_neg h1] at q
          rcases List.mem_cons.mp h with h | h
          · exact h1 (h ▸ hk)
          · exact ih h q
    exact this he h
  · intro h
    cases q : gt d k with
    | none => rfl
    | some c => exact absurd (List.mem_map.mpr ⟨_, gt_some_mem q, rfl⟩) h
theorem keys_pt (d : DD) (k : Pr) (v : Int) : (pt d k v).map (·.1) = if (gt d k).isSome then d.map (·.1) else d.map (·.1) ++ [k] := by
  unfold pt
  by_cases h : (gt d k).isSome = true
  · rw [if_pos h, if_pos h, List.map_map]
    apply List.map_congr_left
    intro e _
    show (if e.1 = k then (e.1, v) else e).1 = e.1
    split <;> rfl
  · rw [if_neg h, if_neg h, List.map_append]; rfl
theorem nodup_pt {d : DD} (k : Pr) (v : Int) (hn : (d.map (·.1)).Nodup) : ((pt d k v).map (·.1)).Nodup := by
  rw [keys_pt]
  by_cases h : (gt d k).isSome = true
  · rw [if_pos h]; exact hn
  · rw [if_neg h]
    have hk : k ∉ d.map (·.1) := gt_none_iff.mp (by simpa using h)
    rw [List.nodup_append]
    refine ⟨hn, by simp, fun a ha b hb => ?_⟩
    rw [List.mem_singleton] at hb
    subst hb
    exact fun q => hk (q ▸ ha)
/-- nodup lists, one within the other -/
theorem len_le_of_sub {α : Type} [DecidableEq α] : ∀ {a b : List α}, a.Nodup → (∀ x ∈ a, x ∈ b) → a.length ≤ b.length
  | [], _, _, _ => Nat.zero_le _
  | x :: a, b, hn, hs => by
    rw [List.nodup_cons] at hn
    have hx := hs x List.mem_cons_self
    have h1 : ∀ y ∈ a, y ∈ b.erase x := fun y hy => by
      have ne : y ≠ x := fun q => hn.1 (q ▸ hy)
      exact (List.mem_erase_of_ne ne).mpr (hs y (List.mem_cons_of_mem _ hy))
    have h2 := len_le_of_sub hn.2 h1
    rw [List.length_erase_of_mem hx] at h2
    have h3 : 0 < b.length := List.length_pos_of_mem hx
    rw [List.length_cons]
    omega
/-- the two tables tell the same -/
theorem len_eq_of {d e : DD} (hd : (d.map (·.1)).Nodup) (he : (e.map (·.1)).Nodup) (h : ∀ k, gt d k = gt e k) : d.length = e.length := by
  have key : ∀ {d e : DD}, (d.map (·.1)).Nodup → (∀ k, gt d k = gt e k) → d.length ≤ e.length := by
    intro d e hd h
    have := len_le_of_sub (b := e.map (·.1)) hd fun k hk => by
      apply Classical.byContradiction
      intro hn
      exact (gt_none_iff.mp ((h k).trans (gt_none_iff.mpr hn))) hk
    simpa using this
  exact Nat.le_antisymm (key hd h) (key he fun k => (h k).symm)

/-! ### walks -/
def cost (E : DD) : Str → List Str → Option Int
  | _, [] => some 0
  | p, r :: l => match gt E (p, r), cost E r l with
    | some m, some c => some (m + c)
    | _, _ => none
def endp : Str → List Str → Str
  | p, [] => p
  | _, r :: l => endp r l
theorem cost_cons {E : DD} {p r : Str} {l : List Str} {c : Int} : cost E p (r :: l) = some c ↔ ∃ m c', gt E (p, r) = some m ∧ cost E r l = some c' ∧ c = m + c' := by
  show (match gt E (p, r), cost E r l with | some m, some c => some (m + c) | _, _ => none) = some c ↔ _
  cases gt E (p, r) with
  | none => simp
  | some m =>
    cases cost E r l with
    | none => simp
    | some c' => simp [eq_comm]
theorem cost_append {E : DD} : ∀ {p : Str} {a b : List Str} {c : Int}, cost E p (a ++ b) = some c ↔ ∃ c1 c2, cost E p a = some c1 ∧ cost E (endp p a) b = some c2 ∧ c = c1 + c2
  | p, [], b, c => by
    constructor
    · intro h; exact ⟨0, c, rfl, h, by omega⟩
    · rintro ⟨c1, c2, h1, h2, rfl⟩
      cases h1
      rw [Int.zero_add]; exact h2
  | p, r :: a, b, c => by
    rw [List.cons_append, cost_cons]
    constructor
    · rintro ⟨m, c', h1, h2, rfl⟩
      obtain ⟨c1, c2, h3, h4, rfl⟩ := cost_append.mp h2
      exact ⟨m + c1, c2, cost_cons.mpr ⟨m, c1, h1, h3, rfl⟩, h4, by omega⟩
    · rintro ⟨c1, c2, h1, h2, rfl⟩
      obtain ⟨m, c', h3, h4, rfl⟩ := cost_cons.mp h1
      exact ⟨m, c' + c2, h3, cost_append.mpr ⟨c', c2, h4, h2, rfl⟩, by omega⟩
theorem endp_append : ∀ (p : Str) (a b : List Str), endp p (a ++ b) = endp (endp p a) b
  | _, [], _ => rfl
  | _, r :: a, b => endp_append r a b
def NonNeg (E : DD) : Prop := ∀ k m, gt E k = some m → 0 ≤ m
theorem cost_pos {E : DD} (hE : NonNeg E) : ∀ {p : Str} {l : List Str} {c : Int}, cost E p l = some c → 0 ≤ c
  | _, [], c, h => by cases h; exact Int.le_refl 0
  | p, r :: l, c, h => by
    obtain ⟨m, c', h1, h2, rfl⟩ := cost_cons.mp h
    have := hE _ _ h1
    have := cost_pos hE h2
    omega
/-- a list that holds something twice -/
theorem twice : ∀ {l : List Str}, ¬ l.Nodup → ∃ a x b c, l = a ++ x :: (b ++ x :: c)
  | [], h => absurd List.nodup_nil h
  | y :: l, h => by
    by_cases hy : y ∈ l
    · obtain ⟨b, c, rfl⟩ := List.append_of_mem hy
      exact ⟨[], y, b, c, rfl⟩
    · have : ¬ l.Nodup := fun q => h (List.nodup_cons.mpr ⟨hy, q⟩)
      obtain ⟨a, x, b, c, rfl⟩ := twice this
      exact ⟨y :: a, x, b, c, rfl⟩
/-- every walk has one of few steps that is no longer -/
theorem short {E : DD} (hE : NonNeg E) {pl : List Str} (hm : ∀ k m, gt E k = some m → k.2 ∈ pl) : ∀ (n : Nat) {p : Str} {l : List Str} {c : Int}, l.length ≤ n → cost E p l = some c → ∃ l' c', l'.length ≤ pl.length ∧ cost E p l' = some c' ∧ c' ≤ c ∧ endp p l' = endp p l
  | 0, p, l, c, hl, h => by
    have : l = [] := List.length_eq_zero_iff.mp (Nat.le_zero.mp hl)
    subst this
    exact ⟨[], c, Nat.zero_le _, h, Int.le_refl _, rfl⟩
  | n + 1, p, l, c, hl, h => by
    by_cases hn : l.Nodup
    · refine ⟨l, c, len_le_of_sub hn ?_, h, Int.le_refl _, rfl⟩
      have : ∀ {p : Str} {l : List Str} {c : Int}, cost E p l = some c → ∀ x ∈ l, x ∈ pl := by
        intro p l
        induction l generalizing p with
        | nil => intro c _ x hx; cases hx
        | cons r l ih =>
          intro c h x hx
          obtain ⟨m, c', h1, h2, _⟩ := cost_cons.mp h
          rcases List.mem_cons.mp hx with e | hx
          · rw [e]; exact hm _ _ h1
          · exact ih h2 x hx
      exact this h
    · obtain ⟨a, x, b, d, rfl⟩ := twice hn
      obtain ⟨c1, c2, h1, h2, rfl⟩ := cost_append.mp h
      obtain ⟨m, c3, h3, h4, rfl⟩ := cost_cons.mp h2
      obtain ⟨c4, c5, h5, h6, rfl⟩ := cost_append.mp h4
      obtain ⟨m', c6, h7, h8, rfl⟩ := cost_cons.mp h6
      have k4 := cost_pos hE h5
      have k5 := hE _ _ h7
      have hs : cost E p (a ++ x :: d) = some (c1 + (m + c6)) := cost_append.mpr ⟨c1, m + c6, h1, cost_cons.mpr ⟨m, c6, h3, h8, rfl⟩, rfl⟩
      have hl2 : (a ++ x :: d).length ≤ n := by
        simp only [List.length_append, List.length_cons] at hl ⊢
        omega
      obtain ⟨l', c', g1, g2, g3, g4⟩ := short hE hm n hl2 hs
      refine ⟨l', c', g1, g2, by omega, ?_⟩
      rw [g4]
      rw [endp_append, endp_append]
      show endp x d = endp x (b ++ x :: d)
      rw [endp_append]
      rfl
/-! ### tables: what they tell is a walk's, and they tell no more than a walk's -/
def Sound (E d : DD) : Prop := ∀ p q c, gt d (p, q) = some c → ∃ l, cost E p l = some c ∧ endp p l = q
def Low (d : DD) (p q : Str) (c : Int) : Prop := ∃ c', gt d (p, q) = some c' ∧ c' ≤ c
def Le (d e : DD) : Prop := ∀ p q c, gt d (p, q) = some c → Low e p q c
theorem Le.refl (d : DD) : Le d d := fun p q c h => ⟨c, h, Int.le_refl _⟩
theorem Le.trans {a b c : DD} (h : Le a b) (g : Le b c) : Le a c := fun p q x hx => by
  obtain ⟨y, hy, h1⟩ := h p q x hx
  obtain ⟨z, hz, h2⟩ := g p q y hy
  exact ⟨z, hz, Int.le_trans h2 h1⟩
theorem Low.le {d e : DD} {p q : Str} {c : Int} (h : Low d p q c) (g : Le d e) : Low e p q c := by
  obtain ⟨x, hx, h1⟩ := h
  obtain ⟨y, hy, h2⟩ := g p q x hx
  exact ⟨y, hy, Int.le_trans h2 h1⟩
theorem Low.mono {d : DD} {p q : Str} {c c' : Int} (h : Low d p q c) (g : c ≤ c') : Low d p q c' := by
  obtain ⟨x, hx, h1⟩ := h
  exact ⟨x, hx, Int.le_trans h1 g⟩
/-- put if it is new or less -/
def low (d : DD) (k : Pr) (v : Int) : DD := match gt d k with
  | none => pt d k v
  | some b => if v < b then pt d k v else d
theorem low_le (d : DD) (k : Pr) (v : Int) : Le d (low d k v) := by
  intro p q c h
  unfold low
  cases e : gt d k with
  | none =>
    have ne : ¬ (p, q) = k := fun z => by rw [z, e] at h; cases h
    exact ⟨c, by rw [gt_pt, if_neg ne]; exact h, Int.le_refl _⟩
  | some b =>
    dsimp only
    by_cases hv : v < b
    · rw [if_pos hv]
      by_cases ek : (p, q) = k
      · rw [ek, e] at h; cases h
        exact ⟨v, by rw [gt_pt, if_pos ek], by omega⟩
      · exact ⟨c, by rw [gt_pt, if_neg ek]; exact h, Int.le_refl _⟩
    · rw [if_neg hv]; exact ⟨c, h, Int.le_refl _⟩
theorem low_low (d : DD) (p q : Str) (v : Int) : Low (low d (p, q) v) p q v := by
  unfold low
  cases e : gt d (p, q) with
  | none => exact ⟨v, by rw [gt_pt, if_pos rfl], Int.le_refl _⟩
  | some b =>
    dsimp only
    by_cases hv : v < b
    · rw [if_pos hv]; exact ⟨v, by rw [gt_pt, if_pos rfl], Int.le_refl _⟩
    · rw [if_neg hv]; exact ⟨b, e, by omega⟩
theorem low_sound {E d : DD} (h : Sound E d) {p q : Str} {v : Int} (hw : ∃ l, cost E p l = some v ∧ endp p l = q) : Sound E (low d (p, q) v) := by
  have key : Sound E (pt d (p, q) v) := by
    intro a b c hc
    rw [gt_pt] at hc
    by_cases e : (a, b) = (p, q)
    · rw [if_pos e] at hc; cases hc; cases e; exact hw
    · rw [if_neg e] at hc; exact h a b c hc
  unfold low
  cases e : gt d (p, q) with
  | none => exact key
  | some b =>
    dsimp only
    by_cases hv : v < b
    · rw [if_pos hv]; exact key
    · rw [if_neg hv]; exact h
theorem low_nodup {d : DD} (k : Pr) (v : Int) (h : (d.map (·.1)).Nodup) : ((low d k v).map (·.1)).Nodup := by
  unfold low
  split
  · exact nodup_pt _ _ h
  · split
    · exact nodup_pt _ _ h
    · exact h
/-- both start from this -/
def diag (pl : List Str) : DD := pl.foldl (fun d p => pt d (p, p) 0) []
theorem diag_gt : ∀ (pl : List Str) (d : DD) (k : Pr), gt (pl.foldl (fun d p => pt d (p, p) 0) d) k = if k.1 = k.2 ∧ k.1 ∈ pl then some 0 else gt d k
  | [], d, k => by simp
  | p :: pl, d, k => by
    rw [List.foldl_cons, diag_gt pl, gt_pt]
    obtain ⟨a, b⟩ := k
    by_cases h1 : a = b
    · subst h1
      by_cases h2 : a ∈ pl
      · rw [if_pos ⟨rfl, h2⟩, if_pos ⟨rfl, List.mem_cons_of_mem _ h2⟩]
      · rw [if_neg (fun q => h2 q.2)]
        by_cases h3 : a = p
        · subst h3; rw [if_pos rfl, if_pos ⟨rfl, List.mem_cons_self⟩]
        · have h4 : ¬ (a, a) = (p, p) := fun q => h3 (Prod.mk.inj q).1
          have h5 : ¬ (a = a ∧ a ∈ p :: pl) := fun q => by
            rcases List.mem_cons.mp q.2 with z | z
            · exact h3 z
            · exact h2 z
          rw [if_neg h4, if_neg h5]
    · have h4 : ¬ (a, b) = (p, p) := fun q => h1 ((Prod.mk.inj q).1.trans (Prod.mk.inj q).2.symm)
      have h5 : ∀ l : List Str, ¬ ((a, b).1 = (a, b).2 ∧ (a, b).1 ∈ l) := fun l q => h1 q.1
      rw [if_neg (h5 pl), if_neg (h5 (p :: pl)), if_neg h4]
theorem diag_nodup : ∀ (pl : List Str) (d : DD), (d.map (·.1)).Nodup → ((pl.foldl (fun d p => pt d (p, p) 0) d).map (·.1)).Nodup
  | [], _, h => h
  | p :: pl, d, h => diag_nodup pl _ (nodup_pt _ _ h)
theorem diag_sound (E : DD) (pl : List Str) : Sound E (diag pl) := by
  intro p q c h
  unfold diag at h
  rw [diag_gt] at h
  by_cases e : p = q ∧ p ∈ pl
  · rw [if_pos e] at h; cases h
    exact ⟨[], rfl, e.1⟩
  · rw [if_neg e] at h; cases h
/-! ### relaxing -/
/-- one place and middle, all edges -/
def relaxE (p m : Str) (d : DD) (e : Pr × Int) : DD := if e.1.1 = m then (match gt d (p, m) with | some c => low d (p, e.1.2) (c + e.2) | none => d) else d
def relaxP (E : DD) (d : DD) (k : Pr) : DD := E.foldl (relaxE k.1 k.2) d
def turn (E d : DD) : DD := (d.map (·.1)).foldl (relaxP E) d
def turns (E : DD) : Nat → DD → DD
  | 0, d => d
  | n + 1, d => turn E (turns E n d)
theorem relaxE_le (p m : Str) (d : DD) (e : Pr × Int) : Le d (relaxE p m d e) := by
  unfold relaxE
  by_cases h : e.1.1 = m
  · rw [if_pos h]
    cases gt d (p, m) with
    | none => exact Le.refl d
    | some c => exact low_le d _ _
  · rw [if_neg h]; exact Le.refl d
theorem fold_le {α : Type} {f : DD → α → DD} (hf : ∀ d x, Le d (f d x)) : ∀ (l : List α) (d : DD), Le d (l.foldl f d)
  | [], d => Le.refl d
  | x :: l, d => (hf d x).trans (fold_le hf l (f d x))
theorem fold_sound {α : Type} {E : DD} {f : DD → α → DD} {P : α → Prop} (hf : ∀ d x, P x → Sound E d → Sound E (f d x)) : ∀ (l : List α) (d : DD), (∀ x ∈ l, P x) → Sound E d → Sound E (l.foldl f d)
  | [], _, _, h => h
  | x :: l, d, hp, h => fold_sound hf l (f d x) (fun y hy => hp y (List.mem_cons_of_mem _ hy)) (hf d x (hp x List.mem_cons_self) h)
theorem fold_nodup {α : Type} {f : DD → α → DD} (hf : ∀ d x, (d.map (·.1)).Nodup → ((f d x).map (·.1)).Nodup) : ∀ (l : List α) (d : DD), (d.map (·.1)).Nodup → ((l.foldl f d).map (·.1)).Nodup
  | [], _, h => h
  | x :: l, d, h => fold_nodup hf l (f d x) (hf d x h)
theorem relaxP_le (E : DD) (d : DD) (k : Pr) : Le d (relaxP E d k) := fold_le (relaxE_le k.1 k.2) E d
theorem turn_le (E d : DD) : Le d (turn E d) := fold_le (relaxP_le E) _ d
theorem relaxE_sound {E : DD} (hn : (E.map (·.1)).Nodup) (p m : Str) (d : DD) (e : Pr × Int) (he : e ∈ E) (h : Sound E d) : Sound E (relaxE p m d e) := by
  unfold relaxE
  by_cases hm : e.1.1 = m
  · rw [if_pos hm]
    cases hg : gt d (p, m) with
    | none => exact h
    | some c =>
      refine low_sound h ?_
      obtain ⟨l, h1, h2⟩ := h p m c hg
      obtain ⟨⟨a, b⟩, v⟩ := e
      dsimp only at hm ⊢
      subst hm
      refine ⟨l ++ [b], cost_append.mpr ⟨c, v, h1, cost_cons.mpr ⟨v, 0, ?_, rfl, by omega⟩, rfl⟩, by rw [endp_append]; rfl⟩
      rw [h2]
      exact gt_of_mem hn he
  · rw [if_neg hm]; exact h
theorem turn_sound {E d : DD} (hn : (E.map (·.1)).Nodup) (h : Sound E d) : Sound E (turn E d) :=
  fold_sound (P := fun _ => True) (fun d k _ h => fold_sound (P := fun e => e ∈ E) (fun d e he h => relaxE_sound hn k.1 k.2 d e he h) E d (fun _ he => he) h) _ d (fun _ _ => trivial) h
theorem relaxE_nodup (p m : Str) (d : DD) (e : Pr × Int) (h : (d.map (·.1)).Nodup) : ((relaxE p m d e).map (·.1)).Nodup := by
  unfold relaxE
  split
  · split
    · exact low_nodup _ _ h
    · exact h
  · exact h
theorem turn_nodup {E d : DD} (h : (d.map (·.1)).Nodup) : ((turn E d).map (·.1)).Nodup :=
  fold_nodup (fun d k h => fold_nodup (fun d e h => relaxE_nodup k.1 k.2 d e h) E d h) _ d h
/-- what is in the list is met on the way -/
theorem fold_meets {α : Type} {f : DD → α → DD} (hf : ∀ d x, Le d (f d x)) {x : α} {C : DD → Prop} {R : DD → Prop} (hC : ∀ d e, Le d e → C d → C e) (hR : ∀ d e, Le d e → R d → R e) (hx : ∀ d, C d → R (f d x)) :
    ∀ (l : List α) (d : DD), x ∈ l → C d → R (l.foldl f d)
  | y :: l, d, hm, h => by
    rcases List.mem_cons.mp hm with e | hm
    · subst e
      exact hR _ _ (fold_le hf l (f d x)) (hx d h)
    · exact fold_meets hf hC hR hx l (f d y) hm (hC _ _ (hf d y) h)
theorem turn_reach {E d : DD} {p m r : Str} {c v : Int} (he : ((m, r), v) ∈ E) (h : Low d p m c) : Low (turn E d) p r (c + v) := by
  have hk : (p, m) ∈ d.map (·.1) := by
    obtain ⟨x, hx, _⟩ := h
    exact List.mem_map.mpr ⟨_, gt_some_mem hx, rfl⟩
  refine fold_meets (C := fun d => Low d p m c) (R := fun d => Low d p r (c + v)) (relaxP_le E) (fun _ _ g h => h.le g) (fun _ _ g h => h.le g) (x := (p, m)) (fun d h => ?_) _ d hk h
  refine fold_meets (C := fun d => Low d p m c) (R := fun d => Low d p r (c + v)) (relaxE_le p m) (fun _ _ g h => h.le g) (fun _ _ g h => h.le g) (x := ((m, r), v)) (fun d h => ?_) E d he h
  obtain ⟨x, hx, h1⟩ := h
  unfold relaxE
  dsimp only
  rw [if_pos rfl, hx]
  exact (low_low d p r (x + v)).mono (by omega)
theorem turns_low {E : DD} {pl : List Str} {p : Str} (hp : p ∈ pl) : ∀ (n : Nat) {l : List Str} {c : Int}, l.length ≤ n → cost E p l = some c → Low (turns E n (diag pl)) p (endp p l) c
  | 0, l, c, hl, h => by
    have : l = [] := List.length_eq_zero_iff.mp (Nat.le_zero.mp hl)
    subst this
    cases h
    refine ⟨0, ?_, Int.le_refl _⟩
    show gt (diag pl) (p, p) = some 0
    unfold diag
    rw [diag_gt, if_pos ⟨rfl, hp⟩]
  | n + 1, l, c, hl, h => by
    rcases List.eq_nil_or_concat l with e | ⟨a, r, e⟩
    · subst e
      exact (turns_low hp n (l := []) (Nat.zero_le _) h).le (turn_le E _)
    · rw [List.concat_eq_append] at e
      subst e
      obtain ⟨c1, c2, h1, h2, rfl⟩ := cost_append.mp h
      obtain ⟨v, c3, h3, h4, rfl⟩ := cost_cons.mp h2
      cases h4
      have ha : a.length ≤ n := by
        rw [List.length_append] at hl
        simp only [List.length_cons, List.length_nil] at hl
        omega
      have := turn_reach (gt_some_mem h3) (turns_low hp n ha h1)
      rw [endp_append, Int.add_zero]
      exact this
theorem turns_sound {E : DD} (hn : (E.map (·.1)).Nodup) (pl : List Str) : ∀ n, Sound E (turns E n (diag pl))
  | 0 => diag_sound E pl
  | n + 1 => turn_sound hn (turns_sound hn pl n)
theorem turns_nodup (E : DD) (pl : List Str) : ∀ n, ((turns E n (diag pl)).map (·.1)).Nodup
  | 0 => diag_nodup pl [] List.nodup_nil
  | n + 1 => turn_nodup (turns_nodup E pl n)
/-! ### Floyd -/
def flo (b p : Str) (d : DD) (o : Str) : DD := match gt d (p, b), gt d (b, o) with
  | some x, some y => low d (p, o) (x + y)
  | _, _ => d
def floP (pl : List Str) (b : Str) (d : DD) (p : Str) : DD := pl.foldl (flo b p) d
def floB (pl : List Str) (d : DD) (b : Str) : DD := pl.foldl (floP pl b) d
def direct (d : DD) (e : Pr × Int) : DD := low d e.1 e.2
def floyd (E : DD) (pl : List Str) : DD := pl.foldl (floB pl) (E.foldl direct (diag pl))
theorem flo_le (b p : Str) (d : DD) (o : Str) : Le d (flo b p d o) := by
  unfold flo
  split
  · exact low_le d _ _
  · exact Le.refl d
theorem floP_le (pl : List Str) (b : Str) (d : DD) (p : Str) : Le d (floP pl b d p) := fold_le (flo_le b p) pl d
theorem floB_le (pl : List Str) (d : DD) (b : Str) : Le d (floB pl d b) := fold_le (floP_le pl b) pl d
theorem direct_le (d : DD) (e : Pr × Int) : Le d (direct d e) := low_le d _ _
theorem flo_sound {E : DD} (b p : Str) (d : DD) (o : Str) (h : Sound E d) : Sound E (flo b p d o) := by
  unfold flo
  cases h1 : gt d (p, b) with
  | none => exact h
  | some x =>
    cases h2 : gt d (b, o) with
    | none => exact h
    | some y =>
      obtain ⟨l, g1, g2⟩ := h p b x h1
      obtain ⟨l', g3, g4⟩ := h b o y h2
      refine low_sound h ⟨l ++ l', cost_append.mpr ⟨x, y, g1, by rw [g2]; exact g3, rfl⟩, by rw [endp_append, g2]; exact g4⟩
theorem floB_sound {E : DD} (pl : List Str) (d : DD) (b : Str) (h : Sound E d) : Sound E (floB pl d b) :=
  fold_sound (P := fun _ => True) (fun d p _ h => fold_sound (P := fun _ => True) (fun d o _ h => flo_sound b p d o h) pl d (fun _ _ => trivial) h) pl d (fun _ _ => trivial) h
theorem flo_nodup (b p : Str) (d : DD) (o : Str) (h : (d.map (·.1)).Nodup) : ((flo b p d o).map (·.1)).Nodup := by
  unfold flo
  split
  · exact low_nodup _ _ h
  · exact h
theorem floyd_nodup (E : DD) (pl : List Str) : ((floyd E pl).map (·.1)).Nodup :=
  fold_nodup (fun d b h => fold_nodup (fun d p h => fold_nodup (fun d o h => flo_nodup b p d o h) pl d h) pl d h) pl _
    (fold_nodup (fun d e h => low_nodup _ _ h) E _ (diag_nodup pl [] List.nodup_nil))
theorem floyd_sound {E : DD} (hn : (E.map (·.1)).Nodup) (pl : List Str) : Sound E (floyd E pl) :=
  fold_sound (P := fun _ => True) (fun d b _ h => floB_sound pl d b h) pl _ (fun _ _ => trivial)
    (fold_sound (P := fun e => e ∈ E) (fun d e he h => by
      obtain ⟨⟨p, q⟩, v⟩ := e
      refine low_sound h ⟨[q], cost_cons.mpr ⟨v, 0, gt_of_mem hn he, rfl, by omega⟩, rfl⟩) E _ (fun _ he => he) (diag_sound E pl))
/-- a walk all of whose places between its ends lie in B -/
def In (E : DD) (B : List Str) (p q : Str) (c : Int) : Prop := ∃ l, cost E p l = some c ∧ endp p l = q ∧ ∀ x ∈ l.dropLast, x ∈ B
theorem In.mono {E : DD} {B B' : List Str} {p q : Str} {c : Int} (h : In E B p q c) (g : ∀ x ∈ B, x ∈ B') : In E B' p q c := by
  obtain ⟨l, h1, h2, h3⟩ := h
  exact ⟨l, h1, h2, fun x hx => g x (h3 x hx)⟩
theorem In.cons {E : DD} {B : List Str} {p r q : Str} {m c : Int} (h1 : gt E (p, r) = some m) (hr : r ∈ B) (h : In E B r q c) : In E B p q (m + c) := by
  obtain ⟨l, g1, g2, g3⟩ := h
  refine ⟨r :: l, cost_cons.mpr ⟨m, c, h1, g1, rfl⟩, g2, fun x hx => ?_⟩
  cases l with
  | nil => cases hx
  | cons y l =>
    rw [List.dropLast_cons₂] at hx
    rcases List.mem_cons.mp hx with e | hx
    · rw [e]; exact hr
    · exact g3 x hx
theorem In.one {E : DD} {B : List Str} {p r : Str} {m : Int} (h1 : gt E (p, r) = some m) : In E B p r m :=
  ⟨[r], cost_cons.mpr ⟨m, 0, h1, rfl, by omega⟩, rfl, fun x hx => by cases hx⟩
theorem In.pos {E : DD} (hE : NonNeg E) {B : List Str} {p q : Str} {c : Int} (h : In E B p q c) : 0 ≤ c := by
  obtain ⟨l, h1, _⟩ := h
  exact cost_pos hE h1
/-- one more place between: straight, or by it -/
theorem In.split {E : DD} (hE : NonNeg E) {B : List Str} {b : Str} : ∀ {l : List Str} {p q : Str} {c : Int}, cost E p l = some c → endp p l = q → (∀ x ∈ l.dropLast, x ∈ b :: B) →
    (∃ c', In E B p q c' ∧ c' ≤ c) ∨ ∃ c1 c2, In E B p b c1 ∧ In E B b q c2 ∧ c1 + c2 ≤ c
  | [], p, q, c, h, he, _ => .inl ⟨c, ⟨[], h, he, fun x hx => by cases hx⟩, Int.le_refl _⟩
  | [r], p, q, c, h, he, _ => .inl ⟨c, ⟨[r], h, he, fun x hx => by cases hx⟩, Int.le_refl _⟩
  | r :: y :: l, p, q, c, h, he, hB => by
    obtain ⟨m, c', h1, h2, rfl⟩ := cost_cons.mp h
    rw [List.dropLast_cons₂] at hB
    have hr := hB r List.mem_cons_self
    have ih := In.split hE (l := y :: l) h2 he fun x hx => hB x (List.mem_cons_of_mem _ hx)
    rcases List.mem_cons.mp hr with e | hr
    · subst e
      rcases ih with ⟨c2, g1, g2⟩ | ⟨c1, c2, g1, g2, g3⟩
      · exact .inr ⟨m, c2, In.one h1, g1, by omega⟩
      · have := In.pos hE g1
        exact .inr ⟨m, c2, In.one h1, g2, by omega⟩
    · rcases ih with ⟨c2, g1, g2⟩ | ⟨c1, c2, g1, g2, g3⟩
      · exact .inl ⟨m + c2, In.cons h1 hr g1, by omega⟩
      · exact .inr ⟨m + c1, c2, In.cons h1 hr g1, g2, by omega⟩
def Full (E : DD) (pl B : List Str) (d : DD) : Prop := ∀ p q c, p ∈ pl → q ∈ pl → In E B p q c → Low d p q c
theorem floB_full {E : DD} (hE : NonNeg E) {pl B : List Str} {d : DD} {b : Str} (hb : b ∈ pl) (h : Full E pl B d) : Full E pl (b :: B) (floB pl d b) := by
  intro p q c hp hq hw
  obtain ⟨l, h1, h2, h3⟩ := hw
  rcases In.split hE h1 h2 h3 with ⟨c', g1, g2⟩ | ⟨c1, c2, g1, g2, g3⟩
  · exact ((h p q c' hp hq g1).mono g2).le (floB_le pl d b)
  · have k1 := h p b c1 hp hb g1
    have k2 := h b q c2 hb hq g2
    refine fold_meets (C := fun d => Low d p b c1 ∧ Low d b q c2) (R := fun d => Low d p q c) (floP_le pl b) (fun _ _ g h => ⟨h.1.le g, h.2.le g⟩) (fun _ _ g h => h.le g) (x := p) (fun d h => ?_) pl d hp ⟨k1, k2⟩
    refine fold_meets (C := fun d => Low d p b c1 ∧ Low d b q c2) (R := fun d => Low d p q c) (flo_le b p) (fun _ _ g h => ⟨h.1.le g, h.2.le g⟩) (fun _ _ g h => h.le g) (x := q) (fun d h => ?_) pl d hq h
    obtain ⟨⟨x, hx, x1⟩, ⟨y, hy, y1⟩⟩ := h
    unfold flo
    rw [hx, hy]
    exact (low_low d p q (x + y)).mono (by omega)
theorem fold_full {E : DD} (hE : NonNeg E) {pl : List Str} : ∀ (bs B : List Str) (d : DD), (∀ b ∈ bs, b ∈ pl) → Full E pl B d → Full E pl (bs.reverse ++ B) (bs.foldl (floB pl) d)
  | [], B, d, _, h => h
  | b :: bs, B, d, hb, h => by
    have := fold_full hE bs (b :: B) (floB pl d b) (fun x hx => hb x (List.mem_cons_of_mem _ hx)) (floB_full hE (hb b List.mem_cons_self) h)
    rw [List.reverse_cons, List.append_assoc]
    exact this
theorem direct_full {E : DD} {pl : List Str} : Full E pl [] (E.foldl direct (diag pl)) := by
  intro p q c hp hq hw
  obtain ⟨l, h1, h2, h3⟩ := hw
  have step : Le (diag pl) (E.foldl direct (diag pl)) := fold_le direct_le E _
  match l, h1, h2, h3 with
  | [], h1, h2, _ =>
    cases h1
    have e : p = q := h2
    subst e
    refine Low.le ⟨0, ?_, Int.le_refl _⟩ step
    unfold diag
    rw [diag_gt, if_pos ⟨rfl, hp⟩]
  | [r], h1, h2, _ =>
    obtain ⟨m, c', g1, g2, rfl⟩ := cost_cons.mp h1
    cases g2
    have e : r = q := h2
    subst e
    rw [Int.add_zero]
    exact fold_meets (C := fun _ => True) (R := fun d => Low d p r m) direct_le (fun _ _ _ h => h) (fun _ _ g h => h.le g) (x := ((p, r), m)) (fun d _ => low_low d p r m) E _ (gt_some_mem g1) trivial
  | r :: y :: l, _, _, h3 =>
    rw [List.dropLast_cons₂] at h3
    exact absurd (h3 r List.mem_cons_self) (by simp)
/-- what the law asks -/
theorem same {E : DD} {pl : List Str} (hn : (E.map (·.1)).Nodup) (hE : NonNeg E) (hm : ∀ k m, gt E k = some m → k.1 ∈ pl ∧ k.2 ∈ pl) (h6 : pl.length ≤ 6) : ∀ k, gt (floyd E pl) k = gt (turns E 6 (diag pl)) k := by
  have mem : ∀ {p : Str} {l : List Str} {c : Int}, cost E p l = some c → ∀ x ∈ l, x ∈ pl := by
    intro p l
    induction l generalizing p with
    | nil => intro c _ x hx; cases hx
    | cons r l ih =>
      intro c h x hx
      obtain ⟨m, c', h1, h2, _⟩ := cost_cons.mp h
      rcases List.mem_cons.mp hx with e | hx
      · rw [e]; exact (hm _ _ h1).2
      · exact ih h2 x hx
  have start : ∀ {p : Str} {l : List Str} {c : Int}, cost E p l = some c → l ≠ [] → p ∈ pl := by
    intro p l c h hl
    cases l with
    | nil => exact absurd rfl hl
    | cons r l =>
      obtain ⟨m, c', h1, h2, _⟩ := cost_cons.mp h
      exact (hm _ _ h1).1
  have keyIn : ∀ {d : DD}, Sound E d → (∀ p c, gt d (p, p) = some c → p ∈ pl) → ∀ p q c, gt d (p, q) = some c → p ∈ pl ∧ q ∈ pl := by
    intro d hs hd p q c h
    obtain ⟨l, h1, h2⟩ := hs p q c h
    cases l with
    | nil =>
      have e : p = q := h2
      subst e
      exact ⟨hd p c h, hd p c h⟩
    | cons r l =>
      refine ⟨start h1 (by simp), ?_⟩
      have : ∀ (l : List Str) (p : Str), l ≠ [] → endp p l ∈ l := by
        intro l
        induction l with
        | nil => intro p hl; exact absurd rfl hl
        | cons r l ih =>
          intro p _
          cases l with
          | nil => exact List.mem_cons_self
          | cons y l => exact List.mem_cons_of_mem _ (ih r (by simp))
      rw [← h2]
      exact mem h1 _ (this (r :: l) p (by simp))
  -- keys on the diagonal
  have diagIn : ∀ {d : DD}, (∀ p c, gt d (p, p) = some c → p ∈ pl) → ∀ (p q : Str) (v : Int), p ∈ pl → ∀ r c, gt (low d (p, q) v) (r, r) = some c → r ∈ pl := by
    intro d hd p q v hp r c h
    have key : gt (pt d (p, q) v) (r, r) = some c → r ∈ pl := by
      rw [gt_pt]
      by_cases e : (r, r) = (p, q)
      · intro _; rw [(Prod.mk.inj e).1]; exact hp
      · rw [if_neg e]; exact hd r c
    unfold low at h
    cases e : gt d (p, q) with
    | none => rw [e] at h; exact key h
    | some b =>
      rw [e] at h
      dsimp only at h
      by_cases hv : v < b
      · rw [if_pos hv] at h; exact key h
      · rw [if_neg hv] at h; exact hd r c h
  have d0 : ∀ p c, gt (diag pl) (p, p) = some c → p ∈ pl := by
    intro p c h
    unfold diag at h
    rw [diag_gt] at h
    by_cases e : p = p ∧ p ∈ pl
    · exact e.2
    · rw [if_neg e] at h; cases h
  have dT : ∀ n p c, gt (turns E n (diag pl)) (p, p) = some c → p ∈ pl := by
    intro n
    induction n with
    | zero => exact d0
    | succ n ih =>
      have : ∀ (ks : List Pr) (d : DD), (∀ p c, gt d (p, p) = some c → p ∈ pl) → (∀ k ∈ ks, k.1 ∈ pl) → ∀ p c, gt (ks.foldl (relaxP E) d) (p, p) = some c → p ∈ pl := by
        intro ks
        induction ks with
        | nil => intro d hd _; exact hd
        | cons k ks ihk =>
          intro d hd hk
          refine ihk _ ?_ fun k' hk' => hk k' (List.mem_cons_of_mem _ hk')
          have : ∀ (es : DD) (d : DD), (∀ p c, gt d (p, p) = some c → p ∈ pl) → ∀ p c, gt (es.foldl (relaxE k.1 k.2) d) (p, p) = some c → p ∈ pl := by
            intro es
            induction es with
            | nil => intro d hd; exact hd
            | cons e es ihe =>
              intro d hd
              refine ihe _ ?_
              unfold relaxE
              split
              · split
                · exact diagIn hd _ _ _ (hk k List.mem_cons_self)
                · exact hd
              · exact hd
          exact this E d hd
      refine this _ _ ih fun k hk => ?_
      obtain ⟨e, he, rfl⟩ := List.mem_map.mp hk
      have hg := gt_of_mem (turns_nodup E pl n) (show (e.1, e.2) ∈ _ from he)
      exact (keyIn (turns_sound hn pl n) ih e.1.1 e.1.2 e.2 hg).1
  have dF : ∀ p c, gt (floyd E pl) (p, p) = some c → p ∈ pl := by
    have dir : ∀ (es : DD) (d : DD), (∀ e ∈ es, e.1.1 ∈ pl) → (∀ p c, gt d (p, p) = some c → p ∈ pl) → ∀ p c, gt (es.foldl direct d) (p, p) = some c → p ∈ pl := by
      intro es
      induction es with
      | nil => intro d _ hd; exact hd
      | cons e es ih =>
        intro d he hd
        refine ih _ (fun x hx => he x (List.mem_cons_of_mem _ hx)) ?_
        obtain ⟨⟨a, b⟩, v⟩ := e
        exact diagIn hd a b v (he ((a, b), v) List.mem_cons_self)
    have one : ∀ (os : List Str) (b p : Str) (d : DD), p ∈ pl → (∀ p c, gt d (p, p) = some c → p ∈ pl) → ∀ r c, gt (os.foldl (flo b p) d) (r, r) = some c → r ∈ pl := by
      intro os b p
      induction os with
      | nil => intro d _ hd; exact hd
      | cons o os ih =>
        intro d hp hd
        refine ih _ hp ?_
        unfold flo
        split
        · exact diagIn hd p o _ hp
        · exact hd
    have two : ∀ (ps : List Str) (b : Str) (d : DD), (∀ p ∈ ps, p ∈ pl) → (∀ p c, gt d (p, p) = some c → p ∈ pl) → ∀ r c, gt (ps.foldl (floP pl b) d) (r, r) = some c → r ∈ pl := by
      intro ps b
      induction ps with
      | nil => intro d _ hd; exact hd
      | cons p ps ih => intro d hp hd; exact ih _ (fun x hx => hp x (List.mem_cons_of_mem _ hx)) (one pl b p d (hp p List.mem_cons_self) hd)
    have three : ∀ (bs : List Str) (d : DD), (∀ p c, gt d (p, p) = some c → p ∈ pl) → ∀ r c, gt (bs.foldl (floB pl) d) (r, r) = some c → r ∈ pl := by
      intro bs
      induction bs with
      | nil => intro d hd; exact hd
      | cons b bs ih => intro d hd; exact ih _ (two pl b d (fun _ h => h) hd)
    refine three pl _ (dir E _ (fun e he => ?_) d0)
    exact (hm e.1 e.2 (gt_of_mem hn he)).1
  have sF := floyd_sound hn pl
  have sT := turns_sound hn pl 6
  have full : Full E pl (pl.reverse ++ []) (floyd E pl) := fold_full hE pl [] _ (fun _ h => h) direct_full
  have FT : ∀ p q c, gt (turns E 6 (diag pl)) (p, q) = some c → Low (floyd E pl) p q c := by
    intro p q c h
    obtain ⟨hp, hq⟩ := keyIn sT (dT 6) p q c h
    obtain ⟨l, h1, h2⟩ := sT p q c h
    refine full p q c hp hq ⟨l, h1, h2, fun x hx => ?_⟩
    rw [List.append_nil, List.mem_reverse]
    exact mem h1 x (List.dropLast_subset l hx)
  have TF : ∀ p q c, gt (floyd E pl) (p, q) = some c → Low (turns E 6 (diag pl)) p q c := by
    intro p q c h
    obtain ⟨hp, hq⟩ := keyIn sF dF p q c h
    obtain ⟨l, h1, h2⟩ := sF p q c h
    obtain ⟨l', c', g1, g2, g3, g4⟩ := short hE (fun k m hk => (hm k m hk).2) l.length (Nat.le_refl _) h1
    rw [← h2, ← g4]
    exact (turns_low hp 6 (Nat.le_trans g1 h6) g2).mono g3
  rintro ⟨p, q⟩
  cases e1 : gt (floyd E pl) (p, q) with
  | none =>
    cases e2 : gt (turns E 6 (diag pl)) (p, q) with
    | none => rfl
    | some c =>
      obtain ⟨x, hx, _⟩ := FT p q c e2
      rw [e1] at hx; cases hx
  | some c =>
    obtain ⟨x, hx, h1⟩ := TF p q c e1
    obtain ⟨y, hy, h2⟩ := FT p q x hx
    rw [e1] at hy; cases hy
    rw [hx]
    exact congrArg some (by omega)
end K91
namespace Q
open PySem PySem.Spec PyProof.Rows L2 K91
/-! own words: ne (two addresses differ), hp (what stands at an address), sd (a side), go (a reading, straight on) -/
local macro_rules | `(tactic| walk_at "ne") => `(tactic| first
  | assumption
  | (refine Ne.symm ?_; assumption)
  | (refine (fun h2 => ne_of_none (by assumption) h2) ?_; assumption)
  | (refine Ne.symm ((fun h2 => ne_of_none (by assumption) h2) ?_); assumption))
local macro_rules | `(tactic| walk_at "hp") => `(tactic| first
  | with_reducible assumption
  | with_reducible exact upd_same
  | ((with_reducible refine' (upd_ne ?k1).trans ?k2); (case k1 => walk_at "ne"); (case k2 => walk_at "hp")))
local macro_rules | `(tactic| walk_at "sq") => `(tactic| first
  | with_reducible assumption
  | ((with_reducible refine' SqL.of ?k1); (case k1 => walk_at "hp"))
  | ((with_reducible refine' SqT.of ?k1); (case k1 => walk_at "hp")))
local macro_rules | `(tactic| walk_at "sd") => `(tactic| first
  | with_reducible rfl
  | with_reducible assumption
  | omega
  | decide
  | (refine cmul_r ?_ ?_ <;> decide)
  | (refine cmul_l ?_ ?_ <;> decide)
  | exact ⟨by decide, by decide, by decide⟩
  | exact ⟨by omega, by omega⟩)
local macro_rules | `(tactic| walk_at "go1") => `(tactic| first
  | ((with_reducible refine' g_var ?k1 ?k2); (case k1 => rfl))
  | (with_reducible refine g_c ?_)
  | (with_reducible refine g_op ?_)
  | (with_reducible refine g_un ?_)
  | (with_reducible refine g_tt ?_)
  | (with_reducible refine g_tB ?_)
  | (with_reducible refine g_ifs ?_)
  | (with_reducible refine g_seq ?_)
  | (with_reducible refine g_next ?_)
  | (with_reducible refine g_asg ?_)
  | (with_reducible refine g_name ?_)
  | (with_reducible refine g_ret ?_)
  | (with_reducible refine g_drop ?_)
  | (with_reducible refine g_nil ?_)
  | (with_reducible refine g_cons ?_)
  | (with_reducible refine g_cb ?_)
  | (with_reducible refine g_sub ?_)
  | (with_reducible refine g_call ?_)
  | (with_reducible refine g_if ?_)
  | (with_reducible refine g_and ?_)
  | (with_reducible refine g_or ?_)
  | (with_reducible refine g_not ?_)
  | (with_reducible refine g_tup ?_)
  | (with_reducible refine g_lst ?_)
  | (with_reducible refine g_vei ?_)
  | (with_reducible refine g_jc ?_)
  | (with_reducible refine g_jn ?_)
  | (with_reducible refine g_fmt ?_)
  | (with_reducible refine g_ost ?_)
  | (with_reducible refine g_mko ?_)
  | (with_reducible refine g_fld ?_)
  | (with_reducible refine g_sfld ?_)
  | (with_reducible refine g_meth ?_)
  | (with_reducible refine g_make ?_)
  | (with_reducible refine g_dget ?_)
  | (with_reducible refine g_din ?_)
  | (with_reducible refine g_dni ?_)
  | (with_reducible refine g_dput ?_)
  | (with_reducible refine g_dg1 ?_)
  | (with_reducible refine g_dg2 ?_)
  | (with_reducible refine g_or2 ?_)
  | (with_reducible refine g_an2 ?_)
  | (with_reducible refine g_no2 ?_)
  | (with_reducible refine g_itup ?_)
  | (with_reducible refine g_ilist ?_)
  | (with_reducible refine g_ikeys ?_)
  | (with_reducible refine g_irng1 ?_)
  | (with_reducible refine g_irng2 ?_)
  | (with_reducible refine g_for ?_)
  | (with_reducible refine g_lc ?_)
  | (with_reducible refine g_lock ?_)
  | (with_reducible refine g_gtup ?_)
  | (with_reducible refine g_gcons ?_)
  | (with_reducible refine g_gnil ?_)
  | (with_reducible refine g_par ?_)
  | (with_reducible refine g_par3 ?_)
  | (with_reducible refine g_calls ?_)
  | (with_reducible refine g_dct ?_)
  | (with_reducible refine g_methx ?_)
  | (with_reducible refine g_yes ?_)
  | (with_reducible refine g_sl ?_)
  | (with_reducible refine g_npart ?_)
  | (with_reducible refine g_part ?_)
  | (with_reducible refine g_dnt ?_)
  | (with_reducible refine g_dnk ?_)
  | (with_reducible refine g_I0 ?_)
  | ((with_reducible refine g_I ?_ ?_); (walk_at "sd"))
  | (with_reducible refine g_U ?_)
  | ((with_reducible refine g_eq ?_ ?_); rfl)
  | ((with_reducible refine g_ne ?_ ?_); rfl)
  | ((with_reducible refine' g_ixL ?k1 ?k2 ?k3); (case k1 => walk_at "sq"); (case k2 => rfl))
  | ((with_reducible refine' g_ixT ?k1 ?k2 ?k3); (case k1 => walk_at "sq"); (case k2 => rfl))
  | ((with_reducible refine' g_setL ?k1 ?k2 ?k3); (case k1 => walk_at "hp"); (case k2 => rfl))
  | (with_reducible refine g_test ?_)
  | (with_reducible refine g_int1 ?_)
  | (with_reducible refine g_bl1 ?_)
  | ((with_reducible refine' g_lenL ?k1 ?k2); (case k1 => walk_at "sq"))
  | ((with_reducible refine' g_lenT ?k1 ?k2); (case k1 => walk_at "sq"))
)
local macro_rules | `(tactic| walk_at "go") => `(tactic| repeat (first | (walk_at "go1") | (dsimp only; (walk_at "go1"))))
def topS (i : Nat) : Stmt := PySem.Challenge.pw_everdays_k91_ways_between_places.main.body.getD i (.Pass ⟨0, 0, 0, 0⟩)
abbrev s_NoSuch_init : Stmt := (inClass (topS 3) 0)
theorem sc_NoSuch_init : FnScope ["self", "what"] ["self", "what"] (defScope s_NoSuch_init) := ⟨rfl, rfl, rfl, by decide +kernel, rfl, by decide +kernel, by decide +kernel⟩
abbrev s_Ways_init : Stmt := (inClass (topS 5) 0)
theorem sc_Ways_init : FnScope ["self", "places"] ["self", "places"] (defScope s_Ways_init) := ⟨rfl, rfl, rfl, by decide +kernel, rfl, by decide +kernel, by decide +kernel⟩
abbrev s_Ways_places : Stmt := (inClass (topS 5) 1)
theorem sc_Ways_places : FnScope ["self"] ["self"] (defScope s_Ways_places) := ⟨rfl, rfl, rfl, by decide +kernel, rfl, by decide +kernel, by decide +kernel⟩
abbrev s_Ways_tell : Stmt := (inClass (topS 5) 2)
theorem sc_Ways_tell : FnScope ["self", "place", "other", "minutes"] ["self", "place", "other", "minutes"] (defScope s_Ways_tell) := ⟨rfl, rfl, rfl, by decide +kernel, rfl, by decide +kernel, by decide +kernel⟩
abbrev s_Ways_table : Stmt := (inClass (topS 5) 3)
theorem sc_Ways_table : FnScope ["self", "found", "pair", "between", "place", "other", "first", "second", "before"] ["self"] (defScope s_Ways_table) := ⟨rfl, rfl, rfl, by decide +kernel, rfl, by decide +kernel, by decide +kernel⟩
abbrev s_Ways_minutes : Stmt := (inClass (topS 5) 4)
theorem sc_Ways_minutes : FnScope ["self", "place", "other"] ["self", "place", "other"] (defScope s_Ways_minutes) := ⟨rfl, rfl, rfl, by decide +kernel, rfl, by decide +kernel, by decide +kernel⟩
abbrev s_law_draw : Stmt := (topS 7)
theorem sc_law_draw : FnScope ["tape", "many", "cells", "k", "cell", "digit"] ["tape", "many"] (defScope s_law_draw) := ⟨rfl, rfl, rfl, by decide +kernel, rfl, by decide +kernel, by decide +kernel⟩
abbrev s_law_tape : Stmt := (topS 8)
theorem sc_law_tape : FnScope ["script"] ["script"] (defScope s_law_tape) := ⟨rfl, rfl, rfl, by decide +kernel, rfl, by decide +kernel, by decide +kernel⟩
abbrev s_law_told : Stmt := (topS 9)
theorem sc_law_told : FnScope ["ways", "place", "other", "minutes", "e"] ["ways", "place", "other", "minutes"] (defScope s_law_told) := ⟨rfl, rfl, rfl, by decide +kernel, rfl, by decide +kernel, by decide +kernel⟩
abbrev s_law_minutes : Stmt := (topS 10)
theorem sc_law_minutes : FnScope ["ways", "place", "other", "e"] ["ways", "place", "other"] (defScope s_law_minutes) := ⟨rfl, rfl, rfl, by decide +kernel, rfl, by decide +kernel, by decide +kernel⟩
abbrev s_law : Stmt := (topS 11)
theorem sc_law : FnScope ["script", "tape", "places", "ways", "kept", "k", "place", "other", "minutes", "due", "least", "turn", "middle", "pair", "whole"] ["script"] (defScope s_law) := ⟨rfl, rfl, rfl, by decide +kernel, rfl, by decide +kernel, by decide +kernel⟩
structure Adr where
  f_NoSuch_init : Addr
  d_NoSuch_init : FuncData
  f_Ways_init : Addr
  d_Ways_init : FuncData
  f_Ways_places : Addr
  d_Ways_places : FuncData
  f_Ways_tell : Addr
  d_Ways_tell : FuncData
  f_Ways_table : Addr
  d_Ways_table : FuncData
  f_Ways_minutes : Addr
  d_Ways_minutes : FuncData
  f_law_draw : Addr
  d_law_draw : FuncData
  f_law_tape : Addr
  d_law_tape : FuncData
  f_law_told : Addr
  d_law_told : FuncData
  f_law_minutes : Addr
  d_law_minutes : FuncData
  f_law : Addr
  d_law : FuncData
  C_Ways : Addr
  C_NoSuch : Addr
  C_BadSeries : Addr
  C_DaysError : Addr
  M_DaysError : Value
structure Txt (K : PySem.W.Frag) (mg : Str → Option Value) (a : Adr) : Prop where
  F_NoSuch_init : Fun K "__init__" "NoSuch.__init__" s_NoSuch_init a.f_NoSuch_init a.d_NoSuch_init
  b_NoSuch_init : Binds K a.d_NoSuch_init ["self", "what"] []
  F_Ways_init : Fun K "__init__" "Ways.__init__" s_Ways_init a.f_Ways_init a.d_Ways_init
  b_Ways_init : Binds K a.d_Ways_init ["self", "places"] []
  M_Ways : Mk K a.C_Ways a.f_Ways_init
  F_Ways_places : Fun K "places" "Ways.places" s_Ways_places a.f_Ways_places a.d_Ways_places
  b_Ways_places : Binds K a.d_Ways_places ["self"] []
  m_Ways_places : Meth K a.C_Ways "places" a.f_Ways_places
  F_Ways_tell : Fun K "tell" "Ways.tell" s_Ways_tell a.f_Ways_tell a.d_Ways_tell
  b_Ways_tell : Binds K a.d_Ways_tell ["self", "place", "other", "minutes"] []
  m_Ways_tell : Meth K a.C_Ways "tell" a.f_Ways_tell
  F_Ways_table : Fun K "table" "Ways.table" s_Ways_table a.f_Ways_table a.d_Ways_table
  b_Ways_table : Binds K a.d_Ways_table ["self"] []
  m_Ways_table : Meth K a.C_Ways "table" a.f_Ways_table
  F_Ways_minutes : Fun K "minutes" "Ways.minutes" s_Ways_minutes a.f_Ways_minutes a.d_Ways_minutes
  b_Ways_minutes : Binds K a.d_Ways_minutes ["self", "place", "other"] []
  m_Ways_minutes : Meth K a.C_Ways "minutes" a.f_Ways_minutes
  F_law_draw : Fun K "_law_draw" "_law_draw" s_law_draw a.f_law_draw a.d_law_draw
  b_law_draw : Binds K a.d_law_draw ["tape", "many"] []
  g_law_draw : mg "_law_draw" = some (.ref a.f_law_draw)
  F_law_tape : Fun K "_law_tape" "_law_tape" s_law_tape a.f_law_tape a.d_law_tape
  b_law_tape : Binds K a.d_law_tape ["script"] []
  g_law_tape : mg "_law_tape" = some (.ref a.f_law_tape)
  F_law_told : Fun K "_law_told" "_law_told" s_law_told a.f_law_told a.d_law_told
  b_law_told : Binds K a.d_law_told ["ways", "place", "other", "minutes"] []
  g_law_told : mg "_law_told" = some (.ref a.f_law_told)
  F_law_minutes : Fun K "_law_minutes" "_law_minutes" s_law_minutes a.f_law_minutes a.d_law_minutes
  b_law_minutes : Binds K a.d_law_minutes ["ways", "place", "other"] []
  g_law_minutes : mg "_law_minutes" = some (.ref a.f_law_minutes)
  F_law : Fun K "law" "law" s_law a.f_law a.d_law
  b_law : Binds K a.d_law ["script"] []
  g_law : mg "law" = some (.ref a.f_law)
  c_Ways : Cls K a.C_Ways
  g_Ways : mg "Ways" = some (.ref a.C_Ways)
  n_Ways_places : NoAttr K a.C_Ways "_places"
  n_Ways_minutes : NoAttr K a.C_Ways "_minutes"
  g_NoSuch : mg "NoSuch" = some (.ref a.C_NoSuch)
  r_NoSuch : PySem.W.subIn K (.ref a.C_NoSuch) (.type "BaseException") = some true
  t_NoSuch : PySem.W.typeIn K (.ref a.C_NoSuch) = some (.type "type")
  k_NoSuch : PySem.W.keepIn K (.ref a.C_NoSuch) = true
  x_NoSuch : OexC K a.C_NoSuch
  y_NoSuch : XfC K a.C_NoSuch
  i_NoSuch : PySem.W.findIn K (.ref a.C_NoSuch) "__init__" = some (some (.ref a.f_NoSuch_init))
  u_NoSuch : PySem.W.typeIn K (.ref a.f_NoSuch_init) = some (.type "function")
  n_NoSuch_what : PySem.W.findIn K (.ref a.C_NoSuch) "what" = some none
  g_BadSeries : mg "BadSeries" = some (.ref a.C_BadSeries)
  r_BadSeries : PySem.W.subIn K (.ref a.C_BadSeries) (.type "BaseException") = some true
  t_BadSeries : PySem.W.typeIn K (.ref a.C_BadSeries) = some (.type "type")
  k_BadSeries : PySem.W.keepIn K (.ref a.C_BadSeries) = true
  x_BadSeries : PySem.W.excIn K a.C_BadSeries [.type "ValueError", .type "Exception", .type "BaseException", .type "object"] "ValueError.__new__" = true
  e_NoSuch_NoSuch : PySem.W.exmOne K (.ref a.C_NoSuch) (.ref a.C_NoSuch) = some true
  e_BadSeries_NoSuch : PySem.W.exmOne K (.ref a.C_BadSeries) (.ref a.C_NoSuch) = some false
  e_BadSeries_BadSeries : PySem.W.exmOne K (.ref a.C_BadSeries) (.ref a.C_BadSeries) = some true
  g_DaysError : mg "DaysError" = some (.ref a.C_DaysError)
  B_DaysError : BaseInit K a.C_DaysError a.M_DaysError
  z_len : mg "len" = none
  z_int : mg "int" = none
  z_tuple : mg "tuple" = none
  z_list : mg "list" = none
  z_range : mg "range" = none
/-! ### the data -/
def kk (k : Pr) : List Key := [.inr k.1, .inr k.2]
theorem kk_inj {a b : Pr} : kk a = kk b ↔ a = b := by
  constructor
  · intro h
    obtain ⟨a1, a2⟩ := a; obtain ⟨b1, b2⟩ := b
    simp only [kk, List.cons.injEq, Sum.inr.injEq, and_true] at h
    rw [h.1, h.2]
  · rintro rfl; rfl
def enc (d : DD) : List (List Key × V) := d.map fun e => (kk e.1, .int e.2)
theorem enc_len (d : DD) : (enc d).length = d.length := List.length_map ..
theorem valV_enc (k : Pr) : ∀ d : DD, valV (enc d) (kk k) = (gt d k).map V.int
  | [] => rfl
  | e :: d => by
    show valV ((kk e.1, .int e.2) :: enc d) (kk k) = _
    rw [gt_cons]
    by_cases h : e.1 = k
    · rw [valV_pos (by rw [h]), if_pos h]; rfl
    · rw [valV_neg (fun q => h (kk_inj.mp q)), if_neg h, valV_enc k d]
theorem putK_enc (k : Pr) (v : Int) (d : DD) : putK (enc d) (kk k) (.int v) = enc (pt d k v) := by
  unfold putK pt
  rw [valV_any, valV_enc, Option.isSome_map]
  by_cases h : (gt d k).isSome = true
  · rw [if_pos h, if_pos h]
    unfold enc
    rw [List.map_map, List.map_map]
    apply List.map_congr_left
    intro e _
    show (if kk e.1 = kk k then (kk e.1, V.int v) else (kk e.1, V.int e.2)) = (kk (if e.1 = k then (e.1, v) else e).1, V.int (if e.1 = k then (e.1, v) else e).2)
    by_cases h2 : e.1 = k
    · rw [if_pos (kk_inj.mpr h2), if_pos h2]
    · rw [if_neg (fun q => h2 (kk_inj.mp q)), if_neg h2]
  · rw [if_neg h, if_neg h]
    unfold enc
    rw [List.map_append]; rfl
theorem gt_len {d : DD} {k : Pr} {v : Int} : (pt d k v).length ≤ d.length + 1 := by
  unfold pt
  split
  · rw [List.length_map]; omega
  · rw [List.length_append]; exact Nat.le_refl _
abbrev wf (p d : Addr) : List (Str × V) := [("_places", .ref p), ("_minutes", .ref d)]
theorem lk_hd {f : Str} {v : V} {r : List (Str × V)} : List.lookup f ((f, v) :: r) = some v := by simp [List.lookup]
theorem lk_tl {f g : Str} {v : V} {r : List (Str × V)} (h : ¬ f = g) : List.lookup f ((g, v) :: r) = List.lookup f r := by
  have e : (f == g) = false := by simpa using h
  simp [List.lookup, e]
theorem wf_p (p d : Addr) : (wf p d).lookup ("_places" : Str) = some (.ref p) := lk_hd
theorem wf_m (p d : Addr) : (wf p d).lookup ("_minutes" : Str) = some (.ref d) := by
  rw [lk_tl (by decide +kernel)]; exact lk_hd
theorem wf_no (p d : Addr) {f : Str} (h1 : ¬ f = "_places") (h2 : ¬ f = "_minutes") : (wf p d).lookup f = none := by
  rw [lk_tl h1, lk_tl h2]; rfl
theorem wf_put (p d : Addr) : putF "_minutes" (.ref d) (putF "_places" (.ref p) []) = wf p d := by
  show (if ("_places" : Str) = "_minutes" then _ else (("_places" : Str), V.ref p) :: putF "_minutes" (.ref d) []) = wf p d
  rw [if_neg (by decide +kernel)]; rfl
theorem inV_strs (x : Str) : ∀ ps : List Str, inV (.str x) (ps.map V.str) = decide (x ∈ ps)
  | [] => rfl
  | y :: ps => by
    have ih := inV_strs x ps
    unfold inV at ih ⊢
    rw [List.map_cons, List.any_cons, ih]
    show (y == x || decide (x ∈ ps)) = decide (x ∈ y :: ps)
    by_cases h : y = x
    · subst h; simp
    · have h' : (y == x) = false := by simpa using h
      have h'' : ¬ x = y := fun q => h q.symm
      rw [h', Bool.false_or]
      simp [h'']
theorem flat_strs (ps : List Str) : (ps.map V.str).all flatV = true := by
  rw [List.all_map]; simp [flatV, Function.comp_def]
theorem same_new {H : Hp} {p : Addr} {o : HO} (h : H p = none) : Same H (upd H p o) := fun b x e => by
  rw [upd_ne (ne_of_none e h)]; exact e
/-! ### the promises -/
def sp_NoSuch_init (K : PySem.W.Frag) : Sp := fun vs H Q _ => ∃ (x C : Addr) (y : Str), vs = [.ref x, .str y] ∧ y.length ≤ 1000 ∧ OexC K C ∧ PySem.W.findIn K (.ref C) "what" = some none ∧ H x = some (exo x C none) ∧
  ∀ d, H d = none → d ≠ x → Q .non (upd (upd H d (exd d [("what", .str y)])) x (exo x C (some d)))
section
variable {P : Program} {w : World} {K : PySem.W.Frag} {mg : Str → Option Value} {base : Heap} {a : Adr}
theorem ok_NoSuch_init (T : Txt K mg a) : FnOk P w K mg base CX0 1 a.f_NoSuch_init a.d_NoSuch_init ["self", "what"] (sp_NoSuch_init K) := by
  refine T.F_NoSuch_init.ok sc_NoSuch_init (fun vs H Q E h => ?_) (fun cdv A outer s H vs Q E hr h => ?_)
  · obtain ⟨x, C, y, rfl, _⟩ := h
    rfl
  · obtain ⟨x, C, y, rfl, hy, hC, hno, hx, q⟩ := h
    refine ⟨_, (pss_cons (ps_expr (pe_deinit (by rfl) T.g_DaysError T.B_DaysError (pa_cons (pv 0) (pa_cons (pe_joined (PJ.cons (pe_fmt (pv 1)) (PJ.cons pe_str PJ.nil))) pa_nil))))
       (pss_one (ps_ost (pv 0) (pv 1)))), ?_⟩
    refine red (σ' := [some (.ref x), some (.str y)]) rfl ?_
    dsimp only [cxOf]
    walk_at "go"
    have e0 : (Str.empty).length = 0 := rfl
    have e1 : (Str.ofString " does not exist").length ≤ 100 := by decide +kernel
    have e2 : sizeLine = 16777216 := sizeLine_eq
    refine .inl ⟨y, rfl, by omega, _, rfl, by rw [strLen_append]; omega, ?_⟩
    walk_at "go"
    refine ⟨_, rfl, by rw [strLen_append, strLen_append]; omega, ?_⟩
    walk_at "go"
    refine ⟨x, C, _, rfl, by show 1 ≤ 1000; decide, hC, hx, ?_⟩
    walk_at "go"
    exact ⟨x, C, rfl, hC, hno, .inl ⟨hx, fun d hd hne => q d hd hne⟩⟩
/-- what is made by NoSuch(y) -/
theorem mk_what (T : Txt K mg a) {H : Hp} {y : Str} {R : XK} (hy : y.length ≤ 1000) (q : ∀ d, H d = none → R (.ref a.C_NoSuch) (some d) (upd H d (.xd [("what", .str y)]))) :
    [V.str y].length ≤ 1000 ∧ ∀ x, H x = none → sp_NoSuch_init K (.ref x :: ([V.str y] ++ [])) (upd H x (exo x a.C_NoSuch none))
      (fun v H2 => v = .non ∧ ∃ (d : Addr) (fs : List (Str × V)), H2 x = some (exo x a.C_NoSuch (some d)) ∧ H2 d = some (exd d fs) ∧ H d = none ∧ R (.ref a.C_NoSuch) (some d) (upd (del H2 x) d (.xd fs))) (fun _ _ _ => False) := by
  refine ⟨by show 1 ≤ 1000; decide, fun x hx => ⟨x, a.C_NoSuch, y, rfl, hy, T.x_NoSuch, T.n_NoSuch_what, upd_same, fun d hd hne => ⟨rfl, d, _, upd_same, (upd_ne hne).trans upd_same, ?_, ?_⟩⟩⟩
  · rw [upd_ne hne] at hd; exact hd
  · have hd' : H d = none := by rw [upd_ne hne] at hd; exact hd
    have e : upd (del (upd (upd (upd H x (exo x a.C_NoSuch none)) d (exd d [("what", V.str y)])) x (exo x a.C_NoSuch (some d))) x) d (.xd [("what", V.str y)]) = upd H d (.xd [("what", V.str y)]) := by
      funext b
      by_cases h1 : b = d
      · rw [h1, upd_same, upd_same]
      · rw [upd_ne h1, upd_ne h1]
        by_cases h2 : b = x
        · rw [h2, del_same, hx]
        · rw [del_ne h2, upd_ne h2, upd_ne h1, upd_ne h2]
    rw [e]
    exact q d hd'
end
def sp_Ways_init (K : PySem.W.Frag) (C : Addr) : Sp := fun vs H Q _ => ∃ (x dx p : Addr) (xs : List V), vs = [.ref x, .ref p] ∧ H x = some (.ins C dx []) ∧ SqT K H p xs ∧
  ∀ (H' : Hp) (m : Addr), H m = none → m ≠ x → H' x = some (.ins C dx (wf p m)) → H' m = some (.dT []) → (∀ b, b ≠ x → b ≠ m → H' b = H b) → Q .non H'
def sp_Ways_places (C : Addr) : Sp := fun vs H Q _ => ∃ (x dx p m : Addr), vs = [.ref x] ∧ H x = some (.ins C dx (wf p m)) ∧ Q (.ref p) H
/-- an error of NoSuch with the text y -/
def Lacks (C : Addr) (E : XK) (H : Hp) (y : Str) : Prop := ∀ d, H d = none → E (.ref C) (some d) (upd H d (.xd [("what", .str y)]))
def sp_Ways_tell (a : Adr) : Sp := fun vs H Q E => ∃ (x dx p m : Addr) (ps : List Str) (d : DD) (u v : Str) (n : Int), vs = [.ref x, .str u, .str v, .int n] ∧ H x = some (.ins a.C_Ways dx (wf p m)) ∧ H p = some (.tup (ps.map V.str)) ∧
  H m = some (.dT (enc d)) ∧ d.length ≤ 1000 ∧ u.length ≤ 1000 ∧ v.length ≤ 1000 ∧ (u ∉ ps → Lacks a.C_NoSuch E H u) ∧ (u ∈ ps → v ∉ ps → Lacks a.C_NoSuch E H v) ∧ (u ∈ ps → v ∈ ps → n < 0 → E (.ref a.C_BadSeries) none H) ∧
  (u ∈ ps → v ∈ ps → 0 ≤ n → ∀ t, H t = none → Q .non (upd (upd H t (.tup [.str u, .str v])) m (.dT (enc (pt d (u, v) n)))))
def sp_Ways_minutes (a : Adr) : Sp := fun vs H Q E => ∃ (x dx p m : Addr) (ps : List Str) (d : DD) (u v : Str), vs = [.ref x, .str u, .str v] ∧ H x = some (.ins a.C_Ways dx (wf p m)) ∧ H p = some (.tup (ps.map V.str)) ∧
  H m = some (.dT (enc d)) ∧ (d.map (·.1)).Nodup ∧ d.length ≤ 1000 ∧ ps.length ≤ 10 ∧ u.length ≤ 1000 ∧ v.length ≤ 1000 ∧ (u ∉ ps → Lacks a.C_NoSuch E H u) ∧ (u ∈ ps → v ∉ ps → Lacks a.C_NoSuch E H v) ∧
  (u ∈ ps → v ∈ ps → ∀ H', Same H H' → Q (((gt (floyd d ps) (u, v)).map V.int).getD .non) H')
def sp_Ways_table (a : Adr) : Sp := fun vs H Q _ => ∃ (x dx p m : Addr) (ps : List Str) (d : DD), vs = [.ref x] ∧ H x = some (.ins a.C_Ways dx (wf p m)) ∧ H p = some (.tup (ps.map V.str)) ∧
  H m = some (.dT (enc d)) ∧ (d.map (·.1)).Nodup ∧ d.length ≤ 1000 ∧ ps.length ≤ 10 ∧ ∀ H' D, Same H H' → H D = none → H' D = some (.dT (enc (floyd d ps))) → Q (.ref D) H'
section
variable {P : Program} {w : World} {K : PySem.W.Frag} {mg : Str → Option Value} {base : Heap} {a : Adr}
theorem ok_Ways_init (T : Txt K mg a) : FnOk P w K mg base CX0 1 a.f_Ways_init a.d_Ways_init ["self", "places"] (sp_Ways_init K a.C_Ways) := by
  refine T.F_Ways_init.ok sc_Ways_init (fun vs H Q E h => ?_) (fun cdv A outer s H vs Q E hr h => ?_)
  · obtain ⟨x, dx, p, xs, rfl, _⟩ := h
    rfl
  · obtain ⟨x, dx, p, xs, rfl, hx, hp, q⟩ := h
    refine ⟨_, (pss_cons (ps_fld (pv 0) (pe_callTy call_tuple_of (by rfl) T.z_tuple (by decide +kernel) (pa_cons (pv 1) pa_nil)) rfl)
       (pss_one (ps_fld (pv 0) pe_dnewT rfl))), ?_⟩
    refine red (σ' := [some (.ref x), some (.ref p)]) rfl ?_
    dsimp only [cxOf]
    walk_at "go"
    refine ⟨p, xs, rfl, .inr ⟨hp, ?_⟩⟩
    walk_at "go"
    refine ⟨x, a.C_Ways, dx, [], rfl, hx, T.c_Ways, T.n_Ways_places, by decide, ?_⟩
    walk_at "go"
    intro m hm
    have mx : m ≠ x := fun e => by rw [e, upd_same] at hm; cases hm
    walk_at "go"
    refine ⟨x, a.C_Ways, dx, _, rfl, (upd_ne mx.symm).trans upd_same, T.c_Ways, T.n_Ways_minutes, by show 1 < 1000; decide, ?_⟩
    rw [wf_put]
    rw [upd_ne mx] at hm
    refine q _ m hm mx upd_same ((upd_ne mx).trans upd_same) fun b h1 h2 => ?_
    rw [upd_ne h1, upd_ne h2, upd_ne h1]
theorem ok_Ways_places (T : Txt K mg a) : FnOk P w K mg base CX0 1 a.f_Ways_places a.d_Ways_places ["self"] (sp_Ways_places a.C_Ways) := by
  refine T.F_Ways_places.ok sc_Ways_places (fun vs H Q E h => ?_) (fun cdv A outer s H vs Q E hr h => ?_)
  · obtain ⟨x, dx, p, m, rfl, _⟩ := h
    rfl
  · obtain ⟨x, dx, p, m, rfl, hx, q⟩ := h
    refine ⟨_, (pss_one (ps_ret (pe_fld (pv 0) rfl))), ?_⟩
    refine red (σ' := [some (.ref x)]) rfl ?_
    dsimp only [cxOf]
    walk_at "go"
    exact ⟨x, _, _, _, _, rfl, hx, T.c_Ways, T.n_Ways_places, wf_p p m, q⟩
theorem ok_Ways_tell (T : Txt K mg a) : FnOk P w K mg base (L2.CX P w) 3 a.f_Ways_tell a.d_Ways_tell ["self", "place", "other", "minutes"] (sp_Ways_tell a) := by
  refine T.F_Ways_tell.okX sc_Ways_tell (fun vs H Q E h => ?_) (fun cdv A outer s H vs Q E hr h => ?_)
  · obtain ⟨x, dx, p, m, ps, d, u, v, n, rfl, _⟩ := h
    rfl
  · obtain ⟨x, dx, p, m, ps, d, u, v, n, rfl, hx, hp, hm, hd, hu, hv, q1, q2, q3, q4⟩ := h
    refine ⟨_, (pss_cons (ps_if (pt_cmpR op_notIn_seq (pv 1) (pe_fld (pv 0) rfl) rfl)
       (pss_one (ps_raise rfl (takes_of rfl rfl rfl rfl) (pmk_oex T.x_NoSuch T.i_NoSuch T.u_NoSuch (ok_NoSuch_init T) (hr.mono (by decide)) T.b_NoSuch_init .nil pass0 rfl T.g_NoSuch (pa_cons (pv 1) pa_nil))))
       pss_nil)
       (pss_cons (ps_if (pt_cmpR op_notIn_seq (pv 2) (pe_fld (pv 0) rfl) rfl)
       (pss_one (ps_raise rfl (takes_of rfl rfl rfl rfl) (pmk_oex T.x_NoSuch T.i_NoSuch T.u_NoSuch (ok_NoSuch_init T) (hr.mono (by decide)) T.b_NoSuch_init .nil pass0 rfl T.g_NoSuch (pa_cons (pv 2) pa_nil))))
       pss_nil)
       (pss_cons (ps_if (pt_cmpR op_lt (pv 3) pe_int (nomark _))
       (pss_one (ps_raise rfl (takes_of rfl rfl rfl rfl) (pmk_own0 PySem.F.excBase_ValueError T.x_BadSeries T.g_BadSeries T.k_BadSeries (raises_own T.r_BadSeries T.t_BadSeries) rfl)))
       pss_nil)
       (pss_one (ps_dput (hu_of hr) (pe_fld (pv 0) rfl) (pe_tup (pa_cons (pv 1) (pa_cons (pv 2) pa_nil))) (pv 3) rfl))))), ?_⟩
    refine red (σ' := [some (.ref x), some (.str u), some (.str v), some (.int n)]) rfl ?_
    dsimp only [cxOf]
    have pf : ∀ {Q : V → Prop}, Q (.ref p) → ∃ a_1 C dx fs v, V.ref x = .ref a_1 ∧ H a_1 = some (.ins C dx fs) ∧ Cls K C ∧ NoAttr K C "_places" ∧ fs.lookup ("_places" : Str) = some v ∧ Q v := fun q => ⟨x, _, _, _, _, rfl, hx, T.c_Ways, T.n_Ways_places, wf_p p m, q⟩
    walk_at "go"
    refine pf ⟨p, _, rfl, .inr (SqT.of hp), rfl, flat_strs ps, _, rfl, ?_⟩
    rw [inV_strs]
    by_cases h1 : u ∈ ps
    · refine ite_n (by simp [h1]) ?_
      walk_at "go"
      refine pf ⟨p, _, rfl, .inr (SqT.of hp), rfl, flat_strs ps, _, rfl, ?_⟩
      rw [inV_strs]
      by_cases h2 : v ∈ ps
      · refine ite_n (by simp [h2]) ?_
        walk_at "go"
        refine iteK (fun h3 => ?_) (fun h3 => ?_)
        · exact q3 h1 h2 h3
        · walk_at "go"
          refine ⟨x, _, _, _, _, rfl, hx, T.c_Ways, T.n_Ways_minutes, wf_m p m, ?_⟩
          walk_at "go"
          refine ⟨by show 2 ≤ sizeLine; decide, fun t ht => ?_⟩
          have mt : m ≠ t := ne_of_none hm ht
          refine ⟨m, _, rfl, DPut.t (k := kk (u, v)) ((upd_ne mt).trans hm) upd_same (by rw [enc_len]; exact Nat.lt_of_le_of_lt hd (by decide)), ?_⟩
          rw [putK_enc]
          exact q4 h1 h2 (by omega) t ht
      · refine ite_y (by simp [h2]) ?_
        walk_at "go"
        exact mk_what T hv (q2 h1 h2)
    · refine ite_y (by simp [h1]) ?_
      walk_at "go"
      exact mk_what T hu (q1 h1)
end
/-! ### the table -/
theorem take_more {α : Type} : ∀ {l : List α} {i : Nat} {x : α}, l[i]? = some x → l.take (i + 1) = l.take i ++ [x]
  | [], i, x, h => by simp at h
  | a :: l, 0, x, h => by cases h; rfl
  | a :: l, i + 1, x, h => by
    show a :: l.take (i + 1) = a :: l.take i ++ [x]
    rw [take_more (l := l) (i := i) (x := x) h]; rfl
theorem fold_more {α β : Type} {f : β → α → β} {b : β} {l : List α} {i : Nat} {x : α} (h : l[i]? = some x) : (l.take (i + 1)).foldl f b = f ((l.take i).foldl f b) x := by
  rw [take_more h, List.foldl_append]; rfl
theorem low_len (d : DD) (k : Pr) (v : Int) : (low d k v).length ≤ d.length + 1 := by
  unfold low
  split
  · exact gt_len
  · split
    · exact gt_len
    · omega
theorem fold_len {α : Type} {f : DD → α → DD} {c : Nat} (hf : ∀ d x, (f d x).length ≤ d.length + c) : ∀ (l : List α) (d : DD), (l.foldl f d).length ≤ d.length + c * l.length
  | [], d => by simp
  | x :: l, d => by
    have h1 := fold_len hf l (f d x)
    have h2 := hf d x
    rw [List.foldl_cons, List.length_cons, Nat.mul_add]
    omega
theorem flo_len (b p : Str) (d : DD) (o : Str) : (flo b p d o).length ≤ d.length + 1 := by
  unfold flo
  split
  · exact low_len d _ _
  · omega
theorem take_le {α : Type} (l : List α) (i : Nat) : (l.take i).length ≤ l.length := by rw [List.length_take]; omega
theorem floP_len {ps : List Str} (hp : ps.length ≤ 10) (b : Str) (d : DD) (p : Str) : (floP ps b d p).length ≤ d.length + 10 := by
  have := fold_len (flo_len b p) ps d
  unfold floP
  omega
theorem floB_len {ps : List Str} (hp : ps.length ≤ 10) (d : DD) (b : Str) : (floB ps d b).length ≤ d.length + 100 := by
  have := fold_len (floP_len hp b) ps d
  unfold floB
  omega
theorem diag_len {ps : List Str} (hp : ps.length ≤ 10) : (diag ps).length ≤ 10 := by
  have := fold_len (f := fun d p => pt d (p, p) 0) (c := 1) (fun d x => gt_len) ps []
  unfold diag
  simp only [List.length_nil] at this
  omega
/-- H0 as it was, and the dict at D holds d -/
structure TI (H0 H : Hp) (D : Addr) (d : DD) : Prop where
  sm : Same H0 H
  fr : H0 D = none
  at_ : H D = some (.dT (enc d))
theorem TI.new {H0 H : Hp} {D t : Addr} {d : DD} {o : HO} (I : TI H0 H D d) (ht : H t = none) : TI H0 (upd H t o) D d :=
  ⟨I.sm.trans (same_new ht), I.fr, (upd_ne (ne_of_none I.at_ ht)).trans I.at_⟩
theorem TI.put {H0 H : Hp} {D : Addr} {d e : DD} (I : TI H0 H D d) : TI H0 (upd H D (.dT (enc e))) D e :=
  ⟨fun b o h => by rw [upd_ne (ne_of_none h I.fr)]; exact I.sm b o h, I.fr, upd_same⟩
theorem two_le : 2 ≤ sizeLine := by decide
/-- d.get((u, v)) of the dict at D -/
theorem get_tt {H : Hp} {D : Addr} {d : DD} {u v : Str} {R : Addr → Option V → Prop} (h : H D = some (.dT (enc d))) (q : ∀ t, H t = none → R t ((gt d (u, v)).map V.int)) :
    [V.str u, V.str v].length ≤ sizeLine ∧ ∀ t, H t = none → ∃ o, DGet (upd H t (.tup [.str u, .str v])) D (.ref t) o ∧ R t o :=
  ⟨two_le, fun t ht => ⟨_, DGet.t (k := kk (u, v)) ((upd_ne (ne_of_none h ht)).trans h) upd_same, by rw [valV_enc]; exact q t ht⟩⟩
theorem str_at {ps : List Str} {i : Nat} {y : V} (h : (ps.map V.str)[i]? = some y) : ∃ z, ps[i]? = some z ∧ y = .str z := by
  rw [List.getElem?_map] at h
  cases e : ps[i]? with
  | none => rw [e] at h; cases h
  | some z => rw [e] at h; exact ⟨z, rfl, (Option.some.inj h).symm⟩
theorem enc_at {d : DD} {i : Nat} {k : List Key} {v : V} (h : (enc d)[i]? = some (k, v)) : ∃ e, d[i]? = some e ∧ k = kk e.1 ∧ v = .int e.2 := by
  unfold enc at h
  rw [List.getElem?_map] at h
  cases e : d[i]? with
  | none => rw [e] at h; cases h
  | some z => rw [e] at h; cases h; exact ⟨z, rfl, rfl, rfl⟩
section
variable {P : Program} {w : World} {K : PySem.W.Frag} {mg : Str → Option Value} {base : Heap} {a : Adr}
theorem ok_Ways_table (T : Txt K mg a) : FnOk P w K mg base CX0 1 a.f_Ways_table a.d_Ways_table ["self"] (sp_Ways_table a) := by
  refine T.F_Ways_table.ok sc_Ways_table (fun vs H Q E h => ?_) (fun cdv A outer s H vs Q E hr h => ?_)
  · obtain ⟨x, dx, p, m, ps, d, rfl, _⟩ := h
    rfl
  · obtain ⟨x, dx, p, m, ps, d, rfl, hx, hp, hm, hdn, hd, hps, q⟩ := h
    refine ⟨_, (pss_cons (ps_setDcT (i := 1) (own := [("place", 4)]) (g := (gName 4)) (tt := tYes) (hu_of hr) rfl sc_Ways_table.nd rfl rfl (sw_trueD rfl rfl rfl (by decide +kernel)) (pi_tup (pe_fld (pv 0) rfl)) (blkOk_by (own := [("place", 4)]) (N := ["self", "found", "pair", "between", "place", "other", "first", "second", "before"]) (sc := defScope s_Ways_table) (by decide +kernel)) (fun _ _ _ _ _ => (pg_name (i := 4) sc_Ways_table.nd rfl (.inl rfl))) (fun _ _ _ _ _ => pts_nil) (fun _ _ _ _ _ => (pe_tup (pa_cons (pv 4) (pa_cons (pv 4) pa_nil)))) (fun _ _ _ _ _ => pe_int))
       (pss_cons (ps_lock (ps_for PassesOwn.never rfl (pi_keys (pe_fld (pv 0) rfl)) (pg_name (i := 2) sc_Ways_table.nd rfl (.inl rfl))
       (pss_one (ps_if (PW.pt (pw_or (pt_cmp (pc_dnotin (hu_of hr) (pv 2) (pv 1))) (pw_or1 (pt_cmpR op_lt (pe_dget (hu_of hr) (pe_fld (pv 0) rfl) (pv 2) (fun _ _ => rfl)) (pe_dget (hu_of hr) (pv 1) (pv 2) (fun _ _ => rfl)) (nomark _)))))
       (pss_one (ps_dput (hu_of hr) (pv 1) (pv 2) (pe_dget (hu_of hr) (pe_fld (pv 0) rfl) (pv 2) (fun _ _ => rfl)) rfl))
       pss_nil))))
       (pss_cons (ps_for PassesOwn.never rfl (pi_tup (pe_fld (pv 0) rfl)) (pg_name (i := 3) sc_Ways_table.nd rfl (.inl rfl))
       (pss_one (ps_for PassesOwn.never rfl (pi_tup (pe_fld (pv 0) rfl)) (pg_name (i := 4) sc_Ways_table.nd rfl (.inl rfl))
       (pss_one (ps_for PassesOwn.never rfl (pi_tup (pe_fld (pv 0) rfl)) (pg_name (i := 5) sc_Ways_table.nd rfl (.inl rfl))
       (pss_cons (ps_set (i := 6) sc_Ways_table.nd rfl (.inl rfl) (pe_dget1 (hu_of hr) (pv 1) (pe_tup (pa_cons (pv 4) (pa_cons (pv 3) pa_nil))) ⟨rfl, rfl, rfl, rfl⟩))
       (pss_cons (ps_set (i := 7) sc_Ways_table.nd rfl (.inl rfl) (pe_dget1 (hu_of hr) (pv 1) (pe_tup (pa_cons (pv 3) (pa_cons (pv 5) pa_nil))) ⟨rfl, rfl, rfl, rfl⟩))
       (pss_one (ps_if (PW.pt (pw_and (pt_cmpR op_notN (pv 6) pe_non (nomark _)) (pw_and1 (pt_cmpR op_notN (pv 7) pe_non (nomark _)))))
       (pss_cons (ps_set (i := 8) sc_Ways_table.nd rfl (.inl rfl) (pe_dget1 (hu_of hr) (pv 1) (pe_tup (pa_cons (pv 4) (pa_cons (pv 5) pa_nil))) ⟨rfl, rfl, rfl, rfl⟩))
       (pss_one (ps_if (PW.pt (pw_or (pt_cmpR op_isN (pv 8) pe_non (nomark _)) (pw_or1 (pt_cmpR op_lt (pe_op op_add (pv 6) (pv 7)) (pv 8) (nomark _)))))
       (pss_one (ps_dput (hu_of hr) (pv 1) (pe_tup (pa_cons (pv 4) (pa_cons (pv 5) pa_nil))) (pe_op op_add (pv 6) (pv 7)) rfl))
       pss_nil)))
       pss_nil)))))))))
       (pss_one (ps_ret (pv 1)))))), ?_⟩
    refine red (σ' := [some (.ref x), none, none, none, none, none, none, none, none]) rfl ?_
    dsimp only [cxOf]
    have pfH : ∀ {H' : Hp} {Q : V → Prop}, H' x = some (.ins a.C_Ways dx (wf p m)) → Q (.ref p) → ∃ a_1 C dx fs v, V.ref x = .ref a_1 ∧ H' a_1 = some (.ins C dx fs) ∧ Cls K C ∧ NoAttr K C "_places" ∧ fs.lookup ("_places" : Str) = some v ∧ Q v := fun hx q => ⟨x, _, _, _, _, rfl, hx, T.c_Ways, T.n_Ways_places, wf_p p m, q⟩
    have mfH : ∀ {H' : Hp} {Q : V → Prop}, H' x = some (.ins a.C_Ways dx (wf p m)) → Q (.ref m) → ∃ a_1 C dx fs v, V.ref x = .ref a_1 ∧ H' a_1 = some (.ins C dx fs) ∧ Cls K C ∧ NoAttr K C "_minutes" ∧ fs.lookup ("_minutes" : Str) = some v ∧ Q v := fun hx q => ⟨x, _, _, _, _, rfl, hx, T.c_Ways, T.n_Ways_minutes, wf_m p m, q⟩
    have mx : m ≠ x := ne_of hm hx (by intro z; cases z)
    -- found = {(place, place): 0 for place in self._places}
    walk_at "go"
    walk_at "go"
    refine pfH hx ⟨p, rfl, ⟨_, SqT.of hp⟩, fun D hD => ?_⟩
    refine dcT_tup (K := K) (a := p) (xs := ps.map V.str) (fun i H' => TI H H' D ((ps.take i).foldl (fun d p => pt d (p, p) 0) [])) ⟨same_new hD, hD, upd_same⟩ (fun i H' _ I => SqT.of (I.sm _ _ hp)) ?_ ?_
    · intro i y H' hi I
      obtain ⟨z, hz, rfl⟩ := str_at hi
      walk_at "go"
      refine ⟨rfl, ?_⟩
      refine g_yes ?_
      refine iteT ?_
      walk_at "go"
      refine ⟨two_le, fun t ht => ?_⟩
      walk_at "go"
      have I2 := I.new (o := .tup [.str z, .str z]) ht
      refine ⟨_, kk (z, z), t, rfl, upd_same, I2.at_, ?_, ?_⟩
      · rw [enc_len]
        have := fold_len (f := fun d p => pt d (p, p) 0) (c := 1) (fun d x => gt_len) (ps.take i) []
        have := take_le ps i
        simp only [List.length_nil] at *
        exact Nat.lt_of_le_of_lt (show _ ≤ 1000 by omega) (by decide)
      · rw [putK_enc, fold_more hz]
        exact I2.put
    · intro H1 I1
      rw [List.length_map, List.take_length] at I1
      change TI H H1 D (diag ps) at I1
      walk_at "go"
      -- for pair in self._minutes, which is locked
      refine ⟨m, _, I1.sm _ _ hm, trivial, fun od => ?_⟩
      have mD : m ≠ D := ne_of_none hm I1.fr
      have hx2 : (upd H1 m (.frz od (.dT (enc d)))) x = some (.ins a.C_Ways dx (wf p m)) := (upd_ne mx.symm).trans (I1.sm _ _ hx)
      walk_at "go"
      refine mfH hx2 ⟨m, od, rfl, .inr ⟨_, upd_same, ?_⟩⟩
      refine for_keysT (fun i σ' H' => ∃ y, σ' = [some (.ref x), some (.ref D), y, none, none, none, none, none, none] ∧ H' m = some (.frz od (.dT (enc d))) ∧ (∀ b o, b ≠ m → H b = some o → H' b = some o) ∧ H' D = some (.dT (enc ((d.take i).foldl direct (diag ps)))))
        ⟨none, rfl, upd_same, fun b o hb h => (upd_ne hb).trans (I1.sm _ _ h), (upd_ne mD.symm).trans I1.at_⟩ (fun i σ' H' _ h => by obtain ⟨y, _, h2, _⟩ := h; exact h2) ?_ ?_
      · rintro i k v t σ' H' hi ht ⟨y, rfl, h2, h3, h4⟩
        obtain ⟨⟨kp, c⟩, he, rfl, rfl⟩ := enc_at hi
        have hx3 := h3 x _ mx.symm hx
        have len : ((d.take i).foldl direct (diag ps)).length ≤ 1010 := by
          have h1 := fold_len (f := direct) (c := 1) (fun d x => low_len d _ _) (d.take i) (diag ps)
          have h2 := take_le d i
          have h3 := diag_len hps
          omega
        have gm : gt d kp = some c := gt_of_mem hdn (List.mem_of_getElem? he)
        have dgm : DGet H' m (.ref t) (some (.int c)) := by
          have := DGet.t (H := H') (a := m) (b := t) (kvs := enc d) (k := kk kp)
          exact .inr ⟨enc d, kk kp, t, .inr ⟨od, h2⟩, rfl, ht, by rw [valV_enc, gm]; rfl⟩
        have dgD : DGet H' D (.ref t) ((gt ((d.take i).foldl direct (diag ps)) kp).map V.int) := by
          have := DGet.t (k := kk kp) h4 ht
          rw [valV_enc] at this
          exact this
        have fin : ∀ {H2 : Hp}, H2 m = some (.frz od (.dT (enc d))) → (∀ b o, b ≠ m → H b = some o → H2 b = some o) → H2 D = some (.dT (enc (direct ((d.take i).foldl direct (diag ps)) (kp, c)))) →
            ∃ y, [some (V.ref x), some (.ref D), some (.ref t), none, none, none, none, none, none] = [some (.ref x), some (.ref D), y, none, none, none, none, none, none] ∧ H2 m = some (.frz od (.dT (enc d))) ∧ (∀ b o, b ≠ m → H b = some o → H2 b = some o) ∧ H2 D = some (.dT (enc ((d.take (i + 1)).foldl direct (diag ps)))) := fun g1 g2 g3 => by
          rw [fold_more he]
          exact ⟨_, rfl, g1, g2, g3⟩
        have put : ∀ {nx : L2.St → Hp → Prop}, low ((d.take i).foldl direct (diag ps)) kp c = pt ((d.take i).foldl direct (diag ps)) kp c → (∀ H2, H2 m = some (.frz od (.dT (enc d))) → (∀ b o, b ≠ m → H b = some o → H2 b = some o) → H2 D = some (.dT (enc (direct ((d.take i).foldl direct (diag ps)) (kp, c)))) → nx [some (V.ref x), some (.ref D), some (.ref t), none, none, none, none, none, none] H2) →
            ∃ a_1 H4, V.ref D = .ref a_1 ∧ DPut H' a_1 (.ref t) (.int c) H4 ∧ nx [some (V.ref x), some (.ref D), some (.ref t), none, none, none, none, none, none] H4 := fun el hn => by
          refine ⟨D, _, rfl, DPut.t (k := kk kp) h4 ht (by rw [enc_len]; exact Nat.lt_of_le_of_lt len (by decide)), hn _ ((upd_ne mD).trans h2) (fun b o hb h => ?_) ?_⟩
          · rw [upd_ne (ne_of_none h I1.fr)]; exact h3 b o hb h
          · rw [upd_same, putK_enc]
            show _ = some (HO.dT (enc (low _ kp c)))
            rw [el]
        walk_at "go"
        refine ⟨D, _, rfl, dgD, _, rfl, ?_⟩
        cases eg : gt ((d.take i).foldl direct (diag ps)) kp with
        | none =>
          refine iteT ?_
          refine iteT ?_
          walk_at "go"
          refine mfH hx3 ?_
          walk_at "go"
          refine ⟨m, .int c, rfl, dgm, ?_⟩
          walk_at "go"
          refine put (by unfold low; rw [eg]) fun H2 g1 g2 g3 => fin g1 g2 g3
        | some b =>
          refine iteF ?_
          walk_at "go"
          refine mfH hx3 ?_
          walk_at "go"
          refine ⟨m, .int c, rfl, dgm, ?_⟩
          walk_at "go"
          refine ⟨D, .int b, rfl, by rw [eg] at dgD; exact dgD, ?_⟩
          walk_at "go"
          refine iteK (fun hlt => ?_) (fun hlt => ?_)
          · walk_at "go"
            refine mfH hx3 ?_
            walk_at "go"
            refine ⟨m, .int c, rfl, dgm, ?_⟩
            walk_at "go"
            refine put (by unfold low; rw [eg]; exact if_pos hlt) fun H2 g1 g2 g3 => fin g1 g2 g3
          · walk_at "go"
            refine fin h2 h3 ?_
            show _ = some (HO.dT (enc (low _ kp c)))
            unfold low
            rw [eg, h4]
            show _ = some (HO.dT (enc (if c < b then _ else _)))
            rw [if_neg hlt]
      · rintro σ' H2 ⟨y, rfl, h2, h3, h4⟩
        rw [enc_len, List.take_length] at h4
        refine ⟨h2, ?_⟩
        have I2 : TI H (upd H2 m (.dT (enc d))) D (d.foldl direct (diag ps)) := ⟨fun b o h => by
          by_cases hb : b = m
          · rw [hb] at h ⊢; rw [upd_same, ← hm]; exact h
          · rw [upd_ne hb]; exact h3 b o hb h, I1.fr, (upd_ne mD.symm).trans h4⟩
        generalize upd H2 m (.dT (enc d)) = H3 at I2
        have len1 : (d.foldl direct (diag ps)).length ≤ 1010 := by
          have h1 := fold_len (f := direct) (c := 1) (fun d x => low_len d _ _) d (diag ps)
          have h3 := diag_len hps
          omega
        generalize hE : d.foldl direct (diag ps) = d1 at I2 len1
        walk_at "go"
        refine pfH (I2.sm _ _ hx) ⟨p, rfl, ⟨_, SqT.of (I2.sm _ _ hp)⟩, ?_⟩
        refine for_tup (K := K) (a := p) (xs := ps.map V.str) (fun i σ' H' => ∃ y1 y2 y3 y4 y5 y6, σ' = [some (.ref x), some (.ref D), y, y1, y2, y3, y4, y5, y6] ∧ TI H H' D ((ps.take i).foldl (floB ps) d1))
          ⟨none, none, none, none, none, none, rfl, I2⟩ (fun i σ' H' _ h => by obtain ⟨_, _, _, _, _, _, _, I⟩ := h; exact SqT.of (I.sm _ _ hp)) ?_ ?_
        · rintro i z σ' H4 hi ⟨y1, y2, y3, y4, y5, y6, rfl, I4⟩
          obtain ⟨b, hb, rfl⟩ := str_at hi
          have len4 : ((ps.take i).foldl (floB ps) d1).length ≤ 2010 := by
            have h1 := fold_len (floB_len hps) (ps.take i) d1
            have h2 := take_le ps i
            omega
          rw [fold_more hb]
          generalize (ps.take i).foldl (floB ps) d1 = d4 at I4 len4
          walk_at "go"
          refine pfH (I4.sm _ _ hx) ⟨p, rfl, ⟨_, SqT.of (I4.sm _ _ hp)⟩, ?_⟩
          refine for_tup (K := K) (a := p) (xs := ps.map V.str) (fun j σ' H' => ∃ y2 y3 y4 y5 y6, σ' = [some (.ref x), some (.ref D), y, some (.str b), y2, y3, y4, y5, y6] ∧ TI H H' D ((ps.take j).foldl (floP ps b) d4))
            ⟨_, _, _, _, _, rfl, I4⟩ (fun i σ' H' _ h => by obtain ⟨_, _, _, _, _, _, I⟩ := h; exact SqT.of (I.sm _ _ hp)) ?_ ?_
          · rintro j z σ' H5 hj ⟨y2, y3, y4, y5, y6, rfl, I5⟩
            obtain ⟨pl, hpl, rfl⟩ := str_at hj
            have len5 : ((ps.take j).foldl (floP ps b) d4).length ≤ 2110 := by
              have h1 := fold_len (floP_len hps b) (ps.take j) d4
              have h2 := take_le ps j
              omega
            rw [fold_more hpl]
            generalize (ps.take j).foldl (floP ps b) d4 = d5 at I5 len5
            walk_at "go"
            refine pfH (I5.sm _ _ hx) ⟨p, rfl, ⟨_, SqT.of (I5.sm _ _ hp)⟩, ?_⟩
            refine for_tup (K := K) (a := p) (xs := ps.map V.str) (fun j σ' H' => ∃ y3 y4 y5 y6, σ' = [some (.ref x), some (.ref D), y, some (.str b), some (.str pl), y3, y4, y5, y6] ∧ TI H H' D ((ps.take j).foldl (flo b pl) d5))
              ⟨_, _, _, _, rfl, I5⟩ (fun i σ' H' _ h => by obtain ⟨_, _, _, _, _, I⟩ := h; exact SqT.of (I.sm _ _ hp)) ?_ ?_
            · rintro k z σ' H6 hk ⟨y3, y4, y5, y6, rfl, I6⟩
              obtain ⟨o, ho, rfl⟩ := str_at hk
              have len6 : ((ps.take k).foldl (flo b pl) d5).length ≤ 2120 := by
                have h1 := fold_len (flo_len b pl) (ps.take k) d5
                have h2 := take_le ps k
                omega
              rw [fold_more ho]
              generalize (ps.take k).foldl (flo b pl) d5 = d6 at I6 len6
              walk_at "go"
              refine ⟨D, rfl, .inr ⟨_, .inl I6.at_⟩, ?_⟩
              walk_at "go"
              refine get_tt I6.at_ fun t1 ht1 => ?_
              replace I6 := I6.new (o := .tup [.str pl, .str b]) ht1
              generalize upd H6 t1 (.tup [.str pl, .str b]) = H7 at I6
              walk_at "go"
              refine ⟨D, rfl, .inr ⟨_, .inl I6.at_⟩, ?_⟩
              walk_at "go"
              refine get_tt I6.at_ fun t2 ht2 => ?_
              replace I6 := I6.new (o := .tup [.str b, .str o]) ht2
              generalize upd H7 t2 (.tup [.str b, .str o]) = H8 at I6
              walk_at "go"
              unfold flo
              cases e1 : gt d6 (pl, b) with
              | none =>
                refine ⟨rfl, ?_⟩
                dsimp only [Option.map, Option.getD]
                walk_at "go"
                refine ite_n rfl ?_
                refine iteF ?_
                walk_at "go"
                exact ⟨_, _, _, _, rfl, I6⟩
              | some c1 =>
                refine ⟨rfl, ?_⟩
                dsimp only [Option.map, Option.getD]
                walk_at "go"
                refine ite_y rfl ?_
                walk_at "go"
                cases e2 : gt d6 (b, o) with
                | none =>
                  refine ⟨rfl, ?_⟩
                  dsimp only [Option.map, Option.getD]
                  walk_at "go"
                  refine ite_n rfl ?_
                  walk_at "go"
                  exact ⟨_, _, _, _, rfl, I6⟩
                | some c2 =>
                  refine ⟨rfl, ?_⟩
                  dsimp only [Option.map, Option.getD]
                  walk_at "go"
                  refine ite_y rfl ?_
                  walk_at "go"
                  refine ⟨D, rfl, .inr ⟨_, .inl I6.at_⟩, ?_⟩
                  walk_at "go"
                  refine get_tt I6.at_ fun t3 ht3 => ?_
                  replace I6 := I6.new (o := .tup [.str pl, .str o]) ht3
                  generalize upd H8 t3 (.tup [.str pl, .str o]) = H9 at I6
                  walk_at "go"
                  have fin : low d6 (pl, o) (c1 + c2) = pt d6 (pl, o) (c1 + c2) → ∀ t, H9 t = none → ∃ a H4, V.ref D = .ref a ∧ DPut (upd H9 t (.tup [.str pl, .str o])) a (.ref t) (.int (c1 + c2)) H4 ∧ TI H H4 D (low d6 (pl, o) (c1 + c2)) := fun el t ht => by
                    have I7 := I6.new (o := .tup [.str pl, .str o]) ht
                    refine ⟨D, _, rfl, DPut.t (k := kk (pl, o)) I7.at_ upd_same (by rw [enc_len]; exact Nat.lt_of_le_of_lt len6 (by decide)), ?_⟩
                    rw [el, putK_enc]
                    exact I7.put
                  cases e3 : gt d6 (pl, o) with
                  | none =>
                    refine ⟨rfl, ?_⟩
                    dsimp only [Option.map, Option.getD]
                    walk_at "go"
                    refine ite_y rfl ?_
                    refine iteT ?_
                    walk_at "go"
                    refine ⟨two_le, fun t ht => ?_⟩
                    obtain ⟨a1, H4, g1, g2, g3⟩ := fin (by unfold low; rw [e3]) t ht
                    exact ⟨a1, H4, g1, g2, _, _, _, _, rfl, g3⟩
                  | some c3 =>
                    dsimp only [Option.map, Option.getD]
                    refine ⟨rfl, ?_⟩
                    walk_at "go"
                    refine ite_n rfl ?_
                    walk_at "go"
                    refine iteK (fun h => ?_) (fun h => ?_)
                    · walk_at "go"
                      refine ⟨two_le, fun t ht => ?_⟩
                      obtain ⟨a1, H4, g1, g2, g3⟩ := fin (by unfold low; rw [e3]; exact if_pos h) t ht
                      exact ⟨a1, H4, g1, g2, _, _, _, _, rfl, g3⟩
                    · walk_at "go"
                      refine ⟨_, _, _, _, rfl, ?_⟩
                      show TI H H9 D (low d6 (pl, o) (c1 + c2))
                      unfold low
                      rw [e3]
                      show TI H H9 D (if c1 + c2 < c3 then _ else _)
                      rw [if_neg h]
                      exact I6
            · rintro σ' H6 ⟨y3, y4, y5, y6, rfl, I6⟩
              rw [List.length_map, List.take_length] at I6
              exact ⟨_, _, _, _, _, rfl, I6⟩
          · rintro σ' H6 ⟨y2, y3, y4, y5, y6, rfl, I6⟩
            rw [List.length_map, List.take_length] at I6
            exact ⟨_, _, _, _, _, _, rfl, I6⟩
        · rintro σ' H6 ⟨y1, y2, y3, y4, y5, y6, rfl, I6⟩
          rw [List.length_map, List.take_length] at I6
          walk_at "go"
          refine q _ D I6.sm I6.fr ?_
          rw [I6.at_, ← hE]
          rfl
end
section
variable {P : Program} {w : World} {K : PySem.W.Frag} {mg : Str → Option Value} {base : Heap} {a : Adr}
theorem ok_Ways_minutes (T : Txt K mg a) : FnOk P w K mg base (L2.CX P w) 3 a.f_Ways_minutes a.d_Ways_minutes ["self", "place", "other"] (sp_Ways_minutes a) := by
  refine T.F_Ways_minutes.okX sc_Ways_minutes (fun vs H Q E h => ?_) (fun cdv A outer s H vs Q E hr h => ?_)
  · obtain ⟨x, dx, p, m, ps, d, u, v, rfl, _⟩ := h
    rfl
  · obtain ⟨x, dx, p, m, ps, d, u, v, rfl, hx, hp, hm, hdn, hd, hps, hu, hv, q1, q2, q3⟩ := h
    refine ⟨_, (pss_cons (ps_if (pt_cmpR op_notIn_seq (pv 1) (pe_fld (pv 0) rfl) rfl)
       (pss_one (ps_raise rfl (takes_of rfl rfl rfl rfl) (pmk_oex T.x_NoSuch T.i_NoSuch T.u_NoSuch (ok_NoSuch_init T) (hr.mono (by decide)) T.b_NoSuch_init .nil pass0 rfl T.g_NoSuch (pa_cons (pv 1) pa_nil))))
       pss_nil)
       (pss_cons (ps_if (pt_cmpR op_notIn_seq (pv 2) (pe_fld (pv 0) rfl) rfl)
       (pss_one (ps_raise rfl (takes_of rfl rfl rfl rfl) (pmk_oex T.x_NoSuch T.i_NoSuch T.u_NoSuch (ok_NoSuch_init T) (hr.mono (by decide)) T.b_NoSuch_init .nil pass0 rfl T.g_NoSuch (pa_cons (pv 2) pa_nil))))
       pss_nil)
       (pss_one (ps_ret (pe_dget1 (hu_of hr) (pe_meth0 (pv 0) T.c_Ways T.m_Ways_table (ok_Ways_table T) (hr.mono (by decide)) T.b_Ways_table .nil pass0) (pe_tup (pa_cons (pv 1) (pa_cons (pv 2) pa_nil))) ⟨rfl, rfl, rfl, rfl⟩))))), ?_⟩
    refine red (σ' := [some (.ref x), some (.str u), some (.str v)]) rfl ?_
    dsimp only [cxOf]
    have pf : ∀ {Q : V → Prop}, Q (.ref p) → ∃ a_1 C dx fs v, V.ref x = .ref a_1 ∧ H a_1 = some (.ins C dx fs) ∧ Cls K C ∧ NoAttr K C "_places" ∧ fs.lookup ("_places" : Str) = some v ∧ Q v := fun q => ⟨x, _, _, _, _, rfl, hx, T.c_Ways, T.n_Ways_places, wf_p p m, q⟩
    walk_at "go"
    refine pf ⟨p, _, rfl, .inr (SqT.of hp), rfl, flat_strs ps, _, rfl, ?_⟩
    rw [inV_strs]
    by_cases h1 : u ∈ ps
    · refine ite_n (by simp [h1]) ?_
      walk_at "go"
      refine pf ⟨p, _, rfl, .inr (SqT.of hp), rfl, flat_strs ps, _, rfl, ?_⟩
      rw [inV_strs]
      by_cases h2 : v ∈ ps
      · refine ite_n (by simp [h2]) ?_
        walk_at "go"
        refine ⟨x, _, _, rfl, hx, wf_no p m (by decide +kernel) (by decide +kernel), ?_⟩
        refine ⟨x, dx, p, m, ps, d, rfl, hx, hp, hm, hdn, hd, hps, fun H' D hs hD hD' => ⟨D, rfl, .inr ⟨_, .inl hD'⟩, ?_⟩⟩
        walk_at "go"
        refine get_tt hD' fun t ht => ?_
        have e : (Option.map V.int (gt (floyd d ps) (u, v))).getD V.non = ((gt (floyd d ps) (u, v)).map V.int).getD V.non := rfl
        exact q3 h1 h2 _ (hs.trans (same_new ht))
      · refine ite_y (by simp [h2]) ?_
        walk_at "go"
        exact mk_what T hv (q2 h1 h2)
    · refine ite_y (by simp [h1]) ?_
      walk_at "go"
      exact mk_what T hu (q1 h1)
/-- the tape: its cells, its place, what is left -/
abbrev tp (c : Addr) (k r : Int) : HO := .lst [.ref c, .int k, .int r]
def sp_law_draw (K : PySem.W.Frag) : Sp := fun vs H Q _ => ∃ (t c : Addr) (m k r : Int) (ns : List Int), vs = [.ref t, .int m] ∧ 0 < m ∧ m < 1073741824 ∧ H t = some (tp c k r) ∧ H c = some (.lst (ns.map V.int)) ∧ 0 ≤ k ∧ 0 ≤ r ∧
  ∀ (d k' r' : Int), 0 ≤ d → d < m → 0 ≤ k' → 0 ≤ r' → Q (.int d) (upd H t (tp c k' r'))
theorem ok_law_draw (T : Txt K mg a) : FnOk P w K mg base CX0 1 a.f_law_draw a.d_law_draw ["tape", "many"] (sp_law_draw K) := by
  refine T.F_law_draw.ok sc_law_draw (fun vs H Q E h => ?_) (fun cdv A outer s H vs Q E hr h => ?_)
  · obtain ⟨t, c, m, k, r, ns, rfl, _⟩ := h
    rfl
  · obtain ⟨t, c, m, k, r, ns, rfl, m0, m1, ht, hc, k0, r0, q⟩ := h
    refine ⟨_, (C8.pss_cut (ps_if (pt_cmpR op_lt (pe_ix ix_list (pv 0) pe_int (fun _ _ => rfl)) (pv 1) (nomark _))
       (pss_cons (ps_set (i := 2) sc_law_draw.nd rfl (.inl rfl) (pe_ix ix_list (pv 0) pe_int (fun _ _ => rfl)))
       (pss_cons (ps_set (i := 3) sc_law_draw.nd rfl (.inl rfl) (pe_ix ix_list (pv 0) pe_int (fun _ _ => rfl)))
       (pss_cons (ps_set (i := 4) sc_law_draw.nd rfl (.inl rfl) pe_int)
       (C8.pss_cut (ps_if (pt_cmpR op_lt (pv 3) (pe_callB call_len_seq (by rfl) T.z_len (by decide +kernel) (pa_cons (pv 2) pa_nil)) (nomark _))
       (pss_one (ps_set (i := 4) sc_law_draw.nd rfl (.inl rfl) (pe_ix ix_list (pv 2) (pv 3) (fun _ _ => rfl))))
       pss_nil)
       (C8.pss_cut (ps_if (pt_cmpR op_lt (pv 4) pe_int (nomark _))
       (pss_one (ps_set (i := 4) sc_law_draw.nd rfl (.inl rfl) (pe_op op_sub (pe_op op_mul (pe_un un_neg pe_int) (pv 4)) pe_int)))
       pss_nil)
       (C8.pss_cut (ps_if (pt_cmpR op_lt (pv 4) (pe_op op_pow pe_int pe_int) (nomark _))
       (pss_cons (ps_set (i := 4) sc_law_draw.nd rfl (.inl rfl) (pe_op op_modE (pe_callTy call_int1 (by rfl) T.z_int (by decide +kernel) (pa_cons (pe_op op_add (pe_op op_add (pe_op op_mul (pv 4) pe_int) (pe_op op_mul (pv 3) pe_int)) pe_int) pa_nil)) pe_int))
       (pss_one (ps_set (i := 4) sc_law_draw.nd rfl (.inl rfl) (pe_op op_modE (pe_callTy call_int1 (by rfl) T.z_int (by decide +kernel) (pa_cons (pe_op op_add (pe_op op_add (pe_op op_mul (pv 4) pe_int) (pe_op op_mul (pv 3) pe_int)) pe_int) pa_nil)) pe_int))))
       pss_nil)
       (pss_cons (ps_asg (pe_op op_add (pv 3) pe_int) (pg_sub (pv 0) pe_int set_list))
       (pss_one (ps_asg (pv 4) (pg_sub (pv 0) pe_int set_list))))))))))
       pss_nil)
       (pss_cons (ps_set (i := 5) sc_law_draw.nd rfl (.inl rfl) (pe_op op_modE (pe_callTy call_int1 (by rfl) T.z_int (by decide +kernel) (pa_cons (pe_ix ix_list (pv 0) pe_int (fun _ _ => rfl)) pa_nil)) (pv 1)))
       (pss_cons (ps_asg (pe_op op_fdivE (pe_ix ix_list (pv 0) pe_int (fun _ _ => rfl)) (pv 1)) (pg_sub (pv 0) pe_int set_list))
       (pss_one (ps_ret (pv 5)))))), ?_⟩
    refine red (σ' := [some (.ref t), some (.int m), none, none, none, none]) rfl ?_
    dsimp only [cxOf]
    have htc : c ≠ t := ne_of hc ht (by intro z; unfold tp at z; cases ns <;> simp at z)
    refine ⟨fun σ' H' => ∃ (k' r' : Int) (x2 x3 x4 x5 : Option V), 0 ≤ k' ∧ 0 ≤ r' ∧ σ' = [some (.ref t), some (.int m), x2, x3, x4, x5] ∧ H' = upd H t (tp c k' r'), ?_, ?_⟩
    · walk_at "go"
      refine iteK (fun h1 => ?_) (fun h1 => ?_)
      · walk_at "go"
        refine ⟨fun σ' H' => ∃ z : Int, σ' = [some (.ref t), some (.int m), some (.ref c), some (.int k), some (.int z), none] ∧ H = H', ?_, ?_⟩
        · walk_at "go"
          refine iteK (fun h2 => ?_) (fun h2 => ?_)
          · walk_at "go"
            rw [List.length_map] at h2
            obtain ⟨j, rfl⟩ := Int.eq_ofNat_of_zero_le k0
            have hj : j < ns.length := by omega
            refine g_ixL (v := .int ns[j]) (SqL.of hc) (atI_nat (by rw [List.getElem?_map, List.getElem?_eq_getElem hj]; rfl)) ?_
            walk_at "go"
            exact ⟨_, rfl, rfl⟩
          · walk_at "go"
            exact ⟨_, rfl, rfl⟩
        · rintro σ' H' ⟨z, rfl, rfl⟩
          refine ⟨fun σ' H' => ∃ z : Int, 0 ≤ z ∧ σ' = [some (.ref t), some (.int m), some (.ref c), some (.int k), some (.int z), none] ∧ H = H', ?_, ?_⟩
          · walk_at "go"
            refine iteK (fun h2 => ?_) (fun h2 => ?_)
            · walk_at "go"
              exact ⟨_, by omega, rfl, rfl⟩
            · walk_at "go"
              exact ⟨_, by omega, rfl, rfl⟩
          · rintro σ' H' ⟨z, z0, rfl, rfl⟩
            refine ⟨fun σ' H' => ∃ z : Int, 0 ≤ z ∧ σ' = [some (.ref t), some (.int m), some (.ref c), some (.int k), some (.int z), none] ∧ H = H', ?_, ?_⟩
            · walk_at "go"
              refine iteK (fun h2 => ?_) (fun h2 => ?_)
              · walk_at "go"
                exact ⟨_, by omega, rfl, rfl⟩
              · walk_at "go"
                exact ⟨_, by omega, rfl, rfl⟩
            · rintro σ' H' ⟨z, z0, rfl, rfl⟩
              walk_at "go"
              exact ⟨k + 1, z, _, _, _, _, by omega, z0, rfl, by rw [upd_upd]; rfl⟩
      · walk_at "go"
        exact ⟨k, r, _, _, _, _, k0, r0, rfl, by funext b; unfold upd; split <;> simp_all⟩
    · rintro σ' H' ⟨k', r', x2, x3, x4, x5, k0', r0', rfl, rfl⟩
      walk_at "go"
      rw [upd_upd]
      exact q _ _ _ (Int.emod_nonneg _ (by omega)) (Int.emod_lt_of_pos _ m0) k0' (Int.ediv_nonneg r0' (by omega))
def sp_law_tape (K : PySem.W.Frag) : Sp := fun vs H Q _ => ∃ (b : Addr) (xs : List V), vs = [.ref b] ∧ SqL K H b xs ∧ xs.length < 100 ∧
  ∀ t c, H c = none → H t = none → c ≠ t → Q (.ref t) (upd (upd H c (.lst xs)) t (tp c 0 0))
theorem ok_law_tape (T : Txt K mg a) : FnOk P w K mg base CX0 1 a.f_law_tape a.d_law_tape ["script"] (sp_law_tape K) := by
  refine T.F_law_tape.ok sc_law_tape (fun vs H Q E h => ?_) (fun cdv A outer s H vs Q E hr h => ?_)
  · obtain ⟨b, xs, rfl, _⟩ := h
    rfl
  · obtain ⟨b, xs, rfl, hb, hl, q⟩ := h
    refine ⟨_, (pss_one (ps_ret (pe_lst (pa_cons (pe_callTy call_list_of (by rfl) T.z_list (by decide +kernel) (pa_cons (pv 0) pa_nil)) (pa_cons pe_int (pa_cons pe_int pa_nil)))))), ?_⟩
    refine red (σ' := [some (.ref b)]) rfl ?_
    dsimp only [cxOf]
    walk_at "go"
    intro c hc
    walk_at "go"
    refine ⟨by show 3 ≤ sizeLine; decide, fun t ht => ?_⟩
    have ct : c ≠ t := fun e => by rw [← e, upd_same] at ht; cases ht
    rw [upd_ne ct.symm] at ht
    exact q t c hc ht ct
/-- what is said of NoSuch caught -/
theorem lacks {C : Addr} {D : Ends} {Wo : WX} {r : List (Value × Option Nat × Suite)} {σ : L2.St} {H : Hp} {y : Str} {i : Nat} (e : PySem.W.exmOne K (.ref C) (.ref C) = some true) (hi : i < σ.length)
    (q : ∀ H' r, Same H H' → H' r = some (.tup [.str "none", .str y]) → D.rt (.ref r) H') :
    Lacks C (WE (wCl K Wo D ((Value.ref C, some i, fun x cls d => tRet (tTup (tCons (tC (.str "none")) (tCons (tXf x cls d C "what" (tVar i)) tNil)))) :: r)) σ) H y := by
  intro d hd
  refine ⟨true, e, fun _ b hb => ?_, fun z => by cases z⟩
  refine g_ret (g_tup (g_cons (g_c (g_cons (g_var (show (σ.set i (some (V.ref b)))[i]? = _ by rw [List.getElem?_set_self hi]) ⟨rfl, rfl, d, _, .str y, rfl, upd_same, lk_hd, g_nil ⟨two_le, fun r hr => ?_⟩⟩)))))
  exact q _ r ((same_new hd).trans (same_new hr)) upd_same
def sp_law_told (a : Adr) : Sp := fun vs H Q _ => ∃ (x dx p m : Addr) (ps : List Str) (d : DD) (u v : Str) (n : Int), vs = [.ref x, .str u, .str v, .int n] ∧ H x = some (.ins a.C_Ways dx (wf p m)) ∧ H p = some (.tup (ps.map V.str)) ∧
  H m = some (.dT (enc d)) ∧ d.length ≤ 1000 ∧ u.length ≤ 1000 ∧ v.length ≤ 1000 ∧ (u ∉ ps → ∀ H' r, Same H H' → H' r = some (.tup [.str "none", .str u]) → Q (.ref r) H') ∧ (u ∈ ps → v ∉ ps → ∀ H' r, Same H H' → H' r = some (.tup [.str "none", .str v]) → Q (.ref r) H') ∧
  (u ∈ ps → v ∈ ps → n < 0 → Q (.str "bad") H) ∧ (u ∈ ps → v ∈ ps → 0 ≤ n → ∀ t, H t = none → Q .non (upd (upd H t (.tup [.str u, .str v])) m (.dT (enc (pt d (u, v) n)))))
theorem ok_law_told (T : Txt K mg a) : FnOk P w K mg base CX0 4 a.f_law_told a.d_law_told ["ways", "place", "other", "minutes"] (sp_law_told a) := by
  refine T.F_law_told.ok sc_law_told (fun vs H Q E h => ?_) (fun cdv A outer s H vs Q E hr h => ?_)
  · obtain ⟨x, dx, p, m, ps, d, u, v, n, rfl, _⟩ := h
    rfl
  · obtain ⟨x, dx, p, m, ps, d, u, v, n, rfl, hx, hp, hm, hd, hu, hv, q1, q2, q3, q4⟩ := h
    refine ⟨_, (pss_cons (ps_try_cl rfl rfl sc_law_told.nd takes0 (fun W pn xe tk _ => (pss_one (ps_expr (by exact (pe_methX (pv 0) T.c_Ways T.m_Ways_tell (ok_Ways_tell T) (hr.mono (by decide)) T.b_Ways_tell (fun σ => passAt tk σ) (by exact (pa_cons (pv 1) (pa_cons (pv 2) (pa_cons (pv 3) pa_nil))))))))) (ClOk.named (i := 4) ⟨rfl, by decide, .inl T.g_NoSuch⟩ rfl rfl (fun x oe cls d pn hz hf => (pss_one (ps_ret (pe_tup (pa_cons pe_str (pa_cons (pe_xf T.y_NoSuch (T.n_NoSuch_what) hz hf (pv 4)) pa_nil)))))) (ClOk.bare ⟨rfl, by decide, .inl T.g_BadSeries⟩ (fun x oe cls d pn hz hf => (pss_one (ps_ret pe_str))) ClOk.nil)))
       (pss_one (ps_ret pe_non))), ?_⟩
    refine red (σ' := [some (.ref x), some (.str u), some (.str v), some (.int n), none]) rfl ?_
    dsimp only [cxOf]
    walk_at "go"
    refine ⟨x, _, _, rfl, hx, wf_no p m (by decide +kernel) (by decide +kernel), ?_⟩
    walk_at "go"
    refine ⟨x, dx, p, m, ps, d, u, v, n, rfl, hx, hp, hm, hd, hu, hv, fun h1 => ?_, fun h1 h2 => ?_, fun h1 h2 h3 => ?_, fun h1 h2 h3 t ht => q4 h1 h2 h3 t ht⟩
    · exact lacks T.e_NoSuch_NoSuch (by show 4 < 5; decide) (q1 h1)
    · exact lacks T.e_NoSuch_NoSuch (by show 4 < 5; decide) (q2 h1 h2)
    · refine ⟨false, T.e_BadSeries_NoSuch, (fun z => nomatch z), fun _ => ⟨true, T.e_BadSeries_BadSeries, fun _ b hb => ?_, (fun z => nomatch z)⟩⟩
      exact q3 h1 h2 h3
def sp_law_minutes (a : Adr) : Sp := fun vs H Q _ => ∃ (x dx p m : Addr) (ps : List Str) (d : DD) (u v : Str), vs = [.ref x, .str u, .str v] ∧ H x = some (.ins a.C_Ways dx (wf p m)) ∧ H p = some (.tup (ps.map V.str)) ∧
  H m = some (.dT (enc d)) ∧ (d.map (·.1)).Nodup ∧ d.length ≤ 1000 ∧ ps.length ≤ 10 ∧ u.length ≤ 1000 ∧ v.length ≤ 1000 ∧ (u ∉ ps → ∀ H' r, Same H H' → H' r = some (.tup [.str "none", .str u]) → Q (.ref r) H') ∧ (u ∈ ps → v ∉ ps → ∀ H' r, Same H H' → H' r = some (.tup [.str "none", .str v]) → Q (.ref r) H') ∧
  (u ∈ ps → v ∈ ps → ∀ H', Same H H' → Q (((gt (floyd d ps) (u, v)).map V.int).getD .non) H')
theorem ok_law_minutes (T : Txt K mg a) : FnOk P w K mg base CX0 4 a.f_law_minutes a.d_law_minutes ["ways", "place", "other"] (sp_law_minutes a) := by
  refine T.F_law_minutes.ok sc_law_minutes (fun vs H Q E h => ?_) (fun cdv A outer s H vs Q E hr h => ?_)
  · obtain ⟨x, dx, p, m, ps, d, u, v, rfl, _⟩ := h
    rfl
  · obtain ⟨x, dx, p, m, ps, d, u, v, rfl, hx, hp, hm, hdn, hd, hps, hu, hv, q1, q2, q3⟩ := h
    refine ⟨_, (pss_one (ps_try_cl rfl rfl sc_law_minutes.nd takes0 (fun W pn xe tk _ => (pss_one (ps_ret (by exact (pe_methX (pv 0) T.c_Ways T.m_Ways_minutes (ok_Ways_minutes T) (hr.mono (by decide)) T.b_Ways_minutes (fun σ => passAt tk σ) (by exact (pa_cons (pv 1) (pa_cons (pv 2) pa_nil)))))))) (ClOk.named (i := 3) ⟨rfl, by decide, .inl T.g_NoSuch⟩ rfl rfl (fun x oe cls d pn hz hf => (pss_one (ps_ret (pe_tup (pa_cons pe_str (pa_cons (pe_xf T.y_NoSuch (T.n_NoSuch_what) hz hf (pv 3)) pa_nil)))))) ClOk.nil))), ?_⟩
    refine red (σ' := [some (.ref x), some (.str u), some (.str v), none]) rfl ?_
    dsimp only [cxOf]
    walk_at "go"
    refine ⟨x, _, _, rfl, hx, wf_no p m (by decide +kernel) (by decide +kernel), ?_⟩
    walk_at "go"
    refine ⟨x, dx, p, m, ps, d, u, v, rfl, hx, hp, hm, hdn, hd, hps, hu, hv, fun h1 => ?_, fun h1 h2 => ?_, fun h1 h2 H' hs => q3 h1 h2 H' hs⟩
    · exact lacks T.e_NoSuch_NoSuch (by show 3 < 4; decide) (q1 h1)
    · exact lacks T.e_NoSuch_NoSuch (by show 3 < 4; decide) (q2 h1 h2)
end
/-! ### the law -/
theorem ne_same {K : PySem.W.Frag} {H : Hp} {x y : V} {d : PyData} {Q : VK} (h1 : Dp K H x d) (h2 : Dp K H y d) (s : SeqAt.shaped d = true) (q : Q (.bl false) H) : rNeD K x y H Q :=
  ⟨d, d, h1, h2, s, s, by rw [SeqAt.eqv_refl d (SeqAt.canLay_of_shaped s)]; exact q⟩
theorem eq_same {K : PySem.W.Frag} {H : Hp} {x y : V} {d : PyData} {Q : VK} (h1 : Dp K H x d) (h2 : Dp K H y d) (s : SeqAt.shaped d = true) (q : Q (.bl true) H) : rEqD K x y H Q :=
  ⟨d, d, h1, h2, s, s, by rw [SeqAt.eqv_refl d (SeqAt.canLay_of_shaped s)]; exact q⟩
theorem dpAll_strs {K : PySem.W.Frag} {H : Hp} : ∀ ps : List Str, DpAll K H (ps.map V.str) (ps.map PyData.str)
  | [] => .nil
  | x :: ps => .cons (.str x) (dpAll_strs ps)
theorem dp_strs {K : PySem.W.Frag} {H : Hp} {r : Addr} {ps : List Str} (h : H r = some (.tup (ps.map V.str))) : Dp K H (.ref r) (.tuple (ps.map PyData.str)) := .tup (SqT.of h) (dpAll_strs ps)
/-- all the places that there are -/
def five : List Str := ["hall", "r1", "r2", "yard", "gate"]
def pss (n : Nat) : List Str := five.take (1 + n)
theorem shaped_pss {n : Nat} (h : n < 5) : SeqAt.shaped (.tuple ((pss n).map PyData.str)) = true := by
  have : ∀ n < 5, SeqAt.shaped (.tuple ((pss n).map PyData.str)) = true := by decide +kernel
  exact this n h
theorem pss_len {n : Nat} (h : n < 5) : (pss n).length = n + 1 := by
  have : ∀ n < 5, (pss n).length = n + 1 := by decide +kernel
  exact this n h
theorem pss_not {n : Nat} (h : n < 5) : ("moon" : Str) ∉ pss n ∧ ("sun" : Str) ∉ pss n := by
  have : ∀ n < 5, ("moon" : Str) ∉ pss n ∧ ("sun" : Str) ∉ pss n := by decide +kernel
  exact this n h
theorem pss_short {n : Nat} (h : n < 5) : ∀ x ∈ pss n ++ [("moon" : Str)], x.length ≤ 1000 := by
  have : ∀ n < 5, ∀ x ∈ pss n ++ [("moon" : Str)], x.length ≤ 1000 := by decide +kernel
  exact this n h
theorem pss_cut {d : Int} (h0 : 0 ≤ d) (h5 : d < 5) : cutV (five.map V.str) none (some (1 + d)) = (pss d.toNat).map V.str := by
  obtain ⟨n, rfl⟩ := Int.eq_ofNat_of_zero_le h0
  have e : (1 + (n : Int)) = ((1 + n : Nat) : Int) := by omega
  unfold cutV
  rw [HT.sIx_none, e, HT.sIx_nat, List.drop_zero, Nat.sub_zero, List.length_map]
  have l : five.length = 5 := rfl
  have hn : n < 5 := by omega
  rw [Nat.min_eq_left (by omega), Int.toNat_natCast]
  unfold pss
  rw [List.map_take]
structure LI (a : Adr) (t c L x dx p m D : Addr) (ns : List Int) (ps : List Str) (E F : DD) (H : Hp) : Prop where
  t_ : ∃ k r, 0 ≤ k ∧ 0 ≤ r ∧ H t = some (tp c k r)
  c_ : H c = some (.lst (ns.map V.int))
  L_ : H L = some (.lst (ps.map V.str))
  x_ : H x = some (.ins a.C_Ways dx (wf p m))
  p_ : H p = some (.tup (ps.map V.str))
  m_ : H m = some (.dT (enc E))
  D_ : H D = some (.dT (enc F))
  mD : m ≠ D
section
variable {a : Adr} {t c L x dx p m D : Addr} {ns : List Int} {ps : List Str} {E F : DD} {H H' : Hp}
theorem LI.same (I : LI a t c L x dx p m D ns ps E F H) (h : Same H H') : LI a t c L x dx p m D ns ps E F H' := by
  obtain ⟨⟨k, r, k0, r0, ht⟩, h1, h2, h3, h4, h5, h6, h7⟩ := I
  exact ⟨⟨k, r, k0, r0, h _ _ ht⟩, h _ _ h1, h _ _ h2, h _ _ h3, h _ _ h4, h _ _ h5, h _ _ h6, h7⟩
theorem LI.new (I : LI a t c L x dx p m D ns ps E F H) {q : Addr} {o : HO} (h : H q = none) : LI a t c L x dx p m D ns ps E F (upd H q o) := I.same (same_new h)
theorem ne_ints {c k r} {ns : List Int} : HO.lst (ns.map V.int) ≠ tp c k r := by intro z; unfold tp at z; cases ns <;> simp at z
theorem ne_strs {c k r} {ps : List Str} : HO.lst (ps.map V.str) ≠ tp c k r := by intro z; unfold tp at z; cases ps <;> simp at z
theorem LI.turn (I : LI a t c L x dx p m D ns ps E F H) {k r : Int} (k0 : 0 ≤ k) (r0 : 0 ≤ r) : LI a t c L x dx p m D ns ps E F (upd H t (tp c k r)) := by
  obtain ⟨⟨k1, r1, _, _, ht⟩, h1, h2, h3, h4, h5, h6, h7⟩ := I
  exact ⟨⟨k, r, k0, r0, upd_same⟩, (upd_ne (ne_of h1 ht ne_ints)).trans h1, (upd_ne (ne_of h2 ht ne_strs)).trans h2, (upd_ne (ne_of h3 ht (by intro z; cases z))).trans h3, (upd_ne (ne_of h4 ht (by intro z; cases z))).trans h4,
    (upd_ne (ne_of h5 ht (by intro z; cases z))).trans h5, (upd_ne (ne_of h6 ht (by intro z; cases z))).trans h6, h7⟩
theorem LI.putD (I : LI a t c L x dx p m D ns ps E F H) {G : DD} : LI a t c L x dx p m D ns ps E G (upd H D (.dT (enc G))) := by
  obtain ⟨⟨k1, r1, k0, r0, ht⟩, h1, h2, h3, h4, h5, h6, h7⟩ := I
  exact ⟨⟨k1, r1, k0, r0, (upd_ne (ne_of ht h6 (by intro z; cases z))).trans ht⟩, (upd_ne (ne_of h1 h6 (by intro z; cases z))).trans h1, (upd_ne (ne_of h2 h6 (by intro z; cases z))).trans h2, (upd_ne (ne_of h3 h6 (by intro z; cases z))).trans h3, (upd_ne (ne_of h4 h6 (by intro z; cases z))).trans h4,
    (upd_ne h7).trans h5, upd_same, h7⟩
theorem LI.putm (I : LI a t c L x dx p m D ns ps E F H) {G : DD} : LI a t c L x dx p m D ns ps G F (upd H m (.dT (enc G))) := by
  obtain ⟨⟨k1, r1, k0, r0, ht⟩, h1, h2, h3, h4, h5, h6, h7⟩ := I
  exact ⟨⟨k1, r1, k0, r0, (upd_ne (ne_of ht h5 (by intro z; cases z))).trans ht⟩, (upd_ne (ne_of h1 h5 (by intro z; cases z))).trans h1, (upd_ne (ne_of h2 h5 (by intro z; cases z))).trans h2, (upd_ne (ne_of h3 h5 (by intro z; cases z))).trans h3, (upd_ne (ne_of h4 h5 (by intro z; cases z))).trans h4,
    upd_same, (upd_ne h7.symm).trans h6, h7⟩
/-- a draw -/
theorem LI.draw {K : PySem.W.Frag} (I : LI a t c L x dx p m D ns ps E F H) {n : Int} (n0 : 0 < n) (n1 : n < 1073741824) {Q : VK} {X : XK}
    (q : ∀ d k r, 0 ≤ d → d < n → LI a t c L x dx p m D ns ps E F (upd H t (tp c k r)) → Q (.int d) (upd H t (tp c k r))) : sp_law_draw K [.ref t, .int n] H Q X := by
  obtain ⟨k, r, k0, r0, ht⟩ := I.t_
  exact ⟨t, c, n, k, r, ns, rfl, n0, n1, ht, I.c_, k0, r0, fun d k' r' d0 d1 k0' r0' => q d k' r' d0 d1 (I.turn k0' r0')⟩
end
/-- all but two places as it was -/
def Rel (D M : Addr) (H H' : Hp) : Prop := ∀ b o, b ≠ D → b ≠ M → H b = some o → H' b = some o
theorem Rel.same {D M : Addr} {H H1 H2 : Hp} (h : Rel D M H H1) (k : Same H1 H2) : Rel D M H H2 := fun b o h1 h2 e => k b o (h b o h1 h2 e)
theorem Rel.putM {D M : Addr} {H H1 : Hp} {o : HO} (h : Rel D M H H1) : Rel D M H (upd H1 M o) := fun b o h1 h2 e => (upd_ne h2).trans (h b o h1 h2 e)
theorem Rel.putD {D M : Addr} {H H1 : Hp} {o : HO} (h : Rel D M H H1) : Rel D M H (upd H1 D o) := fun b o h1 h2 e => (upd_ne h1).trans (h b o h1 h2 e)
theorem LI.keep {a : Adr} {t c L x dx p m D M : Addr} {ns : List Int} {ps : List Str} {E F G : DD} {H H' : Hp} {e : List (List Key × V)} (I : LI a t c L x dx p m D ns ps E F H) (hM : H M = some (.dT e)) (Mm : M ≠ m) (k : Rel D M H H') (hD : H' D = some (.dT (enc G))) : LI a t c L x dx p m D ns ps E G H' := by
  obtain ⟨⟨k1, r1, k0, r0, ht⟩, h1, h2, h3, h4, h5, h6, h7⟩ := I
  exact ⟨⟨k1, r1, k0, r0, k _ _ (ne_of ht h6 (by intro z; cases z)) (ne_of ht hM (by intro z; cases z)) ht⟩, k _ _ (ne_of h1 h6 (by intro z; cases z)) (ne_of h1 hM (by intro z; cases z)) h1,
    k _ _ (ne_of h2 h6 (by intro z; cases z)) (ne_of h2 hM (by intro z; cases z)) h2, k _ _ (ne_of h3 h6 (by intro z; cases z)) (ne_of h3 hM (by intro z; cases z)) h3,
    k _ _ (ne_of h4 h6 (by intro z; cases z)) (ne_of h4 hM (by intro z; cases z)) h4, k _ _ h7 (fun z => Mm z.symm) h5, hD, h7⟩
/-- and the dict of the least ways at M -/
structure LM (a : Adr) (t c L x dx p m D M : Addr) (ns : List Int) (ps : List Str) (E S : DD) (H : Hp) : Prop where
  I : LI a t c L x dx p m D ns ps E E H
  M_ : H M = some (.dT (enc S))
  MD : M ≠ D
  Mm : M ≠ m
theorem LM.same {a : Adr} {t c L x dx p m D M : Addr} {ns : List Int} {ps : List Str} {E S : DD} {H H' : Hp} (J : LM a t c L x dx p m D M ns ps E S H) (k : Same H H') : LM a t c L x dx p m D M ns ps E S H' :=
  ⟨J.I.same k, k _ _ J.M_, J.MD, J.Mm⟩
theorem LM.new {a : Adr} {t c L x dx p m D M : Addr} {ns : List Int} {ps : List Str} {E S : DD} {H : Hp} (J : LM a t c L x dx p m D M ns ps E S H) {q : Addr} {o : HO} (h : H q = none) : LM a t c L x dx p m D M ns ps E S (upd H q o) := J.same (same_new h)
theorem LM.keep {a : Adr} {t c L x dx p m D M : Addr} {ns : List Int} {ps : List Str} {E S S' : DD} {H H' : Hp} (J : LM a t c L x dx p m D M ns ps E S H) (k : Rel D M H H') (hD : H' D = some (.dT (enc E))) (hM : H' M = some (.dT (enc S'))) : LM a t c L x dx p m D M ns ps E S' H' :=
  ⟨J.I.keep J.M_ J.Mm k hD, hM, J.MD, J.Mm⟩
theorem LM.put {a : Adr} {t c L x dx p m D M : Addr} {ns : List Int} {ps : List Str} {E S S' : DD} {H : Hp} (J : LM a t c L x dx p m D M ns ps E S H) : LM a t c L x dx p m D M ns ps E S' (upd H M (.dT (enc S'))) :=
  J.keep (Rel.putM fun b o _ _ e => e) ((upd_ne J.MD.symm).trans J.I.D_) upd_same
theorem relaxE_len (p m : Str) (d : DD) (e : Pr × Int) : (relaxE p m d e).length ≤ d.length + 1 := by
  unfold relaxE
  split
  · split
    · exact low_len d _ _
    · omega
  · omega
theorem relaxP_len {E : DD} (hE : E.length ≤ 10) (d : DD) (k : Pr) : (relaxP E d k).length ≤ d.length + 10 := by
  have := fold_len (relaxE_len k.1 k.2) E d
  unfold relaxP
  omega
theorem turn_len {E : DD} (hE : E.length ≤ 10) (d : DD) : (turn E d).length ≤ 11 * d.length := by
  have := fold_len (relaxP_len hE) (d.map (·.1)) d
  rw [List.length_map] at this
  unfold turn
  omega
theorem turns_len {E : DD} (hE : E.length ≤ 10) (d : DD) : ∀ n, (turns E n d).length ≤ 11 ^ n * d.length
  | 0 => by simp [turns]
  | n + 1 => by
    have h1 := turns_len hE d n
    have h2 := turn_len hE (turns E n d)
    show (turn E (turns E n d)).length ≤ _
    rw [Nat.pow_succ, Nat.mul_comm (11 ^ n) 11, Nat.mul_assoc]
    omega
theorem paired_at {α β : Type} {F : α → β → Prop} : ∀ {l : List α} {bs : List β} {j : Nat} {q : β}, Paired F l bs → bs[j]? = some q → ∃ p, l[j]? = some p ∧ F p q
  | _, _, 0, q, .cons (a := a) h _, e => ⟨a, rfl, by cases e; exact h⟩
  | _, _, j + 1, q, .cons _ t, e => paired_at (j := j) t e
theorem paired_len {α β : Type} {F : α → β → Prop} : ∀ {l : List α} {bs : List β}, Paired F l bs → bs.length = l.length
  | _, _, .nil => rfl
  | _, _, .cons _ t => by rw [List.length_cons, List.length_cons, paired_len t]
/-- one of the places, or the moon, by a draw -/
theorem LI.pick {K : PySem.W.Frag} {a : Adr} {t c L x dx p m D : Addr} {ns : List Int} {ps : List Str} {E F : DD} {H : Hp} (I : LI a t c L x dx p m D ns ps E F H) (hp5 : ps.length ≤ 5) {σ : L2.St} (h1 : σ[1]? = some (some (V.ref t))) (h2 : σ[2]? = some (some (V.ref L))) {Q : VK}
    (q : ∀ v H', v ∈ ps ++ [("moon" : Str)] → LI a t c L x dx p m D ns ps E F H' → Q (.str v) H') :
    [V.str "moon"].length ≤ sizeLine ∧ ∀ p_1, H p_1 = none → rCat (V.ref L) (V.ref p_1) (upd H p_1 (.lst [.str "moon"])) fun x_1 H1 =>
      tCall (sp_law_draw K) [] E0 (tCons (tVar 1) (tCons (tOp (rI0 fun i j => V.int (i + j)) (tCB (fun xs H Q => ∃ p ys, xs = [V.ref p] ∧ (SqL K H p ys ∨ SqT K H p ys) ∧ Q (V.int ys.length) H) (tCons (tVar 2) tNil)) (tC (V.int 1))) tNil)) σ H1 fun y H2 => rIxL K x_1 y H2 Q := by
  refine ⟨by show 1 ≤ sizeLine; decide, fun p1 hp1 => ⟨L, p1, _, _, rfl, rfl, (I.new hp1).L_, upd_same, ?_, fun z hz => ?_⟩⟩
  · rw [List.length_map]
    have e2 : sizeLine = 16777216 := sizeLine_eq
    show ps.length + 1 ≤ sizeLine
    omega
  have I2 := (I.new (o := .lst [V.str "moon"]) hp1).new (o := .lst (ps.map V.str ++ [V.str "moon"])) hz
  have hzz : upd (upd H p1 (.lst [V.str "moon"])) z (.lst (ps.map V.str ++ [V.str "moon"])) z = some (.lst ((ps ++ [("moon" : Str)]).map V.str)) := by rw [upd_same, List.map_append]; rfl
  generalize upd (upd H p1 (.lst [V.str "moon"])) z (.lst (ps.map V.str ++ [V.str "moon"])) = H1 at I2 hzz
  refine g_call (g_cons (g_var h1 (g_cons (g_op (g_cb (g_cons (g_var h2 (g_nil ⟨L, _, rfl, .inl (SqL.of I2.L_), g_c ⟨_, _, rfl, rfl, g_nil ?_⟩⟩)))))))) 
  refine I2.draw (by rw [List.length_map]; omega) (by rw [List.length_map]; omega) fun d k r d0 d1 I3 => ?_
  obtain ⟨j, rfl⟩ := Int.eq_ofNat_of_zero_le d0
  rw [List.length_map] at d1
  have hj : j < (ps ++ [("moon" : Str)]).length := by rw [List.length_append]; show j < ps.length + 1; omega
  obtain ⟨_, _, _, _, ht⟩ := I2.t_
  refine ⟨z, _, _, .str (ps ++ [("moon" : Str)])[j], rfl, rfl, SqL.of ((upd_ne (ne_of hzz ht ne_strs)).trans hzz), atI_nat ?_, q _ _ (List.getElem_mem hj) I3⟩
  rw [List.getElem?_map, List.getElem?_eq_getElem hj]; rfl
/-- what is due of a telling -/
def Due (ps : List Str) (E : DD) (u v : Str) (z : Int) (w : V) (F : DD) (H : Hp) : Prop :=
  ((u ∉ ps ∨ v ∉ ps) ∧ F = E ∧ ∃ r, w = .ref r ∧ H r = some (.tup ([("none" : Str), ("moon" : Str)].map V.str))) ∨ (u ∈ ps ∧ v ∈ ps ∧ z < 0 ∧ w = .str "bad" ∧ F = E) ∨ (u ∈ ps ∧ v ∈ ps ∧ 0 ≤ z ∧ w = .non ∧ F = pt E (u, v) z)
theorem moon_of {ps : List Str} {u : Str} (h : u ∈ ps ++ [("moon" : Str)]) (n : u ∉ ps) : u = "moon" := by
  rcases List.mem_append.mp h with k | k
  · exact absurd k n
  · exact List.mem_singleton.mp k
/-- what is told, kept: keys once each, places, minutes not below 0 -/
structure Told (ps : List Str) (E : DD) (n : Nat) : Prop where
  nd : (E.map (·.1)).Nodup
  pos : NonNeg E
  on : ∀ k v, gt E k = some v → k.1 ∈ ps ∧ k.2 ∈ ps
  len : E.length ≤ n
theorem Told.nil (ps : List Str) : Told ps [] 0 := ⟨List.nodup_nil, (fun k v h => nomatch h), (fun k v h => nomatch h), Nat.le_refl _⟩
theorem Told.more {ps : List Str} {E : DD} {n : Nat} (h : Told ps E n) : Told ps E (n + 1) := ⟨h.nd, h.pos, h.on, Nat.le_succ_of_le h.len⟩
theorem Told.put {ps : List Str} {E : DD} {n : Nat} (h : Told ps E n) {u v : Str} {z : Int} (hu : u ∈ ps) (hv : v ∈ ps) (hz : 0 ≤ z) : Told ps (pt E (u, v) z) (n + 1) := by
  refine ⟨nodup_pt _ _ h.nd, fun k w e => ?_, fun k w e => ?_, Nat.le_trans gt_len (Nat.succ_le_succ h.len)⟩
  · rw [gt_pt] at e
    split at e
    · cases e; exact hz
    · exact h.pos k w e
  · rw [gt_pt] at e
    split at e
    · next q => rw [q]; exact ⟨hu, hv⟩
    · exact h.on k w e
section
variable {P : Program} {w : World} {K : PySem.W.Frag} {mg : Str → Option Value} {base : Heap} {a : Adr}
def sp_law (K : PySem.W.Frag) : Sp := fun vs H Q _ => ∃ (a : Addr) (ns : List Int), vs = [.ref a] ∧ SqL K H a (ns.map V.int) ∧ ns.length ≤ 63 ∧ ∀ H', Q (.bl true) H'
theorem ok_law (T : Txt K mg a) : FnOk P w K mg base CX0 5 a.f_law a.d_law ["script"] (sp_law K) := by
  refine T.F_law.ok sc_law (fun vs H Q E h => ?_) (fun cdv A outer s H vs Q E hr h => ?_)
  · obtain ⟨b, ns, rfl, _⟩ := h
    rfl
  · obtain ⟨b, ns, rfl, hb, hl, q⟩ := h
    refine ⟨_, (pss_cons (ps_set (i := 1) sc_law.nd rfl (.inl rfl) (pe_call (ok_law_tape T) (hr.mono (by decide)) (by rfl) T.g_law_tape T.F_law_tape.kp T.b_law_tape .nil pass0 (pa_cons (pv 0) pa_nil)))
       (pss_cons (ps_set (i := 2) sc_law.nd rfl (.inl rfl) (pe_slice sl_list (pe_lst (pa_cons pe_str (pa_cons pe_str (pa_cons pe_str (pa_cons pe_str (pa_cons pe_str pa_nil)))))) po_none (po_some (pe_op op_add pe_int (pe_call (ok_law_draw T) (hr.mono (by decide)) (by rfl) T.g_law_draw T.F_law_draw.kp T.b_law_draw .nil pass0 (pa_cons (pv 1) (pa_cons pe_int pa_nil)))))))
       (pss_cons (ps_set (i := 3) sc_law.nd rfl (.inl rfl) (pe_make T.M_Ways (ok_Ways_init T) (hr.mono (by decide)) (by rfl) T.g_Ways T.b_Ways_init .nil pass0 (pa_cons (pe_callTy call_tuple_of (by rfl) T.z_tuple (by decide +kernel) (pa_cons (pv 2) pa_nil)) pa_nil)))
       (pss_cons (ps_set (i := 4) sc_law.nd rfl (.inl rfl) pe_dnewT)
       (pss_cons (ps_for PassesOwn.never rfl (pi_range1 (by rfl) T.z_range (pa_cons (pe_call (ok_law_draw T) (hr.mono (by decide)) (by rfl) T.g_law_draw T.F_law_draw.kp T.b_law_draw .nil pass0 (pa_cons (pv 1) (pa_cons pe_int pa_nil))) pa_nil)) (pg_name (i := 5) sc_law.nd rfl (.inl rfl))
       (pss_cons (ps_par (i := 6) (j := 7) rfl sc_law.nd rfl rfl (by decide) rfl rfl (pa_cons (pe_ix ix_list (pe_op op_cat (pv 2) (pe_lst (pa_cons pe_str pa_nil))) (pe_call (ok_law_draw T) (hr.mono (by decide)) (by rfl) T.g_law_draw T.F_law_draw.kp T.b_law_draw .nil pass0 (pa_cons (pv 1) (pa_cons (pe_op op_add (pe_callB call_len_seq (by rfl) T.z_len (by decide +kernel) (pa_cons (pv 2) pa_nil)) pe_int) pa_nil))) (fun _ _ => rfl)) (pa_cons (pe_ix ix_list (pe_op op_cat (pv 2) (pe_lst (pa_cons pe_str pa_nil))) (pe_call (ok_law_draw T) (hr.mono (by decide)) (by rfl) T.g_law_draw T.F_law_draw.kp T.b_law_draw .nil pass0 (pa_cons (pv 1) (pa_cons (pe_op op_add (pe_callB call_len_seq (by rfl) T.z_len (by decide +kernel) (pa_cons (pv 2) pa_nil)) pe_int) pa_nil))) (fun _ _ => rfl)) pa_nil)) (by rfl))
       (pss_cons (ps_set (i := 8) sc_law.nd rfl (.inl rfl) (pe_op op_sub (pe_call (ok_law_draw T) (hr.mono (by decide)) (by rfl) T.g_law_draw T.F_law_draw.kp T.b_law_draw .nil pass0 (pa_cons (pv 1) (pa_cons pe_int pa_nil))) (pe_op op_mul (pe_callTy call_int1 (by rfl) T.z_int (by decide +kernel) (pa_cons (pe_cmpR op_eq (pe_call (ok_law_draw T) (hr.mono (by decide)) (by rfl) T.g_law_draw T.F_law_draw.kp T.b_law_draw .nil pass0 (pa_cons (pv 1) (pa_cons pe_int pa_nil))) pe_int (nomark _)) pa_nil)) pe_int)))
       (pss_cons (ps_set (i := 9) sc_law.nd rfl (.inl rfl) pe_non)
       (C8.pss_cut (ps_if (pt_cmpR op_in_seq pe_str (pe_lst (pa_cons (pv 6) (pa_cons (pv 7) pa_nil))) rfl)
       (pss_one (ps_set (i := 9) sc_law.nd rfl (.inl rfl) (pe_tup (pa_cons pe_str (pa_cons pe_str pa_nil)))))
       (pss_one (ps_if (pt_cmpR op_lt (pv 8) pe_int (nomark _))
       (pss_one (ps_set (i := 9) sc_law.nd rfl (.inl rfl) pe_str))
       (pss_one (ps_dput (hu_of hr) (pv 4) (pe_tup (pa_cons (pv 6) (pa_cons (pv 7) pa_nil))) (pv 8) rfl)))))
       (pss_one (ps_if (pt_cmpR (op_neD (hr.units)) (pe_call (ok_law_told T) (hr.mono (by decide)) (by rfl) T.g_law_told T.F_law_told.kp T.b_law_told .nil pass0 (pa_cons (pv 3) (pa_cons (pv 6) (pa_cons (pv 7) (pa_cons (pv 8) pa_nil))))) (pv 9) (nomark _))
       (pss_one (ps_ret pe_bl))
       pss_nil)))))))
       (pss_cons (ps_set (i := 10) sc_law.nd rfl (.inl rfl) pe_dnewT)
       (pss_cons (ps_for PassesOwn.never rfl (pi_list (pv 2)) (pg_name (i := 6) sc_law.nd rfl (.inl rfl))
       (pss_one (ps_dput (hu_of hr) (pv 10) (pe_tup (pa_cons (pv 6) (pa_cons (pv 6) pa_nil))) pe_int rfl)))
       (pss_cons (ps_for PassesOwn.never rfl (pi_range1 (by rfl) T.z_range (pa_cons pe_int pa_nil)) (pg_name (i := 11) sc_law.nd rfl (.inl rfl))
       (pss_one (ps_for PassesOwn.never rfl (pi_list (pe_callTy (call_list_dT rfl) (by rfl) T.z_list (by decide +kernel) (pa_cons (pv 10) pa_nil))) (pg_tup (by rfl) (pgs_cons (pg_name (i := 6) sc_law.nd rfl (.inl rfl)) (pgs_cons (pg_name (i := 12) sc_law.nd rfl (.inl rfl)) pgs_nil)))
       (pss_one (ps_lock (ps_for PassesOwn.never rfl (pi_keys (pv 4)) (pg_name (i := 13) sc_law.nd rfl (.inl rfl))
       (pss_one (ps_if (pt_cmpR op_eq (pe_ix ix_tup (pv 13) pe_int (fun _ _ => rfl)) (pv 12) (nomark _))
       (pss_cons (ps_set (i := 14) sc_law.nd rfl (.inl rfl) (pe_op op_add (pe_dget (hu_of hr) (pv 10) (pe_tup (pa_cons (pv 6) (pa_cons (pv 12) pa_nil))) (fun _ _ => rfl)) (pe_dget (hu_of hr) (pv 4) (pv 13) (fun _ _ => rfl))))
       (pss_one (ps_if (PW.pt (pw_or (pt_cmp (pc_dnotin (hu_of hr) (pe_tup (pa_cons (pv 6) (pa_cons (pe_ix ix_tup (pv 13) pe_int (fun _ _ => rfl)) pa_nil))) (pv 10))) (pw_or1 (pt_cmpR op_lt (pv 14) (pe_dget (hu_of hr) (pv 10) (pe_tup (pa_cons (pv 6) (pa_cons (pe_ix ix_tup (pv 13) pe_int (fun _ _ => rfl)) pa_nil))) (fun _ _ => rfl)) (nomark _)))))
       (pss_one (ps_dput (hu_of hr) (pv 10) (pe_tup (pa_cons (pv 6) (pa_cons (pe_ix ix_tup (pv 13) pe_int (fun _ _ => rfl)) pa_nil))) (pv 14) rfl))
       pss_nil)))
       pss_nil))))))))
       (pss_cons (ps_if (PW.pt (pw_or (pt_cmpR (op_ne_dictT (hu_of hr)) (pe_meth0 (pv 3) T.c_Ways T.m_Ways_table (ok_Ways_table T) (hr.mono (by decide)) T.b_Ways_table .nil pass0) (pv 10) (nomark _)) (pw_or1 (pt_cmpR (op_neD (hr.units)) (pe_meth0 (pv 3) T.c_Ways T.m_Ways_places (ok_Ways_places T) (hr.mono (by decide)) T.b_Ways_places .nil pass0) (pe_callTy call_tuple_of (by rfl) T.z_tuple (by decide +kernel) (pa_cons (pv 2) pa_nil)) (nomark _)))))
       (pss_one (ps_ret pe_bl))
       pss_nil)
       (pss_cons (ps_for PassesOwn.never rfl (pi_list (pv 2)) (pg_name (i := 6) sc_law.nd rfl (.inl rfl))
       (pss_one (ps_for PassesOwn.never rfl (pi_list (pv 2)) (pg_name (i := 7) sc_law.nd rfl (.inl rfl))
       (pss_one (ps_if (pt_cmpR (op_neD (hr.units)) (pe_call (ok_law_minutes T) (hr.mono (by decide)) (by rfl) T.g_law_minutes T.F_law_minutes.kp T.b_law_minutes .nil pass0 (pa_cons (pv 3) (pa_cons (pv 6) (pa_cons (pv 7) pa_nil)))) (pe_dget1 (hu_of hr) (pv 10) (pe_tup (pa_cons (pv 6) (pa_cons (pv 7) pa_nil))) ⟨rfl, rfl, rfl, rfl⟩) (nomark _))
       (pss_one (ps_ret pe_bl))
       pss_nil)))))
       (pss_one (ps_ret (pe_and (pe_cmpR (op_eqD (hr.units)) (pe_call (ok_law_minutes T) (hr.mono (by decide)) (by rfl) T.g_law_minutes T.F_law_minutes.kp T.b_law_minutes .nil pass0 (pa_cons (pv 3) (pa_cons pe_str (pa_cons (pe_ix ix_list (pv 2) pe_int (fun _ _ => rfl)) pa_nil)))) (pe_tup (pa_cons pe_str (pa_cons pe_str pa_nil))) (nomark _)) (pe_one (pe_cmpR (op_eqD (hr.units)) (pe_call (ok_law_minutes T) (hr.mono (by decide)) (by rfl) T.g_law_minutes T.F_law_minutes.kp T.b_law_minutes .nil pass0 (pa_cons (pv 3) (pa_cons (pe_ix ix_list (pv 2) pe_int (fun _ _ => rfl)) (pa_cons pe_str pa_nil)))) (pe_tup (pa_cons pe_str (pa_cons pe_str pa_nil))) (nomark _)))))))))))))))), ?_⟩
    refine red (σ' := [some (.ref b), none, none, none, none, none, none, none, none, none, none, none, none, none, none]) rfl ?_
    dsimp only [cxOf]
    walk_at "go"
    refine ⟨b, _, rfl, hb, by rw [List.length_map]; omega, fun t c hc ht ct => ?_⟩
    have h1t : upd (upd H c (.lst (ns.map V.int))) t (tp c 0 0) t = some (tp c 0 0) := upd_same
    have h1c : upd (upd H c (.lst (ns.map V.int))) t (tp c 0 0) c = some (.lst (ns.map V.int)) := (upd_ne ct).trans upd_same
    generalize upd (upd H c (.lst (ns.map V.int))) t (tp c 0 0) = H1 at h1t h1c
    walk_at "go"
    refine ⟨by show 5 ≤ sizeLine; decide, fun l hl => ?_⟩
    walk_at "go"
    refine ⟨t, c, 5, 0, 0, ns, rfl, by decide, by decide, (upd_ne (ne_of_none h1t hl)).trans h1t, (upd_ne (ne_of_none h1c hl)).trans h1c, by decide, by decide, fun d k r d0 d5 k0 r0 => ?_⟩
    have h2t : upd (upd H1 l (.lst (five.map V.str))) t (tp c k r) t = some (tp c k r) := upd_same
    have h2c : upd (upd H1 l (.lst (five.map V.str))) t (tp c k r) c = some (.lst (ns.map V.int)) := (upd_ne (ne_of h1c h1t ne_ints)).trans ((upd_ne (ne_of_none h1c hl)).trans h1c)
    have h2l : upd (upd H1 l (.lst (five.map V.str))) t (tp c k r) l = some (.lst (five.map V.str)) := (upd_ne (ne_of_none h1t hl).symm).trans upd_same
    change rI0 _ _ _ (upd (upd H1 l (.lst (five.map V.str))) t (tp c k r)) _
    generalize upd (upd H1 l (.lst (five.map V.str))) t (tp c k r) = H2 at h2t h2c h2l
    walk_at "go"
    refine ⟨_, rfl, l, _, rfl, SqL.of h2l, fun L hL => ?_⟩
    rw [pss_cut d0 d5]
    obtain ⟨N, hN⟩ : ∃ N, d.toNat = N := ⟨_, rfl⟩
    have N5 : N < 5 := by omega
    rw [hN]
    have psN := pss_not N5
    have psS := pss_short N5
    have psH := shaped_pss N5
    have psL := pss_len N5
    have ps0 : ∃ p0 pr, pss N = p0 :: pr := by
      cases e : pss N with
      | nil => rw [e] at psL; cases psL
      | cons p0 pr => exact ⟨p0, pr, rfl⟩
    generalize pss N = ps at psN psS psH psL ps0
    have h3t := (upd_ne (o := .lst (ps.map V.str)) (ne_of_none h2t hL)).trans h2t
    have h3c := (upd_ne (o := .lst (ps.map V.str)) (ne_of_none h2c hL)).trans h2c
    have h3L : upd H2 L (.lst (ps.map V.str)) L = some (.lst (ps.map V.str)) := upd_same
    generalize upd H2 L (.lst (ps.map V.str)) = H3 at h3t h3c h3L
    walk_at "go"
    refine ⟨L, _, rfl, .inl ⟨SqL.of h3L, fun p hp => ?_⟩⟩
    walk_at "go"
    intro x dx hx hdx dxx
    refine ⟨x, dx, p, _, rfl, upd_same, SqT.of ((upd_ne ?_).trans ((upd_ne ?_).trans upd_same)), fun H4 m hm mx hx4 hm4 rest => ⟨rfl, ?_⟩⟩
    · intro e; rw [e, upd_same] at hx; cases hx
    · intro e; rw [e, upd_same] at hdx; cases hdx
    have keep : ∀ {b : Addr} {o : HO}, H3 b = some o → H4 b = some o := fun {b o} h => by
      have h5 : upd H3 p (.tup (ps.map V.str)) b = some o := (upd_ne (ne_of_none h hp)).trans h
      have b1 : b ≠ x := ne_of_none h5 hx
      have b2 : b ≠ dx := ne_of_none h5 hdx
      have h6 : upd (upd (upd H3 p (.tup (ps.map V.str))) dx (.own x)) x (.ins a.C_Ways dx []) b = some o := (upd_ne b1).trans ((upd_ne b2).trans h5)
      rw [rest b b1 (ne_of_none h6 hm)]; exact h6
    have h4t := keep h3t
    have h4c := keep h3c
    have h4L := keep h3L
    have h4p : H4 p = some (.tup (ps.map V.str)) := by
      have b1 : p ≠ x := fun e => by rw [e, upd_same] at hx; cases hx
      have b2 : p ≠ dx := fun e => by rw [e, upd_same] at hdx; cases hdx
      have h6 : upd (upd (upd H3 p (.tup (ps.map V.str))) dx (.own x)) x (.ins a.C_Ways dx []) p = some (.tup (ps.map V.str)) := (upd_ne b1).trans ((upd_ne b2).trans upd_same)
      rw [rest p b1 (ne_of_none h6 hm)]; exact h6
    clear keep rest hm mx hx hdx hp hL hl h1t h1c h2t h2c h2l h3t h3c h3L
    walk_at "go"
    intro D hD
    have I : LI a t c L x dx p m D ns ps [] [] (upd H4 D (.dT (enc []))) := ⟨⟨k, r, k0, r0, (upd_ne (ne_of_none h4t hD)).trans h4t⟩, (upd_ne (ne_of_none h4c hD)).trans h4c, (upd_ne (ne_of_none h4L hD)).trans h4L,
      (upd_ne (ne_of_none hx4 hD)).trans hx4, (upd_ne (ne_of_none h4p hD)).trans h4p, (upd_ne (ne_of_none hm4 hD)).trans hm4, upd_same, ne_of_none hm4 hD⟩
    change gName 4 _ _ (upd H4 D (.dT (enc []))) _
    generalize upd H4 D (.dT (enc [])) = H5 at I
    clear h4t h4c h4L hx4 h4p hm4 hD
    walk_at "go"
    refine I.draw (by decide) (by decide) fun d k r d0 d11 I => ?_
    generalize upd H5 t (tp c k r) = H6 at I
    walk_at "go"
    refine ⟨d, rfl, by omega, by omega, ?_⟩
    refine for_range (fun i σ' H' => ∃ E y5 y6 y7 y8 y9, σ' = [some (.ref b), some (.ref t), some (.ref L), some (.ref x), some (.ref D), y5, y6, y7, y8, y9, none, none, none, none, none] ∧ LI a t c L x dx p m D ns ps E E H' ∧ Told ps E i)
      ⟨[], none, none, none, none, none, rfl, I, Told.nil ps⟩ ?_ ?_
    · rintro i σ' H7 hi ⟨E1, y5, y6, y7, y8, y9, rfl, I, TO⟩
      walk_at "go"
      have ps5 : ps.length ≤ 5 := by omega
      refine I.pick ps5 (by rfl) (by rfl) fun u H8 hu I => ?_
      walk_at "go"
      refine I.pick ps5 (by rfl) (by rfl) fun v H9 hv I => ?_
      walk_at "go"
      refine ⟨_, _, rfl, ?_⟩
      walk_at "go"
      refine I.draw (by decide) (by decide) fun d1 k1 r1 _ _ I => ?_
      generalize upd H9 t (tp c k1 r1) = H10 at I
      walk_at "go"
      refine I.draw (by decide) (by decide) fun d2 k2 r2 _ _ I => ?_
      generalize upd H10 t (tp c k2 r2) = H11 at I
      walk_at "go"
      generalize d1 - (if decide (V.int d2 = V.int 0) = true then 1 else 0) * 30 = z
      refine ⟨fun σ' H' => ∃ (w : V) (F : DD), σ' = [some (.ref b), some (.ref t), some (.ref L), some (.ref x), some (.ref D), some (.int (0 + i)), some (.str u), some (.str v), some (.int z), some w, none, none, none, none, none] ∧ LI a t c L x dx p m D ns ps E1 F H' ∧ Due ps E1 u v z w F H', ?_, ?_⟩
      · walk_at "go"
        refine ⟨two_le, fun l hl => ⟨l, _, rfl, .inl (SqL.of upd_same), rfl, rfl, ?_⟩⟩
        replace I := I.new (o := .lst [V.str u, V.str v]) hl
        generalize upd H11 l (.lst [V.str u, V.str v]) = H12 at I
        have e : inV (V.str "moon") [V.str u, V.str v] = decide (("moon" : Str) ∈ [u, v]) := inV_strs "moon" [u, v]
        refine ⟨_, rfl, ?_⟩
        rw [e]
        refine iteK (fun h => ?_) (fun h => ?_)
        · walk_at "go"
          refine ⟨two_le, fun r hr => ?_⟩
          walk_at "go"
          refine ⟨_, _, rfl, I.new hr, .inl ⟨?_, rfl, r, rfl, upd_same⟩⟩
          rcases List.mem_cons.mp h with k | k
          · left; rw [← k]; exact psN.1
          · right; rw [← List.mem_singleton.mp k]; exact psN.1
        · have hu' : u ∈ ps := (List.mem_append.mp hu).elim id fun k => absurd (by rw [List.mem_singleton.mp k]; exact List.mem_cons_self) h
          have hv' : v ∈ ps := (List.mem_append.mp hv).elim id fun k => absurd (by rw [List.mem_singleton.mp k]; exact List.mem_cons_of_mem _ List.mem_cons_self) h
          walk_at "go"
          refine iteK (fun hz => ?_) (fun hz => ?_)
          · walk_at "go"
            exact ⟨_, _, rfl, I, .inr (.inl ⟨hu', hv', hz, rfl, rfl⟩)⟩
          · walk_at "go"
            refine ⟨two_le, fun r hr => ?_⟩
            replace I := I.new (o := .tup [V.str u, V.str v]) hr
            refine ⟨D, _, rfl, DPut.t (k := kk (u, v)) I.D_ upd_same (by rw [enc_len]; exact Nat.lt_of_le_of_lt (show _ ≤ 1000 by have := TO.len; omega) (by decide)), ?_⟩
            rw [putK_enc]
            exact ⟨_, _, rfl, I.putD, .inr (.inr ⟨hu', hv', by omega, rfl, rfl⟩)⟩
      · rintro σ' H12 ⟨w, F, rfl, I, du⟩
        walk_at "go"
        have lenE : E1.length ≤ 1000 := by have := TO.len; omega
        have sh2 : SeqAt.shaped (.tuple ([("none" : Str), ("moon" : Str)].map PyData.str)) = true := by decide +kernel
        rcases du with ⟨out, rfl, r, rfl, hr⟩ | ⟨hu', hv', hz, rfl, rfl⟩ | ⟨hu', hv', hz, rfl, rfl⟩
        · refine ⟨x, dx, p, m, ps, F, u, v, z, rfl, I.x_, I.p_, I.m_, lenE, psS u hu, psS v hv, fun h1 H13 r2 sm hr2 => ?_, fun h1 h2 H13 r2 sm hr2 => ?_, fun h1 h2 => (out.elim (fun k => k h1) fun k => k h2).elim, fun h1 h2 => (out.elim (fun k => k h1) fun k => k h2).elim⟩
          · walk_at "go"
            rw [moon_of hu h1] at hr2
            refine ne_same (dp_strs (ps := ["none", "moon"]) hr2) (dp_strs (sm _ _ hr)) sh2 ?_
            walk_at "go"
            refine iteF ?_
            walk_at "go"
            exact ⟨_, _, _, _, _, _, rfl, I.same sm, TO.more⟩
          · walk_at "go"
            rw [moon_of hv h2] at hr2
            refine ne_same (dp_strs (ps := ["none", "moon"]) hr2) (dp_strs (sm _ _ hr)) sh2 ?_
            walk_at "go"
            refine iteF ?_
            walk_at "go"
            exact ⟨_, _, _, _, _, _, rfl, I.same sm, TO.more⟩
        · refine ⟨x, dx, p, m, ps, F, u, v, z, rfl, I.x_, I.p_, I.m_, lenE, psS u hu, psS v hv, fun h1 => absurd hu' h1, fun h1 h2 => absurd hv' h2, fun h1 h2 h3 => ?_, fun h1 h2 h3 => absurd hz (by omega)⟩
          walk_at "go"
          refine ne_same (.str _) (.str _) (by decide +kernel) ?_
          walk_at "go"
          refine iteF ?_
          walk_at "go"
          exact ⟨_, _, _, _, _, _, rfl, I, TO.more⟩
        · refine ⟨x, dx, p, m, ps, E1, u, v, z, rfl, I.x_, I.p_, I.m_, lenE, psS u hu, psS v hv, fun h1 => absurd hu' h1, fun h1 h2 => absurd hv' h2, fun h1 h2 h3 => absurd hz (by omega), fun h1 h2 h3 q1 hq1 => ?_⟩
          walk_at "go"
          refine ne_same .non .non (by decide +kernel) ?_
          walk_at "go"
          refine iteF ?_
          walk_at "go"
          exact ⟨_, _, _, _, _, _, rfl, (I.new hq1).putm, TO.put hu' hv' hz⟩
    · rintro σ' H7 ⟨E1, y5, y6, y7, y8, y9, rfl, I, TO⟩
      have TO10 : Told ps E1 10 := ⟨TO.nd, TO.pos, TO.on, by have := TO.len; omega⟩
      walk_at "go"
      intro M hM
      have J : LM a t c L x dx p m D M ns ps E1 [] (upd H7 M (.dT (enc []))) := ⟨I.new hM, upd_same, (ne_of_none I.D_ hM).symm, (ne_of_none I.m_ hM).symm⟩
      change gName 10 _ _ (upd H7 M (.dT (enc []))) _
      generalize upd H7 M (.dT (enc [])) = H8 at J
      clear hM I
      walk_at "go"
      refine ⟨L, rfl, ⟨_, SqL.of J.I.L_⟩, ?_⟩
      have ps5 : ps.length ≤ 5 := by omega
      refine for_list (K := K) (a := L) (xs := ps.map V.str) (fun i σ' H' => ∃ y6, σ' = [some (.ref b), some (.ref t), some (.ref L), some (.ref x), some (.ref D), y5, y6, y7, y8, y9, some (.ref M), none, none, none, none] ∧ LM a t c L x dx p m D M ns ps E1 ((ps.take i).foldl (fun d p => pt d (p, p) 0) []) H')
        ⟨y6, rfl, J⟩ (fun i σ' H' _ h => by obtain ⟨_, _, J⟩ := h; exact SqL.of J.I.L_) ?_ ?_
      · rintro i z σ' H' hi ⟨y6, rfl, J⟩
        obtain ⟨z, hz, rfl⟩ := str_at hi
        rw [fold_more hz]
        have len : ((ps.take i).foldl (fun d p => pt d (p, p) 0) []).length ≤ 1000 := by
          have := fold_len (f := fun d p => pt d (p, p) 0) (c := 1) (fun d x => gt_len) (ps.take i) []
          have := take_le ps i
          simp only [List.length_nil] at *
          omega
        walk_at "go"
        refine ⟨two_le, fun q hq => ?_⟩
        replace J := J.new (o := .tup [.str z, .str z]) hq
        refine ⟨M, _, rfl, DPut.t (k := kk (z, z)) J.M_ upd_same (by rw [enc_len]; exact Nat.lt_of_le_of_lt len (by decide)), ?_⟩
        rw [putK_enc]
        exact ⟨_, rfl, J.put⟩
      rintro σ' H9 ⟨y6, rfl, J⟩
      rw [List.length_map, List.take_length] at J
      change LM a t c L x dx p m D M ns ps E1 (diag ps) H9 at J
      walk_at "go"
      refine ⟨6, rfl, by decide, by decide, ?_⟩
      refine for_range (fun i σ' H' => ∃ y6 y11 y12 y13 y14, σ' = [some (.ref b), some (.ref t), some (.ref L), some (.ref x), some (.ref D), y5, y6, y7, y8, y9, some (.ref M), y11, y12, y13, y14] ∧ LM a t c L x dx p m D M ns ps E1 (turns E1 i (diag ps)) H')
        ⟨_, _, _, _, _, rfl, J⟩ ?_ ?_
      · rintro i σ' H10 hi ⟨y6, y11, y12, y13, y14, rfl, J⟩
        have hi6 : i < 6 := hi
        have lenS : (turns E1 i (diag ps)).length ≤ 805255 := by
          have h1 := turns_len TO10.len (diag ps) i
          have h2 : (diag ps).length ≤ 5 := by
            have := fold_len (f := fun d p => pt d (p, p) 0) (c := 1) (fun d x => gt_len) ps []
            unfold diag
            simp only [List.length_nil] at this
            omega
          have h3 : 11 ^ i ≤ 11 ^ 5 := Nat.pow_le_pow_right (by decide) (by omega)
          have h4 : 11 ^ i * (diag ps).length ≤ 11 ^ 5 * 5 := Nat.mul_le_mul h3 h2
          have h5 : 11 ^ 5 * 5 = 805255 := by decide
          omega
        show gName 11 _ _ _ _
        have eT : turns E1 (i + 1) (diag ps) = turn E1 (turns E1 i (diag ps)) := rfl
        rw [eT]
        have ndS := turns_nodup E1 ps i
        generalize turns E1 i (diag ps) = S at J lenS ndS
        walk_at "go"
        refine ⟨M, _, rfl, .inl J.M_, fun B bs hB hbs => ?_⟩
        have J11 := J.new (o := .lst (bs.map V.ref)) hB
        have hB11 : upd H10 B (.lst (bs.map V.ref)) B = some (.lst (bs.map V.ref)) := upd_same
        have hbs11 : ∀ {j : Nat} {q : Addr}, bs[j]? = some q → ∃ e, S[j]? = some e ∧ upd H10 B (.lst (bs.map V.ref)) q = some (.tup ((kk e.1).map kV)) := fun {j q} e => by
          obtain ⟨⟨k, v⟩, h1, h2⟩ := paired_at hbs e
          obtain ⟨e, he, rfl, rfl⟩ := enc_at h1
          exact ⟨e, he, (upd_ne (ne_of_none h2 hB)).trans h2⟩
        have lenB : bs.length = S.length := by rw [paired_len hbs, enc_len]
        generalize upd H10 B (.lst (bs.map V.ref)) = H11 at J11 hB11 hbs11
        clear hbs hB J
        have BM : B ≠ M := ne_of hB11 J11.M_ (by intro z; cases z)
        have BD : B ≠ D := ne_of hB11 J11.I.D_ (by intro z; cases z)
        refine ⟨B, rfl, ⟨_, SqL.of hB11⟩, ?_⟩
        refine for_list (K := K) (a := B) (xs := bs.map V.ref) (fun j σ' H' => ∃ y6 y12 y13 y14, σ' = [some (.ref b), some (.ref t), some (.ref L), some (.ref x), some (.ref D), y5, y6, y7, y8, y9, some (.ref M), some (.int (0 + i)), y12, y13, y14] ∧ Rel D M H11 H' ∧ H' D = some (.dT (enc E1)) ∧
            H' M = some (.dT (enc (((S.map (·.1)).take j).foldl (relaxP E1) S))))
          ⟨_, _, _, _, rfl, fun b o _ _ e => e, J11.I.D_, J11.M_⟩ (fun j σ' H' _ h => by obtain ⟨_, _, _, _, _, h, _⟩ := h; exact SqL.of (h _ _ BD BM hB11)) ?_ ?_
        · rintro j y σ' H12 hj ⟨y6, y12, y13, y14, rfl, rel, hD, hM⟩
          obtain ⟨q2, hj2, rfl⟩ : ∃ q2, bs[j]? = some q2 ∧ y = V.ref q2 := by
            rw [List.getElem?_map] at hj
            cases e : bs[j]? with
            | none => rw [e] at hj; cases hj
            | some z => rw [e] at hj; exact ⟨z, rfl, (Option.some.inj hj).symm⟩
          obtain ⟨⟨⟨pl, mid⟩, c0⟩, he, hq2⟩ := hbs11 hj2
          have q2D : q2 ≠ D := ne_of hq2 J11.I.D_ (by intro z; cases z)
          have q2M : q2 ≠ M := ne_of hq2 J11.M_ (by intro z; cases z)
          have hkey : (S.map (·.1))[j]? = some (pl, mid) := by rw [List.getElem?_map, he]; rfl
          have low1 : Low (((S.map (·.1)).take j).foldl (relaxP E1) S) pl mid c0 := fold_le (relaxP_le E1) _ S pl mid c0 (gt_of_mem ndS (List.mem_of_getElem? he))
          have len1 : (((S.map (·.1)).take j).foldl (relaxP E1) S).length ≤ 8857805 := by
            have h1 := fold_len (relaxP_len TO10.len) ((S.map (·.1)).take j) S
            have h2 := take_le (S.map (·.1)) j
            rw [List.length_map] at h2
            omega
          rw [fold_more hkey]
          generalize ((S.map (·.1)).take j).foldl (relaxP E1) S = S1 at hM low1 len1
          refine g_gtup ⟨q2, [.str pl, .str mid], rfl, SqT.of (rel q2 _ q2D q2M hq2), rfl, ?_⟩
          walk_at "go"
          refine ⟨D, _, hD, trivial, fun od => ?_⟩
          walk_at "go"
          refine ⟨D, od, rfl, .inr ⟨_, upd_same, ?_⟩⟩
          have DM : D ≠ M := J11.MD.symm
          refine for_keysT (fun i2 σ' H' => ∃ y13 y14, σ' = [some (.ref b), some (.ref t), some (.ref L), some (.ref x), some (.ref D), y5, some (.str pl), y7, y8, y9, some (.ref M), some (.int (0 + i)), some (.str mid), y13, y14] ∧ Rel D M H11 H' ∧ H' D = some (.frz od (.dT (enc E1))) ∧
              H' M = some (.dT (enc ((E1.take i2).foldl (relaxE pl mid) S1))))
            ⟨_, _, rfl, rel.putD, upd_same, (upd_ne DM.symm).trans hM⟩ (fun i2 σ' H' _ h => by obtain ⟨_, _, _, _, h, _⟩ := h; exact h) ?_ ?_
          · rintro i2 k v t2 σ' H13 hi2 ht2 ⟨y13, y14, rfl, rel, hD, hM⟩
            obtain ⟨⟨⟨e1, e2⟩, c2⟩, he2, rfl, rfl⟩ := enc_at hi2
            rw [fold_more he2]
            have low2 : Low ((E1.take i2).foldl (relaxE pl mid) S1) pl mid c0 := by
              obtain ⟨c1, g1, g2⟩ := low1
              exact (fold_le (relaxE_le pl mid) _ S1 pl mid c1 g1).mono g2
            have len2 : ((E1.take i2).foldl (relaxE pl mid) S1).length ≤ 8857815 := by
              have h1 := fold_len (relaxE_len pl mid) (E1.take i2) S1
              have h2 := take_le E1 i2
              have h3 := TO10.len
              omega
            generalize (E1.take i2).foldl (relaxE pl mid) S1 = S2 at hM low2 len2
            have ht2' : H13 t2 = some (.tup [.str e1, .str e2]) := ht2
            walk_at "go"
            have fin : ∀ {H2 : Hp} {y14 : Option V}, Rel D M H11 H2 → H2 D = some (.frz od (.dT (enc E1))) → H2 M = some (.dT (enc (relaxE pl mid S2 ((e1, e2), c2)))) →
                ∃ y13' y14', [some (V.ref b), some (.ref t), some (.ref L), some (.ref x), some (.ref D), y5, some (.str pl), y7, y8, y9, some (.ref M), some (.int (0 + i)), some (.str mid), some (.ref t2), y14] = [some (.ref b), some (.ref t), some (.ref L), some (.ref x), some (.ref D), y5, some (.str pl), y7, y8, y9, some (.ref M), some (.int (0 + i)), some (.str mid), y13', y14'] ∧
                  Rel D M H11 H2 ∧ H2 D = some (.frz od (.dT (enc E1))) ∧ H2 M = some (.dT (enc (relaxE pl mid S2 ((e1, e2), c2)))) := fun g1 g2 g3 => ⟨_, _, rfl, g1, g2, g3⟩
            refine iteK (fun h => ?_) (fun h => ?_)
            · have e1m : e1 = mid := by cases h; rfl
              obtain ⟨cm, gm, _⟩ := low2
              have rE : relaxE pl mid S2 ((e1, e2), c2) = low S2 (pl, e2) (cm + c2) := by
                unfold relaxE
                rw [if_pos e1m, gm]
              have gE : gt E1 (e1, e2) = some c2 := gt_of_mem TO10.nd (List.mem_of_getElem? he2)
              walk_at "go"
              refine ⟨two_le, fun r1 hr1 => ⟨M, .int cm, rfl, ?_, ?_⟩⟩
              · have := DGet.t (k := kk (pl, mid)) ((upd_ne (o := .tup [V.str pl, V.str mid]) (ne_of_none hM hr1)).trans hM) upd_same
                rw [valV_enc, gm] at this
                exact this
              have st1 : ∀ {r1 : Addr} {o : HO} {H13 : Hp}, H13 r1 = none → Rel D M H11 H13 → H13 D = some (.frz od (.dT (enc E1))) → H13 M = some (.dT (enc S2)) → H13 t2 = some (.tup [.str e1, .str e2]) →
                  Rel D M H11 (upd H13 r1 o) ∧ upd H13 r1 o D = some (.frz od (.dT (enc E1))) ∧ upd H13 r1 o M = some (.dT (enc S2)) ∧ upd H13 r1 o t2 = some (.tup [.str e1, .str e2]) := fun h g1 g2 g3 g4 =>
                ⟨g1.same (same_new h), (upd_ne (ne_of_none g2 h)).trans g2, (upd_ne (ne_of_none g3 h)).trans g3, (upd_ne (ne_of_none g4 h)).trans g4⟩
              obtain ⟨rel, hD, hM, ht2'⟩ := st1 (o := .tup [V.str pl, V.str mid]) hr1 rel hD hM ht2'
              generalize upd H13 r1 (.tup [V.str pl, V.str mid]) = H14 at rel hD hM ht2'
              walk_at "go"
              refine ⟨D, .int c2, rfl, .inr ⟨enc E1, kk (e1, e2), t2, .inr ⟨od, hD⟩, rfl, ht2', by rw [valV_enc, gE]; rfl⟩, ?_⟩
              walk_at "go"
              refine ⟨two_le, fun r2 hr2 => ?_⟩
              obtain ⟨rel, hD, hM, ht2'⟩ := st1 (o := .tup [V.str pl, V.str e2]) hr2 rel hD hM ht2'
              have hr2' : upd H14 r2 (.tup [V.str pl, V.str e2]) r2 = some (.tup [V.str pl, V.str e2]) := upd_same
              generalize upd H14 r2 (.tup [V.str pl, V.str e2]) = H15 at rel hD hM ht2' hr2'
              have dg := DGet.t (k := kk (pl, e2)) hM hr2'
              rw [valV_enc] at dg
              walk_at "go"
              refine ⟨M, _, rfl, dg, _, rfl, ?_⟩
              have put : low S2 (pl, e2) (cm + c2) = pt S2 (pl, e2) (cm + c2) → ∀ {H15 : Hp}, Rel D M H11 H15 → H15 D = some (.frz od (.dT (enc E1))) → H15 M = some (.dT (enc S2)) → H15 t2 = some (.tup [.str e1, .str e2]) → ∀ r3, H15 r3 = none →
                  ∃ a_1 H4, V.ref M = .ref a_1 ∧ DPut (upd H15 r3 (.tup [.str pl, .str e2])) a_1 (.ref r3) (.int (cm + c2)) H4 ∧ Rel D M H11 H4 ∧ H4 D = some (.frz od (.dT (enc E1))) ∧ H4 M = some (.dT (enc (relaxE pl mid S2 ((e1, e2), c2)))) := fun el {H15} rel hD hM ht2' r3 hr3 => by
                obtain ⟨rel, hD, hM, ht2'⟩ := st1 (o := .tup [V.str pl, V.str e2]) hr3 rel hD hM ht2'
                refine ⟨M, _, rfl, DPut.t (k := kk (pl, e2)) hM upd_same (by rw [enc_len]; exact Nat.lt_of_le_of_lt len2 (by decide)), rel.putM, (upd_ne DM).trans hD, ?_⟩
                rw [upd_same, putK_enc, rE, el]
              cases eg : gt S2 (pl, e2) with
              | none =>
                refine ite_y rfl ?_
                refine iteT ?_
                walk_at "go"
                refine ⟨two_le, fun r3 hr3 => ?_⟩
                obtain ⟨a1, H4, g1, g2, g3, g4, g5⟩ := put (by unfold low; rw [eg]) rel hD hM ht2' r3 hr3
                exact ⟨a1, H4, g1, g2, fin g3 g4 g5⟩
              | some cb =>
                refine ite_n rfl ?_
                walk_at "go"
                refine ⟨two_le, fun r3 hr3 => ⟨M, .int cb, rfl, ?_, ?_⟩⟩
                · have := DGet.t (k := kk (pl, e2)) ((upd_ne (o := .tup [V.str pl, V.str e2]) (ne_of_none hM hr3)).trans hM) upd_same
                  rw [valV_enc, eg] at this
                  exact this
                obtain ⟨rel, hD, hM, ht2'⟩ := st1 (o := .tup [V.str pl, V.str e2]) hr3 rel hD hM ht2'
                generalize upd H15 r3 (.tup [V.str pl, V.str e2]) = H16 at rel hD hM ht2'
                walk_at "go"
                refine iteK (fun hlt => ?_) (fun hlt => ?_)
                · walk_at "go"
                  refine ⟨two_le, fun r4 hr4 => ?_⟩
                  obtain ⟨a1, H4, g1, g2, g3, g4, g5⟩ := put (by unfold low; rw [eg]; exact if_pos hlt) rel hD hM ht2' r4 hr4
                  exact ⟨a1, H4, g1, g2, fin g3 g4 g5⟩
                · walk_at "go"
                  refine fin rel hD ?_
                  rw [rE, hM]
                  unfold low
                  rw [eg]
                  show _ = some (HO.dT (enc (if cm + c2 < cb then _ else _)))
                  rw [if_neg hlt]
            · walk_at "go"
              refine fin rel hD ?_
              unfold relaxE
              rw [if_neg (fun z : e1 = mid => h (by rw [z])), hM]
          · rintro σ' H13 ⟨y13, y14, rfl, rel, hD, hM⟩
            rw [enc_len, List.take_length] at hM
            exact ⟨hD, _, _, _, _, rfl, rel.putD, upd_same, (upd_ne DM.symm).trans hM⟩
        · rintro σ' H12 ⟨y6, y12, y13, y14, rfl, rel, hD, hM⟩
          have e : (S.map (·.1)).take (bs.map V.ref).length = S.map (·.1) := by rw [List.length_map, lenB, ← List.length_map (as := S) (·.1), List.take_length]
          rw [e] at hM
          exact ⟨_, _, _, _, _, rfl, J11.keep rel hD hM⟩
      rintro σ' H10 ⟨y6, y11, y12, y13, y14, rfl, J⟩
      have J : LM a t c L x dx p m D M ns ps E1 (turns E1 6 (diag ps)) H10 := J
      have same6 : ∀ k, gt (floyd E1 ps) k = gt (turns E1 6 (diag ps)) k := same TO10.nd TO10.pos TO10.on (by omega)
      have nd6 := turns_nodup E1 ps 6
      have ndF := floyd_nodup E1 ps
      have lenF := len_eq_of ndF nd6 same6
      generalize turns E1 6 (diag ps) = S at J same6 nd6 lenF
      have lenE : E1.length ≤ 1000 := by have := TO10.len; omega
      walk_at "go"
      refine ⟨x, _, _, rfl, J.I.x_, wf_no p m (by decide +kernel) (by decide +kernel), ?_⟩
      walk_at "go"
      refine ⟨x, dx, p, m, ps, E1, rfl, J.I.x_, J.I.p_, J.I.m_, TO10.nd, lenE, by omega, fun H11 F sm _ hF => ?_⟩
      replace J := J.same sm
      clear sm
      walk_at "go"
      refine ⟨F, M, _, _, rfl, rfl, hF, J.M_, by rw [enc_len, enc_len]; exact lenF, fun e he => ?_, ?_⟩
      · obtain ⟨f, hf, rfl⟩ := List.mem_map.mp he
        refine ⟨?_, rfl⟩
        show valV (enc S) (kk f.1) = some (V.int f.2)
        rw [valV_enc, ← same6, gt_of_mem ndF hf]; rfl
      walk_at "go"
      refine iteF ?_
      walk_at "go"
      refine ⟨x, _, _, rfl, J.I.x_, wf_no p m (by decide +kernel) (by decide +kernel), ?_⟩
      walk_at "go"
      refine ⟨x, dx, p, m, rfl, J.I.x_, ?_⟩
      walk_at "go"
      refine ⟨L, _, rfl, .inl ⟨SqL.of J.I.L_, fun p2 hp2 => ?_⟩⟩
      replace J := J.new (o := .tup (ps.map V.str)) hp2
      have hp2' : upd H11 p2 (.tup (ps.map V.str)) p2 = some (.tup (ps.map V.str)) := upd_same
      generalize upd H11 p2 (.tup (ps.map V.str)) = H12 at J hp2'
      refine ne_same (dp_strs J.I.p_) (dp_strs hp2') psH ?_
      walk_at "go"
      refine iteF ?_
      walk_at "go"
      refine ⟨L, rfl, ⟨_, SqL.of J.I.L_⟩, ?_⟩
      refine for_list (K := K) (a := L) (xs := ps.map V.str) (fun i σ' H' => ∃ y6 y7, σ' = [some (.ref b), some (.ref t), some (.ref L), some (.ref x), some (.ref D), y5, y6, y7, y8, y9, some (.ref M), y11, y12, y13, y14] ∧ LM a t c L x dx p m D M ns ps E1 S H')
        ⟨y6, y7, rfl, J⟩ (fun i σ' H' _ h => by obtain ⟨_, _, _, J⟩ := h; exact SqL.of J.I.L_) ?_ ?_
      · rintro i z σ' H' hi ⟨y6, y7, rfl, J⟩
        obtain ⟨u, hz, rfl⟩ := str_at hi
        have hu : u ∈ ps := List.mem_of_getElem? hz
        walk_at "go"
        refine ⟨L, rfl, ⟨_, SqL.of J.I.L_⟩, ?_⟩
        refine for_list (K := K) (a := L) (xs := ps.map V.str) (fun i σ' H' => ∃ y7, σ' = [some (.ref b), some (.ref t), some (.ref L), some (.ref x), some (.ref D), y5, some (.str u), y7, y8, y9, some (.ref M), y11, y12, y13, y14] ∧ LM a t c L x dx p m D M ns ps E1 S H')
          ⟨y7, rfl, J⟩ (fun i σ' H' _ h => by obtain ⟨_, _, J⟩ := h; exact SqL.of J.I.L_) ?_ ?_
        · rintro i z σ' H' hi ⟨y7, rfl, J⟩
          obtain ⟨v, hz, rfl⟩ := str_at hi
          have hv : v ∈ ps := List.mem_of_getElem? hz
          walk_at "go"
          refine ⟨x, dx, p, m, ps, E1, u, v, rfl, J.I.x_, J.I.p_, J.I.m_, TO10.nd, lenE, by omega, psS u (List.mem_append_left _ hu), psS v (List.mem_append_left _ hv), fun h1 => absurd hu h1, fun h1 h2 => absurd hv h2, fun _ _ H13 sm => ?_⟩
          replace J := J.same sm
          walk_at "go"
          refine ⟨M, rfl, .inr ⟨_, .inl J.M_⟩, ?_⟩
          walk_at "go"
          refine get_tt J.M_ fun r hr => ?_
          replace J := J.new (o := .tup [V.str u, V.str v]) hr
          rw [same6]
          have dp : ∃ d, Dp K (upd H13 r (.tup [V.str u, V.str v])) ((Option.map V.int (gt S (u, v))).getD .non) d ∧ SeqAt.shaped d = true := by
            cases gt S (u, v) with
            | none => exact ⟨_, .non, by decide +kernel⟩
            | some c => exact ⟨_, .int c, rfl⟩
          obtain ⟨dd, dp, sh⟩ := dp
          refine ne_same dp dp sh ?_
          walk_at "go"
          refine iteF ?_
          walk_at "go"
          exact ⟨_, rfl, J⟩
        · rintro σ' H13 ⟨y7, rfl, J⟩
          walk_at "go"
          exact ⟨_, _, rfl, J⟩
      rintro σ' H13 ⟨y6, y7, rfl, J⟩
      obtain ⟨p0, pr, rfl⟩ := ps0
      have p0s : p0.length ≤ 1000 := psS p0 (List.mem_append_left _ List.mem_cons_self)
      walk_at "go"
      refine g_ixL (n := ((0 : Nat) : Int)) (v := .str p0) (SqL.of J.I.L_) (atI_nat rfl) ?_
      walk_at "go"
      refine ⟨x, dx, p, m, p0 :: pr, E1, _, p0, rfl, J.I.x_, J.I.p_, J.I.m_, TO10.nd, lenE, by omega, by decide +kernel, p0s, fun _ H14 r sm hr2 => ?_, fun h => absurd h psN.1, fun h => absurd h psN.1⟩
      replace J := J.same sm
      walk_at "go"
      refine ⟨two_le, fun r2 hr3 => ?_⟩
      replace J := J.new (o := .tup [V.str "none", V.str "moon"]) hr3
      refine eq_same (dp_strs (ps := ["none", "moon"]) ((upd_ne (ne_of_none hr2 hr3)).trans hr2)) (dp_strs (ps := ["none", "moon"]) upd_same) (by decide +kernel) ?_
      generalize upd H14 r2 (.tup [V.str "none", V.str "moon"]) = H15 at J
      walk_at "go"
      refine iteT ?_
      walk_at "go"
      refine g_ixL (n := ((0 : Nat) : Int)) (v := .str p0) (SqL.of J.I.L_) (atI_nat rfl) ?_
      walk_at "go"
      refine ⟨x, dx, p, m, p0 :: pr, E1, p0, _, rfl, J.I.x_, J.I.p_, J.I.m_, TO10.nd, lenE, by omega, p0s, by decide +kernel, fun h => absurd List.mem_cons_self h, fun _ _ H16 r sm hr2 => ?_, fun _ h => absurd h psN.2⟩
      walk_at "go"
      refine ⟨two_le, fun r2 hr3 => ?_⟩
      refine eq_same (dp_strs (ps := ["none", "sun"]) ((upd_ne (ne_of_none hr2 hr3)).trans hr2)) (dp_strs (ps := ["none", "sun"]) upd_same) (by decide +kernel) ?_
      exact q _
end
theorem all_mk {l : PySem.W.OpenLaw} {w : World} {K : PySem.W.Frag} {h : Heap} {mg : Str → Option Value} {fa : Addr} (X : K.In h) (G : h.Ns mainGlobals mg) (hfa : mg "law" = some (.ref fa))
    {f_NoSuch_init : Addr} {oc_NoSuch_init : Value} {od_NoSuch_init an_NoSuch_init : Option Addr} {sl_NoSuch_init : Array (Option Value)} {kV_NoSuch_init dc_NoSuch_init pm_NoSuch_init cd_NoSuch_init ct_NoSuch_init : Value}
    {f_Ways_init : Addr} {oc_Ways_init : Value} {od_Ways_init an_Ways_init : Option Addr} {sl_Ways_init : Array (Option Value)} {kV_Ways_init dc_Ways_init pm_Ways_init cd_Ways_init ct_Ways_init : Value}
    {f_Ways_places : Addr} {oc_Ways_places : Value} {od_Ways_places an_Ways_places : Option Addr} {sl_Ways_places : Array (Option Value)} {kV_Ways_places dc_Ways_places pm_Ways_places cd_Ways_places ct_Ways_places : Value}
    {f_Ways_tell : Addr} {oc_Ways_tell : Value} {od_Ways_tell an_Ways_tell : Option Addr} {sl_Ways_tell : Array (Option Value)} {kV_Ways_tell dc_Ways_tell pm_Ways_tell cd_Ways_tell ct_Ways_tell : Value}
    {f_Ways_table : Addr} {oc_Ways_table : Value} {od_Ways_table an_Ways_table : Option Addr} {sl_Ways_table : Array (Option Value)} {kV_Ways_table dc_Ways_table pm_Ways_table cd_Ways_table ct_Ways_table : Value}
    {f_Ways_minutes : Addr} {oc_Ways_minutes : Value} {od_Ways_minutes an_Ways_minutes : Option Addr} {sl_Ways_minutes : Array (Option Value)} {kV_Ways_minutes dc_Ways_minutes pm_Ways_minutes cd_Ways_minutes ct_Ways_minutes : Value}
    {f_law_draw : Addr} {oc_law_draw : Value} {od_law_draw an_law_draw : Option Addr} {sl_law_draw : Array (Option Value)} {kV_law_draw dc_law_draw pm_law_draw cd_law_draw ct_law_draw : Value}
    {f_law_tape : Addr} {oc_law_tape : Value} {od_law_tape an_law_tape : Option Addr} {sl_law_tape : Array (Option Value)} {kV_law_tape dc_law_tape pm_law_tape cd_law_tape ct_law_tape : Value}
    {f_law_told : Addr} {oc_law_told : Value} {od_law_told an_law_told : Option Addr} {sl_law_told : Array (Option Value)} {kV_law_told dc_law_told pm_law_told cd_law_told ct_law_told : Value}
    {f_law_minutes : Addr} {oc_law_minutes : Value} {od_law_minutes an_law_minutes : Option Addr} {sl_law_minutes : Array (Option Value)} {kV_law_minutes dc_law_minutes pm_law_minutes cd_law_minutes ct_law_minutes : Value}
    {f_law : Addr} {oc_law : Value} {od_law an_law : Option Addr} {sl_law : Array (Option Value)} {kV_law dc_law pm_law cd_law ct_law : Value}
    {C_Ways : Addr}
    {C_NoSuch : Addr}
    {nm_NoSuch q_NoSuch : Str} {N_NoSuch : Addr} {bs_NoSuch : List Value} {sn_NoSuch : List Str} {sub_NoSuch : List Value} {ab_NoSuch : Bool} {col_NoSuch : Option Bool} {dd_NoSuch : Option Addr} {m0_NoSuch m1_NoSuch m2_NoSuch m3_NoSuch m5_NoSuch : Option Value}
    {C_BadSeries : Addr}
    {C_DaysError : Addr} {M_DaysError : Value}
    (a_NoSuch_init : PySem.W.findIn K (.ref C_NoSuch) "__init__" = some (some (.ref f_NoSuch_init)))
    (l_NoSuch_init : K.lookup f_NoSuch_init = some ⟨oc_NoSuch_init, od_NoSuch_init, .func (PySem.W.fnOf "__init__" "NoSuch.__init__" (defArgs s_NoSuch_init) (defBody s_NoSuch_init) (defScope s_NoSuch_init) .none kV_NoSuch_init dc_NoSuch_init pm_NoSuch_init an_NoSuch_init cd_NoSuch_init ct_NoSuch_init), sl_NoSuch_init⟩)
    (c_NoSuch_init : PySem.W.codeIn K cd_NoSuch_init "NoSuch.__init__" = true)
    (k_NoSuch_init : PySem.W.keepIn K (.ref f_NoSuch_init) = true)
    (i_NoSuch_init : PySem.W.isFn K (.ref f_NoSuch_init) = true)
    (a_Ways_init : PySem.W.findIn K (.ref C_Ways) "__init__" = some (some (.ref f_Ways_init)))
    (l_Ways_init : K.lookup f_Ways_init = some ⟨oc_Ways_init, od_Ways_init, .func (PySem.W.fnOf "__init__" "Ways.__init__" (defArgs s_Ways_init) (defBody s_Ways_init) (defScope s_Ways_init) .none kV_Ways_init dc_Ways_init pm_Ways_init an_Ways_init cd_Ways_init ct_Ways_init), sl_Ways_init⟩)
    (c_Ways_init : PySem.W.codeIn K cd_Ways_init "Ways.__init__" = true)
    (k_Ways_init : PySem.W.keepIn K (.ref f_Ways_init) = true)
    (i_Ways_init : PySem.W.isFn K (.ref f_Ways_init) = true)
    (a_Ways_places : PySem.W.findIn K (.ref C_Ways) "places" = some (some (.ref f_Ways_places)))
    (l_Ways_places : K.lookup f_Ways_places = some ⟨oc_Ways_places, od_Ways_places, .func (PySem.W.fnOf "places" "Ways.places" (defArgs s_Ways_places) (defBody s_Ways_places) (defScope s_Ways_places) .none kV_Ways_places dc_Ways_places pm_Ways_places an_Ways_places cd_Ways_places ct_Ways_places), sl_Ways_places⟩)
    (c_Ways_places : PySem.W.codeIn K cd_Ways_places "Ways.places" = true)
    (k_Ways_places : PySem.W.keepIn K (.ref f_Ways_places) = true)
    (i_Ways_places : PySem.W.isFn K (.ref f_Ways_places) = true)
    (a_Ways_tell : PySem.W.findIn K (.ref C_Ways) "tell" = some (some (.ref f_Ways_tell)))
    (l_Ways_tell : K.lookup f_Ways_tell = some ⟨oc_Ways_tell, od_Ways_tell, .func (PySem.W.fnOf "tell" "Ways.tell" (defArgs s_Ways_tell) (defBody s_Ways_tell) (defScope s_Ways_tell) .none kV_Ways_tell dc_Ways_tell pm_Ways_tell an_Ways_tell cd_Ways_tell ct_Ways_tell), sl_Ways_tell⟩)
    (c_Ways_tell : PySem.W.codeIn K cd_Ways_tell "Ways.tell" = true)
    (k_Ways_tell : PySem.W.keepIn K (.ref f_Ways_tell) = true)
    (i_Ways_tell : PySem.W.isFn K (.ref f_Ways_tell) = true)
    (a_Ways_table : PySem.W.findIn K (.ref C_Ways) "table" = some (some (.ref f_Ways_table)))
    (l_Ways_table : K.lookup f_Ways_table = some ⟨oc_Ways_table, od_Ways_table, .func (PySem.W.fnOf "table" "Ways.table" (defArgs s_Ways_table) (defBody s_Ways_table) (defScope s_Ways_table) .none kV_Ways_table dc_Ways_table pm_Ways_table an_Ways_table cd_Ways_table ct_Ways_table), sl_Ways_table⟩)
    (c_Ways_table : PySem.W.codeIn K cd_Ways_table "Ways.table" = true)
    (k_Ways_table : PySem.W.keepIn K (.ref f_Ways_table) = true)
    (i_Ways_table : PySem.W.isFn K (.ref f_Ways_table) = true)
    (a_Ways_minutes : PySem.W.findIn K (.ref C_Ways) "minutes" = some (some (.ref f_Ways_minutes)))
    (l_Ways_minutes : K.lookup f_Ways_minutes = some ⟨oc_Ways_minutes, od_Ways_minutes, .func (PySem.W.fnOf "minutes" "Ways.minutes" (defArgs s_Ways_minutes) (defBody s_Ways_minutes) (defScope s_Ways_minutes) .none kV_Ways_minutes dc_Ways_minutes pm_Ways_minutes an_Ways_minutes cd_Ways_minutes ct_Ways_minutes), sl_Ways_minutes⟩)
    (c_Ways_minutes : PySem.W.codeIn K cd_Ways_minutes "Ways.minutes" = true)
    (k_Ways_minutes : PySem.W.keepIn K (.ref f_Ways_minutes) = true)
    (i_Ways_minutes : PySem.W.isFn K (.ref f_Ways_minutes) = true)
    (a_law_draw : PySem.W.nsIn K mainGlobals "_law_draw" = some (some (.ref f_law_draw)))
    (l_law_draw : K.lookup f_law_draw = some ⟨oc_law_draw, od_law_draw, .func (PySem.W.fnOf "_law_draw" "_law_draw" (defArgs s_law_draw) (defBody s_law_draw) (defScope s_law_draw) .none kV_law_draw dc_law_draw pm_law_draw an_law_draw cd_law_draw ct_law_draw), sl_law_draw⟩)
    (c_law_draw : PySem.W.codeIn K cd_law_draw "_law_draw" = true)
    (k_law_draw : PySem.W.keepIn K (.ref f_law_draw) = true)
    (a_law_tape : PySem.W.nsIn K mainGlobals "_law_tape" = some (some (.ref f_law_tape)))
    (l_law_tape : K.lookup f_law_tape = some ⟨oc_law_tape, od_law_tape, .func (PySem.W.fnOf "_law_tape" "_law_tape" (defArgs s_law_tape) (defBody s_law_tape) (defScope s_law_tape) .none kV_law_tape dc_law_tape pm_law_tape an_law_tape cd_law_tape ct_law_tape), sl_law_tape⟩)
    (c_law_tape : PySem.W.codeIn K cd_law_tape "_law_tape" = true)
    (k_law_tape : PySem.W.keepIn K (.ref f_law_tape) = true)
    (a_law_told : PySem.W.nsIn K mainGlobals "_law_told" = some (some (.ref f_law_told)))
    (l_law_told : K.lookup f_law_told = some ⟨oc_law_told, od_law_told, .func (PySem.W.fnOf "_law_told" "_law_told" (defArgs s_law_told) (defBody s_law_told) (defScope s_law_told) .none kV_law_told dc_law_told pm_law_told an_law_told cd_law_told ct_law_told), sl_law_told⟩)
    (c_law_told : PySem.W.codeIn K cd_law_told "_law_told" = true)
    (k_law_told : PySem.W.keepIn K (.ref f_law_told) = true)
    (a_law_minutes : PySem.W.nsIn K mainGlobals "_law_minutes" = some (some (.ref f_law_minutes)))
    (l_law_minutes : K.lookup f_law_minutes = some ⟨oc_law_minutes, od_law_minutes, .func (PySem.W.fnOf "_law_minutes" "_law_minutes" (defArgs s_law_minutes) (defBody s_law_minutes) (defScope s_law_minutes) .none kV_law_minutes dc_law_minutes pm_law_minutes an_law_minutes cd_law_minutes ct_law_minutes), sl_law_minutes⟩)
    (c_law_minutes : PySem.W.codeIn K cd_law_minutes "_law_minutes" = true)
    (k_law_minutes : PySem.W.keepIn K (.ref f_law_minutes) = true)
    (a_law : PySem.W.nsIn K mainGlobals "law" = some (some (.ref f_law)))
    (l_law : K.lookup f_law = some ⟨oc_law, od_law, .func (PySem.W.fnOf "law" "law" (defArgs s_law) (defBody s_law) (defScope s_law) .none kV_law dc_law pm_law an_law cd_law ct_law), sl_law⟩)
    (c_law : PySem.W.codeIn K cd_law "law" = true)
    (k_law : PySem.W.keepIn K (.ref f_law) = true)
    (aC_Ways : PySem.W.nsIn K mainGlobals "Ways" = some (some (.ref C_Ways)))
    (pg_Ways : PySem.W.plainGet K C_Ways Str.empty = true)
    (hd_Ways : PySem.W.hasDictIn K C_Ways = true)
    (po_Ways : PySem.W.plainOver K C_Ways = true)
    (sa_Ways : PySem.W.findIn K (.ref C_Ways) "__setattr__" = some (some (.builtin "object.__setattr__")))
    (mk_Ways : PySem.W.makesIn K C_Ways = true)
    (kc_Ways : PySem.W.keepIn K (.ref C_Ways) = true)
    (n_Ways_places : PySem.W.findIn K (.ref C_Ways) "_places" = some none)
    (n_Ways_minutes : PySem.W.findIn K (.ref C_Ways) "_minutes" = some none)
    (aC_NoSuch : PySem.W.nsIn K mainGlobals "NoSuch" = some (some (.ref C_NoSuch)))
    (r_NoSuch : PySem.W.subIn K (.ref C_NoSuch) (.type "BaseException") = some true)
    (t_NoSuch : PySem.W.typeIn K (.ref C_NoSuch) = some (.type "type"))
    (k_NoSuch : PySem.W.keepIn K (.ref C_NoSuch) = true)
    (ic_NoSuch : PySem.W.isClsIn K C_NoSuch = true)
    (xL_NoSuch : K.lookup C_NoSuch = some (excClassObj nm_NoSuch q_NoSuch C_NoSuch N_NoSuch bs_NoSuch [.ref C_DaysError, .type "ValueError", .type "Exception", .type "BaseException", .type "object"] true sn_NoSuch sub_NoSuch ab_NoSuch col_NoSuch dd_NoSuch m0_NoSuch m1_NoSuch m2_NoSuch m3_NoSuch m5_NoSuch "ValueError.__new__"))
    (sa_NoSuch : PySem.W.findIn K (.ref C_NoSuch) "__setattr__" = some (some (.builtin "object.__setattr__")))
    (ga_NoSuch : PySem.W.findIn K (.ref C_NoSuch) "__getattribute__" = some (some (.builtin "BaseException.__getattribute__")))
    (gg_NoSuch : PySem.W.findIn K (.ref C_NoSuch) "__getattr__" = some none)
    (hd_NoSuch : PySem.W.hasDictIn K C_NoSuch = true)
    (tf_NoSuch : PySem.W.typeIn K (.ref f_NoSuch_init) = some (.type "function"))
    (n_NoSuch_what : PySem.W.findIn K (.ref C_NoSuch) "what" = some none)
    (aC_BadSeries : PySem.W.nsIn K mainGlobals "BadSeries" = some (some (.ref C_BadSeries)))
    (r_BadSeries : PySem.W.subIn K (.ref C_BadSeries) (.type "BaseException") = some true)
    (t_BadSeries : PySem.W.typeIn K (.ref C_BadSeries) = some (.type "type"))
    (k_BadSeries : PySem.W.keepIn K (.ref C_BadSeries) = true)
    (ic_BadSeries : PySem.W.isClsIn K C_BadSeries = true)
    (xI_BadSeries : PySem.W.excIn K C_BadSeries [.type "ValueError", .type "Exception", .type "BaseException", .type "object"] "ValueError.__new__" = true)
    (s_NoSuch_NoSuch : PySem.W.subIn K (.ref C_NoSuch) (.ref C_NoSuch) = some true)
    (s_BadSeries_NoSuch : PySem.W.subIn K (.ref C_BadSeries) (.ref C_NoSuch) = some false)
    (s_BadSeries_BadSeries : PySem.W.subIn K (.ref C_BadSeries) (.ref C_BadSeries) = some true)
    (aC_DaysError : PySem.W.nsIn K mainGlobals "DaysError" = some (some (.ref C_DaysError)))
    (ty_DaysError : PySem.W.typeIn K (.ref C_DaysError) = some M_DaysError)
    (rd_DaysError : PySem.W.readsIn K C_DaysError M_DaysError = true)
    (gs_DaysError : PySem.W.specialIn K (.ref C_DaysError) "__getattribute__" = some (some (.builtin "type.__getattribute__")))
    (fc_DaysError : PySem.W.findCls K (.ref C_DaysError) M_DaysError "__init__" = some (.val (.builtin "ValueError.__init__")))
    (z_len : PySem.W.nsIn K mainGlobals "len" = some none)
    (z_int : PySem.W.nsIn K mainGlobals "int" = some none)
    (z_tuple : PySem.W.nsIn K mainGlobals "tuple" = some none)
    (z_list : PySem.W.nsIn K mainGlobals "list" = some none)
    (z_range : PySem.W.nsIn K mainGlobals "range" = some none) :
    ∃ fd : FuncData, (∀ (s : Shared) (v : Value), BindsTo s fd ⟨[v], []⟩ [("script", v)]) ∧ ∀ base : Heap, K.In base → base.Ns mainGlobals mg → FnOk l.prog w K mg base CX0 5 fa fd ["script"] (sp_law K) := by
  have e := hfa.symm.trans (PySem.W.mg_of X G a_law)
  cases e
  have T : Txt K mg { f_NoSuch_init := f_NoSuch_init, d_NoSuch_init := (PySem.W.fnOf "__init__" "NoSuch.__init__" (defArgs s_NoSuch_init) (defBody s_NoSuch_init) (defScope s_NoSuch_init) .none kV_NoSuch_init dc_NoSuch_init pm_NoSuch_init an_NoSuch_init cd_NoSuch_init ct_NoSuch_init), f_Ways_init := f_Ways_init, d_Ways_init := (PySem.W.fnOf "__init__" "Ways.__init__" (defArgs s_Ways_init) (defBody s_Ways_init) (defScope s_Ways_init) .none kV_Ways_init dc_Ways_init pm_Ways_init an_Ways_init cd_Ways_init ct_Ways_init), f_Ways_places := f_Ways_places, d_Ways_places := (PySem.W.fnOf "places" "Ways.places" (defArgs s_Ways_places) (defBody s_Ways_places) (defScope s_Ways_places) .none kV_Ways_places dc_Ways_places pm_Ways_places an_Ways_places cd_Ways_places ct_Ways_places), f_Ways_tell := f_Ways_tell, d_Ways_tell := (PySem.W.fnOf "tell" "Ways.tell" (defArgs s_Ways_tell) (defBody s_Ways_tell) (defScope s_Ways_tell) .none kV_Ways_tell dc_Ways_tell pm_Ways_tell an_Ways_tell cd_Ways_tell ct_Ways_tell), f_Ways_table := f_Ways_table, d_Ways_table := (PySem.W.fnOf "table" "Ways.table" (defArgs s_Ways_table) (defBody s_Ways_table) (defScope s_Ways_table) .none kV_Ways_table dc_Ways_table pm_Ways_table an_Ways_table cd_Ways_table ct_Ways_table), f_Ways_minutes := f_Ways_minutes, d_Ways_minutes := (PySem.W.fnOf "minutes" "Ways.minutes" (defArgs s_Ways_minutes) (defBody s_Ways_minutes) (defScope s_Ways_minutes) .none kV_Ways_minutes dc_Ways_minutes pm_Ways_minutes an_Ways_minutes cd_Ways_minutes ct_Ways_minutes), f_law_draw := f_law_draw, d_law_draw := (PySem.W.fnOf "_law_draw" "_law_draw" (defArgs s_law_draw) (defBody s_law_draw) (defScope s_law_draw) .none kV_law_draw dc_law_draw pm_law_draw an_law_draw cd_law_draw ct_law_draw), f_law_tape := f_law_tape, d_law_tape := (PySem.W.fnOf "_law_tape" "_law_tape" (defArgs s_law_tape) (defBody s_law_tape) (defScope s_law_tape) .none kV_law_tape dc_law_tape pm_law_tape an_law_tape cd_law_tape ct_law_tape), f_law_told := f_law_told, d_law_told := (PySem.W.fnOf "_law_told" "_law_told" (defArgs s_law_told) (defBody s_law_told) (defScope s_law_told) .none kV_law_told dc_law_told pm_law_told an_law_told cd_law_told ct_law_told), f_law_minutes := f_law_minutes, d_law_minutes := (PySem.W.fnOf "_law_minutes" "_law_minutes" (defArgs s_law_minutes) (defBody s_law_minutes) (defScope s_law_minutes) .none kV_law_minutes dc_law_minutes pm_law_minutes an_law_minutes cd_law_minutes ct_law_minutes), f_law := fa, d_law := (PySem.W.fnOf "law" "law" (defArgs s_law) (defBody s_law) (defScope s_law) .none kV_law dc_law pm_law an_law cd_law ct_law), C_Ways := C_Ways, C_NoSuch := C_NoSuch, C_BadSeries := C_BadSeries, C_DaysError := C_DaysError, M_DaysError := M_DaysError } := {
    F_NoSuch_init := fun_mk (st := s_NoSuch_init) l_NoSuch_init c_NoSuch_init k_NoSuch_init
    b_NoSuch_init := (fun_mk (st := s_NoSuch_init) l_NoSuch_init c_NoSuch_init k_NoSuch_init).binds (ps := ["self", "what"]) fun _ _ _ _ _ _ us hl => match us, hl with | [_, _], _ => rfl
    F_Ways_init := fun_mk (st := s_Ways_init) l_Ways_init c_Ways_init k_Ways_init
    b_Ways_init := (fun_mk (st := s_Ways_init) l_Ways_init c_Ways_init k_Ways_init).binds (ps := ["self", "places"]) fun _ _ _ _ _ _ us hl => match us, hl with | [_, _], _ => rfl
    M_Ways := ⟨mk_Ways, a_Ways_init, i_Ways_init, kc_Ways⟩
    F_Ways_places := fun_mk (st := s_Ways_places) l_Ways_places c_Ways_places k_Ways_places
    b_Ways_places := (fun_mk (st := s_Ways_places) l_Ways_places c_Ways_places k_Ways_places).binds (ps := ["self"]) fun _ _ _ _ _ _ us hl => match us, hl with | [_], _ => rfl
    m_Ways_places := ⟨a_Ways_places, i_Ways_places, k_Ways_places⟩
    F_Ways_tell := fun_mk (st := s_Ways_tell) l_Ways_tell c_Ways_tell k_Ways_tell
    b_Ways_tell := (fun_mk (st := s_Ways_tell) l_Ways_tell c_Ways_tell k_Ways_tell).binds (ps := ["self", "place", "other", "minutes"]) fun _ _ _ _ _ _ us hl => match us, hl with | [_, _, _, _], _ => rfl
    m_Ways_tell := ⟨a_Ways_tell, i_Ways_tell, k_Ways_tell⟩
    F_Ways_table := fun_mk (st := s_Ways_table) l_Ways_table c_Ways_table k_Ways_table
    b_Ways_table := (fun_mk (st := s_Ways_table) l_Ways_table c_Ways_table k_Ways_table).binds (ps := ["self"]) fun _ _ _ _ _ _ us hl => match us, hl with | [_], _ => rfl
    m_Ways_table := ⟨a_Ways_table, i_Ways_table, k_Ways_table⟩
    F_Ways_minutes := fun_mk (st := s_Ways_minutes) l_Ways_minutes c_Ways_minutes k_Ways_minutes
    b_Ways_minutes := (fun_mk (st := s_Ways_minutes) l_Ways_minutes c_Ways_minutes k_Ways_minutes).binds (ps := ["self", "place", "other"]) fun _ _ _ _ _ _ us hl => match us, hl with | [_, _, _], _ => rfl
    m_Ways_minutes := ⟨a_Ways_minutes, i_Ways_minutes, k_Ways_minutes⟩
    F_law_draw := fun_mk (st := s_law_draw) l_law_draw c_law_draw k_law_draw
    b_law_draw := (fun_mk (st := s_law_draw) l_law_draw c_law_draw k_law_draw).binds (ps := ["tape", "many"]) fun _ _ _ _ _ _ us hl => match us, hl with | [_, _], _ => rfl
    g_law_draw := PySem.W.mg_of X G a_law_draw
    F_law_tape := fun_mk (st := s_law_tape) l_law_tape c_law_tape k_law_tape
    b_law_tape := (fun_mk (st := s_law_tape) l_law_tape c_law_tape k_law_tape).binds (ps := ["script"]) fun _ _ _ _ _ _ us hl => match us, hl with | [_], _ => rfl
    g_law_tape := PySem.W.mg_of X G a_law_tape
    F_law_told := fun_mk (st := s_law_told) l_law_told c_law_told k_law_told
    b_law_told := (fun_mk (st := s_law_told) l_law_told c_law_told k_law_told).binds (ps := ["ways", "place", "other", "minutes"]) fun _ _ _ _ _ _ us hl => match us, hl with | [_, _, _, _], _ => rfl
    g_law_told := PySem.W.mg_of X G a_law_told
    F_law_minutes := fun_mk (st := s_law_minutes) l_law_minutes c_law_minutes k_law_minutes
    b_law_minutes := (fun_mk (st := s_law_minutes) l_law_minutes c_law_minutes k_law_minutes).binds (ps := ["ways", "place", "other"]) fun _ _ _ _ _ _ us hl => match us, hl with | [_, _, _], _ => rfl
    g_law_minutes := PySem.W.mg_of X G a_law_minutes
    F_law := fun_mk (st := s_law) l_law c_law k_law
    b_law := (fun_mk (st := s_law) l_law c_law k_law).binds (ps := ["script"]) fun _ _ _ _ _ _ us hl => match us, hl with | [_], _ => rfl
    g_law := PySem.W.mg_of X G a_law
    c_Ways := ⟨pg_Ways, hd_Ways, po_Ways, sa_Ways⟩
    g_Ways := PySem.W.mg_of X G aC_Ways
    n_Ways_places := n_Ways_places
    n_Ways_minutes := n_Ways_minutes
    r_NoSuch := r_NoSuch
    t_NoSuch := t_NoSuch
    k_NoSuch := k_NoSuch
    g_NoSuch := PySem.W.mg_of X G aC_NoSuch
    x_NoSuch := ⟨⟨nm_NoSuch, q_NoSuch, N_NoSuch, bs_NoSuch, _, sn_NoSuch, sub_NoSuch, ab_NoSuch, col_NoSuch, dd_NoSuch, m0_NoSuch, m1_NoSuch, m2_NoSuch, m3_NoSuch, m5_NoSuch, xL_NoSuch, rfl⟩, sa_NoSuch, r_NoSuch, t_NoSuch, k_NoSuch⟩
    y_NoSuch := ⟨ga_NoSuch, gg_NoSuch, r_NoSuch, hd_NoSuch⟩
    i_NoSuch := a_NoSuch_init
    u_NoSuch := tf_NoSuch
    n_NoSuch_what := n_NoSuch_what
    r_BadSeries := r_BadSeries
    t_BadSeries := t_BadSeries
    k_BadSeries := k_BadSeries
    g_BadSeries := PySem.W.mg_of X G aC_BadSeries
    x_BadSeries := xI_BadSeries
    e_NoSuch_NoSuch := exm_sub r_NoSuch ic_NoSuch t_NoSuch s_NoSuch_NoSuch
    e_BadSeries_NoSuch := exm_sub r_NoSuch ic_NoSuch t_NoSuch s_BadSeries_NoSuch
    e_BadSeries_BadSeries := exm_sub r_BadSeries ic_BadSeries t_BadSeries s_BadSeries_BadSeries
    g_DaysError := PySem.W.mg_of X G aC_DaysError
    B_DaysError := ⟨rd_DaysError, gs_DaysError, fc_DaysError⟩
    z_len := PySem.W.mg_none_of X G z_len
    z_int := PySem.W.mg_none_of X G z_int
    z_tuple := PySem.W.mg_none_of X G z_tuple
    z_list := PySem.W.mg_none_of X G z_list
    z_range := PySem.W.mg_none_of X G z_range }
  exact ⟨_, fun s v => .of_eq rfl, fun base _ _ => ok_law T⟩

end Q
open PySem PySem.W PyProof.Rows in
set_option maxRecDepth 100000 in
set_option maxHeartbeats 0 in
theorem PySem.Challenge.cw_everdays_k91_ways_between_places_holds : PySem.Challenge.rw_everdays_k91_ways_between_places.Holds := by
  w_on; o_law; k_head; (case hw => w_witness2)
  k_fill
  refine L2.walk_of (l := PySem.Challenge.rw_everdays_k91_ways_between_places) (n := 63) (k := 5) (x := "script") (CX := fun _ => L2.CX0) (sp := fun w => Q.sp_law _) rfl (by decide) rfl ⟨rfl, by decide, by decide⟩ (fun w h Y => PySem.W.kIn_of Y) ?F (fun _ _ a ns hl _ hS => ⟨a, ns, rfl, hS, hl, fun _ => rfl⟩) (fun _ _ _ _ _ h => h)
  case F =>
    intro w mg fa h KX G hmg
    refine' Q.all_mk KX G hmg ?a_NoSuch_init ?l_NoSuch_init ?c_NoSuch_init ?k_NoSuch_init ?i_NoSuch_init ?a_Ways_init ?l_Ways_init ?c_Ways_init ?k_Ways_init ?i_Ways_init ?a_Ways_places ?l_Ways_places ?c_Ways_places ?k_Ways_places ?i_Ways_places ?a_Ways_tell ?l_Ways_tell ?c_Ways_tell ?k_Ways_tell ?i_Ways_tell ?a_Ways_table ?l_Ways_table ?c_Ways_table ?k_Ways_table ?i_Ways_table ?a_Ways_minutes ?l_Ways_minutes ?c_Ways_minutes ?k_Ways_minutes ?i_Ways_minutes ?a_law_draw ?l_law_draw ?c_law_draw ?k_law_draw ?a_law_tape ?l_law_tape ?c_law_tape ?k_law_tape ?a_law_told ?l_law_told ?c_law_told ?k_law_told ?a_law_minutes ?l_law_minutes ?c_law_minutes ?k_law_minutes ?a_law ?l_law ?c_law ?k_law ?aC_Ways ?pg_Ways ?hd_Ways ?po_Ways ?sa_Ways ?mk_Ways ?kc_Ways ?n_Ways_places ?n_Ways_minutes ?aC_NoSuch ?r_NoSuch ?t_NoSuch ?k_NoSuch ?ic_NoSuch ?xL_NoSuch ?sa_NoSuch ?ga_NoSuch ?gg_NoSuch ?hd_NoSuch ?tf_NoSuch ?n_NoSuch_what ?aC_BadSeries ?r_BadSeries ?t_BadSeries ?k_BadSeries ?ic_BadSeries ?xI_BadSeries ?s_NoSuch_NoSuch ?s_BadSeries_NoSuch ?s_BadSeries_BadSeries ?aC_DaysError ?ty_DaysError ?rd_DaysError ?gs_DaysError ?fc_DaysError ?z_len ?z_int ?z_tuple ?z_list ?z_range
    (case aC_Ways => k_is)
    (case aC_NoSuch => k_is)
    (case aC_BadSeries => k_is)
    (case aC_DaysError => k_is)
    (case ty_DaysError => k_is)
    (case a_NoSuch_init => k_is)
    (case l_NoSuch_init => k_is)
    (case c_NoSuch_init => k_is)
    (case k_NoSuch_init => k_is)
    (case i_NoSuch_init => k_is)
    (case a_Ways_init => k_is)
    (case l_Ways_init => k_is)
    (case c_Ways_init => k_is)
    (case k_Ways_init => k_is)
    (case i_Ways_init => k_is)
    (case a_Ways_places => k_is)
    (case l_Ways_places => k_is)
    (case c_Ways_places => k_is)
    (case k_Ways_places => k_is)
    (case i_Ways_places => k_is)
    (case a_Ways_tell => k_is)
    (case l_Ways_tell => k_is)
    (case c_Ways_tell => k_is)
    (case k_Ways_tell => k_is)
    (case i_Ways_tell => k_is)
    (case a_Ways_table => k_is)
    (case l_Ways_table => k_is)
    (case c_Ways_table => k_is)
    (case k_Ways_table => k_is)
    (case i_Ways_table => k_is)
    (case a_Ways_minutes => k_is)
    (case l_Ways_minutes => k_is)
    (case c_Ways_minutes => k_is)
    (case k_Ways_minutes => k_is)
    (case i_Ways_minutes => k_is)
    (case a_law_draw => k_is)
    (case l_law_draw => k_is)
    (case c_law_draw => k_is)
    (case k_law_draw => k_is)
    (case a_law_tape => k_is)
    (case l_law_tape => k_is)
    (case c_law_tape => k_is)
    (case k_law_tape => k_is)
    (case a_law_told => k_is)
    (case l_law_told => k_is)
    (case c_law_told => k_is)
    (case k_law_told => k_is)
    (case a_law_minutes => k_is)
    (case l_law_minutes => k_is)
    (case c_law_minutes => k_is)
    (case k_law_minutes => k_is)
    (case a_law => k_is)
    (case l_law => k_is)
    (case c_law => k_is)
    (case k_law => k_is)
    (case pg_Ways => k_is)
    (case hd_Ways => k_is)
    (case po_Ways => k_is)
    (case sa_Ways => k_is)
    (case mk_Ways => k_is)
    (case kc_Ways => k_is)
    (case n_Ways_places => k_is)
    (case n_Ways_minutes => k_is)
    (case r_NoSuch => k_is)
    (case t_NoSuch => k_is)
    (case k_NoSuch => k_is)
    (case ic_NoSuch => k_is)
    (case xL_NoSuch => k_is)
    (case sa_NoSuch => k_is)
    (case ga_NoSuch => k_is)
    (case gg_NoSuch => k_is)
    (case hd_NoSuch => k_is)
    (case tf_NoSuch => k_is)
    (case n_NoSuch_what => k_is)
    (case r_BadSeries => k_is)
    (case t_BadSeries => k_is)
    (case k_BadSeries => k_is)
    (case ic_BadSeries => k_is)
    (case xI_BadSeries => k_exc)
    (case s_NoSuch_NoSuch => first | rfl | k_is)
    (case s_BadSeries_NoSuch => first | rfl | k_is)
    (case s_BadSeries_BadSeries => first | rfl | k_is)
    (case rd_DaysError => k_is)
    (case gs_DaysError => k_is)
    (case fc_DaysError => k_is)
    (case z_len => k_is)
    (case z_int => k_is)
    (case z_tuple => k_is)
    (case z_list => k_is)
    (case z_range => k_is)

