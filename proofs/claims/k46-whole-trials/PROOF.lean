import PyProof.Rows.All
import Wide.All
import OpenK.AllK
import Wide.FinOn
import HandS.ForMost
import HandS.Flow
import HandS.Style
import HandS.NoneIn
import HandS.IsInst
import HandS.Property
import HandS.OwnEq
import HandS.Wide
import HandS.WideBits
import HandS.TupAny
import HandS.TupMul
import HandS.Star
import HandS.Walk
import HandS.Nested
import HandS.EndTab
import HandS.HeadWalk
import HandS.Head0
import HandS.Head1
import HandS.Head2
import HandS.HeadHook1
import HandS.HeadHook2
import HandS.HeadNt
import KE.KWithOwn
import PySem.Challenge.RW_onlyanswer_k46_whole_trials_of_benches
import KE.GoesEnum
import Lean
section
set_option Elab.async false
set_option linter.all false
set_option autoImplicit false
set_option maxRecDepth 100000
set_option maxHeartbeats 4000000
/-! K46A: the text by places, short words, the rule for «with». -/
namespace K46
open PySem PySem.Spec PyProof.Rows L2

abbrev Fg := PySem.W.Frag
def tp (i : Nat) : Stmt := PySem.Challenge.pw_onlyanswer_k46_whole_trials_of_benches.main.body.getD i (.Pass ⟨0, 0, 0, 0⟩)

/-- a def at f that keeps the promise sp, binds its parameters by place, and can be called by its value -/
structure Def (P : Program) (w : World) (K : Fg) (mg : Str → Option Value) (base : Heap) (k : Nat) (f : Addr) (ps : List Str) (sp : Sp) : Prop where
  ex : ∃ fd, FnOk P w K mg base CX0 k f fd ps sp ∧ Binds K fd ps []
  kp : PySem.W.keepIn K (.ref f) = true
theorem Def.mono {P : Program} {w : World} {K : Fg} {mg : Str → Option Value} {base : Heap} {j k : Nat} {f : Addr} {ps : List Str} {sp : Sp} (D : Def P w K mg base j f ps sp) (h : j ≤ k) : Def P w K mg base k f ps sp :=
  let ⟨fd, G, b⟩ := D.ex
  ⟨⟨fd, G.mono h, b⟩, D.kp⟩
theorem Def.of {P : Program} {w : World} {K : Fg} {mg : Str → Option Value} {base : Heap} {k : Nat} {f : Addr} {ps : List Str} {sp : Sp} {x q : Str} {st : Stmt} {fd : FuncData} (F : Fun K x q st f fd) (G : FnOk P w K mg base CX0 k f fd ps sp) (b : Binds K fd ps []) : Def P w K mg base k f ps sp :=
  ⟨⟨fd, G, b⟩, F.kp⟩

section
variable {X : Cx} {k j : Nat} {f C : Addr} {ps : List Str} {sp : Sp} {x m : Str} {p pos apos : Pos} {e o : Expr} {es : List Expr} {ta : TE} {t : TA}
/-- x(e, ..), x a def of the module -/
theorem pcall (D : Def X.prog X.w X.K X.mg X.base k f ps sp) (hm : X.mg x = some (.ref f)) (hr : Room j X.A) (ha : PA X (e :: es) t) (hk : k ≤ j := by decide) (hg : Gl X x := by rfl) (hdb : (x == ("__debug__" : Str)) = false := by decide)
    (he : starEach (e :: es) X.env = (false, eval e X.env) :: starEach es X.env := by rfl) (hpl : (backTo pos (starEach es X.env)).any (·.1) = false := by rfl) : PE X (.Call (.Name x p) (e :: es) [] pos) (tCall sp [] E0 t) := by
  obtain ⟨fd, G, b⟩ := D.ex
  exact pe_call G (hr.mono hk) hg hm D.kp b .nil pass0 ha hdb he hpl
/-- C(e, ..) -/
theorem pmake (M : Mk X.K C f) (D : Def X.prog X.w X.K X.mg X.base k f ps sp) (hm : X.mg x = some (.ref C)) (hr : Room j X.A) (ha : PA X (e :: es) t) (hk : k + 1 ≤ j := by decide) (hg : Gl X x := by rfl) (hdb : (x == ("__debug__" : Str)) = false := by decide)
    (he : starEach (e :: es) X.env = (false, eval e X.env) :: starEach es X.env := by rfl) (hpl : (backTo pos (starEach es X.env)).any (·.1) = false := by rfl) : PE X (.Call (.Name x p) (e :: es) [] pos) (tMake C sp [] E0 t) := by
  obtain ⟨fd, G, b⟩ := D.ex
  exact pe_make M G (hr.mono hk) hg hm b .nil pass0 ha hdb he hpl
/-- o.m(e, ..) -/
theorem pmeth {pl : Sem Bool} (he : PE X o ta) (c : Cls X.K C) (hm : Meth X.K C m f) (D : Def X.prog X.w X.K X.mg X.base k f ps sp) (hr : Room j X.A) (ha : PA X (e :: es) t) (hk : k ≤ j := by decide)
    (hst : starEach (e :: es) X.env = (false, eval e X.env) :: starEach es X.env := by rfl) (hpl : (backTo pos (starEach es X.env)).any (·.1) = false := by rfl)
    (ht : eval (.Call (.Attribute o m apos) (e :: es) [] pos) X.env = (do let ov ← eval o X.env; standAt apos.atName; let (f, first) ← holding [ov] (getMethod ov m pl); callWith pos f first (backTo pos (starEach (e :: es) X.env)) (backToKw pos (keywordEach [] X.env))) := by rfl) :
    PE X (.Call (.Attribute o m apos) (e :: es) [] pos) (tMeth C m sp [] E0 ta t) := by
  obtain ⟨fd, G, b⟩ := D.ex
  exact pe_meth he c hm G (hr.mono hk) b .nil pass0 ha hst hpl ht
/-- o.m() -/
theorem pmeth0 {pl : Sem Bool} (he : PE X o ta) (c : Cls X.K C) (hm : Meth X.K C m f) (D : Def X.prog X.w X.K X.mg X.base k f ps sp) (hr : Room j X.A) (hk : k ≤ j := by decide)
    (ht : eval (.Call (.Attribute o m apos) [] [] pos) X.env = (do let ov ← eval o X.env; standAt apos.atName; let (f, first) ← holding [ov] (getMethod ov m pl); callWith pos f first (backTo pos (starEach [] X.env)) (backToKw pos (keywordEach [] X.env))) := by rfl) :
    PE X (.Call (.Attribute o m apos) [] [] pos) (tMeth C m sp [] E0 ta tNil) := by
  obtain ⟨fd, G, b⟩ := D.ex
  exact pe_meth0 he c hm G (hr.mono hk) b .nil pass0 ht
/-- o.m, a property -/
theorem pprop {q : Addr} (he : PE X o ta) (c : Cls X.K C) (hp : PropOf X.K C m q f) (D : Def X.prog X.w X.K X.mg X.base k f ps sp) (hr : Room j X.A) (hk : k + 1 ≤ j := by decide)
    (hab : attributeBase o m X.env (eval o X.env) = eval o X.env := by rfl) : PE X (.Attribute o m pos) (tProp C sp [] E0 ta) := by
  obtain ⟨fd, G, b⟩ := D.ex
  exact pe_prop he c hp G (hr.mono hk) b .nil pass0 hab
end

/-- a built-in class as a value -/
theorem pty {X : Cx} {x : Str} {n : String} {pos : Pos} (hm : X.mg x = none) (hb : bootBuiltins x = some (.type n)) (hg : Gl X x := by rfl) (hn : x ≠ "__name__" := by decide) (hd : (x == ("__debug__" : Str)) = false := by decide) : PE X (.Name x pos) (tC (.ty n)) :=
  pe_bltn (v := .ty n) hg hm hb rfl hn hd
/-! ### with o as y: body -/
/-- behind each end of the body: __exit__ -/
def wEnds (spX : Sp) (a : Addr) (D : Ends) : Ends where
  nx := fun σ' H' => spX [.ref a, .non, .non, .non] H' (fun _ H'' => D.nx σ' H'') E0
  rt := fun r H' => spX [.ref a, .non, .non, .non] H' (fun _ H'' => D.rt r H'') E0
  bk := fun σ' H' => spX [.ref a, .non, .non, .non] H' (fun _ H'' => D.bk σ' H'') E0
  ct := fun σ' H' => spX [.ref a, .non, .non, .non] H' (fun _ H'' => D.ct σ' H'') E0
/-- the reading: o, its __enter__, the body -/
def tWith (C : Addr) (spE spX : Sp) (i : Nat) (to : TE) (tb : TS) : TS := fun D σ H => to σ H fun v H1 => ∃ a dx fs, v = .ref a ∧ H1 a = some (.ins C dx fs) ∧
  spE [.ref a] H1 (fun u H2 => tb (wEnds spX a D) (σ.set i (some u)) H2) E0
section
variable {X : Cx} {k j : Nat} {fe fx C : Addr} {psE psX : List Str} {spE spX : Sp} {y : Str} {py pos : Pos} {o : Expr} {to : TE} {tb : TS} {body : List Stmt}
theorem ps_with {i : Nat} (hX : X.xe = fun _ _ => False) (ho : PE X o to) (mE : Meth X.K C "__enter__" fe) (mX : Meth X.K C "__exit__" fx) (DE : Def X.prog X.w X.K X.mg X.base k fe psE spE) (DX : Def X.prog X.w X.K X.mg X.base k fx psX spX) (hr : Room j X.A)
    (hN : X.N.Nodup) (hi : X.N[i]? = some y) (hy : Loc X.env.scope y) (hb : PSs X body tb) (hf : X.fn y = true ∨ X.env.scope.names.lookup y = some .local) (hk : k ≤ j := by decide) :
    PS X (.With [⟨o, some (.Name y py)⟩] body pos) (tWith C spE spX i to tb) := by
  obtain ⟨fdE, GE, bE⟩ := DE.ex
  obtain ⟨fdX, GX, bX⟩ := DX.ex
  have rE := hr.mono hk
  refine ⟨fun pins s σ H D I h => PySem.W.kw_execN (thn (ho.run pins s σ H _ I h) fun u s1 q0 => ?_)⟩
  obtain ⟨v, H1, I1, r1, a, dx, fs, ev, ea, q⟩ := q0
  subst ev
  obtain rfl : u = Value.ref a := r1
  obtain ⟨mA, O, _⟩ := ins_get I1.hok ea
  obtain ⟨od, J, _⟩ := O.look
  obtain ⟨m, hF⟩ := I1.fr
  refine PySem.W.kw_inN hF I1.ok.mod.kin J mE.at_ mE.fn mX.at_ mX.fn ?_
  refine thn (run_fn (vs := [V.ref a]) GE rE bE .nil pass0 I1 (.cons rfl .nil) q) fun u s2 q2 => ?_
  obtain ⟨v2, H2, I2, r2, q2⟩ := q2
  refine store_ok I2 hN hi hy r2 (fun s3 I3 => ?_) hf
  have hbody := hb.run pins s3 _ H2 _ I3 q2
  rw [hX] at hbody
  refine thn hbody fun fl s4 q4 => ?_
  have out : ∀ (H' : Hp) (σ' : L2.St) (G : Hp → Prop), Inv X pins σ' H' s4 → spX [.ref a, .non, .non, .non] H' (fun _ H'' => G H'') E0 → (∀ s5 H'', Inv X pins σ' H'' s5 → G H'' → SP X pins D fl s5) →
      PySem.W.KwOut X.prog X.w X.A X.xe a fx (SP X pins D) fl s4 := fun H' σ' G I4 h4 fin => by
    unfold PySem.W.KwOut
    refine thn (run_fn (vs := [V.ref a, .non, .non, .non]) GX rE bX .nil pass0 I4 (.cons rfl (.cons rfl (.cons rfl (.cons rfl .nil)))) h4) fun u s5 q5 => ?_
    obtain ⟨_, H'', I5, _, q5⟩ := q5
    exact fin s5 H'' I5 q5
  cases fl with
  | next =>
    obtain ⟨σ', H', I4, q⟩ := q4
    exact out H' σ' _ I4 q fun s5 H'' I5 g => ⟨σ', H'', I5, g⟩
  | brk =>
    obtain ⟨σ', H', I4, q⟩ := q4
    exact out H' σ' _ I4 q fun s5 H'' I5 g => ⟨σ', H'', I5, g⟩
  | cont =>
    obtain ⟨σ', H', I4, q⟩ := q4
    exact out H' σ' _ I4 q fun s5 H'' I5 g => ⟨σ', H'', I5, g⟩
  | ret u =>
    obtain ⟨r, σ', H', I4, rr, q⟩ := q4
    exact out H' σ' _ I4 q fun s5 H'' I5 g => ⟨r, σ', H'', I5, rr, g⟩
end
end K46
end
section
set_option Elab.async false
set_option maxRecDepth 100000
set_option maxHeartbeats 4000000
set_option exponentiation.threshold 3000
/-! K46M: the plain mathematics: fractions in lowest terms, Euclid's steps, bounds. -/
namespace K46

/-! ### lowest terms -/
/-- the greatest common divisor as an integer -/
def gc (t b : Int) : Int := (Int.gcd t b : Int)
def low (t b : Int) : Int × Int := (t / gc t b, b / gc t b)
theorem gc_pos {t b : Int} (hb : 0 < b) : 0 < gc t b := by
  unfold gc
  have : 0 < Int.gcd t b := Int.gcd_pos_of_ne_zero_right t (by omega)
  omega
theorem gc_le {t b : Int} (hb : 0 < b) : gc t b ≤ b := by
  unfold gc
  exact Int.le_of_dvd hb (Int.gcd_dvd_right t b)
theorem low_pos {t b : Int} (hb : 0 < b) : 0 < (low t b).2 := by
  show 0 < b / gc t b
  exact Int.ediv_pos_of_pos_of_dvd hb (Int.le_of_lt (gc_pos hb)) (by unfold gc; exact Int.gcd_dvd_right t b)
theorem low_den_le {t b : Int} (hb : 0 < b) : (low t b).2 ≤ b := by
  show b / gc t b ≤ b
  exact Int.ediv_le_self _ (Int.le_of_lt hb)
theorem low_num_le {t b : Int} (hb : 0 < b) : (low t b).1.natAbs ≤ t.natAbs := by
  show (t / gc t b).natAbs ≤ t.natAbs
  obtain ⟨k, hk⟩ : gc t b ∣ t := by unfold gc; exact Int.gcd_dvd_left t b
  have g0 := gc_pos (t := t) hb
  have e : t / gc t b = k := by
    conv => lhs; lhs; rw [hk]
    exact Int.mul_ediv_cancel_left k (by omega)
  rw [e]
  have e2 : t.natAbs = (gc t b).natAbs * k.natAbs := by
    conv => lhs; rw [hk]
    exact Int.natAbs_mul _ _
  rw [e2]
  exact Nat.le_mul_of_pos_left _ (by omega)
theorem low_gcd {t b : Int} (hb : 0 < b) : gc (low t b).1 (low t b).2 = 1 := by
  show gc (t / gc t b) (b / gc t b) = 1
  unfold gc
  have h : 0 < Int.gcd t b := Int.gcd_pos_of_ne_zero_right t (by omega)
  have := Int.gcd_ediv_gcd_ediv_gcd (i := t) (j := b) h
  rw [this] <;> rfl
theorem gc_comm (a b : Int) : gc a b = gc b a := by
  unfold gc
  rw [Int.gcd_comm]
theorem gc_mod {a b : Int} : gc b (a % b) = gc a b := by
  have e : a % b = a - b * (a / b) := by
    have := Int.emod_add_mul_ediv a b
    omega
  unfold gc
  rw [e, Int.gcd_sub_mul_left_right, Int.gcd_comm]
theorem gc_abs {t b : Int} {s : Int} (hs : s = if t < 0 then -t else t) : gc s b = gc t b := by
  unfold gc
  have : Int.gcd s b = Int.gcd t b := by
    rw [hs]
    split
    · exact Int.neg_gcd
    · rfl
  rw [this]
theorem gc_zero {a : Int} (h : 0 ≤ a) : gc a 0 = a := by
  unfold gc
  rw [Int.gcd_zero_right]
  omega
/-! ### Euclid's steps end soon -/
theorem half_step {a b : Int} (hb : 0 < b) (hab : b ≤ a) : 2 * (b * (a % b)) ≤ a * b := by
  have h1 := Int.emod_nonneg a (show b ≠ 0 by omega)
  have h2 := Int.emod_lt_of_pos a hb
  have h3 := Int.emod_add_mul_ediv a b
  have hq : 1 ≤ a / b := by
    have : b * (a / b) > a - b := by omega
    have h4 : 0 < a / b := by
      rcases Int.lt_or_le 0 (a / b) with h | h
      · exact h
      · have : b * (a / b) ≤ 0 := Int.mul_nonpos_of_nonneg_of_nonpos (by omega) h
        omega
    omega
  have h5 : b * 1 ≤ b * (a / b) := Int.mul_le_mul_of_nonneg_left hq (by omega)
  have h6 : 2 * (a % b) ≤ a := by omega
  have h7 := Int.mul_le_mul_of_nonneg_left h6 (show 0 ≤ b by omega)
  have e1 : b * (2 * (a % b)) = 2 * (b * (a % b)) := by
    rw [Int.mul_left_comm]
  rw [e1, Int.mul_comm b a] at h7
  exact h7
/-- at the i-th turn: both not below 0, and no greater than the halving allows -/
structure Euc (g : Int) (M : Int) (i : Nat) (a b : Int) : Prop where
  a0 : 0 ≤ a
  b0 : 0 ≤ b
  gg : gc a b = g
  first : i = 0 → a * b ≤ M
  later : 0 < i → b < a ∧ (a * b) * 2 ^ (i - 1) ≤ M
theorem Euc.step {g M : Int} {i : Nat} {a b : Int} (e : Euc g M i a b) (hb : b ≠ 0) : Euc g M (i + 1) b (a % b) := by
  have b1 : 0 < b := by have := e.b0; omega
  have r0 := Int.emod_nonneg a hb
  have r1 := Int.emod_lt_of_pos a b1
  refine ⟨e.b0, r0, by rw [gc_mod]; exact e.gg, fun z => by omega, fun _ => ⟨r1, ?_⟩⟩
  rw [Nat.add_sub_cancel]
  by_cases hi : i = 0
  · subst hi
    have h := e.first rfl
    rw [Int.pow_zero, Int.mul_one]
    have hle : a % b ≤ a := by
      have h3 := Int.emod_add_mul_ediv a b
      have h4 : 0 ≤ b * (a / b) := Int.mul_nonneg e.b0 (Int.ediv_nonneg e.a0 e.b0)
      omega
    have := Int.mul_le_mul_of_nonneg_left hle e.b0
    rw [Int.mul_comm b a] at this
    omega
  · obtain ⟨hlt, h⟩ := e.later (by omega)
    have hs := half_step b1 (Int.le_of_lt hlt)
    have e2 : (2 : Int) ^ i = 2 * 2 ^ (i - 1) := by
      conv => lhs; rw [show i = (i - 1) + 1 by omega]
      rw [Int.pow_succ, Int.mul_comm]
    rw [e2, ← Int.mul_assoc, Int.mul_comm (b * (a % b)) 2]
    have hp : (0 : Int) ≤ 2 ^ (i - 1) := Int.le_of_lt (Int.pow_pos (by decide))
    exact Int.le_trans (Int.mul_le_mul_of_nonneg_right hs hp) h
theorem Euc.end_ {g M : Int} {a b : Int} (e : Euc g M 2000 a b) (hM : M < 2 ^ 1999) : b = 0 := by
  obtain ⟨h1, h2⟩ := e.later (by decide)
  by_cases hb : b = 0
  · exact hb
  · have b1 : 1 ≤ b := by have := e.b0; omega
    have a1 : 1 ≤ a := by omega
    have h3 : 1 ≤ a * b := by
      have := Int.mul_le_mul a1 b1 (by decide) (by omega)
      simpa using this
    have hp : (0 : Int) ≤ 2 ^ 1999 := Int.le_of_lt (Int.pow_pos (by decide))
    have h4 := Int.mul_le_mul_of_nonneg_right h3 hp
    rw [Int.one_mul] at h4
    have h5 : (2 : Int) ^ (2000 - 1) = 2 ^ 1999 := rfl
    rw [h5] at h2
    omega
theorem Euc.done {g M : Int} {i : Nat} {a : Int} (e : Euc g M i a 0) : a = g := by
  have := e.gg
  rw [gc_zero e.a0] at this
  exact this
/-! ### how great the loads' numbers get -/
structure FracOk (i : Nat) (q : Int × Int) : Prop where
  pos : 0 < q.2
  den : q.2.natAbs ≤ 10 ^ (6 * i)
  num : q.1.natAbs ≤ 10 ^ (13 * i)
/-- a drawn fraction -/
structure Drawn (q : Int × Int) : Prop where
  pos : 0 < q.2
  den : q.2.natAbs ≤ 10 ^ 6
  num : q.1.natAbs ≤ 5 * 10 ^ 12
  one : gc q.1 q.2 = 1
def raw (p q : Int × Int) : Int × Int := (p.1 * q.2 + q.1 * p.2, p.2 * q.2)
def sum2 (p q : Int × Int) : Int × Int := low (raw p q).1 (raw p q).2
theorem FracOk.mono {i j : Nat} {q : Int × Int} (f : FracOk i q) (h : i ≤ j) : FracOk j q :=
  ⟨f.pos, Nat.le_trans f.den (Nat.pow_le_pow_right (by decide) (by omega)), Nat.le_trans f.num (Nat.pow_le_pow_right (by decide) (by omega))⟩
theorem FracOk.zero : FracOk 0 (0, 1) := ⟨by decide, by decide, by decide⟩
theorem raw_ok {i : Nat} {p q : Int × Int} (f : FracOk i p) (d : Drawn q) : FracOk (i + 1) (raw p q) := by
  refine ⟨Int.mul_pos f.pos d.pos, ?_, ?_⟩
  · show (p.2 * q.2).natAbs ≤ _
    rw [Int.natAbs_mul, show 6 * (i + 1) = 6 * i + 6 by omega, Nat.pow_add]
    exact Nat.mul_le_mul f.den d.den
  · show (p.1 * q.2 + q.1 * p.2).natAbs ≤ _
    have h1 : (p.1 * q.2).natAbs ≤ 10 ^ (13 * i) * 10 ^ 6 := by
      rw [Int.natAbs_mul]
      exact Nat.mul_le_mul f.num d.den
    have h2 : (q.1 * p.2).natAbs ≤ (5 * 10 ^ 12) * 10 ^ (13 * i) := by
      rw [Int.natAbs_mul]
      exact Nat.mul_le_mul d.num (Nat.le_trans f.den (Nat.pow_le_pow_right (by decide) (by omega)))
    have h3 := Int.natAbs_add_le (p.1 * q.2) (q.1 * p.2)
    rw [show 13 * (i + 1) = 13 * i + 13 by omega, Nat.pow_add]
    generalize 10 ^ (13 * i) = z at h1 h2 ⊢
    have e6 : (10 : Nat) ^ 6 = 1000000 := by decide
    have e12 : (5 : Nat) * 10 ^ 12 = 5000000000000 := by decide
    have e13 : (10 : Nat) ^ 13 = 10000000000000 := by decide
    rw [e6] at h1
    rw [e12] at h2
    rw [e13]
    omega
theorem low_ok {i : Nat} {q : Int × Int} (f : FracOk i q) : FracOk i (low q.1 q.2) := by
  refine ⟨low_pos f.pos, ?_, Nat.le_trans (low_num_le f.pos) f.num⟩
  have h1 := low_pos (t := q.1) f.pos
  have h2 := low_den_le (t := q.1) f.pos
  have h3 := f.den
  omega
theorem sum2_ok {i : Nat} {p q : Int × Int} (f : FracOk i p) (d : Drawn q) : FracOk (i + 1) (sum2 p q) := low_ok (raw_ok f d)
/-- what the library's * and // ask, and Euclid's loop -/
structure Wd (q : Int × Int) : Prop where
  pos : 0 < q.2
  den : q.2.natAbs < 2 ^ 600
  num : q.1.natAbs < 2 ^ 1300
theorem FracOk.wd {i : Nat} {q : Int × Int} (f : FracOk i q) (h : i ≤ 30) : Wd q := by
  refine ⟨f.pos, Nat.lt_of_le_of_lt (Nat.le_trans f.den (Nat.pow_le_pow_right (by decide) (show 6 * i ≤ 180 by omega))) (by decide), Nat.lt_of_le_of_lt (Nat.le_trans f.num (Nat.pow_le_pow_right (by decide) (show 13 * i ≤ 390 by omega))) (by decide)⟩
theorem Drawn.wd {q : Int × Int} (f : Drawn q) : Wd q := ⟨f.pos, Nat.lt_of_le_of_lt f.den (by decide), Nat.lt_of_le_of_lt f.num (by decide)⟩
theorem wd_euc {q : Int × Int} (w : Wd q) {s : Int} (hs : s = if q.1 < 0 then -q.1 else q.1) : Euc (gc q.1 q.2) (s * q.2) 0 s q.2 ∧ s * q.2 < 2 ^ 1999 := by
  have h0 : 0 ≤ s := by rw [hs]; split <;> omega
  refine ⟨⟨h0, Int.le_of_lt w.pos, gc_abs hs, fun _ => Int.le_refl _, fun z => absurd z (by decide)⟩, ?_⟩
  have e : s.natAbs = q.1.natAbs := by rw [hs]; split <;> omega
  have h1 : (s * q.2).natAbs < 2 ^ 1300 * 2 ^ 600 := by
    rw [Int.natAbs_mul, e]
    exact Nat.mul_lt_mul'' w.num w.den
  have h2 : (2 : Nat) ^ 1300 * 2 ^ 600 ≤ 2 ^ 1999 := by
    rw [← Nat.pow_add]
    exact Nat.pow_le_pow_right (by decide) (by decide)
  have h3 : (s * q.2).natAbs < 2 ^ 1999 := Nat.lt_of_lt_of_le h1 h2
  have h4 : ((2 ^ 1999 : Nat) : Int) = (2 : Int) ^ 1999 := Int.natCast_pow 2 1999
  omega
end K46
end
section
set_option Elab.async false
set_option linter.all false
set_option autoImplicit false
set_option maxRecDepth 100000
set_option maxHeartbeats 4000000
set_option exponentiation.threshold 3000
/-! K46B: what is asked of the written part (Tx), and the defs over integers and fractions. -/
namespace K46
open PySem PySem.Spec PyProof.Rows L2

/-- a def of the text: its name, qualified name, statement, and where its object stands -/
structure FD where
  name : Str
  qual : Str
  st : Stmt
  at_ : Fg → Addr
/-- the getter of a property -/
def gtr (K : Fg) (C m : Str) : Addr := match PySem.W.recIn K (He.ma K (He.ga K C) m) "property" with
  | some (.ref g :: _) => g
  | _ => 0
def fG (x : Str) (i : Nat) : FD := ⟨x, x, tp i, fun K => He.ga K x⟩
def fM (C x q : Str) (i j : Nat) : FD := ⟨x, q, inClass (tp i) j, fun K => He.ma K (He.ga K C) x⟩
def fP (C x q : Str) (i j : Nat) : FD := ⟨x, q, inClass (tp i) j, fun K => gtr K C x⟩
def fns : List FD := [
  fG "is_integer" 16, fG "is_between" 17, fG "common" 20, fG "ratio" 21, fG "plus" 22, fG "is_ratio" 23, fG "rows_fault" 28, fG "check_table" 31, fG "check_place" 32,
  fM "Table" "__init__" "Table.__init__" 29 0, fP "Table" "size" "Table.size" 29 2, fP "Table" "text" "Table.text" 29 3, fM "Table" "__eq__" "Table.__eq__" 29 4,
  fM "Stage" "__init__" "Stage.__init__" 34 0, fM "Mark" "__init__" "Mark.__init__" 35 0, fM "Trial" "__init__" "Trial.__init__" 36 0, fM "Trial" "__enter__" "Trial.__enter__" 36 1, fM "Trial" "__exit__" "Trial.__exit__" 36 2,
  fM "Bench" "__init__" "Bench.__init__" 37 0, fM "Bench" "moved" "Bench.moved" 37 1, fM "Bench" "check_step" "Bench.check_step" 37 2, fM "Bench" "add" "Bench.add" 37 4, fM "Bench" "change" "Bench.change" 37 5, fM "Bench" "undo" "Bench.undo" 37 6,
  fP "Bench" "table" "Bench.table" 37 7, fP "Bench" "load" "Bench.load" 37 8, fP "Bench" "changes" "Bench.changes" 37 11, fM "Bench" "trial" "Bench.trial" 37 12, fM "Bench" "tried" "Bench.tried" 37 13,
  fG "_law_well" 39, fG "_law_take" 40, fG "_law_ratio" 42, fG "_law_sum" 43, fG "_law_fraction" 45, fG "_law_number" 46, fG "_law_rows" 47, fG "_law_stands" 48, fG "_law_led" 49, fG "_law_is_tried" 50, fG "_law_right" 51, fG "law" 52]
def gNames : List Str := ["is_integer", "is_between", "common", "ratio", "plus", "is_ratio", "rows_fault", "check_table", "check_place", "Table", "Stage", "Mark", "Trial", "Bench", "NONE",
  "_law_well", "_law_take", "_law_ratio", "_law_sum", "_law_fraction", "_law_number", "_law_rows", "_law_stands", "_law_led", "_law_is_tried", "_law_right", "law"]
def fNames : List Str := ["isinstance", "int", "bool", "tuple", "len", "abs", "all", "enumerate", "range", "str", "max", "min", "divmod"]
def cNames : List Str := ["Table", "Stage", "Mark", "Trial", "Bench"]
def aNames : List (Str × Str) := [("Table", "rows"), ("Stage", "grid"), ("Stage", "weight"), ("Stage", "before"), ("Stage", "depth"), ("Mark", "stage"), ("Mark", "other"), ("Trial", "bench"), ("Trial", "mark"), ("Bench", "stage")]
def mNames : List (Str × Str) := [("Table", "__eq__"), ("Trial", "__enter__"), ("Trial", "__exit__"), ("Bench", "moved"), ("Bench", "check_step"), ("Bench", "add"), ("Bench", "change"), ("Bench", "undo"), ("Bench", "trial"), ("Bench", "tried")]
def pNames : List (Str × Str) := [("Table", "size"), ("Table", "text"), ("Bench", "table"), ("Bench", "load"), ("Bench", "changes")]

/-- what isinstance asks of an own class -/
structure IsC (K : Fg) (C : Addr) : Prop where
  ha : PySem.W.findIn K (.ref C) "__class__" = some (some (.builtin "object.__class__"))
  hn : PySem.W.specialIn K (.builtin "object.__class__") "__get__" = some (some (.builtin "getset_descriptor.__get__"))
  htk : PySem.W.takesIn K (.builtin "object.__class__") = some true
  hm : PySem.W.mroIn K C (.type "object") = some true
/-- what all proofs below ask of the written part and of the module's names -/
structure Tx (K : Fg) (mg : Str → Option Value) : Prop where
  gl : ∀ x ∈ gNames, mg x = some (.ref (He.ga K x))
  fr : ∀ x ∈ fNames, mg x = none
  cl : ∀ x ∈ cNames, Cls K (He.ga K x)
  na : ∀ p ∈ aNames, NoAttr K (He.ga K p.1) p.2
  me : ∀ p ∈ mNames, Meth K (He.ga K p.1) p.2 (He.ma K (He.ga K p.1) p.2)
  mx : ∀ x ∈ cNames, Mk K (He.ga K x) (He.ma K (He.ga K x) "__init__")
  pr : ∀ p ∈ pNames, PropOf K (He.ga K p.1) p.2 (He.ma K (He.ga K p.1) p.2) (gtr K p.1 p.2)
  ti : IsC K (He.ga K "Table")
  none_ : ∀ H, SqT K H (He.ga K "NONE") [.int 0, .int 1]
  rows : ∃ t, mg "MOST_ROWS" = some (.int 5 t)
  numb : ∃ t, mg "MOST_NUMBER" = some (.int 100000000000000000000 t)
  part : ∃ t, mg "PARTED" = some (.str " / " t)
  fn : ∀ (i : Nat) d, fns[i]? = some d → ∃ fd, Fun K d.name d.qual d.st (d.at_ K) fd
section
variable {K : Fg} {mg : Str → Option Value}
theorem Tx.g (T : Tx K mg) (x : Str) (h : x ∈ gNames := by decide +kernel) : mg x = some (.ref (He.ga K x)) := T.gl x h
theorem Tx.f (T : Tx K mg) (x : Str) (h : x ∈ fNames := by decide +kernel) : mg x = none := T.fr x h
theorem Tx.c (T : Tx K mg) (x : Str) (h : x ∈ cNames := by decide +kernel) : Cls K (He.ga K x) := T.cl x h
theorem Tx.a (T : Tx K mg) (C x : Str) (h : (C, x) ∈ aNames := by decide +kernel) : NoAttr K (He.ga K C) x := T.na _ h
theorem Tx.m (T : Tx K mg) (C x : Str) (h : (C, x) ∈ mNames := by decide +kernel) : Meth K (He.ga K C) x (He.ma K (He.ga K C) x) := T.me _ h
theorem Tx.k (T : Tx K mg) (x : Str) (h : x ∈ cNames := by decide +kernel) : Mk K (He.ga K x) (He.ma K (He.ga K x) "__init__") := T.mx x h
theorem Tx.p (T : Tx K mg) (C x : Str) (h : (C, x) ∈ pNames := by decide +kernel) : PropOf K (He.ga K C) x (He.ma K (He.ga K C) x) (gtr K C x) := T.pr _ h
end

theorem decT {p : Prop} [Decidable p] (h : p) : V.bl (decide p) = V.bl true := congrArg V.bl (decide_eq_true h)
theorem decF {p : Prop} [Decidable p] (h : ¬ p) : V.bl (decide p) = V.bl false := congrArg V.bl (decide_eq_false h)
section
variable {P : Program} {w : World} {K : Fg} {mg : Str → Option Value} {base : Heap}
/-! ### is_integer, is_between -/
def spInt : Sp := fun vs H Q _ => ∃ i : Int, vs = [.int i] ∧ Q (.bl true) H
theorem sc_int : FnScope ["value"] ["value"] (defScope (tp 16)) := ⟨rfl, rfl, rfl, by decide +kernel, rfl, by decide +kernel, by decide +kernel⟩
theorem ok_int (T : Tx K mg) : Def P w K mg base 1 (He.ga K "is_integer") ["value"] spInt := by
  obtain ⟨fd, F⟩ := T.fn 0 _ rfl
  refine Def.of F (F.ok sc_int (fun vs H Q E h => ?_) (fun cdv A outer s H vs Q E hr h => ?_)) (F.binds fun _ _ _ _ _ _ us hl => match us, hl with | [_], _ => rfl)
  · obtain ⟨i, rfl, _⟩ := h
    rfl
  · obtain ⟨i, rfl, hQ⟩ := h
    refine ⟨_, pss_one (ps_ret (pe_and (pe_callB call_isi rfl (T.f "isinstance") boot_isinstance (pa_cons (pv 0) (pa_cons (pty (T.f "int") boot_int) pa_nil)))
      (pe_one (pe_not (pe_callB call_isi rfl (T.f "isinstance") boot_isinstance (pa_cons (pv 0) (pa_cons (pty (T.f "bool") boot_bool) pa_nil))))))), ?_⟩
    refine ⟨_, rfl, _, _, _, _, true, rfl, .ty _, .base (.int i), kit_ty (by decide +kernel), true, rfl, iteT ?_⟩
    exact ⟨_, rfl, _, _, _, _, false, rfl, .ty _, .base (.int i), kit_ty (by decide +kernel), false, rfl, hQ⟩

def spBtw : Sp := fun vs H Q _ => ∃ i a b : Int, vs = [.int i, .int a, .int b] ∧ a ≤ i ∧ i ≤ b ∧ Q (.bl true) H
theorem sc_btw : FnScope ["value", "least", "most"] ["value", "least", "most"] (defScope (tp 17)) := ⟨rfl, rfl, rfl, by decide +kernel, rfl, by decide +kernel, by decide +kernel⟩
theorem ok_btw (T : Tx K mg) : Def P w K mg base 2 (He.ga K "is_between") ["value", "least", "most"] spBtw := by
  obtain ⟨fd, F⟩ := T.fn 1 _ rfl
  refine Def.of F (F.ok sc_btw (fun vs H Q E h => ?_) (fun cdv A outer s H vs Q E hr h => ?_)) (F.binds fun _ _ _ _ _ _ us hl => match us, hl with | [_, _, _], _ => rfl)
  · obtain ⟨i, a, b, rfl, _⟩ := h
    rfl
  · obtain ⟨i, a, b, rfl, h1, h2, hQ⟩ := h
    refine ⟨_, pss_one (ps_ret (pe_and (pcall (ok_int T) (T.g "is_integer") hr (pa_cons (pv 0) pa_nil)) (pe_one (pe_chain op_le op_le (pv 1) (pv 0) (pv 2))))), ?_⟩
    refine ⟨_, rfl, i, rfl, true, rfl, iteT ?_⟩
    refine ⟨_, rfl, _, rfl, _, _, rfl, rfl, true, ?_, iteT ⟨_, rfl, _, _, rfl, rfl, ?_⟩⟩
    · exact decT h1
    · show Q (V.bl (decide (i ≤ b))) H
      rw [decT h2]
      exact hQ

/-! ### common, ratio, plus, is_ratio -/
def spCom : Sp := fun vs H Q _ => ∃ a b : Int, vs = [.int a, .int b] ∧ Q (.int (gc a b)) H
theorem sc_com : FnScope ["high", "low"] ["high", "low"] (defScope (tp 20)) := ⟨rfl, rfl, rfl, by decide +kernel, rfl, by decide +kernel, by decide +kernel⟩
theorem ok_com (T : Tx K mg) : Def P w K mg base 1 (He.ga K "common") ["high", "low"] spCom := by
  obtain ⟨fd, F⟩ := T.fn 2 _ rfl
  refine Def.of F (F.ok sc_com (fun vs H Q E h => ?_) (fun cdv A outer s H vs Q E hr h => ?_)) (F.binds fun _ _ _ _ _ _ us hl => match us, hl with | [_, _], _ => rfl)
  · obtain ⟨a, b, rfl, _⟩ := h
    rfl
  · obtain ⟨a, b, rfl, hQ⟩ := h
    refine ⟨_, pss_cons (ps_par rfl sc_com.nd (i := 0) (j := 1) rfl rfl (by decide) rfl rfl (pa_cons (pe_callB call_abs rfl (T.f "abs") boot_abs (pa_cons (pv 0) pa_nil)) (pa_cons (pe_callB call_abs rfl (T.f "abs") boot_abs (pa_cons (pv 1) pa_nil)) pa_nil)) rfl)
      (pss_cons (ps_while PassesOwn.never (pt_cmpR op_gt (pv 1) pe_int (nomark _))
        (pss_one (ps_par rfl sc_com.nd (i := 0) (j := 1) rfl rfl (by decide) rfl rfl (pa_cons (pv 1) (pa_cons (pe_op op_mod (pv 0) (pv 1)) pa_nil)) rfl)))
      (pss_one (ps_ret (pv 0)))), ?_⟩
    refine ⟨_, rfl, _, rfl, _, rfl, _, rfl, _, _, rfl, ?_⟩
    refine ⟨fun m σ H' => ∃ x y : Int, σ = [some (.int x), some (.int y)] ∧ 0 ≤ x ∧ 0 ≤ y ∧ gc x y = gc a b ∧ m = y.toNat ∧ H' = H, ⟨_, _, _, rfl, ?_, ?_, ?_, rfl, rfl⟩, ?_⟩
    · split <;> omega
    · split <;> omega
    · rw [gc_abs rfl, gc_comm, gc_abs rfl, gc_comm]
    · rintro m σ H' ⟨x, y, rfl, h0, h1, hg, rfl, rfl⟩
      refine ⟨_, rfl, _, _, rfl, rfl, _, rfl, ?_⟩
      refine ite2 (fun hc => ?_) (fun hc => ?_)
      · have hy : 0 < y := of_decide_eq_true hc
        refine ⟨fun σ' H'' => ∃ x' y' : Int, σ' = [some (.int x'), some (.int y')] ∧ 0 ≤ x' ∧ 0 ≤ y' ∧ gc x' y' = gc a b ∧ y' < y ∧ H'' = H', ?_, ?_⟩
        · rintro σ' H'' ⟨x', y', rfl, h0', h1', hg', hlt, rfl⟩
          exact ⟨y'.toNat, by omega, x', y', rfl, h0', h1', hg', rfl, rfl⟩
        · exact ⟨_, rfl, _, rfl, _, rfl, _, _, rfl, rfl, hy, _, _, rfl, y, x % y, rfl, h1, Int.emod_nonneg _ (by omega), by rw [gc_mod]; exact hg, Int.emod_lt_of_pos _ hy, rfl⟩
      · have hy : ¬ 0 < y := fun q => hc (decide_eq_true q)
        have e : y = 0 := by omega
        subst e
        rw [gc_zero h0] at hg
        subst hg
        exact ⟨_, rfl, hQ⟩

/-- a new pair in lowest terms -/
def spRat : Sp := fun vs H Q _ => ∃ q : Int × Int, vs = [.int q.1, .int q.2] ∧ Wd q ∧ ∀ p, H p = none → Q (.ref p) (upd H p (.tup [.int (low q.1 q.2).1, .int (low q.1 q.2).2]))
theorem gc_wide {q : Int × Int} (h : Wd q) : CDivW 0 (gc q.1 q.2) := by
  have h1 := gc_pos (t := q.1) h.pos
  have h2 := gc_le (t := q.1) h.pos
  exact wide_div (b := 600) h1 (wide_le (Int.le_of_lt h1) h2 h.den) (by decide) (by decide)
theorem sc_rat : FnScope ["top", "bottom", "same"] ["top", "bottom"] (defScope (tp 21)) := ⟨rfl, rfl, rfl, by decide +kernel, rfl, by decide +kernel, by decide +kernel⟩
theorem ok_rat (T : Tx K mg) : Def P w K mg base 2 (He.ga K "ratio") ["top", "bottom"] spRat := by
  obtain ⟨fd, F⟩ := T.fn 3 _ rfl
  refine Def.of F (F.ok sc_rat (fun vs H Q E h => ?_) (fun cdv A outer s H vs Q E hr h => ?_)) (F.binds fun _ _ _ _ _ _ us hl => match us, hl with | [_, _], _ => rfl)
  · obtain ⟨q, rfl, _⟩ := h
    rfl
  · obtain ⟨q, rfl, hw, hQ⟩ := h
    refine ⟨_, pss_cons (ps_if (pt_cmpR op_lt (pv 1) pe_int (nomark _)) pss_never pss_nil) (pss_cons (ps_set (i := 2) sc_rat.nd rfl (.inl rfl) (pcall (ok_com T) (T.g "common") hr (pa_cons (pv 0) (pa_cons (pv 1) pa_nil))))
      (pss_one (ps_ret (pe_tup (pa_cons (pe_op op_fdivW (pv 0) (pv 2)) (pa_cons (pe_op op_fdivW (pv 1) (pv 2)) pa_nil)))))), ?_⟩
    have hp := hw.pos
    refine ⟨_, rfl, _, _, rfl, rfl, _, rfl, ?_⟩
    rw [decide_eq_false (by omega)]
    refine iteF ⟨_, rfl, _, rfl, _, _, rfl, ?_⟩
    refine ⟨_, rfl, _, rfl, _, _, rfl, rfl, gc_wide hw, _, rfl, _, rfl, _, _, rfl, rfl, gc_wide hw, by show 2 ≤ sizeLine; decide, fun p hp => ?_⟩
    exact hQ p hp

/-- a tuple of two integers -/
def PairT (K : Fg) (H : Hp) (a : Addr) (q : Int × Int) : Prop := SqT K H a [.int q.1, .int q.2]
def spPlus (K : Fg) : Sp := fun vs H Q _ => ∃ a b p q, vs = [.ref a, .ref b] ∧ PairT K H a p ∧ PairT K H b q ∧ Wd p ∧ Wd q ∧ Wd (raw p q) ∧ ∀ r, H r = none → Q (.ref r) (upd H r (.tup [.int (sum2 p q).1, .int (sum2 p q).2]))
theorem wd_mul {i j : Int} (hi : i.natAbs < 2 ^ 1300) (hj : j.natAbs < 2 ^ 1300) : CMulW i j := wide_mul (a := 1300) (b := 1300) hi hj (by decide) (by decide) (by decide)
theorem Wd.n {q : Int × Int} (w : Wd q) : q.1.natAbs < 2 ^ 1300 := w.num
theorem Wd.d {q : Int × Int} (w : Wd q) : q.2.natAbs < 2 ^ 1300 := Nat.lt_of_lt_of_le w.den (Nat.pow_le_pow_right (by decide) (by decide))
theorem sc_plus : FnScope ["one", "other"] ["one", "other"] (defScope (tp 22)) := ⟨rfl, rfl, rfl, by decide +kernel, rfl, by decide +kernel, by decide +kernel⟩
theorem ok_plus (T : Tx K mg) : Def P w K mg base 3 (He.ga K "plus") ["one", "other"] (spPlus K) := by
  obtain ⟨fd, F⟩ := T.fn 4 _ rfl
  refine Def.of F (F.ok sc_plus (fun vs H Q E h => ?_) (fun cdv A outer s H vs Q E hr h => ?_)) (F.binds fun _ _ _ _ _ _ us hl => match us, hl with | [_, _], _ => rfl)
  · obtain ⟨a, b, p, q, rfl, _⟩ := h
    rfl
  · obtain ⟨a, b, p, q, rfl, hp, hq, wp, wq, wr, hQ⟩ := h
    have at0 : ∀ z : Int × Int, atI [V.int z.1, V.int z.2] 0 = some (.int z.1) := fun z => atI_nat (j := 0) rfl
    have at1 : ∀ z : Int × Int, atI [V.int z.1, V.int z.2] 1 = some (.int z.2) := fun z => atI_nat (j := 1) rfl
    refine ⟨_, pss_one (ps_ret (pcall (ok_rat T) (T.g "ratio") hr (pa_cons (pe_op op_add (pe_op op_mulW (pe_ix ix_tup (pv 0) pe_int (fun _ _ => rfl)) (pe_ix ix_tup (pv 1) pe_int (fun _ _ => rfl))) (pe_op op_mulW (pe_ix ix_tup (pv 1) pe_int (fun _ _ => rfl)) (pe_ix ix_tup (pv 0) pe_int (fun _ _ => rfl))))
      (pa_cons (pe_op op_mulW (pe_ix ix_tup (pv 0) pe_int (fun _ _ => rfl)) (pe_ix ix_tup (pv 1) pe_int (fun _ _ => rfl))) pa_nil)))), ?_⟩
    refine ⟨_, rfl, a, _, _, _, rfl, rfl, hp, at0 p, _, rfl, b, _, _, _, rfl, rfl, hq, at1 q, _, _, rfl, rfl, wd_mul wp.n wq.d, ?_⟩
    refine ⟨_, rfl, b, _, _, _, rfl, rfl, hq, at0 q, _, rfl, a, _, _, _, rfl, rfl, hp, at1 p, _, _, rfl, rfl, wd_mul wq.n wp.d, _, _, rfl, rfl, ?_⟩
    refine ⟨_, rfl, a, _, _, _, rfl, rfl, hp, at1 p, _, rfl, b, _, _, _, rfl, rfl, hq, at1 q, _, _, rfl, rfl, wd_mul wp.d wq.d, ?_⟩
    exact ⟨raw p q, rfl, wr, hQ⟩

def spIsR (K : Fg) : Sp := fun vs H Q _ => ∃ (a : Addr) (q : Int × Int), vs = [.ref a] ∧ H a = some (.tup [.int q.1, .int q.2]) ∧ 0 < q.2 ∧ gc q.1 q.2 = 1 ∧ Q (.bl true) H
theorem sc_isr : FnScope ["value"] ["value"] (defScope (tp 23)) := ⟨rfl, rfl, rfl, by decide +kernel, rfl, by decide +kernel, by decide +kernel⟩
theorem ok_isr (T : Tx K mg) : Def P w K mg base 2 (He.ga K "is_ratio") ["value"] (spIsR K) := by
  obtain ⟨fd, F⟩ := T.fn 5 _ rfl
  refine Def.of F (F.ok sc_isr (fun vs H Q E h => ?_) (fun cdv A outer s H vs Q E hr h => ?_)) (F.binds fun _ _ _ _ _ _ us hl => match us, hl with | [_], _ => rfl)
  · obtain ⟨a, q, rfl, _⟩ := h
    rfl
  · obtain ⟨a, q, rfl, ha, hp, hg, hQ⟩ := h
    have hT : SqT K H a [V.int q.1, V.int q.2] := SqT.of ha
    have at0 : atI [V.int q.1, V.int q.2] 0 = some (.int q.1) := atI_nat (j := 0) rfl
    have at1 : atI [V.int q.1, V.int q.2] 1 = some (.int q.2) := atI_nat (j := 1) rfl
    refine ⟨_, pss_cons (ps_if (PW.pt (pw_or (pt_not (pt_val (pe_callB call_isi rfl (T.f "isinstance") boot_isinstance (pa_cons (pv 0) (pa_cons (pty (T.f "tuple") boot_tuple) pa_nil)))))
        (pw_or (pt_cmpR op_ne (pe_callB call_len_seq rfl (T.f "len") boot_len (pa_cons (pv 0) pa_nil)) pe_int (nomark _))
        (pw_or (pt_not (pt_val (pcall (ok_int T) (T.g "is_integer") hr (pa_cons (pe_ix ix_tup (pv 0) pe_int (fun _ _ => rfl)) pa_nil))))
        (pw_or1 (pt_not (pt_val (pcall (ok_int T) (T.g "is_integer") hr (pa_cons (pe_ix ix_tup (pv 0) pe_int (fun _ _ => rfl)) pa_nil)))))))) ) pss_never pss_nil)
      (pss_one (ps_ret (pe_and (pe_cmpR op_gt (pe_ix ix_tup (pv 0) pe_int (fun _ _ => rfl)) pe_int (nomark _))
        (pe_one (pe_cmpR op_eq (pcall (ok_com T) (T.g "common") hr (pa_cons (pe_ix ix_tup (pv 0) pe_int (fun _ _ => rfl)) (pa_cons (pe_ix ix_tup (pv 0) pe_int (fun _ _ => rfl)) pa_nil))) pe_int (nomark _)))))), ?_⟩
    refine ⟨_, rfl, _, _, _, _, true, rfl, .ty _, .base (.tup ha), kit_ty (by decide +kernel), true, rfl, iteF ?_⟩
    refine ⟨_, rfl, a, _, rfl, .inr hT, rfl, _, rfl, iteF ?_⟩
    refine ⟨_, rfl, a, _, _, _, rfl, rfl, hT, at0, q.1, rfl, true, rfl, iteF ?_⟩
    refine ⟨_, rfl, a, _, _, _, rfl, rfl, hT, at1, q.2, rfl, true, rfl, iteF ?_⟩
    refine ⟨_, rfl, a, _, _, _, rfl, rfl, hT, at1, _, _, rfl, rfl, true, decT hp, iteT ?_⟩
    refine ⟨_, rfl, a, _, _, _, rfl, rfl, hT, at0, _, rfl, a, _, _, _, rfl, rfl, hT, at1, _, _, rfl, rfl, ?_⟩
    rw [hg]
    exact hQ
end
end K46
end
section
set_option Elab.async false
set_option linter.all false
set_option autoImplicit false
set_option maxRecDepth 100000
set_option maxHeartbeats 4000000
/-! K46E: for i, x in enumerate(a tuple); t * 1. -/
namespace PySem
set_option maxHeartbeats 4000000 in
theorem k46_enum_new {v : Value} {o : Obj} {S : Heap → Prop} (B : Begins v o S) :
    Meets (Builtin.«enumerate.__new__» ⟨[.type "enumerate", v], []⟩) (fun _ R s => S s.heap ∧ R (.ok (.ret (.ref (s.heap.push o).objs.size)))
      { s with heap := (s.heap.push o).push { cls := .type "enumerate", data := .fields #[.none, .bool false, .ref s.heap.objs.size, rawInt 0, .none, .none] } }) :=
  .of_wp fun prog w A R s h => by
    obtain ⟨hp, g, d, tk, os⟩ := s
    obtain ⟨hS, hR⟩ := h
    have is_sub := sub_enumerate
    have go : ∀ {A' : Around} {E' : Value → Shared → Prop} {Q' : Value → Shared → Prop}, Q' (.ref hp.objs.size) ⟨hp.push o, g, d, tk, os⟩ → wpAny (model prog w) A' (pyIter v) Q' E' ⟨hp, g, d, tk, os⟩ := fun q => B.iter prog w _ _ ⟨hp, g, d, tk, os⟩ _ hS q
    wp_walk using go
    refine wpAny_stack_any fun frames => wpAny_pure ?_
    split
    · rename_i cl _ _ _ _ _
      cases (cl == Value.type "enumerate") <;> (wp_walk using go; exact ⟨_, rfl, hR⟩)
    · (wp_walk using go; exact ⟨_, rfl, hR⟩)
theorem k46_call_enum {prog : Program} {w : World} {A : Around} {E : Value → Shared → Prop} {s : Shared} {v : Value} {o : Obj} {S : Heap → Prop} {Q : Value → Shared → Prop} (B : Begins v o S) (hS : S s.heap)
    (h : ∀ h', IsEnum h' (s.heap.objs.size + 1) s.heap.objs.size 0 .none → h'.get? s.heap.objs.size = some o → (∀ b u, s.heap.get? b = some u → h'.get? b = some u) → Q (.ref (s.heap.objs.size + 1)) { s with heap := h' }) :
    wpAny (model prog w) A (call (.type "enumerate") [v]) Q E s := by
  refine callType_new F.called_enumerate (by decide) (F.typeCall_enumerate_1 _) (F.newCall_enumerate_1 _) (fun x => F.args_object_init_2 x _) F.entry_enumerate_new (k46_enum_new B) ⟨hS, ?_⟩
  have hz : (s.heap.push o).objs.size = s.heap.objs.size + 1 := Heap.size_push ..
  show _ ∧ _
  rw [hz]
  have q := Heap.get?_push_size (s.heap.push o) (o := { cls := .type "enumerate", data := .fields #[.none, .bool false, .ref s.heap.objs.size, rawInt 0, .none, .none] }) rfl
  rw [hz] at q
  exact ⟨⟨_, q, rfl⟩, h _ q (Heap.get?_push_of_some _ (Heap.get?_push_size _ B.free)) fun b u x => Heap.get?_push_of_some _ (Heap.get?_push_of_some _ x)⟩
end PySem
namespace K46
open PySem PySem.Spec PyProof.Rows L2
/-- the tuple at a, each item in a new pair with its number -/
def Iet (K : Fg) (a : Addr) : It :=
  ⟨fun i H => ∃ (xs : List V) (x : V), SqT K H a xs ∧ xs[i]? = some x, fun i H v H' => ∃ T x, v = .ref T ∧ H T = none ∧ H' = upd H T (.tup [.int (i : Nat), x]) ∧ ∀ xs, SqT K H a xs → xs[i]? = some x, fun i H => ∃ xs : List V, SqT K H a xs ∧ xs.length ≤ i⟩
theorem apart_e {h : Heap} {e a : Addr} {i : Int} {old : Value} {it : Addr} {xs : Array Value} (he : IsEnum h e it i old) (ht : IsTup h a xs) : e ≠ a := fun z => by
  obtain ⟨o, h1, h2, _⟩ := ht
  rw [← z, he] at h1
  cases h1
  have q : Value.type "enumerate" = Value.type "tuple" := h2
  injection q with q
  exact absurd q (by decide)
theorem apart_i {h : Heap} {a it : Addr} {i : Nat} {xs : Array Value} (hi : h.IsTupleIter it a i) (ht : IsTup h a xs) : a ≠ it := fun z => by
  obtain ⟨o, h1, h2, _⟩ := ht
  obtain ⟨o', h3, h4, _⟩ := hi
  rw [z, h3] at h1
  cases h1
  rw [h4] at h2
  injection h2 with q
  exact absurd q (by decide)
theorem turn_et {P : Program} {w : World} {K : Fg} {elts : List Expr} {kk : Nat} {tpos : Pos} (a e it : Addr) :
    Turn P w K (.Tuple elts kk tpos) (Iet K a) [e, it] e (fun i h => (∃ old, IsEnum h e it ((i : Nat) : Int) old) ∧ h.IsTupleIter it a i ∧ e ≠ it) where
  mem := by simp
  obj := fun i h st b hb => by
    obtain ⟨⟨old, he⟩, ⟨o, ho, hc, hd⟩, _⟩ := st
    rcases (show b = e ∨ b = it by simpa using hb) with z | z
    · rw [z]
      exact ⟨_, he, fun v q => nomatch q⟩
    · rw [z]
      exact ⟨o, ho, fun v q => by rw [hd] at q; cases q⟩
  keep := fun i h h' st k => let ⟨⟨old, he⟩, hi, hne⟩ := st; ⟨⟨old, k e (by simp) _ he⟩, hi.at fun o q => k it (by simp) o q, hne⟩
  item := by
    intro X hP hw hK hc i pins s σ H E I hf st hg
    subst hP hw hK
    obtain ⟨⟨old, he⟩, hit, hne⟩ := st
    obtain ⟨xs, x, hq, hx⟩ := hg
    obtain ⟨its, rv, pt, hz⟩ := I.tuple hq
    obtain ⟨u, hu, ru⟩ := rv.get hx
    have hel : e < s.heap.objs.size := Heap.lt_size he
    have hil : it < s.heap.objs.size := by obtain ⟨_, q, _⟩ := hit; exact Heap.lt_size q
    have nea := apart_e he pt
    have nai := apart_i hit pt
    have D := Draws.tuple (prog := X.prog) (w := X.w) (A := X.A.in1) (I.ok.hd hc) it a nai its.toArray
    have ilt : i < its.toArray.size := by
      have := (List.getElem?_eq_some_iff.mp hu).1
      simpa using this
    refine wpAny_pyNext_enum_itemD D he ⟨hit, pt⟩ ilt hne (by simp [hne, nea]) fun y h' tk hy ho hst hT hsz hk => ?_
    have hyu : y = u := by
      have h2 : its.toArray[i]? = some u := by simpa using hu
      rw [h2] at hy
      exact (Option.some.inj hy).symm
    subst hyu
    refine ⟨_, rfl, wpAny_letOwnedTupleGo_enum (s := { s with heap := h', toks := tk + 1 }) ho fun h'' he' sb => ?_⟩
    have hT2 : h''.get? s.heap.objs.size = some { cls := .type "tuple", data := .seq #[.int i tk, y] } := (sb.2 _ (Nat.ne_of_gt hel)).trans hT
    have new : ObjOk X.prog X.w (upd H s.heap.objs.size (.tup [.int (i : Nat), x])) h'' s.heap.objs.size (.tup [.int (i : Nat), x]) :=
      ⟨by show 2 ≤ sizeLine; decide, [.int i tk, y], .cons ⟨_, rfl⟩ (.cons ru .nil), ⟨_, hT2, rfl, _, rfl⟩⟩
    have I1 : Inv X pins σ (upd H s.heap.objs.size (.tup [.int (i : Nat), x])) { s with heap := h'', toks := tk + 1 } :=
      I.turnedNew (ch := [e, it]) (fun b ob hb q => (sb.2 b (fun z => hb (by simp [z]))).trans (hk b ob (fun z => hb (by simp [z])) (fun z => hb (by simp [z])) q)) hf (Nat.le_refl _) new
    refine ⟨.ref s.heap.objs.size, _, I1, rfl, ⟨_, x, rfl, I.hok.fresh (Nat.le_refl _), rfl, fun ys hy => by rw [I.tuple_inj hy hq]; exact hx⟩, ⟨⟨y, ?_⟩, hst.1.at fun o q => (sb.2 it (Ne.symm hne)).trans q, hne⟩, fun b hb => ?_⟩
    · rw [show ((i + 1 : Nat) : Int) = (i : Int) + 1 by omega]
      exact he'
    · have below : b < s.heap.objs.size := by
        rcases (show b = e ∨ b = it by simpa using hb) with z | z <;> subst z <;> assumption
      rw [upd_ne (Nat.ne_of_lt below)]
      exact (hf b hb).1
  done := by
    intro X hP hw hK hc i pins s σ H E I hf st hg
    subst hP hw hK
    obtain ⟨⟨old, he⟩, hit, hne⟩ := st
    obtain ⟨xs, hq, hx⟩ := hg
    obtain ⟨its, rv, pt, hz⟩ := I.tuple hq
    obtain ⟨f0, f1, f2, f3, f4, f5⟩ := hf it (by simp)
    have nai := apart_i hit pt
    have hT : s.TypeIs (.ref e) "enumerate" := ⟨_, he, rfl⟩
    unfold pyNext
    refine wpAny_bind (wpAny_attempt (wpAny_callSpecial?_slot (name := Str.ofString "__next__") hT F.slot_enumerate_next (wpAny_call_entry F.slot_enumerate_next hT F.entry_enumerate_next ?_ (F.args_enumerate_next_1 _))))
    show wpAny _ _ (field (.ref e) 2 >>= _) _ _ _
    refine wpAny_bind (wpAny_field he rfl (x := .ref it) rfl ?_)
    have hn : its.toArray[i]? = none := by
      have hl := rv.length
      simp
      omega
    refine wpAny_bind (PySem.wpAny_nextOf_tuple_end (I.ok.hd hc) hit pt hn fun h' x eb hx' => ?_)
    obtain ⟨o, ho, hcl⟩ := hx'
    refine wpAny_bind (wpAny_isInstance (T := "StopIteration") (b := true) ⟨o, ho, hcl⟩ isSubtype_stop ?_)
    exact wpAny_pure ⟨rfl, I.turned (t' := s.toks) (fun b o hb q => eb b o hb q) f0 f1 f3 f4 f5⟩
  self := fun A i s Q E st h => let ⟨⟨_, he⟩, _⟩ := st; wpAny_pyIter_enum he h
def iEnumT (K : Fg) (ta : TA) : TI := fun σ H R => ta σ H fun vs H1 => ∃ a xs, vs = [.ref a] ∧ SqT K H1 a xs ∧ R (Iet K a) H1
theorem pi_enumT {X : Cx} {e : Expr} {ta : TA} {p pos tpos : Pos} {elts : List Expr} {kk : Nat} (hg : Gl X "enumerate") (hm : X.mg "enumerate" = none) (ha : PA X [e] ta) (hs : starEach [e] X.env = [(false, eval e X.env)] := by rfl) :
    PI X (.Tuple elts kk tpos) (.Call (.Name "enumerate" p) [e] [] pos) (iEnumT X.K ta) := by
  refine ⟨fun pins s σ H R I h => Call_ (ld_blt I hg hm boot_enumerate (PyProof.Rows.callWith_type1 (thn (ha.run pos pins s σ H _ I h) fun us s1 q0 => ?_) hs rfl))⟩
  obtain ⟨vs, H1, I1, r1, a, xs, ex, hq, q⟩ := q0
  subst ex
  obtain ⟨u, rfl, ru⟩ := vals1 r1
  obtain rfl : u = Value.ref a := ru
  obtain ⟨its, rv, pt, hz⟩ := I1.tuple hq
  refine k46_call_enum (begins_tuple a its.toArray) pt fun h' he hit hk => wpAny_pyIter_enum he ?_
  have I2 : Inv X pins σ H1 { s1 with heap := h' } := I1.kept (t' := s1.toks) hk
  refine ⟨s1.heap.objs.size + 1, [s1.heap.objs.size + 1, s1.heap.objs.size], _, _, H1, rfl, I2, turn_et a (s1.heap.objs.size + 1) s1.heap.objs.size, ⟨⟨.none, he⟩, ⟨_, hit, rfl, rfl⟩, Nat.succ_ne_self _⟩, fun b hb => ?_, q⟩
  have hle : s1.heap.objs.size ≤ b := by
    rcases (show b = s1.heap.objs.size + 1 ∨ b = s1.heap.objs.size by simpa using hb) with z | z
    · rw [z]; exact Nat.le_succ _
    · rw [z]; exact Nat.le_refl _
  exact I1.fpOk hle (I1.hok.fresh hle)
theorem walk_et {K : Fg} {a : Addr} {xs : List V} : Walk (Iet K a) xs.length (fun H => SqT K H a xs) (YPair (fun i => some (.int (i : Nat))) (fun i => xs[i]?)) := by
  refine ⟨fun i _ hi q => ⟨xs, xs[i], q, by simp [hi]⟩, fun _ q => ⟨xs, q, Nat.le_refl _⟩, fun i H v H' _ q y => ?_⟩
  obtain ⟨T, x, h1, h2, h3, h4⟩ := y
  exact ⟨T, .int (i : Nat), x, h1, h2, h3, rfl, h4 xs q⟩

/-! ### t * 1 -/
theorem k46_mul1 (l : Addr) (items : Array Value) (n : Nat) (dd : Option Addr) (sl : Array (Option Value)) (u : Tok) :
    Meets (Builtin.«tuple.__mul__» ⟨[.ref l, .int 1 u], []⟩) (fun _ R s => s.heap.get? l = some { cls := .type "tuple", dict := dd, data := .seq items n, slots := sl } ∧ R (.ok (.ret (Value.ref l))) s) :=
  .of_wp fun prog w A R s h => by
    obtain ⟨hp, g, d, tk, os⟩ := s
    obtain ⟨hl, h⟩ := h
    have f1 := AutoSeq1.idx_int
    wp_walk using wpAny_loadPart' hl
    exact ⟨_, rfl, h⟩
def rRep1 (K : Fg) : R2 := fun x y H Q => ∃ l xs, x = .ref l ∧ y = .int 1 ∧ SqT K H l xs ∧ Q (.ref l) H
theorem op_rep1 {X : Cx} : OpR X (binaryOp .Mult) (rRep1 X.K) := by
  intro pins s σ H x y v u Q I rx ry h
  obtain ⟨l, xs, rfl, rfl, hT, q⟩ := h
  cases rx
  obtain ⟨t, rfl⟩ := ry
  obtain ⟨its, r, ⟨⟨cls, dd, data, sl⟩, ho, hc, n, hd⟩, hs⟩ := I.tuple hT
  simp only at hc hd
  subst hc hd
  exact wpAny_binaryOp_repeat_ref (T := "tuple") (U := "int") (by decide) ⟨_, ho, rfl⟩ (fun s' => typeIs_int s' 1 t) noFill_tuple_mul F.fills_int_mul F.slot_int_rmul repeat_tuple F.slot_int_index.lookup
    (call_meets F.slot_int_rmul (typeIs_int s 1 t) F.entry_int_rmul (F.args_int_rmul_2 _ _) (int_rmul_tuple 1 t l its.toArray n dd sl)
      ⟨ho, rfl, ⟨_, ho, rfl⟩, call_meets F.slot_tuple_mul ⟨_, ho, rfl⟩ F.entry_tuple_mul (F.args_tuple_mul_2 _ _) (k46_mul1 l its.toArray n dd sl t) ⟨ho, ⟨.ref l, H, I, rfl, q⟩⟩⟩)
end K46
end
section
set_option Elab.async false
set_option linter.all false
set_option autoImplicit false
set_option maxRecDepth 100000
set_option maxHeartbeats 4000000
/-! K46C: tables. -/
namespace K46
open PySem PySem.Spec PyProof.Rows L2
/-! ### the data -/
/-- n rows of n integers within the bounds, as a tuple of tuples at rt -/
def RowsOk (H : Hp) (rt : Addr) (n : Nat) (rows : List (List Int)) : Prop := ∃ as : List Addr, H rt = some (.tup (as.map V.ref)) ∧ as.length = n ∧ rows.length = n ∧
  ∀ (i : Nat) (a : Addr), as[i]? = some a → ∃ r, rows[i]? = some r ∧ H a = some (.tup (r.map V.int)) ∧ r.length = n ∧ ∀ z ∈ r, -(100000000000000000000 : Int) ≤ z ∧ z ≤ 100000000000000000000
/-- all of H is kept in H' but what stands at the addresses S -/
def Kp (S : List Addr) (H H' : Hp) : Prop := ∀ b o, H b = some o → b ∉ S → H' b = some o
theorem Kp.refl {S : List Addr} {H : Hp} : Kp S H H := fun _ _ h _ => h
theorem Kp.of {S : List Addr} {H H' : Hp} (s : Same H H') : Kp S H H' := fun b o h _ => s b o h
theorem Kp.trans {S : List Addr} {H H1 H2 : Hp} (a : Kp S H H1) (b : Kp S H1 H2) : Kp S H H2 := fun c o h n => b c o (a c o h n) n
theorem Kp.more {S S' : List Addr} {H H' : Hp} (a : Kp S H H') (h : ∀ b ∈ S, b ∈ S') : Kp S' H H' := fun c o e n => a c o e fun z => n (h c z)
theorem same_upd {H : Hp} {p : Addr} {o : HO} (h : H p = none) : Same H (upd H p o) := fun b u e => by rw [upd_ne (ne_of_none e h)]; exact e
theorem same_then {H H1 : Hp} {p : Addr} {o : HO} (s : Same H H1) (h : H1 p = none) : Same H (upd H1 p o) := s.trans (same_upd h)
/-- a change at an address that H does not track -/
theorem same_new {H H1 : Hp} {p : Addr} {o : HO} (s : Same H H1) (h : H p = none) : Same H (upd H1 p o) := fun b u e => by rw [upd_ne (ne_of_none e h)]; exact s b u e
/-- a comprehension's turn without a test -/
theorem yesT {σ : L2.St} {H : Hp} {A B : Hp → Prop} (h : A H) : tYes σ H fun b H' => if b = true then A H' else B H' := by
  show (if true = true then A H else B H)
  exact iteT h
theorem map_at {α β : Type} {f : α → β} {xs : List α} {i : Nat} {z : β} (h : (xs.map f)[i]? = some z) : ∃ a, xs[i]? = some a ∧ z = f a := by
  rw [List.getElem?_map] at h
  cases e : xs[i]? with
  | none => rw [e] at h; cases h
  | some a => rw [e] at h; exact ⟨a, rfl, (Option.some.inj h).symm⟩
theorem RowsOk.same {H H' : Hp} {rt : Addr} {n : Nat} {rows : List (List Int)} {S : List Addr} (r : RowsOk H rt n rows) (k : Kp [] H H') : RowsOk H' rt n rows := by
  obtain ⟨as, h1, h2, h3, h4⟩ := r
  refine ⟨as, k _ _ h1 (by simp), h2, h3, fun i a e => ?_⟩
  obtain ⟨r, a1, a2, a3⟩ := h4 i a e
  exact ⟨r, a1, k _ _ a2 (by simp), a3⟩
/-- what may not be changed by anyone: tuples -/
theorem tup_keep {S : List Addr} {H H' : Hp} {a : Addr} {xs : List V} (k : Kp S H H') (hS : ∀ b ∈ S, ∀ ys, H b ≠ some (.tup ys)) (h : H a = some (.tup xs)) : H' a = some (.tup xs) :=
  k _ _ h (fun z => hS a z xs h)
theorem RowsOk.kp {H H' : Hp} {rt : Addr} {n : Nat} {rows : List (List Int)} {S : List Addr} (r : RowsOk H rt n rows) (k : Kp S H H') (hS : ∀ b ∈ S, ∀ ys, H b ≠ some (.tup ys)) : RowsOk H' rt n rows := by
  obtain ⟨as, h1, h2, h3, h4⟩ := r
  refine ⟨as, tup_keep k hS h1, h2, h3, fun i a e => ?_⟩
  obtain ⟨r, a1, a2, a3⟩ := h4 i a e
  exact ⟨r, a1, tup_keep k hS a2, a3⟩

section
variable {P : Program} {w : World} {K : Fg} {mg : Str → Option Value} {base : Heap}
/-! ### rows_fault -/
def spFault : Sp := fun vs H Q _ => ∃ rt n rows, vs = [.ref rt, .int 100000000000000000000] ∧ RowsOk H rt n rows ∧ 1 ≤ n ∧ n ≤ 2 ∧ ∀ H', Same H H' → Q (.int (-1)) H'
theorem sc_fault : FnScope ["value", "most", "index", "row", "number"] ["value", "most"] (defScope (tp 28)) := ⟨rfl, rfl, rfl, by decide +kernel, rfl, by decide +kernel, by decide +kernel⟩
theorem ok_fault (T : Tx K mg) : Def P w K mg base 3 (He.ga K "rows_fault") ["value", "most"] spFault := by
  obtain ⟨fd, F⟩ := T.fn 6 _ rfl
  obtain ⟨tk5, mR⟩ := T.rows
  refine Def.of F (F.ok sc_fault (fun vs H Q E h => ?_) (fun cdv A outer s H vs Q E hr h => ?_)) (F.binds fun _ _ _ _ _ _ us hl => match us, hl with | [_, _], _ => rfl)
  · obtain ⟨rt, n, rows, rfl, _⟩ := h
    rfl
  · obtain ⟨rt, n, rows, rfl, hR, hn1, hn2, hQ⟩ := h
    refine ⟨_, pss_cons (ps_if (PW.pt (pw_or (pt_not (pt_val (pe_callB call_isi rfl (T.f "isinstance") boot_isinstance (pa_cons (pv 0) (pa_cons (pty (T.f "tuple") boot_tuple) pa_nil)))))
        (pw_or1 (pt_not (pt_chain op_le op_le pe_int (pe_callB call_len_seq rfl (T.f "len") boot_len (pa_cons (pv 0) pa_nil)) (pe_glob rfl mR (v := .int 5) ⟨_, rfl⟩)))))) pss_never pss_nil)
      (pss_cons (ps_for PassesOwn.never rfl (pi_enumT rfl (T.f "enumerate") (pa_cons (pv 0) pa_nil)) (pg_tup rfl (pgs_cons (pg_name (i := 2) sc_fault.nd rfl (.inl rfl)) (pgs_cons (pg_name (i := 3) sc_fault.nd rfl (.inl rfl)) pgs_nil)))
        (pss_cons (ps_if (PW.pt (pw_or (pt_not (pt_val (pe_callB call_isi rfl (T.f "isinstance") boot_isinstance (pa_cons (pv 3) (pa_cons (pty (T.f "tuple") boot_tuple) pa_nil)))))
            (pw_or1 (pt_cmpR op_ne (pe_callB call_len_seq rfl (T.f "len") boot_len (pa_cons (pv 3) pa_nil)) (pe_callB call_len_seq rfl (T.f "len") boot_len (pa_cons (pv 0) pa_nil)) (nomark _))))) pss_never pss_nil)
          (pss_one (ps_if (pt_not (pt_val (pe_callB (cr_all rfl) rfl (T.f "all") boot_all (pa_cons
            (pe_lc (own := [("number", 4)]) (g := gName 4) (tt := tYes) rfl sc_fault.nd (pi_tup (pv 3)) (blkOk_by (N := ["value", "most", "index", "row", "number"]) (sc := defScope (tp 28)) (by decide +kernel)) (fun _ _ _ _ _ => pg_name (i := 4) sc_fault.nd rfl (Or.inl rfl)) (fun _ _ _ _ _ => pts_nil)
              (fun _ _ _ _ _ => pcall (ok_btw T) (T.g "is_between") hr (pa_cons (pv 4) (pa_cons (pe_un un_neg (pv 1)) (pa_cons (pv 1) pa_nil))))) pa_nil)))) pss_never pss_nil))))
      (pss_one (ps_ret (pe_un un_neg pe_int)))), ?_⟩
    obtain ⟨as, h1, h2, h3, h4⟩ := id hR
    have hT : SqT K H rt (as.map V.ref) := SqT.of h1
    have hlen : (as.map V.ref).length = n := by rw [List.length_map, h2]
    refine ⟨_, rfl, _, _, _, _, true, rfl, .ty _, .base (.tup h1), kit_ty (by decide +kernel), true, rfl, iteF ?_⟩
    refine ⟨_, rfl, rt, _, rfl, .inr hT, _, _, rfl, rfl, true, decT (by rw [hlen]; omega), iteT ⟨_, _, rfl, rfl, true, decT (by rw [hlen]; omega), iteF ?_⟩⟩
    refine ⟨_, rfl, rt, _, rfl, hT, for_it (walk_et (K := K) (a := rt) (xs := as.map V.ref)) (fun i σ H' => ∃ v2 v3 v4, σ = [some (.ref rt), some (.int 100000000000000000000), v2, v3, v4] ∧ Same H H') ⟨_, _, _, rfl, Same.refl H⟩ (fun i σ H' _ q => ?_) ?_ ?_⟩
    · obtain ⟨_, _, _, _, s⟩ := q
      exact SqT.of (s _ _ h1)
    · rintro i x σ H1 H2 hi ⟨v2, v3, v4, rfl, s⟩ ⟨Tt, y, z, rfl, nT, rfl, hy, hz⟩
      cases hy
      obtain ⟨a, ha, rfl⟩ := map_at hz
      obtain ⟨r, hr1, hr2, hr3, hr4⟩ := h4 i a ha
      have s2 : Same H (upd H1 Tt (.tup [.int (i : Nat), .ref a])) := same_then s nT
      have hA := s2 _ _ hr2
      refine ⟨Tt, _, rfl, SqT.of upd_same, rfl, _, _, rfl, _, _, rfl, rfl, ?_⟩
      refine ⟨_, rfl, _, _, _, _, true, rfl, .ty _, .base (.tup hA), kit_ty (by decide +kernel), true, rfl, iteF ?_⟩
      refine ⟨_, rfl, a, _, rfl, .inr (SqT.of hA), _, rfl, rt, _, rfl, .inr (SqT.of (s2 _ _ h1)), rfl, _, rfl, ?_⟩
      rw [hlen, List.length_map, hr3]
      refine iteNS rfl ?_
      refine ⟨_, rfl, a, rfl, ⟨_, SqT.of hA⟩, fun D nD => ?_⟩
      generalize hHc : upd H1 Tt (.tup [.int (i : Nat), .ref a]) = Hc at *
      refine lc_it (walk_tup (K := K) (a := a) (xs := r.map V.int)) (fun i' H' => Same Hc H' ∧ H' D = some (.lst ((List.replicate i' true).map V.bl))) ⟨same_upd nD, upd_same⟩ (fun i' H' _ q => SqT.of (q.1 _ _ hA)) ?_ ?_
      · rintro i' x H3 H4 hi' ⟨s3, hD⟩ ⟨rfl, hx⟩
        obtain ⟨z, hz, rfl⟩ := map_at hx
        obtain ⟨b1, b2⟩ := hr4 z (List.mem_of_getElem? hz)
        have lt2 : i' < 2 := by
          have := (List.getElem?_eq_some_iff.mp hz).1
          omega
        refine ⟨rfl, yesT ?_⟩
        refine ⟨_, rfl, _, rfl, _, rfl, _, rfl, z, _, _, rfl, b1, b2, _, hD, by rw [List.length_map, List.length_replicate]; exact Nat.lt_trans lt2 (by decide), same_new s3 nD, ?_⟩
        · rw [upd_same, List.replicate_succ', List.map_append]
          rfl
      · rintro H3 ⟨s3, hD⟩
        refine ⟨D, _, rfl, SqL.of hD, _, rfl, ?_⟩
        have e : ((List.replicate (r.map V.int).length true).all id) = true := by simp
        rw [e]
        exact iteF ⟨_, _, _, rfl, s2.trans s3⟩
    · rintro σ H' ⟨v2, v3, v4, rfl, s⟩
      exact ⟨_, rfl, hQ _ s⟩
end
end K46
end
section
set_option Elab.async false
set_option linter.all false
set_option autoImplicit false
set_option maxRecDepth 100000
set_option maxHeartbeats 4000000
/-! K46D: the class Table; fields. -/
namespace K46
open PySem PySem.Spec PyProof.Rows L2
theorem putF_nil (f : Str) (v : V) : putF f v [] = [(f, v)] := rfl
theorem putF_here (f : Str) (v u : V) (r : List (Str × V)) : putF f v ((f, u) :: r) = (f, v) :: r := by
  show (if f = f then _ else _) = _
  rw [if_pos rfl]
theorem putF_on {f g : Str} (h : ¬ g = f) (v u : V) (r : List (Str × V)) : putF f v ((g, u) :: r) = (g, u) :: putF f v r := by
  show (if g = f then _ else _) = _
  rw [if_neg h]
theorem look_here (f : Str) (v : V) (r : List (Str × V)) : List.lookup f ((f, v) :: r) = some v := by
  simp [List.lookup]
theorem look_on {f g : Str} (h : ¬ f = g) (v : V) (r : List (Str × V)) : List.lookup f ((g, v) :: r) = List.lookup f r := by
  have e : (f == g) = false := by simpa using h
  simp [List.lookup, e]
/-- a Table with n rows at g -/
def TableAt (K : Fg) (H : Hp) (g : Addr) (n : Nat) (rows : List (List Int)) : Prop := ∃ dx rt, H g = some (.ins (He.ga K "Table") dx [("rows", .ref rt)]) ∧ RowsOk H rt n rows
theorem TableAt.kp {K : Fg} {H H' : Hp} {g : Addr} {n : Nat} {rows : List (List Int)} {S : List Addr} (t : TableAt K H g n rows) (k : Kp S H H') (hg : g ∉ S) (hS : ∀ b ∈ S, ∀ ys, H b ≠ some (.tup ys)) : TableAt K H' g n rows := by
  obtain ⟨dx, rt, h1, h2⟩ := t
  exact ⟨dx, rt, k _ _ h1 hg, h2.kp k hS⟩
theorem TableAt.same {K : Fg} {H H' : Hp} {g : Addr} {n : Nat} {rows : List (List Int)} (t : TableAt K H g n rows) (s : Same H H') : TableAt K H' g n rows := t.kp (S := []) (Kp.of s) (by simp) (by simp)
/-- a text of a row, of a table -/
def rowTx (r : List Int) : Str := Txt.join (" " : Str) (r.map fun z => (toString z : Str))
def tabTx (rows : List (List Int)) : Str := Txt.join (" / " : Str) (rows.map rowTx)
section
variable {P : Program} {w : World} {K : Fg} {mg : Str → Option Value} {base : Heap}
/-! ### Table.__init__, size, __eq__, check_table, check_place -/
def spTabI (K : Fg) : Sp := fun vs H Q _ => ∃ p dx rt n rows, vs = [.ref p, .ref rt] ∧ H p = some (.ins (He.ga K "Table") dx []) ∧ RowsOk H rt n rows ∧ 1 ≤ n ∧ n ≤ 2 ∧
  ∀ H', TableAt K H' p n rows → (∀ b o, H b = some o → b ≠ p → H' b = some o) → Q .non H'
theorem sc_tabI : FnScope ["self", "rows"] ["self", "rows"] (defScope (inClass (tp 29) 0)) := ⟨rfl, rfl, rfl, by decide +kernel, rfl, by decide +kernel, by decide +kernel⟩
theorem ok_tabI (T : Tx K mg) : Def P w K mg base 4 (He.ma K (He.ga K "Table") "__init__") ["self", "rows"] (spTabI K) := by
  obtain ⟨fd, F⟩ := T.fn 9 _ rfl
  obtain ⟨tkN, mN⟩ := T.numb
  refine Def.of F (F.ok sc_tabI (fun vs H Q E h => ?_) (fun cdv A outer s H vs Q E hr h => ?_)) (F.binds fun _ _ _ _ _ _ us hl => match us, hl with | [_, _], _ => rfl)
  · obtain ⟨p, dx, rt, n, rows, rfl, _⟩ := h
    rfl
  · obtain ⟨p, dx, rt, n, rows, rfl, hp, hR, hn1, hn2, hQ⟩ := h
    refine ⟨_, pss_cons (ps_if (pt_cmpR op_ne (pcall (ok_fault T) (T.g "rows_fault") hr (pa_cons (pv 1) (pa_cons (pe_glob rfl mN (v := .int 100000000000000000000) ⟨_, rfl⟩) pa_nil))) (pe_un un_neg pe_int) (nomark _)) pss_never pss_nil)
      (pss_one (ps_fld (pv 0) (pv 1) rfl)), ?_⟩
    refine ⟨_, rfl, rt, n, rows, rfl, hR, hn1, hn2, fun H1 s1 => ?_⟩
    refine ⟨_, rfl, rfl, _, rfl, iteNS rfl ?_⟩
    have hp1 := s1 _ _ hp
    refine ⟨_, rfl, _, rfl, p, _, dx, [], rfl, hp1, T.c "Table", T.a "Table" "rows", by show 0 < 1000; decide, ?_⟩
    rw [putF_nil]
    refine hQ _ ⟨dx, rt, upd_same, ?_⟩ (fun b o e hb => by rw [upd_ne hb]; exact s1 b o e)
    exact (hR.kp (Kp.of (S := []) s1) (by simp)).kp (S := [p]) (fun b o e hb => by rw [upd_ne (by simpa using hb)]; exact e) (fun b hb ys z => by
      rw [List.mem_singleton.mp hb, hp1] at z
      cases z)
def spSize (K : Fg) : Sp := fun vs H Q _ => ∃ g n rows, vs = [.ref g] ∧ TableAt K H g n rows ∧ Q (.int n) H
theorem sc_size : FnScope ["self"] ["self"] (defScope (inClass (tp 29) 2)) := ⟨rfl, rfl, rfl, by decide +kernel, rfl, by decide +kernel, by decide +kernel⟩
theorem ok_size (T : Tx K mg) : Def P w K mg base 1 (gtr K "Table" "size") ["self"] (spSize K) := by
  obtain ⟨fd, F⟩ := T.fn 10 _ rfl
  refine Def.of F (F.ok sc_size (fun vs H Q E h => ?_) (fun cdv A outer s H vs Q E hr h => ?_)) (F.binds fun _ _ _ _ _ _ us hl => match us, hl with | [_], _ => rfl)
  · obtain ⟨g, n, rows, rfl, _⟩ := h
    rfl
  · obtain ⟨g, n, rows, rfl, ⟨dx, rt, hg, hR⟩, hQ⟩ := h
    refine ⟨_, pss_one (ps_ret (pe_callB call_len_seq rfl (T.f "len") boot_len (pa_cons (pe_fld (pv 0) rfl) pa_nil))), ?_⟩
    obtain ⟨as, h1, h2, h3, h4⟩ := hR
    refine ⟨_, rfl, g, _, dx, _, _, rfl, hg, T.c "Table", T.a "Table" "rows", look_here _ _ _, rt, _, rfl, .inr (SqT.of h1), ?_⟩
    rw [List.length_map, h2]
    exact hQ
/-- two Tables at one address -/
def eqTab (K : Fg) : Addr → Addr → Hp → Prop := fun a b H => a = b ∧ ∃ n rows, TableAt K H a n rows
theorem sc_tabE : FnScope ["self", "other"] ["self", "other"] (defScope (inClass (tp 29) 4)) := ⟨rfl, rfl, rfl, by decide +kernel, rfl, by decide +kernel, by decide +kernel⟩
theorem tyTab {H : Hp} {g dx : Addr} {fs : List (Str × V)} (T : Tx K mg) (h : H g = some (.ins (He.ga K "Table") dx fs)) : TyX K H (.ref g) (.ref (He.ga K "Table")) := .base (.ins h (T.c "Table") T.ti.ha T.ti.hn T.ti.htk T.ti.hm)
theorem kit_self {C : Addr} : PySem.W.kitOne K (.ref C) (.ref C) = some true := by
  unfold PySem.W.kitOne
  rw [if_pos (by simp)]
theorem ok_tabE (T : Tx K mg) : Def P w K mg base 3 (He.ma K (He.ga K "Table") "__eq__") ["self", "other"] (spEq (eqTab K)) := by
  obtain ⟨fd, F⟩ := T.fn 12 _ rfl
  refine Def.of F (F.ok sc_tabE (fun vs H Q E h => ?_) (fun cdv A outer s H vs Q E hr h => ?_)) (F.binds fun _ _ _ _ _ _ us hl => match us, hl with | [_, _], _ => rfl)
  · obtain ⟨a, b, rfl, _⟩ := h
    rfl
  · obtain ⟨a, b, rfl, ⟨rfl, n, rows, dx, rt, hg, hR⟩, hQ⟩ := h
    refine ⟨_, pss_one (ps_ret (pe_and (pe_callB call_isi rfl (T.f "isinstance") boot_isinstance (pa_cons (pv 1) (pa_cons (pe_glob rfl (T.g "Table") (v := .ref (He.ga K "Table")) rfl) pa_nil)))
      (pe_one (pe_cmpR (op_eqG (rcG_tup (mon_tup mon_flat) (eqG_tup mon_flat eqG_flat)) hr) (pe_fld (pv 0) rfl) (pe_fld (pv 1) rfl) (nomark _))))), ?_⟩
    refine ⟨_, rfl, _, _, _, _, true, rfl, .own _, tyTab T hg, kit_self, true, rfl, iteT ?_⟩
    refine ⟨_, rfl, a, _, dx, _, _, rfl, hg, T.c "Table", T.a "Table" "rows", look_here _ _ _, _, rfl, a, _, dx, _, _, rfl, hg, T.c "Table", T.a "Table" "rows", look_here _ _ _, ?_⟩
    obtain ⟨as, h1, h2, h3, h4⟩ := hR
    refine ⟨⟨rt, rt, _, _, rfl, rfl, SqT.of h1, SqT.of h1, rfl, fun i x y hx hy => ?_⟩, fun H' e => hQ H' e⟩
    rw [hx] at hy
    cases hy
    obtain ⟨c, hc, rfl⟩ := map_at hx
    obtain ⟨r, r1, r2, r3, r4⟩ := h4 i c hc
    refine ⟨c, c, _, _, rfl, rfl, SqT.of r2, SqT.of r2, rfl, fun j x y hx hy => ?_⟩
    rw [hx] at hy
    cases hy
    obtain ⟨z, _, rfl⟩ := map_at hx
    exact ⟨rfl, rfl, by simp [eqV]⟩
def spChT (K : Fg) : Sp := fun vs H Q _ => ∃ g dx fs, vs = [.ref g] ∧ H g = some (.ins (He.ga K "Table") dx fs) ∧ Q .non H
theorem sc_chT : FnScope ["value"] ["value"] (defScope (tp 31)) := ⟨rfl, rfl, rfl, by decide +kernel, rfl, by decide +kernel, by decide +kernel⟩
theorem ok_chT (T : Tx K mg) : Def P w K mg base 1 (He.ga K "check_table") ["value"] (spChT K) := by
  obtain ⟨fd, F⟩ := T.fn 7 _ rfl
  refine Def.of F (F.ok sc_chT (fun vs H Q E h => ?_) (fun cdv A outer s H vs Q E hr h => ?_)) (F.binds fun _ _ _ _ _ _ us hl => match us, hl with | [_], _ => rfl)
  · obtain ⟨g, dx, fs, rfl, _⟩ := h
    rfl
  · obtain ⟨g, dx, fs, rfl, hg, hQ⟩ := h
    refine ⟨_, pss_one (ps_if (pt_not (pt_val (pe_callB call_isi rfl (T.f "isinstance") boot_isinstance (pa_cons (pv 0) (pa_cons (pe_glob rfl (T.g "Table") (v := .ref (He.ga K "Table")) rfl) pa_nil))))) pss_never pss_nil), ?_⟩
    exact ⟨_, rfl, _, _, _, _, true, rfl, .own _, tyTab T hg, kit_self, true, rfl, iteF hQ⟩
def spChP (K : Fg) : Sp := fun vs H Q _ => ∃ (g : Addr) (n : Nat) (rows : List (List Int)) (i : Int), vs = [.ref g, .int i] ∧ TableAt K H g n rows ∧ 0 ≤ i ∧ i < n ∧ Q .non H
theorem sc_chP : FnScope ["table", "value"] ["table", "value"] (defScope (tp 32)) := ⟨rfl, rfl, rfl, by decide +kernel, rfl, by decide +kernel, by decide +kernel⟩
theorem ok_chP (T : Tx K mg) : Def P w K mg base 3 (He.ga K "check_place") ["table", "value"] (spChP K) := by
  obtain ⟨fd, F⟩ := T.fn 8 _ rfl
  refine Def.of F (F.ok sc_chP (fun vs H Q E h => ?_) (fun cdv A outer s H vs Q E hr h => ?_)) (F.binds fun _ _ _ _ _ _ us hl => match us, hl with | [_, _], _ => rfl)
  · obtain ⟨g, n, rows, i, rfl, _⟩ := h
    rfl
  · obtain ⟨g, n, rows, i, rfl, hT, h1, h2, hQ⟩ := h
    obtain ⟨dx, rt, hg, hR⟩ := id hT
    refine ⟨_, pss_one (ps_if (pt_not (pt_val (pcall (ok_btw T) (T.g "is_between") hr (pa_cons (pv 1) (pa_cons pe_int (pa_cons (pe_op op_sub (pprop (pv 0) (T.c "Table") (T.p "Table" "size") (ok_size T) hr) pe_int) pa_nil)))))) pss_never pss_nil), ?_⟩
    refine ⟨_, rfl, _, rfl, g, dx, _, rfl, hg, g, n, rows, rfl, hT, _, _, rfl, rfl, i, 0, _, rfl, h1, by omega, true, rfl, iteF hQ⟩
end
end K46
end
section
set_option Elab.async false
set_option linter.all false
set_option autoImplicit false
set_option maxRecDepth 100000
set_option maxHeartbeats 4000000
set_option exponentiation.threshold 3000
/-! K46F: Table.text. -/
namespace K46
open PySem PySem.Spec PyProof.Rows L2
theorem joinL_le (a : Str) : ∀ ys : List Str, (Txt.join a ys).length ≤ (ys.map (·.length)).sum + ys.length * a.length
  | [] => by
    rw [TL.join_eq]
    show (Str.join a []).length ≤ _
    simp [Str.join, Str.length, Str.empty]
  | [x] => by
    rw [TL.join_eq]
    show (Str.join a [x]).length ≤ _
    simp [Str.join]
  | x :: y :: r => by
    have ih := joinL_le a (y :: r)
    rw [TL.join_eq] at ih ⊢
    show (Str.join a (x :: y :: r)).length ≤ _
    have e : Str.join a (x :: y :: r) = x ++ a ++ Str.join a (y :: r) := rfl
    rw [e]
    simp only [Str.length_append, List.map_cons, List.sum_cons, List.length_cons, Nat.add_mul, Nat.one_mul] at ih ⊢
    omega
theorem text_le {z : Int} (h1 : -(100000000000000000000 : Int) ≤ z) (h2 : z ≤ 100000000000000000000) : z.natAbs.log2 < 1920 :=
  PySem.Flt.log2_lt_of (k := 1920) (by decide) (Nat.lt_of_le_of_lt (show z.natAbs ≤ 100000000000000000000 by omega) (Nat.lt_of_lt_of_le (show 100000000000000000000 < 2 ^ 70 by decide) (Nat.pow_le_pow_right (by decide) (by decide))))
theorem sum_le (b : Nat) : ∀ ys : List Nat, (∀ y ∈ ys, y ≤ b) → ys.sum ≤ ys.length * b
  | [], _ => by simp
  | y :: r, h => by
    have ih := sum_le b r fun z hz => h z (List.mem_cons_of_mem _ hz)
    have h0 := h y (List.mem_cons_self ..)
    rw [List.sum_cons, List.length_cons, Nat.add_mul]
    omega
theorem rowTx_fit {r : List Int} (hl : r.length ≤ 2) (h : ∀ z ∈ r, -(100000000000000000000 : Int) ≤ z ∧ z ≤ 100000000000000000000) :
    ((r.map fun z => (toString z : Str)).map (·.length)).sum + (r.map fun z => (toString z : Str)).length * (" " : Str).length ≤ 4000 := by
  have h1 : ((r.map fun z => (toString z : Str)).map (·.length)).sum ≤ ((r.map fun z => (toString z : Str)).map (·.length)).length * 1921 := sum_le 1921 _ fun y hy => by
    obtain ⟨t, ht, rfl⟩ := List.mem_map.mp hy
    obtain ⟨z, hz, rfl⟩ := List.mem_map.mp ht
    exact int_text_len_1921 (text_le (h z hz).1 (h z hz).2)
  have h2 : (" " : Str).length = 1 := rfl
  rw [h2]
  simp only [List.length_map] at h1 ⊢
  have h3 : r.length * 1921 ≤ 2 * 1921 := Nat.mul_le_mul_right _ hl
  omega
theorem tab_fit {n : Nat} {rows : List (List Int)} (hl : rows.length ≤ 2) (hn : n ≤ 2) (h : ∀ r ∈ rows, r.length = n ∧ ∀ z ∈ r, -(100000000000000000000 : Int) ≤ z ∧ z ≤ 100000000000000000000) :
    ((rows.map rowTx).map (·.length)).sum + (rows.map rowTx).length * (" / " : Str).length ≤ 16777216 := by
  have h1 : ((rows.map rowTx).map (·.length)).sum ≤ ((rows.map rowTx).map (·.length)).length * 4000 := sum_le 4000 _ fun y hy => by
    obtain ⟨t, ht, rfl⟩ := List.mem_map.mp hy
    obtain ⟨r, hr, rfl⟩ := List.mem_map.mp ht
    obtain ⟨a, b⟩ := h r hr
    exact Nat.le_trans (joinL_le _ _) (rowTx_fit (by omega) b)
  have h2 : (" / " : Str).length = 3 := rfl
  rw [h2]
  simp only [List.length_map] at h1 ⊢
  have h3 : rows.length * 4000 ≤ 2 * 4000 := Nat.mul_le_mul_right _ hl
  omega
/-! ### joins -/
def rJoin (K : Fg) : V → List V → Hp → VK → Prop := fun x xs H Q => ∃ a p, ∃ ys : List Str, x = .str a ∧ xs = [.ref p] ∧ (SqL K H p (ys.map V.str) ∨ SqT K H p (ys.map V.str)) ∧ (ys.map (·.length)).sum + ys.length * a.length ≤ 16777216 ∧ Q (.str (Txt.join a ys)) H
theorem pjoin {X : Cx} {o e : Expr} {to te : TE} {apos pos : Pos} (ho : PE X o to) (he : PE X e te) (hs : starEach [e] X.env = [(false, eval e X.env)] := by rfl) (hbase : attributeBase o "join" X.env (eval o X.env) = eval o X.env := by rfl) (hline : (apos.endLine == pos.line) = true := by rfl) :
    PE X (.Call (.Attribute o "join" apos) [e] [] pos) (tM1 (rJoin X.K) to te) := pe_join ho he hs hbase hline
/-- the same where the context is a comprehension's block: K told apart -/
theorem pjoinK {X : Cx} {K : Fg} (hK : X.K = K) {o e : Expr} {to te : TE} {apos pos : Pos} (ho : PE X o to) (he : PE X e te) (hs : starEach [e] X.env = [(false, eval e X.env)] := by rfl) (hbase : attributeBase o "join" X.env (eval o X.env) = eval o X.env := by rfl) (hline : (apos.endLine == pos.line) = true := by rfl) :
    PE X (.Call (.Attribute o "join" apos) [e] [] pos) (tM1 (rJoin K) to te) := by
  subst hK
  exact pe_join ho he hs hbase hline
theorem pi_tupK {X : Cx} {K : Fg} (hK : X.K = K) {tg l : Expr} {tl : TE} (h : PE X l tl) : PI X tg l (iTup K tl) := by
  subst hK
  exact pi_tup h
/-! ### Table.text -/
def lcScope : Expr → Scope
  | .ListComp _ _ sc _ => sc
  | _ => { kind := .function, names := [], isGenerator := false, isCoroutine := false }
def argOf : Expr → Expr
  | .Call _ (a :: _) _ _ => a
  | e => e
def retOf : List Stmt → Expr
  | [.Return (some e) _] => e
  | _ => .Name "?" ⟨0, 0, 0, 0⟩
section
variable {P : Program} {w : World} {K : Fg} {mg : Str → Option Value} {base : Heap}
def spText (K : Fg) : Sp := fun vs H Q _ => ∃ g n rows, vs = [.ref g] ∧ TableAt K H g n rows ∧ n ≤ 2 ∧ ∀ H', Same H H' → Q (.str (tabTx rows)) H'
abbrev scopeText : Scope := lcScope (argOf (retOf (defBody (inClass (tp 29) 3))))
theorem sc_text : FnScope ["self", "row", "number"] ["self"] (defScope (inClass (tp 29) 3)) := ⟨rfl, rfl, rfl, by decide +kernel, rfl, by decide +kernel, by decide +kernel⟩
theorem ok_text (T : Tx K mg) : Def P w K mg base 1 (gtr K "Table" "text") ["self"] (spText K) := by
  obtain ⟨fd, F⟩ := T.fn 11 _ rfl
  obtain ⟨tkP, mP⟩ := T.part
  refine Def.of F (F.ok sc_text (fun vs H Q E h => ?_) (fun cdv A outer s H vs Q E hr h => ?_)) (F.binds fun _ _ _ _ _ _ us hl => match us, hl with | [_], _ => rfl)
  · obtain ⟨g, n, rows, rfl, _⟩ := h
    rfl
  · obtain ⟨g, n, rows, rfl, ⟨dx, rt, hg, hR⟩, hn, hQ⟩ := h
    refine ⟨_, pss_one (ps_ret (pjoin (pe_glob rfl mP (v := .str " / ") ⟨_, rfl⟩)
      (pe_lc (own := [("row", 1)]) (g := gName 1) (tt := tYes) rfl sc_text.nd (pi_tup (pe_fld (pv 0) rfl)) (blkOk_by (N := ["self", "row", "number"]) (sc := defScope (inClass (tp 29) 3)) (by decide +kernel)) (fun _ _ _ _ _ => pg_name (i := 1) sc_text.nd rfl (Or.inl rfl)) (fun _ _ _ _ _ => pts_nil)
        (fun _ _ _ _ _ => pjoinK (K := K) rfl pe_str (pe_lc (own := [("number", 2)]) (g := gName 2) (tt := tYes) rfl sc_text.nd (pi_tupK (K := K) rfl (pv 1)) (blkOk_by (N := ["self", "row", "number"]) (sc := relS scopeText (defScope (inClass (tp 29) 3))) (by decide +kernel)) (fun _ _ _ _ _ => pg_name (i := 2) sc_text.nd rfl (Or.inl rfl)) (fun _ _ _ _ _ => pts_nil) (fun _ _ _ _ _ => pe_callTy call_str_int rfl (T.f "str") boot_str (pa_cons (pv 2) pa_nil))))))), ?_⟩
    obtain ⟨as, h1, h2, h3, h4⟩ := id hR
    refine ⟨⟨_, rfl⟩, _, rfl, g, _, dx, _, _, rfl, hg, T.c "Table", T.a "Table" "rows", look_here _ _ _, rt, rfl, ⟨_, SqT.of h1⟩, fun D nD => ?_⟩
    refine lc_it (walk_tup (K := K) (a := rt) (xs := as.map V.ref)) (fun i H' => Same H H' ∧ H' D = some (.lst ((rows.take i).map fun r => V.str (rowTx r)))) ⟨same_upd nD, by rw [upd_same]; simp⟩ (fun i H' _ q => SqT.of (q.1 _ _ h1)) ?_ ?_
    · rintro i x H3 H4 hi ⟨s3, hD⟩ ⟨rfl, hx⟩
      obtain ⟨a, ha, rfl⟩ := map_at hx
      obtain ⟨r, r1, r2, r3, r4⟩ := h4 i a ha
      have hA := s3 _ _ r2
      refine ⟨rfl, yesT ?_⟩
      refine ⟨⟨_, rfl⟩, _, rfl, a, rfl, ⟨_, SqT.of hA⟩, fun D2 nD2 => ?_⟩
      refine lc_it (walk_tup (K := K) (a := a) (xs := r.map V.int)) (fun j H' => Same H4 H' ∧ H' D2 = some (.lst (((r.take j).map fun z => (toString z : Str)).map V.str))) ⟨same_upd nD2, by rw [upd_same]; simp⟩ (fun j H' _ q => SqT.of (q.1 _ _ hA)) ?_ ?_
      · rintro j y H5 H6 hj ⟨s5, hD2⟩ ⟨rfl, hy⟩
        obtain ⟨z, hz, rfl⟩ := map_at hy
        obtain ⟨b1, b2⟩ := r4 z (List.mem_of_getElem? hz)
        have hj2 : j < r.length := (List.getElem?_eq_some_iff.mp hz).1
        refine ⟨rfl, yesT ?_⟩
        refine ⟨_, rfl, z, rfl, text_le b1 b2, _, hD2, ?_, same_new s5 nD2, ?_⟩
        · simp only [List.length_map, List.length_take]
          exact Nat.lt_of_le_of_lt (show min j r.length ≤ 2 by omega) (by decide)
        · rw [upd_same, List.take_add_one, hz]
          simp
      · rintro H5 ⟨s5, hD2⟩
        have e : r.take (r.map V.int).length = r := by rw [List.length_map, List.take_length]
        rw [e] at hD2
        refine ⟨_, D2, _, rfl, rfl, .inl (SqL.of hD2), Nat.le_trans (rowTx_fit (by omega) r4) (by decide), _, s5 _ _ hD, ?_, fun b o q => ?_, ?_⟩
        · simp only [List.length_map, List.length_take]
          exact Nat.lt_of_le_of_lt (show min i rows.length ≤ 2 by omega) (by decide)
        · rw [upd_ne (ne_of_none q nD)]
          exact s5 _ _ (s3 _ _ q)
        · rw [upd_same, List.take_add_one, r1]
          simp [rowTx]
    · rintro H3 ⟨s3, hD⟩
      have e : rows.take (as.map V.ref).length = rows := by rw [List.length_map, h2, ← h3, List.take_length]
      rw [e] at hD
      have hD' : H3 D = some (.lst ((rows.map rowTx).map V.str)) := by rw [hD]; simp
      refine ⟨_, D, _, rfl, rfl, .inl (SqL.of hD'), tab_fit (n := n) (by omega) hn fun r hr => ?_, hQ _ s3⟩
      obtain ⟨i, hi⟩ := List.mem_iff_getElem?.mp hr
      have li : i < as.length := by
        have := (List.getElem?_eq_some_iff.mp hi).1
        omega
      obtain ⟨r', q1, q2, q3, q4⟩ := h4 i as[i] (List.getElem?_eq_getElem li)
      rw [hi] at q1
      cases q1
      exact ⟨q3, q4⟩
end
end K46
end
section
set_option Elab.async false
set_option linter.all false
set_option autoImplicit false
set_option maxRecDepth 100000
set_option maxHeartbeats 4000000
/-! K46G: what a bench is: stages, loads; what is kept. -/
namespace K46
open PySem PySem.Spec PyProof.Rows L2
abbrev Load := List (Int × Int)
/-- a stand: a table's address and the load's fractions; the uppermost first -/
abbrev Std := Addr × Load
def stf (g wt bf : V) (d : Int) : List (Str × V) := [("grid", g), ("weight", wt), ("before", bf), ("depth", .int d)]
theorem stf_put (g wt bf : V) (d : Int) : putF "depth" (.int d) (putF "before" bf (putF "weight" wt (putF "grid" g []))) = stf g wt bf d := by
  have n1 : ¬ ("grid" : Str) = "weight" := by decide +kernel
  have n2 : ¬ ("grid" : Str) = "before" := by decide +kernel
  have n3 : ¬ ("weight" : Str) = "before" := by decide +kernel
  have n4 : ¬ ("grid" : Str) = "depth" := by decide +kernel
  have n5 : ¬ ("weight" : Str) = "depth" := by decide +kernel
  have n6 : ¬ ("before" : Str) = "depth" := by decide +kernel
  simp only [putF_nil, putF_on n1, putF_on n2, putF_on n3, putF_on n4, putF_on n5, putF_on n6]
  rfl
theorem stf_grid (g wt bf : V) (d : Int) : (stf g wt bf d).lookup ("grid" : Str) = some g := look_here _ _ _
theorem stf_weight (g wt bf : V) (d : Int) : (stf g wt bf d).lookup ("weight" : Str) = some wt := by
  unfold stf
  rw [look_on (by decide +kernel), look_here]
theorem stf_before (g wt bf : V) (d : Int) : (stf g wt bf d).lookup ("before" : Str) = some bf := by
  unfold stf
  rw [look_on (by decide +kernel), look_on (by decide +kernel), look_here]
theorem stf_depth (g wt bf : V) (d : Int) : (stf g wt bf d).lookup ("depth" : Str) = some (.int d) := by
  unfold stf
  rw [look_on (by decide +kernel), look_on (by decide +kernel), look_on (by decide +kernel), look_here]
/-- a tuple of fractions at wt -/
def LoadAt (K : Fg) (H : Hp) (wt : Addr) (qs : Load) : Prop := ∃ as : List Addr, SqT K H wt (as.map V.ref) ∧ as.length = qs.length ∧ ∀ (i : Nat) (a : Addr), as[i]? = some a → ∃ q, qs[i]? = some q ∧ PairT K H a q
/-- the stage at st and those ahead of it -/
def Chain (K : Fg) (H : Hp) : Addr → List Std → Prop
  | _, [] => False
  | st, d :: D => ∃ dx wt bf, H st = some (.ins (He.ga K "Stage") dx (stf (.ref d.1) (.ref wt) bf (D.length : Int))) ∧ LoadAt K H wt d.2 ∧ ((D = [] ∧ bf = .non) ∨ ∃ st', bf = .ref st' ∧ Chain K H st' D)
def BenchAt (K : Fg) (H : Hp) (b : Addr) (D : List Std) : Prop := ∃ dx st, H b = some (.ins (He.ga K "Bench") dx [("stage", .ref st)]) ∧ Chain K H st D
/-- one of the law's stands -/
def StAt (K : Fg) (H : Hp) (s : Addr) (d : Std) : Prop := ∃ wt, H s = some (.lst [.ref wt, .ref d.1]) ∧ LoadAt K H wt d.2
def StandsAt (K : Fg) (H : Hp) (l : Addr) (D : List Std) : Prop := ∃ ss : List Addr, H l = some (.lst (ss.reverse.map V.ref)) ∧ Paired (StAt K H) ss D
/-- what may be changed: a bench, a well, a list of notes, a table of code objects -/
inductive Mutb : HO → Prop where
  | bench (C dx : Addr) (v : V) : Mutb (.ins C dx [("stage", v)])
  | well (a b : Int) : Mutb (.lst [.int a, .int b])
  | notes (bs : List Bool) : Mutb (.lst (bs.map V.bl))
  | table (ps : Array Value) : Mutb (.tbl ps)
def WrS (H : Hp) (S : List Addr) : Prop := ∀ b ∈ S, ∃ o, H b = some o ∧ Mutb o
theorem WrS.no {H : Hp} {S : List Addr} {a : Addr} {o : HO} (w : WrS H S) (h : H a = some o) (n : ¬ Mutb o) : a ∉ S := fun z => by
  obtain ⟨u, e, m⟩ := w a z
  rw [h] at e
  cases e
  exact n m
theorem no_tup {xs : List V} : ¬ Mutb (.tup xs) := fun m => by cases m
theorem no_stage {C dx : Addr} {g wt bf : V} {d : Int} : ¬ Mutb (.ins C dx (stf g wt bf d)) := fun m => by
  unfold stf at m
  cases m
theorem no_rows {C dx : Addr} {v : V} : ¬ Mutb (.ins C dx [("rows", v)]) := fun m => by
  generalize e : (HO.ins C dx [("rows", v)]) = o at m
  cases m with
  | bench C' dx' v' =>
    injection e with e1 e2 e3
    injection e3 with e4 e5
    have q : ("rows" : Str) = "stage" := congrArg Prod.fst e4
    exact absurd q (by decide +kernel)
  | well a b => cases e
  | notes bs => cases e
  | table ps => cases e
theorem no_pair {a b : Addr} : ¬ Mutb (.lst [.ref a, .ref b]) := fun m => by
  generalize e : (HO.lst [.ref a, .ref b]) = o at m
  cases m with
  | bench C' dx' v' => cases e
  | well a b => cases e
  | notes bs =>
    injection e with e
    cases bs with
    | nil => cases e
    | cons x r => injection e with e1 e2; cases e1
  | table ps => cases e
theorem no_refs {a : Addr} {r : List Addr} : ¬ Mutb (.lst ((a :: r).map V.ref)) := fun m => by
  generalize e : (HO.lst ((a :: r).map V.ref)) = o at m
  cases m with
  | bench C' dx' v' => cases e
  | well a b =>
    injection e with e
    cases e
  | notes bs =>
    injection e with e
    cases bs with
    | nil => cases e
    | cons x r => injection e with e1 e2; cases e1
  | table ps => cases e
theorem sqt_kp {K : Fg} {H H' : Hp} {S : List Addr} {a : Addr} {xs : List V} (h : SqT K H a xs) (k : Kp S H H') (w : WrS H S) : SqT K H' a xs := by
  rcases h with (h | ⟨o, h⟩) | h
  · exact .inl (.inl (k _ _ h (w.no h no_tup)))
  · exact .inl (.inr ⟨o, k _ _ h (w.no h fun m => by cases m)⟩)
  · exact .inr h
section
variable {K : Fg} {H H' : Hp} {S : List Addr}
theorem LoadAt.kp {wt : Addr} {qs : Load} (h : LoadAt K H wt qs) (k : Kp S H H') (w : WrS H S) : LoadAt K H' wt qs := by
  obtain ⟨as, h1, h2, h3⟩ := h
  refine ⟨as, sqt_kp h1 k w, h2, fun i a e => ?_⟩
  obtain ⟨q, e1, e2⟩ := h3 i a e
  exact ⟨q, e1, sqt_kp e2 k w⟩
theorem Chain.kp (k : Kp S H H') (w : WrS H S) : ∀ {D : List Std} {st : Addr}, Chain K H st D → Chain K H' st D
  | [], _, h => h
  | d :: D, st, h => by
    obtain ⟨dx, wt, bf, h1, h2, h3⟩ := h
    refine ⟨dx, wt, bf, k _ _ h1 (w.no h1 no_stage), h2.kp k w, ?_⟩
    rcases h3 with h3 | ⟨st', e, h3⟩
    · exact .inl h3
    · exact .inr ⟨st', e, Chain.kp k w h3⟩
theorem BenchAt.kp {b : Addr} {D : List Std} (h : BenchAt K H b D) (k : Kp S H H') (w : WrS H S) (hb : b ∉ S) : BenchAt K H' b D := by
  obtain ⟨dx, st, h1, h2⟩ := h
  exact ⟨dx, st, k _ _ h1 hb, h2.kp k w⟩
theorem StAt.kp {s : Addr} {d : Std} (h : StAt K H s d) (k : Kp S H H') (w : WrS H S) : StAt K H' s d := by
  obtain ⟨wt, h1, h2⟩ := h
  exact ⟨wt, k _ _ h1 (w.no h1 no_pair), h2.kp k w⟩
theorem paired_kp {α β : Type} {F G : α → β → Prop} (f : ∀ a b, F a b → G a b) : ∀ {l : List α} {r : List β}, Paired F l r → Paired G l r
  | _, _, .nil => .nil
  | _, _, .cons h t => .cons (f _ _ h) (paired_kp f t)
theorem StandsAt.kp {l : Addr} {D : List Std} (h : StandsAt K H l D) (k : Kp S H H') (w : WrS H S) (hD : D ≠ []) : StandsAt K H' l D := by
  obtain ⟨ss, h1, h2⟩ := h
  have hl : l ∉ S := by
    cases e : ss.reverse with
    | nil =>
      have e2 : ss = [] := List.reverse_eq_nil_iff.mp e
      subst e2
      cases h2
      exact absurd rfl hD
    | cons a r =>
      rw [e] at h1
      exact w.no h1 no_refs
  exact ⟨ss, k _ _ h1 hl, paired_kp (fun a b h => h.kp k w) h2⟩
theorem TableAt.kw {g : Addr} {n : Nat} {rows : List (List Int)} (t : TableAt K H g n rows) (k : Kp S H H') (w : WrS H S) : TableAt K H' g n rows := by
  refine t.kp k ?_ fun b hb ys e => ?_
  · obtain ⟨dx, rt, h1, _⟩ := t
    exact w.no h1 no_rows
  · exact w.no e no_tup hb
end
end K46
end
section
set_option Elab.async false
set_option linter.all false
set_option autoImplicit false
set_option maxRecDepth 100000
set_option maxHeartbeats 4000000
/-! K46H: the classes Stage, Mark, Trial. -/
namespace K46
open PySem PySem.Spec PyProof.Rows L2
section
variable {P : Program} {w : World} {K : Fg} {mg : Str → Option Value} {base : Heap}
def spStI (K : Fg) : Sp := fun vs H Q _ => ∃ (p : Addr) (g wt bf : V) (dx : Addr) (d : Int), vs = [.ref p, g, wt, bf] ∧ H p = some (.ins (He.ga K "Stage") dx []) ∧
  ((bf = .non ∧ d = 0) ∨ ∃ (st' dx' : Addr) (g' w' b' : V) (k : Int), bf = .ref st' ∧ H st' = some (.ins (He.ga K "Stage") dx' (stf g' w' b' k)) ∧ d = k + 1) ∧
  ∀ H', H' p = some (.ins (He.ga K "Stage") dx (stf g wt bf d)) → (∀ b o, H b = some o → b ≠ p → H' b = some o) → Q .non H'
theorem sc_stI : FnScope ["self", "grid", "weight", "before"] ["self", "grid", "weight", "before"] (defScope (inClass (tp 34) 0)) := ⟨rfl, rfl, rfl, by decide +kernel, rfl, by decide +kernel, by decide +kernel⟩
theorem ok_stI (T : Tx K mg) : Def P w K mg base 1 (He.ma K (He.ga K "Stage") "__init__") ["self", "grid", "weight", "before"] (spStI K) := by
  obtain ⟨fd, F⟩ := T.fn 13 _ rfl
  refine Def.of F (F.ok sc_stI (fun vs H Q E h => ?_) (fun cdv A outer s H vs Q E hr h => ?_)) (F.binds fun _ _ _ _ _ _ us hl => match us, hl with | [_, _, _, _], _ => rfl)
  · obtain ⟨p, g, wt, bf, dx, d, rfl, _⟩ := h
    rfl
  · obtain ⟨p, g, wt, bf, dx, d, rfl, hp, hb, hQ⟩ := h
    refine ⟨_, pss_cons (ps_fld (pv 0) (pv 1) rfl) (pss_cons (ps_fld (pv 0) (pv 2) rfl) (pss_cons (ps_fld (pv 0) (pv 3) rfl)
      (pss_one (ps_fld (pv 0) (pe_ifExp (pt_cmpR op_isN (pv 3) pe_non (nomark _)) pe_int (pe_op op_add (pe_fld (pv 3) rfl) pe_int)) rfl)))), ?_⟩
    refine ⟨_, rfl, _, rfl, p, _, dx, _, rfl, hp, T.c "Stage", T.a "Stage" "grid", by show 0 < 1000; decide, ?_⟩
    refine ⟨_, rfl, _, rfl, p, _, dx, _, rfl, upd_same, T.c "Stage", T.a "Stage" "weight", by show 1 < 1000; decide, ?_⟩
    refine ⟨_, rfl, _, rfl, p, _, dx, _, rfl, upd_same, T.c "Stage", T.a "Stage" "before", Nat.lt_of_le_of_lt (length_putF _ _ _) (by show 2 < 1000; decide), ?_⟩
    have fin : ∀ (d' : Int), d' = d → sFld K (tVar 0) (tC (.int d')) "depth" { nx := fun _ H' => Q .non H', rt := Q } (start ["self", "grid", "weight", "before"] [V.ref p, g, wt, bf])
        (upd (upd (upd H p (.ins (He.ga K "Stage") dx (putF "grid" g []))) p (.ins (He.ga K "Stage") dx (putF "weight" wt (putF "grid" g [])))) p (.ins (He.ga K "Stage") dx (putF "before" bf (putF "weight" wt (putF "grid" g []))))) := by
      rintro d' rfl
      refine ⟨_, rfl, p, _, dx, _, rfl, upd_same, T.c "Stage", T.a "Stage" "depth", Nat.lt_of_le_of_lt (length_putF _ _ _) (Nat.lt_of_le_of_lt (Nat.succ_le_succ (length_putF _ _ _)) (by show 3 < 1000; decide)), ?_⟩
      rw [stf_put]
      exact hQ _ upd_same fun b o e n => by rw [upd_ne n, upd_ne n, upd_ne n, upd_ne n]; exact e
    rcases hb with ⟨rfl, rfl⟩ | ⟨st', dx', g', w', b', k, rfl, hs, rfl⟩
    · refine ⟨_, rfl, rfl, _, rfl, ?_⟩
      rw [decide_eq_true (rfl : V.non = V.non)]
      exact iteT (fin 0 rfl)
    · refine ⟨_, rfl, rfl, _, rfl, ?_⟩
      rw [decide_eq_false (by simp : ¬ V.ref st' = V.non)]
      have ne : st' ≠ p := ne_of hs hp (fun q => by injection q with _ _ e; unfold stf at e; cases e)
      refine iteF ⟨_, rfl, st', _, dx', stf g' w' b' k, .int k, rfl, ?_, T.c "Stage", T.a "Stage" "depth", stf_depth g' w' b' k, _, _, rfl, rfl, fin _ rfl⟩
      rw [upd_ne ne, upd_ne ne, upd_ne ne]
      exact hs

def mkf (s o : V) : List (Str × V) := [("stage", s), ("other", o)]
theorem mkf_put (s o : V) : putF "other" o (putF "stage" s []) = mkf s o := by
  simp only [putF_nil, putF_on (show ¬ ("stage" : Str) = "other" by decide +kernel)]
  rfl
theorem mkf_stage (s o : V) : (mkf s o).lookup ("stage" : Str) = some s := look_here _ _ _
theorem mkf_other (s o : V) : (mkf s o).lookup ("other" : Str) = some o := by
  unfold mkf
  rw [look_on (by decide +kernel), look_here]
def trf (b m : V) : List (Str × V) := [("bench", b), ("mark", m)]
theorem trf_put (b m : V) : putF "mark" m (putF "bench" b []) = trf b m := by
  simp only [putF_nil, putF_on (show ¬ ("bench" : Str) = "mark" by decide +kernel)]
  rfl
theorem trf_set (b m m' : V) : putF "mark" m' (trf b m) = trf b m' := by
  unfold trf
  rw [putF_on (by decide +kernel), putF_here]
theorem trf_bench (b m : V) : (trf b m).lookup ("bench" : Str) = some b := look_here _ _ _
theorem trf_mark (b m : V) : (trf b m).lookup ("mark" : Str) = some m := by
  unfold trf
  rw [look_on (by decide +kernel), look_here]
/-- an object of two fields made by its __init__ -/
def spMkI (K : Fg) : Sp := fun vs H Q _ => ∃ (p : Addr) (s o : V) (dx : Addr), vs = [.ref p, s, o] ∧ H p = some (.ins (He.ga K "Mark") dx []) ∧
  ∀ H', H' p = some (.ins (He.ga K "Mark") dx (mkf s o)) → (∀ b u, H b = some u → b ≠ p → H' b = some u) → Q .non H'
theorem sc_mkI : FnScope ["self", "stage", "other"] ["self", "stage", "other"] (defScope (inClass (tp 35) 0)) := ⟨rfl, rfl, rfl, by decide +kernel, rfl, by decide +kernel, by decide +kernel⟩
theorem ok_mkI (T : Tx K mg) : Def P w K mg base 1 (He.ma K (He.ga K "Mark") "__init__") ["self", "stage", "other"] (spMkI K) := by
  obtain ⟨fd, F⟩ := T.fn 14 _ rfl
  refine Def.of F (F.ok sc_mkI (fun vs H Q E h => ?_) (fun cdv A outer s H vs Q E hr h => ?_)) (F.binds fun _ _ _ _ _ _ us hl => match us, hl with | [_, _, _], _ => rfl)
  · obtain ⟨p, s, o, dx, rfl, _⟩ := h
    rfl
  · obtain ⟨p, s, o, dx, rfl, hp, hQ⟩ := h
    refine ⟨_, pss_cons (ps_fld (pv 0) (pv 1) rfl) (pss_one (ps_fld (pv 0) (pv 2) rfl)), ?_⟩
    refine ⟨_, rfl, _, rfl, p, _, dx, _, rfl, hp, T.c "Mark", T.a "Mark" "stage", by show 0 < 1000; decide, ?_⟩
    refine ⟨_, rfl, _, rfl, p, _, dx, _, rfl, upd_same, T.c "Mark", T.a "Mark" "other", by show 1 < 1000; decide, ?_⟩
    rw [mkf_put]
    exact hQ _ upd_same fun b u e n => by rw [upd_ne n, upd_ne n]; exact e
def spTrI (K : Fg) : Sp := fun vs H Q _ => ∃ (p : Addr) (b : V) (dx : Addr), vs = [.ref p, b] ∧ H p = some (.ins (He.ga K "Trial") dx []) ∧
  ∀ H', H' p = some (.ins (He.ga K "Trial") dx (trf b .non)) → (∀ b u, H b = some u → b ≠ p → H' b = some u) → Q .non H'
theorem sc_trI : FnScope ["self", "bench"] ["self", "bench"] (defScope (inClass (tp 36) 0)) := ⟨rfl, rfl, rfl, by decide +kernel, rfl, by decide +kernel, by decide +kernel⟩
theorem ok_trI (T : Tx K mg) : Def P w K mg base 1 (He.ma K (He.ga K "Trial") "__init__") ["self", "bench"] (spTrI K) := by
  obtain ⟨fd, F⟩ := T.fn 15 _ rfl
  refine Def.of F (F.ok sc_trI (fun vs H Q E h => ?_) (fun cdv A outer s H vs Q E hr h => ?_)) (F.binds fun _ _ _ _ _ _ us hl => match us, hl with | [_, _], _ => rfl)
  · obtain ⟨p, b, dx, rfl, _⟩ := h
    rfl
  · obtain ⟨p, b, dx, rfl, hp, hQ⟩ := h
    refine ⟨_, pss_cons (ps_fld (pv 0) (pv 1) rfl) (pss_one (ps_fld (pv 0) pe_non rfl)), ?_⟩
    refine ⟨_, rfl, _, rfl, p, _, dx, _, rfl, hp, T.c "Trial", T.a "Trial" "bench", by show 0 < 1000; decide, ?_⟩
    refine ⟨_, rfl, p, _, dx, _, rfl, upd_same, T.c "Trial", T.a "Trial" "mark", by show 1 < 1000; decide, ?_⟩
    rw [trf_put]
    exact hQ _ upd_same fun b u e n => by rw [upd_ne n, upd_ne n]; exact e
/-- __enter__: a new mark is laid in the trial -/
def spEnt (K : Fg) : Sp := fun vs H Q _ => ∃ (t b dt db : Addr) (s m : V), vs = [.ref t] ∧ H t = some (.ins (He.ga K "Trial") dt (trf (.ref b) m)) ∧ H b = some (.ins (He.ga K "Bench") db [("stage", s)]) ∧
  ∀ (k dk : Addr) (H' : Hp), H k = none → H' k = some (.ins (He.ga K "Mark") dk (mkf s m)) → H' t = some (.ins (He.ga K "Trial") dt (trf (.ref b) (.ref k))) → (∀ c u, H c = some u → c ≠ t → H' c = some u) → Q (.ref b) H'
theorem sc_ent : FnScope ["self"] ["self"] (defScope (inClass (tp 36) 1)) := ⟨rfl, rfl, rfl, by decide +kernel, rfl, by decide +kernel, by decide +kernel⟩
theorem ok_ent (T : Tx K mg) : Def P w K mg base 3 (He.ma K (He.ga K "Trial") "__enter__") ["self"] (spEnt K) := by
  obtain ⟨fd, F⟩ := T.fn 16 _ rfl
  refine Def.of F (F.ok sc_ent (fun vs H Q E h => ?_) (fun cdv A outer s H vs Q E hr h => ?_)) (F.binds fun _ _ _ _ _ _ us hl => match us, hl with | [_], _ => rfl)
  · obtain ⟨t, b, dt, db, s, m, rfl, _⟩ := h
    rfl
  · obtain ⟨t, b, dt, db, s, m, rfl, ht, hb, hQ⟩ := h
    refine ⟨_, pss_cons (ps_fld (pv 0) (pmake (T.k "Mark") (ok_mkI T) (T.g "Mark") hr (pa_cons (pe_fld (pe_fld (pv 0) rfl) rfl) (pa_cons (pe_fld (pv 0) rfl) pa_nil))) rfl) (pss_one (ps_ret (pe_fld (pv 0) rfl))), ?_⟩
    refine ⟨_, rfl, t, _, dt, _, _, rfl, ht, T.c "Trial", T.a "Trial" "bench", trf_bench _ _, b, _, db, _, _, rfl, hb, T.c "Bench", T.a "Bench" "stage", look_here _ _ _, ?_⟩
    refine ⟨_, rfl, t, _, dt, _, _, rfl, ht, T.c "Trial", T.a "Trial" "mark", trf_mark _ _, ?_⟩
    intro k dk nk ndk nek
    refine ⟨k, s, m, dk, rfl, upd_same, fun H1 h1 e1 => ⟨rfl, ?_⟩⟩
    have kp1 : ∀ c u, H c = some u → H1 c = some u := fun c u e => e1 c u (by rw [upd_ne (ne_of_none e nk), upd_ne (ne_of_none e ndk)]; exact e) (ne_of_none e nk)
    have ht1 := kp1 _ _ ht
    have ntk : t ≠ k := ne_of_none ht nk
    refine ⟨_, rfl, t, _, dt, _, rfl, ht1, T.c "Trial", T.a "Trial" "mark", by show 2 < 1000; decide, ?_⟩
    rw [trf_set]
    refine ⟨_, rfl, t, _, dt, _, _, rfl, upd_same, T.c "Trial", T.a "Trial" "bench", trf_bench _ _, ?_⟩
    exact hQ k dk _ nk (by rw [upd_ne ntk.symm]; exact h1) upd_same fun c u e n => by rw [upd_ne n]; exact kp1 c u e
/-- __exit__: the bench's stage is the mark's again -/
def spExi (K : Fg) : Sp := fun vs H Q _ => ∃ (t b k dt db dk : Addr) (v1 v2 v3 s s' m : V), vs = [.ref t, v1, v2, v3] ∧ H t = some (.ins (He.ga K "Trial") dt (trf (.ref b) (.ref k))) ∧ H k = some (.ins (He.ga K "Mark") dk (mkf s m)) ∧
  H b = some (.ins (He.ga K "Bench") db [("stage", s')]) ∧ ∀ H', H' b = some (.ins (He.ga K "Bench") db [("stage", s)]) → (∀ c u, H c = some u → c ≠ t → c ≠ b → H' c = some u) → Q (.bl false) H'
theorem sc_exi : FnScope ["self", "kind", "value", "trace"] ["self", "kind", "value", "trace"] (defScope (inClass (tp 36) 2)) := ⟨rfl, rfl, rfl, by decide +kernel, rfl, by decide +kernel, by decide +kernel⟩
theorem ok_exi (T : Tx K mg) : Def P w K mg base 1 (He.ma K (He.ga K "Trial") "__exit__") ["self", "kind", "value", "trace"] (spExi K) := by
  obtain ⟨fd, F⟩ := T.fn 17 _ rfl
  refine Def.of F (F.ok sc_exi (fun vs H Q E h => ?_) (fun cdv A outer s H vs Q E hr h => ?_)) (F.binds fun _ _ _ _ _ _ us hl => match us, hl with | [_, _, _, _], _ => rfl)
  · obtain ⟨t, b, k, dt, db, dk, v1, v2, v3, s, s', m, rfl, _⟩ := h
    rfl
  · obtain ⟨t, b, k, dt, db, dk, v1, v2, v3, s, s', m, rfl, ht, hk, hb, hQ⟩ := h
    refine ⟨_, pss_cons (ps_fld (pe_fld (pv 0) rfl) (pe_fld (pe_fld (pv 0) rfl) rfl) rfl) (pss_cons (ps_fld (pv 0) (pe_fld (pe_fld (pv 0) rfl) rfl) rfl) (pss_one (ps_ret pe_bl))), ?_⟩
    have nbt : b ≠ t := ne_of hb ht (fun q => by injection q with _ _ e; unfold trf at e; cases e)
    have nbk : b ≠ k := ne_of hb hk (fun q => by injection q with _ _ e; unfold mkf at e; cases e)
    refine ⟨_, rfl, t, _, dt, _, _, rfl, ht, T.c "Trial", T.a "Trial" "mark", trf_mark _ _, k, _, dk, _, _, rfl, hk, T.c "Mark", T.a "Mark" "stage", mkf_stage _ _, ?_⟩
    refine ⟨_, rfl, t, _, dt, _, _, rfl, ht, T.c "Trial", T.a "Trial" "bench", trf_bench _ _, b, _, db, _, rfl, hb, T.c "Bench", T.a "Bench" "stage", by show 1 < 1000; decide, ?_⟩
    rw [putF_here]
    have ht2 : upd H b (.ins (He.ga K "Bench") db [("stage", s)]) t = some (.ins (He.ga K "Trial") dt (trf (.ref b) (.ref k))) := by rw [upd_ne nbt.symm]; exact ht
    have hk2 : upd H b (.ins (He.ga K "Bench") db [("stage", s)]) k = some (.ins (He.ga K "Mark") dk (mkf s m)) := by rw [upd_ne nbk.symm]; exact hk
    refine ⟨_, rfl, t, _, dt, _, _, rfl, ht2, T.c "Trial", T.a "Trial" "mark", trf_mark _ _, k, _, dk, _, _, rfl, hk2, T.c "Mark", T.a "Mark" "other", mkf_other _ _, ?_⟩
    refine ⟨_, rfl, t, _, dt, _, rfl, ht2, T.c "Trial", T.a "Trial" "mark", by show 2 < 1000; decide, ?_⟩
    rw [trf_set]
    exact hQ _ (by rw [upd_ne nbt]; exact upd_same) fun c u e n1 n2 => by rw [upd_ne n1, upd_ne n2]; exact e
end
end K46
end
section
set_option Elab.async false
set_option linter.all false
set_option autoImplicit false
set_option maxRecDepth 100000
set_option maxHeartbeats 4000000
/-! K46I: the class Bench, but tried. -/
namespace K46
open PySem PySem.Spec PyProof.Rows L2
theorem wr_bench {H : Hp} {b C dx : Addr} {v : V} (h : H b = some (.ins C dx [("stage", v)])) : WrS H [b] := fun c hc => by
  rw [List.mem_singleton.mp hc]
  exact ⟨_, h, .bench _ _ _⟩
theorem wr_nil {H : Hp} : WrS H [] := fun c hc => by cases hc
theorem kp_upd {H H1 : Hp} {b : Addr} {o : HO} (s : Same H H1) : Kp [b] H (upd H1 b o) := fun c u e n => by
  rw [upd_ne (by simpa using n)]
  exact s c u e
theorem Chain.ne {K : Fg} {H : Hp} {st : Addr} {D : List Std} (h : Chain K H st D) : D ≠ [] := fun e => by
  subst e
  exact h
theorem BenchAt.ne {K : Fg} {H : Hp} {b : Addr} {D : List Std} (h : BenchAt K H b D) : D ≠ [] := by
  obtain ⟨_, _, _, h⟩ := h
  exact h.ne
theorem bench_push {K : Fg} {H H4 : Hp} {b dx st st' dx' g wt : Addr} {D : List Std} {qs : Load} (hb : H b = some (.ins (He.ga K "Bench") dx [("stage", .ref st)])) (hC : Chain K H st D) (s : Same H H4)
    (hS : H4 st' = some (.ins (He.ga K "Stage") dx' (stf (.ref g) (.ref wt) (.ref st) (D.length : Int)))) (hL : LoadAt K H4 wt qs) : BenchAt K (upd H4 b (.ins (He.ga K "Bench") dx [("stage", .ref st')])) b ((g, qs) :: D) := by
  have k : Kp [b] H4 (upd H4 b (.ins (He.ga K "Bench") dx [("stage", .ref st')])) := kp_upd (Same.refl _)
  have w := wr_bench (s _ _ hb)
  exact ⟨dx, st', upd_same, dx', wt, .ref st, k _ _ hS (w.no hS no_stage), hL.kp k w, .inr ⟨st, rfl, (hC.kp (Kp.of (S := []) s) wr_nil).kp k w⟩⟩
section
variable {P : Program} {w : World} {K : Fg} {mg : Str → Option Value} {base : Heap}
def zeros (n : Nat) : Load := List.replicate n (0, 1)
def spBnI (K : Fg) : Sp := fun vs H Q _ => ∃ (p g dx : Addr) (n : Nat) (rows : List (List Int)), vs = [.ref p, .ref g] ∧ H p = some (.ins (He.ga K "Bench") dx []) ∧ TableAt K H g n rows ∧ n ≤ 2 ∧
  ∀ H', BenchAt K H' p [(g, zeros n)] → (∀ c u, H c = some u → c ≠ p → H' c = some u) → Q .non H'
theorem sc_bnI : FnScope ["self", "table", "row"] ["self", "table"] (defScope (inClass (tp 37) 0)) := ⟨rfl, rfl, rfl, by decide +kernel, rfl, by decide +kernel, by decide +kernel⟩
theorem ok_bnI (T : Tx K mg) : Def P w K mg base 3 (He.ma K (He.ga K "Bench") "__init__") ["self", "table"] (spBnI K) := by
  obtain ⟨fd, F⟩ := T.fn 18 _ rfl
  refine Def.of F (F.ok sc_bnI (fun vs H Q E h => ?_) (fun cdv A outer s H vs Q E hr h => ?_)) (F.binds fun _ _ _ _ _ _ us hl => match us, hl with | [_, _], _ => rfl)
  · obtain ⟨p, g, dx, n, rows, rfl, _⟩ := h
    rfl
  · obtain ⟨p, g, dx, n, rows, rfl, hp, ⟨dg, rt, hg, hR⟩, hn, hQ⟩ := h
    refine ⟨_, pss_cons (ps_expr (pcall (ok_chT T) (T.g "check_table") hr (pa_cons (pv 1) pa_nil))) (pss_one (ps_fld (pv 0) (pmake (T.k "Stage") (ok_stI T) (T.g "Stage") hr (pa_cons (pv 1) (pa_cons (pe_callTy call_tuple_of rfl (T.f "tuple") boot_tuple (pa_cons
      (pe_lc (own := [("row", 2)]) (g := gName 2) (tt := tYes) rfl sc_bnI.nd (pi_tup (pe_fld (pv 1) rfl)) (blkOk_by (N := ["self", "table", "row"]) (sc := defScope (inClass (tp 37) 0)) (by decide +kernel)) (fun _ _ _ _ _ => pg_name (i := 2) sc_bnI.nd rfl (Or.inl rfl)) (fun _ _ _ _ _ => pts_nil)
        (fun _ _ _ _ _ => pe_glob rfl (T.g "NONE") (v := .ref (He.ga K "NONE")) rfl)) pa_nil)) (pa_cons pe_non pa_nil)))) rfl)), ?_⟩
    obtain ⟨as, h1, h2, h3, h4⟩ := id hR
    refine ⟨_, rfl, g, dg, _, rfl, hg, ?_⟩
    refine ⟨_, rfl, _, rfl, g, _, dg, _, _, rfl, hg, T.c "Table", T.a "Table" "rows", look_here _ _ _, rt, rfl, ⟨_, SqT.of h1⟩, fun D nD => ?_⟩
    refine lc_it (walk_tup (K := K) (a := rt) (xs := as.map V.ref)) (fun i H' => Same H H' ∧ H' D = some (.lst ((List.replicate i (He.ga K "NONE")).map V.ref))) ⟨same_upd nD, by rw [upd_same]; simp⟩ (fun i H' _ q => SqT.of (q.1 _ _ h1)) ?_ ?_
    · rintro i x H3 H4 hi ⟨s3, hD⟩ ⟨rfl, hx⟩
      rw [List.length_map, h2] at hi
      refine ⟨rfl, yesT ⟨_, hD, ?_, same_new s3 nD, ?_⟩⟩
      · simp only [List.length_map, List.length_replicate]
        exact Nat.lt_of_le_of_lt (show i ≤ 2 by omega) (by decide)
      · rw [upd_same, List.replicate_succ', List.map_append]
        rfl
    · rintro H3 ⟨s3, hD⟩
      rw [List.length_map, h2] at hD
      refine ⟨D, _, rfl, .inl ⟨SqL.of hD, fun wt nw => ?_⟩⟩
      intro st ds nst nds nes
      have s4 : Same H (upd H3 wt (.tup ((List.replicate n (He.ga K "NONE")).map V.ref))) := same_then s3 nw
      refine ⟨st, .ref g, .ref wt, .non, ds, 0, rfl, upd_same, .inl ⟨rfl, rfl⟩, fun H5 h5 k5 => ⟨rfl, ?_⟩⟩
      have s5 : Same (upd H3 wt (.tup ((List.replicate n (He.ga K "NONE")).map V.ref))) H5 := Same.made nst nds k5
      have hp5 := s5 _ _ (s4 _ _ hp)
      refine ⟨_, rfl, p, _, dx, _, rfl, hp5, T.c "Bench", T.a "Bench" "stage", by show 0 < 1000; decide, ?_⟩
      rw [putF_nil]
      have hw5 : H5 wt = some (.tup ((List.replicate n (He.ga K "NONE")).map V.ref)) := s5 _ _ upd_same
      have nsp : st ≠ p := ne_of h5 hp5 (fun q => by injection q with _ _ e; unfold stf at e; cases e)
      have nwp : wt ≠ p := ne_of hw5 hp5 (fun q => by cases q)
      refine hQ _ ⟨dx, st, upd_same, ds, wt, .non, ?_, ⟨List.replicate n (He.ga K "NONE"), SqT.of (by rw [upd_ne nwp]; exact hw5), by simp [zeros], fun i a e => ?_⟩, .inl ⟨rfl, rfl⟩⟩ fun c u e n => by rw [upd_ne n]; exact s5 _ _ (s4 _ _ e)
      · rw [upd_ne nsp]
        exact h5
      · obtain ⟨hi, e2⟩ := List.getElem?_eq_some_iff.mp e
        rw [List.getElem_replicate] at e2
        subst e2
        rw [List.length_replicate] at hi
        exact ⟨(0, 1), by simp [zeros, List.getElem?_replicate, hi], T.none_ _⟩

/-- moved: one stage more, one fraction another -/
def spMov (K : Fg) : Sp := fun vs H Q _ => ∃ (b a : Addr) (i : Nat) (d : Std) (D : List Std) (q : Int × Int), vs = [.ref b, .int i, .ref a] ∧ BenchAt K H b (d :: D) ∧ i < d.2.length ∧ d.2.length ≤ 2 ∧ PairT K H a q ∧
  ∀ H', BenchAt K H' b ((d.1, d.2.set i q) :: d :: D) → Kp [b] H H' → Q .non H'
theorem sc_mov : FnScope ["self", "place", "number", "load"] ["self", "place", "number"] (defScope (inClass (tp 37) 1)) := ⟨rfl, rfl, rfl, by decide +kernel, rfl, by decide +kernel, by decide +kernel⟩
theorem ok_mov (T : Tx K mg) : Def P w K mg base 3 (He.ma K (He.ga K "Bench") "moved") ["self", "place", "number"] (spMov K) := by
  obtain ⟨fd, F⟩ := T.fn 19 _ rfl
  refine Def.of F (F.ok sc_mov (fun vs H Q E h => ?_) (fun cdv A outer s H vs Q E hr h => ?_)) (F.binds fun _ _ _ _ _ _ us hl => match us, hl with | [_, _, _], _ => rfl)
  · obtain ⟨b, a, i, d, D, q, rfl, _⟩ := h
    rfl
  · obtain ⟨b, a, i, d, D, q, rfl, ⟨dx, st, hb, hC⟩, hi, hl2, ha, hQ⟩ := h
    refine ⟨_, pss_cons (ps_set (i := 3) sc_mov.nd rfl (.inl rfl) (pe_fld (pe_fld (pv 0) rfl) rfl)) (pss_one (ps_fld (pv 0) (pmake (T.k "Stage") (ok_stI T) (T.g "Stage") hr (pa_cons (pe_fld (pe_fld (pv 0) rfl) rfl)
      (pa_cons (pe_tup (StX.pa_star (pe_slice sl_tup (pv 3) po_none (po_some (pv 1))) (pa_cons (pv 2) (StX.pa_star (pe_slice sl_tup (pv 3) (po_some (pe_op op_add (pv 1) pe_int)) po_none) pa_nil))))
      (pa_cons (pe_fld (pv 0) rfl) pa_nil)))) rfl)), ?_⟩
    obtain ⟨ds, wt, bf, hs, ⟨as, w1, w2, w3⟩, hrest⟩ := id hC
    have cB := T.c "Bench"
    have aB := T.a "Bench" "stage"
    have cS := T.c "Stage"
    refine ⟨_, rfl, b, _, dx, _, _, rfl, hb, cB, aB, look_here _ _ _, st, _, ds, _, _, rfl, hs, cS, T.a "Stage" "weight", stf_weight _ _ _ _, ?_⟩
    refine ⟨_, rfl, b, _, dx, _, _, rfl, hb, cB, aB, look_here _ _ _, st, _, ds, _, _, rfl, hs, cS, T.a "Stage" "grid", stf_grid _ _ _ _, ?_⟩
    have len : (as.map V.ref).length = d.2.length := by rw [List.length_map, w2]
    have il : i < (as.map V.ref).length := by omega
    have sH : HT.sIx (as.map V.ref).length (as.map V.ref).length (some (i : Int)) = i := by rw [HT.sIx_nat]; omega
    have sL : HT.sIx (as.map V.ref).length 0 (some ((i : Int) + 1)) = i + 1 := by
      rw [show (i : Int) + 1 = ((i + 1 : Nat) : Int) by omega, HT.sIx_nat]
      omega
    have c1 : cutV (as.map V.ref) none (some (i : Int)) = (as.map V.ref).take i := by
      unfold cutV
      rw [sH, HT.sIx_none]
      simp
    have c2 : cutV (as.map V.ref) (some ((i : Int) + 1)) none = (as.map V.ref).drop (i + 1) := by
      unfold cutV
      rw [sL, HT.sIx_none]
      exact List.take_of_length_le (by rw [List.length_drop]; omega)
    -- (*load[:place], number, *load[place + 1:])
    refine ⟨_, rfl, _, rfl, (i : Int), rfl, wt, _, rfl, w1, ?_, fun p1 n1 => ?_⟩
    · rw [sH]
      omega
    have s1 : Same H (upd H p1 (.tup (cutV (as.map V.ref) none (some (i : Int))))) := same_upd n1
    refine ⟨p1, _, rfl, .inl (SqT.of upd_same), _, rfl, _, rfl, _, rfl, _, _, rfl, rfl, (i : Int) + 1, rfl, wt, _, rfl, sqt_kp w1 (Kp.of (S := []) s1) wr_nil, ?_, fun p2 n2 => ?_⟩
    · rw [sL]
      omega
    have s2 := same_then (o := .tup (cutV (as.map V.ref) (some ((i : Int) + 1)) none)) s1 n2
    have exs : (as.map V.ref).take i ++ V.ref a :: ((as.map V.ref).drop (i + 1) ++ []) = (as.set i a).map V.ref := by
      rw [List.append_nil, List.map_set, List.set_eq_take_append_cons_drop, if_pos il]
    refine ⟨p2, _, rfl, .inl (SqT.of upd_same), ?_, fun p3 n3 => ?_⟩
    · rw [c1, c2, exs, List.length_map, List.length_set]
      exact Nat.le_trans (show as.length ≤ 2 by omega) (by decide)
    rw [c1, c2, exs] at *
    have s3 := same_then (o := .tup ((as.set i a).map V.ref)) s2 n3
    have hw3 : (upd (upd (upd H p1 (HO.tup ((as.map V.ref).take i))) p2 (HO.tup ((as.map V.ref).drop (i + 1)))) p3 (HO.tup ((as.set i a).map V.ref))) p3 = some (.tup ((as.set i a).map V.ref)) := upd_same
    generalize (upd (upd (upd H p1 (HO.tup ((as.map V.ref).take i))) p2 (HO.tup ((as.map V.ref).drop (i + 1)))) p3 (HO.tup ((as.set i a).map V.ref))) = H3 at *
    refine ⟨_, rfl, b, _, dx, _, _, rfl, s3 _ _ hb, cB, aB, look_here _ _ _, ?_⟩
    intro x xd nx nxd ne
    have hst3 := s3 _ _ hs
    have nsx : st ≠ x := ne_of_none hst3 nx
    have nsd : st ≠ xd := ne_of_none hst3 nxd
    refine ⟨x, .ref d.1, .ref p3, .ref st, xd, (D.length : Int) + 1, rfl, upd_same, .inr ⟨st, ds, _, _, _, _, rfl, by rw [upd_ne nsx, upd_ne nsd]; exact hst3, rfl⟩, fun H5 h5 k5 => ⟨rfl, ?_⟩⟩
    have s5 : Same H H5 := s3.trans (Same.made nx nxd k5)
    have s35 : Same H3 H5 := Same.made nx nxd k5
    refine ⟨_, rfl, b, _, dx, _, rfl, s5 _ _ hb, cB, aB, by show 1 < 1000; decide, ?_⟩
    rw [putF_here]
    refine hQ _ (bench_push (D := d :: D) (wt := p3) (qs := d.2.set i q) hb hC s5 h5 ⟨as.set i a, SqT.of (s35 _ _ hw3), by rw [List.length_set, List.length_set]; exact w2, fun j c e => ?_⟩) (kp_upd s5)
    by_cases hj : i = j
    · subst hj
      have hias : i < as.length := by omega
      rw [List.getElem?_set_self hias] at e
      cases e
      exact ⟨q, List.getElem?_set_self hi, sqt_kp ha (Kp.of (S := []) s5) wr_nil⟩
    · rw [List.getElem?_set_ne hj] at e
      obtain ⟨q', e1, e2⟩ := w3 j c e
      exact ⟨q', by rw [List.getElem?_set_ne hj]; exact e1, sqt_kp e2 (Kp.of (S := []) s5) wr_nil⟩
end
end K46
end
section
set_option Elab.async false
set_option linter.all false
set_option autoImplicit false
set_option maxRecDepth 100000
set_option maxHeartbeats 4000000
/-! K46J: Bench's steps and properties. -/
namespace K46
open PySem PySem.Spec PyProof.Rows L2
section
variable {P : Program} {w : World} {K : Fg} {mg : Str → Option Value} {base : Heap}
/-- a step's arguments: a place of the bench's table, a fraction in lowest terms -/
def spChS (K : Fg) : Sp := fun vs H Q _ => ∃ (b a : Addr) (i n : Nat) (d : Std) (D : List Std) (rows : List (List Int)) (q : Int × Int), vs = [.ref b, .int i, .ref a] ∧ BenchAt K H b (d :: D) ∧ TableAt K H d.1 n rows ∧ i < n ∧
  H a = some (.tup [.int q.1, .int q.2]) ∧ Drawn q ∧ Q .non H
theorem sc_chS : FnScope ["self", "place", "number"] ["self", "place", "number"] (defScope (inClass (tp 37) 2)) := ⟨rfl, rfl, rfl, by decide +kernel, rfl, by decide +kernel, by decide +kernel⟩
theorem ok_chS (T : Tx K mg) : Def P w K mg base 4 (He.ma K (He.ga K "Bench") "check_step") ["self", "place", "number"] (spChS K) := by
  obtain ⟨fd, F⟩ := T.fn 20 _ rfl
  refine Def.of F (F.ok sc_chS (fun vs H Q E h => ?_) (fun cdv A outer s H vs Q E hr h => ?_)) (F.binds fun _ _ _ _ _ _ us hl => match us, hl with | [_, _, _], _ => rfl)
  · obtain ⟨b, a, i, n, d, D, rows, q, rfl, _⟩ := h
    rfl
  · obtain ⟨b, a, i, n, d, D, rows, q, rfl, ⟨dx, st, hb, hC⟩, hT, hi, ha, dq, hQ⟩ := h
    obtain ⟨ds, wt, bf, hs, _, _⟩ := id hC
    refine ⟨_, pss_cons (ps_expr (pcall (ok_chP T) (T.g "check_place") hr (pa_cons (pe_fld (pe_fld (pv 0) rfl) rfl) (pa_cons (pv 1) pa_nil)))) (pss_one (ps_if (pt_not (pt_val (pcall (ok_isr T) (T.g "is_ratio") hr (pa_cons (pv 2) pa_nil)))) pss_never pss_nil)), ?_⟩
    refine ⟨_, rfl, b, _, dx, _, _, rfl, hb, T.c "Bench", T.a "Bench" "stage", look_here _ _ _, st, _, ds, _, _, rfl, hs, T.c "Stage", T.a "Stage" "grid", stf_grid _ _ _ _, _, rfl, ?_⟩
    refine ⟨d.1, n, rows, i, rfl, hT, by omega, by omega, ?_⟩
    exact ⟨_, rfl, a, q, rfl, ha, dq.pos, dq.one, true, rfl, iteF hQ⟩
def spAdd (K : Fg) : Sp := fun vs H Q _ => ∃ (b a : Addr) (i n : Nat) (d : Std) (D : List Std) (rows : List (List Int)) (q q0 : Int × Int), vs = [.ref b, .int i, .ref a] ∧ BenchAt K H b (d :: D) ∧ TableAt K H d.1 n rows ∧ d.2.length = n ∧ n ≤ 2 ∧
  d.2[i]? = some q0 ∧ H a = some (.tup [.int q.1, .int q.2]) ∧ Drawn q ∧ FracOk D.length q0 ∧ D.length + 1 ≤ 30 ∧ ∀ H', BenchAt K H' b ((d.1, d.2.set i (sum2 q0 q)) :: d :: D) → Kp [b] H H' → Q .non H'
theorem sc_add : FnScope ["self", "place", "number"] ["self", "place", "number"] (defScope (inClass (tp 37) 4)) := ⟨rfl, rfl, rfl, by decide +kernel, rfl, by decide +kernel, by decide +kernel⟩
theorem ok_add (T : Tx K mg) : Def P w K mg base 5 (He.ma K (He.ga K "Bench") "add") ["self", "place", "number"] (spAdd K) := by
  obtain ⟨fd, F⟩ := T.fn 21 _ rfl
  refine Def.of F (F.ok sc_add (fun vs H Q E h => ?_) (fun cdv A outer s H vs Q E hr h => ?_)) (F.binds fun _ _ _ _ _ _ us hl => match us, hl with | [_, _, _], _ => rfl)
  · obtain ⟨b, a, i, n, d, D, rows, q, q0, rfl, _⟩ := h
    rfl
  · obtain ⟨b, a, i, n, d, D, rows, q, q0, rfl, hB, hT, hl, hn, hq0, ha, dq, fq, hlen, hQ⟩ := h
    obtain ⟨dx, st, hb, hC⟩ := id hB
    obtain ⟨ds, wt, bf, hs, ⟨as, w1, w2, w3⟩, _⟩ := id hC
    have il : i < d.2.length := (List.getElem?_eq_some_iff.mp hq0).1
    refine ⟨_, pss_cons (ps_expr (pmeth (pv 0) (T.c "Bench") (T.m "Bench" "check_step") (ok_chS T) hr (pa_cons (pv 1) (pa_cons (pv 2) pa_nil))))
      (pss_one (ps_expr (pmeth (pv 0) (T.c "Bench") (T.m "Bench" "moved") (ok_mov T) hr (pa_cons (pv 1) (pa_cons (pcall (ok_plus T) (T.g "plus") hr (pa_cons (pe_ix ix_tup (pe_fld (pe_fld (pv 0) rfl) rfl) (pv 1) (fun _ _ => rfl)) (pa_cons (pv 2) pa_nil))) pa_nil))))), ?_⟩
    have nl : ∀ m : Str, ¬ m = "stage" → List.lookup m [(("stage" : Str), V.ref st)] = none := fun m hm => by
      rw [look_on hm]
      rfl
    refine ⟨_, rfl, b, dx, _, rfl, hb, nl _ (by decide +kernel), _, rfl, _, rfl, b, a, i, n, d, D, rows, q, rfl, hB, hT, by omega, ha, dq, ?_⟩
    refine ⟨_, rfl, b, dx, _, rfl, hb, nl _ (by decide +kernel), _, rfl, ?_⟩
    have ia : i < as.length := by omega
    obtain ⟨q', e1, e2⟩ := w3 i as[i] (List.getElem?_eq_getElem ia)
    rw [hq0] at e1
    cases e1
    refine ⟨_, rfl, b, _, dx, _, _, rfl, hb, T.c "Bench", T.a "Bench" "stage", look_here _ _ _, st, _, ds, _, _, rfl, hs, T.c "Stage", T.a "Stage" "weight", stf_weight _ _ _ _, _, rfl, wt, _, _, .ref as[i], rfl, rfl, w1, at_of (j := i) rfl (by rw [List.getElem?_map, List.getElem?_eq_getElem ia]; rfl), ?_⟩
    refine ⟨_, rfl, as[i], a, q0, q, rfl, e2, SqT.of ha, fq.wd (by omega), dq.wd, (raw_ok fq dq).wd hlen, fun r nr => ?_⟩
    have s1 : Same H (upd H r (.tup [.int (sum2 q0 q).1, .int (sum2 q0 q).2])) := same_upd nr
    refine ⟨b, r, i, d, D, sum2 q0 q, rfl, hB.kp (Kp.of (S := []) s1) wr_nil (by simp), il, by omega, SqT.of upd_same, fun H' hB' k' => hQ H' hB' ((Kp.of s1).trans k')⟩
def spChg (K : Fg) : Sp := fun vs H Q _ => ∃ (b g : Addr) (n : Nat) (d : Std) (D : List Std) (rows rows' : List (List Int)), vs = [.ref b, .ref g] ∧ BenchAt K H b (d :: D) ∧ TableAt K H d.1 n rows ∧ TableAt K H g n rows' ∧
  ∀ H', BenchAt K H' b ((g, d.2) :: d :: D) → Kp [b] H H' → Q .non H'
theorem sc_chg : FnScope ["self", "table"] ["self", "table"] (defScope (inClass (tp 37) 5)) := ⟨rfl, rfl, rfl, by decide +kernel, rfl, by decide +kernel, by decide +kernel⟩
theorem ok_chg (T : Tx K mg) : Def P w K mg base 3 (He.ma K (He.ga K "Bench") "change") ["self", "table"] (spChg K) := by
  obtain ⟨fd, F⟩ := T.fn 22 _ rfl
  refine Def.of F (F.ok sc_chg (fun vs H Q E h => ?_) (fun cdv A outer s H vs Q E hr h => ?_)) (F.binds fun _ _ _ _ _ _ us hl => match us, hl with | [_, _], _ => rfl)
  · obtain ⟨b, g, n, d, D, rows, rows', rfl, _⟩ := h
    rfl
  · obtain ⟨b, g, n, d, D, rows, rows', rfl, hB, hT, hT', hQ⟩ := h
    obtain ⟨dx, st, hb, hC⟩ := id hB
    obtain ⟨ds, wt, bf, hs, hL, _⟩ := id hC
    obtain ⟨dg, rg, hg, _⟩ := id hT
    obtain ⟨dg', rg', hg', _⟩ := id hT'
    have cB := T.c "Bench"
    have aB := T.a "Bench" "stage"
    have cS := T.c "Stage"
    refine ⟨_, pss_cons (ps_expr (pcall (ok_chT T) (T.g "check_table") hr (pa_cons (pv 1) pa_nil)))
      (pss_cons (ps_if (pt_cmpR op_ne (pprop (pv 1) (T.c "Table") (T.p "Table" "size") (ok_size T) hr) (pprop (pe_fld (pe_fld (pv 0) rfl) rfl) (T.c "Table") (T.p "Table" "size") (ok_size T) hr) (nomark _)) pss_never pss_nil)
      (pss_one (ps_fld (pv 0) (pmake (T.k "Stage") (ok_stI T) (T.g "Stage") hr (pa_cons (pv 1) (pa_cons (pe_fld (pe_fld (pv 0) rfl) rfl) (pa_cons (pe_fld (pv 0) rfl) pa_nil)))) rfl))), ?_⟩
    refine ⟨_, rfl, g, dg', _, rfl, hg', ?_⟩
    refine ⟨_, rfl, g, dg', _, rfl, hg', g, n, rows', rfl, hT', ?_⟩
    refine ⟨_, rfl, b, _, dx, _, _, rfl, hb, cB, aB, look_here _ _ _, st, _, ds, _, _, rfl, hs, cS, T.a "Stage" "grid", stf_grid _ _ _ _, d.1, dg, _, rfl, hg, d.1, n, rows, rfl, hT, rfl, _, rfl, iteNS rfl ?_⟩
    refine ⟨_, rfl, _, rfl, b, _, dx, _, _, rfl, hb, cB, aB, look_here _ _ _, st, _, ds, _, _, rfl, hs, cS, T.a "Stage" "weight", stf_weight _ _ _ _, ?_⟩
    refine ⟨_, rfl, b, _, dx, _, _, rfl, hb, cB, aB, look_here _ _ _, ?_⟩
    intro x xd nx nxd ne
    have nsx : st ≠ x := ne_of_none hs nx
    have nsd : st ≠ xd := ne_of_none hs nxd
    refine ⟨x, .ref g, .ref wt, .ref st, xd, (D.length : Int) + 1, rfl, upd_same, .inr ⟨st, ds, _, _, _, _, rfl, by rw [upd_ne nsx, upd_ne nsd]; exact hs, rfl⟩, fun H5 h5 k5 => ⟨rfl, ?_⟩⟩
    have s5 : Same H H5 := Same.made nx nxd k5
    refine ⟨_, rfl, b, _, dx, _, rfl, s5 _ _ hb, cB, aB, by show 1 < 1000; decide, ?_⟩
    rw [putF_here]
    exact hQ _ (bench_push (D := d :: D) (wt := wt) (qs := d.2) hb hC s5 h5 (hL.kp (Kp.of (S := []) s5) wr_nil)) (kp_upd s5)
def spUnd (K : Fg) : Sp := fun vs H Q _ => ∃ (b : Addr) (d : Std) (D : List Std), vs = [.ref b] ∧ BenchAt K H b (d :: D) ∧ D ≠ [] ∧ ∀ H', BenchAt K H' b D → Kp [b] H H' → Q .non H'
theorem sc_und : FnScope ["self"] ["self"] (defScope (inClass (tp 37) 6)) := ⟨rfl, rfl, rfl, by decide +kernel, rfl, by decide +kernel, by decide +kernel⟩
theorem ok_und (T : Tx K mg) : Def P w K mg base 1 (He.ma K (He.ga K "Bench") "undo") ["self"] (spUnd K) := by
  obtain ⟨fd, F⟩ := T.fn 23 _ rfl
  refine Def.of F (F.ok sc_und (fun vs H Q E h => ?_) (fun cdv A outer s H vs Q E hr h => ?_)) (F.binds fun _ _ _ _ _ _ us hl => match us, hl with | [_], _ => rfl)
  · obtain ⟨b, d, D, rfl, _⟩ := h
    rfl
  · obtain ⟨b, d, D, rfl, ⟨dx, st, hb, hC⟩, hD, hQ⟩ := h
    obtain ⟨ds, wt, bf, hs, hL, hR⟩ := id hC
    rcases hR with ⟨z, _⟩ | ⟨st', rfl, hC'⟩
    · exact absurd z hD
    have cB := T.c "Bench"
    have aB := T.a "Bench" "stage"
    have cS := T.c "Stage"
    have aS := T.a "Stage" "before"
    refine ⟨_, pss_cons (ps_if (pt_cmpR op_isN (pe_fld (pe_fld (pv 0) rfl) rfl) pe_non (nomark _)) pss_never pss_nil) (pss_one (ps_fld (pv 0) (pe_fld (pe_fld (pv 0) rfl) rfl) rfl)), ?_⟩
    refine ⟨_, rfl, b, _, dx, _, _, rfl, hb, cB, aB, look_here _ _ _, st, _, ds, _, _, rfl, hs, cS, aS, stf_before _ _ _ _, rfl, _, rfl, ?_⟩
    rw [decide_eq_false (by simp : ¬ V.ref st' = V.non)]
    refine iteF ⟨_, rfl, b, _, dx, _, _, rfl, hb, cB, aB, look_here _ _ _, st, _, ds, _, _, rfl, hs, cS, aS, stf_before _ _ _ _, ?_⟩
    refine ⟨_, rfl, b, _, dx, _, rfl, hb, cB, aB, by show 1 < 1000; decide, ?_⟩
    rw [putF_here]
    exact hQ _ ⟨dx, st', upd_same, hC'.kp (kp_upd (Same.refl H)) (wr_bench hb)⟩ (kp_upd (Same.refl H))
/-! ### what is read -/
def spTab (K : Fg) : Sp := fun vs H Q _ => ∃ (b : Addr) (d : Std) (D : List Std), vs = [.ref b] ∧ BenchAt K H b (d :: D) ∧ Q (.ref d.1) H
theorem sc_tab : FnScope ["self"] ["self"] (defScope (inClass (tp 37) 7)) := ⟨rfl, rfl, rfl, by decide +kernel, rfl, by decide +kernel, by decide +kernel⟩
theorem ok_tab (T : Tx K mg) : Def P w K mg base 1 (gtr K "Bench" "table") ["self"] (spTab K) := by
  obtain ⟨fd, F⟩ := T.fn 24 _ rfl
  refine Def.of F (F.ok sc_tab (fun vs H Q E h => ?_) (fun cdv A outer s H vs Q E hr h => ?_)) (F.binds fun _ _ _ _ _ _ us hl => match us, hl with | [_], _ => rfl)
  · obtain ⟨b, d, D, rfl, _⟩ := h
    rfl
  · obtain ⟨b, d, D, rfl, ⟨dx, st, hb, ds, wt, bf, hs, _, _⟩, hQ⟩ := h
    refine ⟨_, pss_one (ps_ret (pe_fld (pe_fld (pv 0) rfl) rfl)), ?_⟩
    exact ⟨_, rfl, b, _, dx, _, _, rfl, hb, T.c "Bench", T.a "Bench" "stage", look_here _ _ _, st, _, ds, _, _, rfl, hs, T.c "Stage", T.a "Stage" "grid", stf_grid _ _ _ _, hQ⟩
def spLoa (K : Fg) : Sp := fun vs H Q _ => ∃ (b : Addr) (d : Std) (D : List Std), vs = [.ref b] ∧ BenchAt K H b (d :: D) ∧ ∀ wt, LoadAt K H wt d.2 → Q (.ref wt) H
theorem sc_loa : FnScope ["self"] ["self"] (defScope (inClass (tp 37) 8)) := ⟨rfl, rfl, rfl, by decide +kernel, rfl, by decide +kernel, by decide +kernel⟩
theorem ok_loa (T : Tx K mg) : Def P w K mg base 1 (gtr K "Bench" "load") ["self"] (spLoa K) := by
  obtain ⟨fd, F⟩ := T.fn 25 _ rfl
  refine Def.of F (F.ok sc_loa (fun vs H Q E h => ?_) (fun cdv A outer s H vs Q E hr h => ?_)) (F.binds fun _ _ _ _ _ _ us hl => match us, hl with | [_], _ => rfl)
  · obtain ⟨b, d, D, rfl, _⟩ := h
    rfl
  · obtain ⟨b, d, D, rfl, ⟨dx, st, hb, ds, wt, bf, hs, hL, _⟩, hQ⟩ := h
    refine ⟨_, pss_one (ps_ret (pe_fld (pe_fld (pv 0) rfl) rfl)), ?_⟩
    exact ⟨_, rfl, b, _, dx, _, _, rfl, hb, T.c "Bench", T.a "Bench" "stage", look_here _ _ _, st, _, ds, _, _, rfl, hs, T.c "Stage", T.a "Stage" "weight", stf_weight _ _ _ _, hQ wt hL⟩
def spCha (K : Fg) : Sp := fun vs H Q _ => ∃ (b : Addr) (d : Std) (D : List Std), vs = [.ref b] ∧ BenchAt K H b (d :: D) ∧ Q (.int D.length) H
theorem sc_cha : FnScope ["self"] ["self"] (defScope (inClass (tp 37) 11)) := ⟨rfl, rfl, rfl, by decide +kernel, rfl, by decide +kernel, by decide +kernel⟩
theorem ok_cha (T : Tx K mg) : Def P w K mg base 1 (gtr K "Bench" "changes") ["self"] (spCha K) := by
  obtain ⟨fd, F⟩ := T.fn 26 _ rfl
  refine Def.of F (F.ok sc_cha (fun vs H Q E h => ?_) (fun cdv A outer s H vs Q E hr h => ?_)) (F.binds fun _ _ _ _ _ _ us hl => match us, hl with | [_], _ => rfl)
  · obtain ⟨b, d, D, rfl, _⟩ := h
    rfl
  · obtain ⟨b, d, D, rfl, ⟨dx, st, hb, ds, wt, bf, hs, hL, _⟩, hQ⟩ := h
    refine ⟨_, pss_one (ps_ret (pe_fld (pe_fld (pv 0) rfl) rfl)), ?_⟩
    exact ⟨_, rfl, b, _, dx, _, _, rfl, hb, T.c "Bench", T.a "Bench" "stage", look_here _ _ _, st, _, ds, _, _, rfl, hs, T.c "Stage", T.a "Stage" "depth", stf_depth _ _ _ _, hQ⟩
def spTri (K : Fg) : Sp := fun vs H Q _ => ∃ (b : Addr), vs = [.ref b] ∧ ∀ (t dt : Addr) (H' : Hp), H t = none → H' t = some (.ins (He.ga K "Trial") dt (trf (.ref b) .non)) → Same H H' → Q (.ref t) H'
theorem sc_tri : FnScope ["self"] ["self"] (defScope (inClass (tp 37) 12)) := ⟨rfl, rfl, rfl, by decide +kernel, rfl, by decide +kernel, by decide +kernel⟩
theorem ok_tri (T : Tx K mg) : Def P w K mg base 3 (He.ma K (He.ga K "Bench") "trial") ["self"] (spTri K) := by
  obtain ⟨fd, F⟩ := T.fn 27 _ rfl
  refine Def.of F (F.ok sc_tri (fun vs H Q E h => ?_) (fun cdv A outer s H vs Q E hr h => ?_)) (F.binds fun _ _ _ _ _ _ us hl => match us, hl with | [_], _ => rfl)
  · obtain ⟨b, rfl, _⟩ := h
    rfl
  · obtain ⟨b, rfl, hQ⟩ := h
    refine ⟨_, pss_one (ps_ret (pmake (T.k "Trial") (ok_trI T) (T.g "Trial") hr (pa_cons (pv 0) pa_nil))), ?_⟩
    refine ⟨_, rfl, ?_⟩
    intro x xd nx nxd ne
    exact ⟨x, .ref b, xd, rfl, upd_same, fun H5 h5 k5 => ⟨rfl, hQ x xd H5 nx h5 (Same.made nx nxd k5)⟩⟩
end
end K46
end
section
set_option Elab.async false
set_option linter.all false
set_option autoImplicit false
set_option maxRecDepth 100000
set_option maxHeartbeats 4000000
set_option exponentiation.threshold 3000
/-! K46K: the law's well, its draws, its fractions. -/
namespace K46
open PySem PySem.Spec PyProof.Rows L2
def WellAt (H : Hp) (we : Addr) : Prop := ∃ a b : Int, H we = some (.lst [.int a, .int b]) ∧ 0 ≤ a ∧ 0 ≤ b ∧ b < 2147483579
theorem WellAt.wr {H : Hp} {we : Addr} (h : WellAt H we) : WrS H [we] := fun c hc => by
  rw [List.mem_singleton.mp hc]
  obtain ⟨a, b, h, _⟩ := h
  exact ⟨_, h, .well _ _⟩
theorem WellAt.same {H H' : Hp} {we : Addr} (h : WellAt H we) (s : Same H H') : WellAt H' we := by
  obtain ⟨a, b, h, r⟩ := h
  exact ⟨a, b, s _ _ h, r⟩
theorem divp_small {i j : Int} (h : 0 < j) (h2 : j.natAbs < 2 ^ 100) : CDivP i j := by
  refine ⟨h, ?_⟩
  have l := PySem.Flt.log2_lt_of (k := 100) (by decide) h2
  show (decide ((if j == 0 then 0 else j.natAbs.log2 / 30 + 1) > 300) && decide ((if i == 0 then 0 else i.natAbs.log2 / 30 + 1) > (if j == 0 then 0 else j.natAbs.log2 / 30 + 1) + 150)) = false
  have e : decide ((if j == 0 then 0 else j.natAbs.log2 / 30 + 1) > 300) = false := decide_eq_false (by split <;> omega)
  rw [e] <;> rfl
section
variable {P : Program} {w : World} {K : Fg} {mg : Str → Option Value} {base : Heap}
/-! ### a draw -/
def spTake : Sp := fun vs H Q _ => ∃ (we : Addr) (top : Int), vs = [.ref we, .int top] ∧ WellAt H we ∧ 0 < top ∧ top.natAbs < 2 ^ 100 ∧ ∀ (d : Int) (H' : Hp), 0 ≤ d → d < top → WellAt H' we → Kp [we] H H' → Q (.int d) H'
theorem sc_take : FnScope ["_law_well_here", "_law_top", "_law_digit"] ["_law_well_here", "_law_top"] (defScope (tp 40)) := ⟨rfl, rfl, rfl, by decide +kernel, rfl, by decide +kernel, by decide +kernel⟩
theorem ok_take (T : Tx K mg) : Def P w K mg base 1 (He.ga K "_law_take") ["_law_well_here", "_law_top"] spTake := by
  obtain ⟨fd, F⟩ := T.fn 30 _ rfl
  refine Def.of F (F.ok sc_take (fun vs H Q E h => ?_) (fun cdv A outer s H vs Q E hr h => ?_)) (F.binds fun _ _ _ _ _ _ us hl => match us, hl with | [_, _], _ => rfl)
  · obtain ⟨we, top, rfl, _⟩ := h
    rfl
  · obtain ⟨we, top, rfl, ⟨a, b, hw, ha, hb, hb2⟩, ht, ht2, hQ⟩ := h
    refine ⟨_, pss_cons (ps_if (pt_cmpR op_gt (pe_ix ix_list (pv 0) pe_int (fun _ _ => rfl)) pe_int (nomark _))
        (pss_cons (ps_asg (pe_callB call_divmodW rfl (T.f "divmod") boot_divmod (pa_cons (pe_ix ix_list (pv 0) pe_int (fun _ _ => rfl)) (pa_cons (pv 1) pa_nil))) (pg_tup rfl (pgs_cons (pg_sub (pv 0) pe_int set_list) (pgs_cons (pg_name (i := 2) sc_take.nd rfl (.inl rfl)) pgs_nil)))) (pss_one (ps_ret (pv 2)))) pss_nil)
      (pss_cons (ps_asg (pe_op op_mod (pe_callTy call_int1 rfl (T.f "int") boot_int (pa_cons (pe_op op_add (pe_op op_mul (pe_ix ix_list (pv 0) pe_int (fun _ _ => rfl)) pe_int) pe_int) pa_nil)) pe_int) (pg_sub (pv 0) pe_int set_list))
      (pss_one (ps_ret (pe_op op_mod (pe_callTy call_int1 rfl (T.f "int") boot_int (pa_cons (pe_op op_fdiv (pe_op op_pow (pe_ix ix_list (pv 0) pe_int (fun _ _ => rfl)) pe_int) pe_int) pa_nil)) (pv 1))))), ?_⟩
    have hL : SqL K H we [V.int a, V.int b] := SqL.of hw
    refine ⟨_, rfl, we, _, _, _, rfl, rfl, hL, atI_nat (j := 0) rfl, _, _, rfl, rfl, _, rfl, ?_⟩
    refine ite2 (fun hc => ?_) (fun hc => ?_)
    · have a0 : 0 < a := of_decide_eq_true hc
      refine ⟨_, rfl, we, _, _, _, rfl, rfl, hL, atI_nat (j := 0) rfl, _, rfl, a, top, rfl, divp_small ht ht2, fun p np => ?_⟩
      have nwp : we ≠ p := ne_of_none hw np
      refine ⟨p, _, rfl, SqT.of upd_same, rfl, _, _, rfl, _, rfl, we, [V.int a, V.int b], _, 0, rfl, rfl, by rw [upd_ne nwp]; exact hw, rfl, ?_⟩
      refine ⟨_, _, rfl, rfl, _, rfl, ?_⟩
      refine hQ _ _ (Int.emod_nonneg _ (by omega)) (Int.emod_lt_of_pos _ ht) ⟨a / top, b, upd_same, Int.ediv_nonneg ha (by omega), hb, hb2⟩ ?_
      exact fun c o e n => by rw [upd_ne (by simpa using n), upd_ne (ne_of_none e np)]; exact e
    · refine ⟨_, rfl, we, _, _, _, rfl, rfl, hL, atI_nat (j := 1) rfl, _, _, rfl, rfl, .inr (by constructor <;> decide), _, _, rfl, rfl, .inl ⟨_, rfl, _, _, rfl, rfl, by show (0 : Int) < 2147483579; decide, ?_⟩⟩
      refine ⟨_, rfl, we, [V.int a, V.int b], _, 1, rfl, rfl, hw, rfl, ?_⟩
      have n0 : 0 ≤ (b * 60013 + 70001) % 2147483579 := Int.emod_nonneg _ (by decide)
      have n1 : (b * 60013 + 70001) % 2147483579 < 2147483579 := Int.emod_lt_of_pos _ (by decide)
      refine ⟨_, rfl, we, _, _, _, rfl, rfl, SqL.of upd_same, atI_nat (j := 1) rfl, _, _, rfl, rfl, ⟨by decide, by decide, show ((b * 60013 + 70001) % 2147483579).natAbs < 2 ^ 64 by omega⟩, _, _, rfl, rfl, ⟨by decide, by decide⟩, .inl ⟨_, rfl, _, rfl, _, _, rfl, rfl, ht, ?_⟩⟩
      exact hQ _ _ (Int.emod_nonneg _ (by omega)) (Int.emod_lt_of_pos _ ht) ⟨a, (b * 60013 + 70001) % 2147483579, upd_same, ha, n0, n1⟩ (kp_upd (Same.refl H))
/-! ### fractions -/
theorem sc_ratL : FnScope ["_law_top", "_law_bottom", "_law_first", "_law_second", "_law_turn"] ["_law_top", "_law_bottom"] (defScope (tp 42)) := ⟨rfl, rfl, rfl, by decide +kernel, rfl, by decide +kernel, by decide +kernel⟩
theorem ok_ratL (T : Tx K mg) : Def P w K mg base 1 (He.ga K "_law_ratio") ["_law_top", "_law_bottom"] spRat := by
  obtain ⟨fd, F⟩ := T.fn 31 _ rfl
  refine Def.of F (F.ok sc_ratL (fun vs H Q E h => ?_) (fun cdv A outer s H vs Q E hr h => ?_)) (F.binds fun _ _ _ _ _ _ us hl => match us, hl with | [_, _], _ => rfl)
  · obtain ⟨q, rfl, _⟩ := h
    rfl
  · obtain ⟨q, rfl, hw, hQ⟩ := h
    refine ⟨_, pss_cons (ps_if (pt_cmpR op_lt (pv 1) pe_int (nomark _)) pss_never pss_nil)
      (pss_cons (ps_par rfl sc_ratL.nd (i := 2) (j := 3) rfl rfl (by decide) rfl rfl (pa_cons (pe_callB call_abs rfl (T.f "abs") boot_abs (pa_cons (pv 0) pa_nil)) (pa_cons (pv 1) pa_nil)) rfl)
      (pss_cons (ps_for PassesOwn.never rfl (pi_range1 rfl (T.f "range") (pa_cons pe_int pa_nil)) (pg_name (i := 4) sc_ratL.nd rfl (.inl rfl))
        (pss_cons (ps_if (pt_cmpR op_eq (pv 3) pe_int (nomark _)) (pss_one ps_break) pss_nil)
        (pss_one (ps_par rfl sc_ratL.nd (i := 2) (j := 3) rfl rfl (by decide) rfl rfl (pa_cons (pv 3) (pa_cons (pe_op op_mod (pe_callTy call_int1 rfl (T.f "int") boot_int (pa_cons (pv 2) pa_nil)) (pv 3)) pa_nil)) rfl))))
      (pss_one (ps_ret (pe_tup (pa_cons (pe_op op_fdivW (pv 0) (pv 2)) (pa_cons (pe_op op_fdivW (pv 1) (pv 2)) pa_nil))))))), ?_⟩
    have hp := hw.pos
    refine ⟨_, rfl, _, _, rfl, rfl, _, rfl, ?_⟩
    rw [decide_eq_false (by omega)]
    refine iteF ⟨_, rfl, _, rfl, _, rfl, _, _, rfl, ?_⟩
    obtain ⟨e0, lim⟩ := wd_euc hw (s := if q.1 < 0 then -q.1 else q.1) rfl
    generalize (if q.1 < 0 then -q.1 else q.1) = s0 at e0 lim ⊢
    have fin : ∀ (a : Int) (v4 : Option V), a = gc q.1 q.2 → tRet (tTup (tCons (tOp (rI CDivW fun i j => .int (i / j)) (tVar 0) (tVar 2)) (tCons (tOp (rI CDivW fun i j => .int (i / j)) (tVar 1) (tVar 2)) tNil))) { nx := fun _ H' => Q .non H', rt := Q }
        [some (.int q.1), some (.int q.2), some (.int a), some (.int 0), v4] H := by
      rintro a v4 rfl
      exact ⟨_, rfl, _, rfl, _, _, rfl, rfl, gc_wide hw, _, rfl, _, rfl, _, _, rfl, rfl, gc_wide hw, by show 2 ≤ sizeLine; decide, fun p hp => hQ p hp⟩
    refine ⟨2000, rfl, by decide, by decide, for_range (n := 2000) (fun i σ H' => ∃ (a b : Int) (v4 : Option V), σ = [some (.int q.1), some (.int q.2), some (.int a), some (.int b), v4] ∧ Euc (gc q.1 q.2) (s0 * q.2) i a b ∧ H' = H) ⟨_, _, _, rfl, e0, rfl⟩ ?_ ?_⟩
    · rintro i σ H' hi ⟨a, b, v4, rfl, eu, rfl⟩
      refine ⟨_, rfl, rfl, _, rfl, ?_⟩
      refine ite2 (fun hc => ?_) (fun hc => ?_)
      · have b0 : b = 0 := by
          have := of_decide_eq_true hc
          injection this
        subst b0
        exact fin a _ eu.done
      · have b0 : b ≠ 0 := fun z => hc (decide_eq_true (by rw [z]))
        have b1 : 0 < b := by
          have := eu.b0
          omega
        exact ⟨_, rfl, _, rfl, .inl ⟨_, rfl, _, rfl, _, _, rfl, rfl, b1, _, _, rfl, b, a % b, _, rfl, eu.step b0, rfl⟩⟩
    · rintro σ H' ⟨a, b, v4, rfl, eu, rfl⟩
      have b0 := eu.end_ lim
      subst b0
      exact fin a _ eu.done
theorem sc_sumL : FnScope ["_law_one_here", "_law_two"] ["_law_one_here", "_law_two"] (defScope (tp 43)) := ⟨rfl, rfl, rfl, by decide +kernel, rfl, by decide +kernel, by decide +kernel⟩
theorem ok_sumL (T : Tx K mg) : Def P w K mg base 2 (He.ga K "_law_sum") ["_law_one_here", "_law_two"] (spPlus K) := by
  obtain ⟨fd, F⟩ := T.fn 32 _ rfl
  refine Def.of F (F.ok sc_sumL (fun vs H Q E h => ?_) (fun cdv A outer s H vs Q E hr h => ?_)) (F.binds fun _ _ _ _ _ _ us hl => match us, hl with | [_, _], _ => rfl)
  · obtain ⟨a, b, p, q, rfl, _⟩ := h
    rfl
  · obtain ⟨a, b, p, q, rfl, hp, hq, wp, wq, wr, hQ⟩ := h
    have at0 : ∀ z : Int × Int, atI [V.int z.1, V.int z.2] 0 = some (.int z.1) := fun z => atI_nat (j := 0) rfl
    have at1 : ∀ z : Int × Int, atI [V.int z.1, V.int z.2] 1 = some (.int z.2) := fun z => atI_nat (j := 1) rfl
    refine ⟨_, pss_one (ps_ret (pcall (ok_ratL T) (T.g "_law_ratio") hr (pa_cons (pe_op op_add (pe_op op_mulW (pe_ix ix_tup (pv 0) pe_int (fun _ _ => rfl)) (pe_ix ix_tup (pv 1) pe_int (fun _ _ => rfl))) (pe_op op_mulW (pe_ix ix_tup (pv 1) pe_int (fun _ _ => rfl)) (pe_ix ix_tup (pv 0) pe_int (fun _ _ => rfl))))
      (pa_cons (pe_op op_mulW (pe_ix ix_tup (pv 0) pe_int (fun _ _ => rfl)) (pe_ix ix_tup (pv 1) pe_int (fun _ _ => rfl))) pa_nil)))), ?_⟩
    refine ⟨_, rfl, a, _, _, _, rfl, rfl, hp, at0 p, _, rfl, b, _, _, _, rfl, rfl, hq, at1 q, _, _, rfl, rfl, wd_mul wp.n wq.d, ?_⟩
    refine ⟨_, rfl, b, _, _, _, rfl, rfl, hq, at0 q, _, rfl, a, _, _, _, rfl, rfl, hp, at1 p, _, _, rfl, rfl, wd_mul wq.n wp.d, _, _, rfl, rfl, ?_⟩
    refine ⟨_, rfl, a, _, _, _, rfl, rfl, hp, at1 p, _, rfl, b, _, _, _, rfl, rfl, hq, at1 q, _, _, rfl, rfl, wd_mul wp.d wq.d, ?_⟩
    exact ⟨raw p q, rfl, wr, hQ⟩
end
end K46
end
section
set_option Elab.async false
set_option linter.all false
set_option autoImplicit false
set_option maxRecDepth 100000
set_option maxHeartbeats 4000000
set_option exponentiation.threshold 3000
/-! K46L: the law's drawn fractions, numbers, rows; its well. -/
namespace K46
open PySem PySem.Spec PyProof.Rows L2
section
variable {P : Program} {w : World} {K : Fg} {mg : Str → Option Value} {base : Heap}
/-- a new pair is made behind draws -/
def spFrac : Sp := fun vs H Q _ => ∃ we : Addr, vs = [.ref we] ∧ WellAt H we ∧ ∀ (p : Addr) (q : Int × Int) (H' : Hp), H' p = some (.tup [.int q.1, .int q.2]) → Drawn q → WellAt H' we → Kp [we] H H' → Q (.ref p) H'
theorem sc_frac : FnScope ["_law_well_here", "_law_way"] ["_law_well_here"] (defScope (tp 45)) := ⟨rfl, rfl, rfl, by decide +kernel, rfl, by decide +kernel, by decide +kernel⟩
theorem drawn_low {q : Int × Int} (h1 : 0 < q.2) (h2 : q.2.natAbs ≤ 10 ^ 6) (h3 : q.1.natAbs ≤ 5 * 10 ^ 12) : Drawn (low q.1 q.2) := by
  refine ⟨low_pos h1, ?_, Nat.le_trans (low_num_le h1) h3, low_gcd h1⟩
  have a := low_pos (t := q.1) h1
  have b := low_den_le (t := q.1) h1
  omega
theorem wd_small {q : Int × Int} (h1 : 0 < q.2) (h2 : q.2.natAbs ≤ 10 ^ 6) (h3 : q.1.natAbs ≤ 5 * 10 ^ 12) : Wd q := ⟨h1, Nat.lt_of_le_of_lt h2 (by decide), Nat.lt_of_le_of_lt h3 (by decide)⟩
theorem ok_frac (T : Tx K mg) : Def P w K mg base 2 (He.ga K "_law_fraction") ["_law_well_here"] spFrac := by
  obtain ⟨fd, F⟩ := T.fn 33 _ rfl
  refine Def.of F (F.ok sc_frac (fun vs H Q E h => ?_) (fun cdv A outer s H vs Q E hr h => ?_)) (F.binds fun _ _ _ _ _ _ us hl => match us, hl with | [_], _ => rfl)
  · obtain ⟨we, rfl, _⟩ := h
    rfl
  · obtain ⟨we, rfl, hw, hQ⟩ := h
    refine ⟨_, pss_cons (ps_set (i := 1) sc_frac.nd rfl (.inl rfl) (pcall (ok_take T) (T.g "_law_take") hr (pa_cons (pv 0) (pa_cons pe_int pa_nil))))
      (pss_cons (ps_if (pt_cmpR op_eq (pv 1) pe_int (nomark _)) (pss_one (ps_ret (pe_tup (pa_cons pe_int (pa_cons pe_int pa_nil))))) pss_nil)
      (pss_cons (ps_if (pt_cmpR op_eq (pv 1) pe_int (nomark _)) (pss_one (ps_ret (pcall (ok_ratL T) (T.g "_law_ratio") hr
          (pa_cons (pe_op op_sub (pcall (ok_take T) (T.g "_law_take") hr (pa_cons (pv 0) (pa_cons (pe_op op_pow pe_int pe_int) pa_nil))) (pe_op op_mul pe_int (pe_op op_pow pe_int pe_int)))
          (pa_cons (pe_op op_add pe_int (pcall (ok_take T) (T.g "_law_take") hr (pa_cons (pv 0) (pa_cons (pe_op op_pow pe_int pe_int) pa_nil)))) pa_nil))))) pss_nil)
      (pss_one (ps_ret (pcall (ok_ratL T) (T.g "_law_ratio") hr (pa_cons (pe_op op_sub (pcall (ok_take T) (T.g "_law_take") hr (pa_cons (pv 0) (pa_cons pe_int pa_nil))) pe_int)
          (pa_cons (pe_op op_add pe_int (pcall (ok_take T) (T.g "_law_take") hr (pa_cons (pv 0) (pa_cons pe_int pa_nil)))) pa_nil))))))), ?_⟩
    refine ⟨_, rfl, we, 8, rfl, hw, by decide, by decide, fun d H1 d0 d8 hw1 k1 => ?_⟩
    refine ⟨_, rfl, rfl, _, rfl, ?_⟩
    refine ite2 (fun hc => ?_) (fun hc => ?_)
    · refine ⟨by show 2 ≤ sizeLine; decide, fun p np => ?_⟩
      exact hQ p (0, 1) _ upd_same ⟨by decide, by decide, by decide, by decide⟩ (hw1.same (same_upd np)) (k1.trans (Kp.of (same_upd np)))
    refine ⟨_, rfl, rfl, _, rfl, ?_⟩
    refine ite2 (fun hc2 => ?_) (fun hc2 => ?_)
    · refine ⟨_, rfl, _, _, rfl, rfl, ⟨by decide, by decide, by decide⟩, we, 10 ^ 13, rfl, hw1, by decide, by decide, fun d2 H2 a0 a1 hw2 k2 => ?_⟩
      refine ⟨_, _, rfl, rfl, ⟨by decide, by decide, by decide⟩, _, _, rfl, rfl, .inl (by constructor <;> decide), _, _, rfl, rfl, ?_⟩
      refine ⟨_, rfl, _, _, rfl, rfl, ⟨by decide, by decide, by decide⟩, we, 10 ^ 6, rfl, hw2, by decide, by decide, fun d3 H3 b0 b1 hw3 k3 => ?_⟩
      refine ⟨_, _, rfl, rfl, ?_⟩
      have z1 : (0 : Int) < 1 + d3 := by omega
      have z2 : (1 + d3).natAbs ≤ 10 ^ 6 := by
        have e6 : (10 : Int) ^ 6 = 1000000 := by decide
        have e7 : (10 : Nat) ^ 6 = 1000000 := by decide
        omega
      have z3 : (d2 - 5 * 10 ^ 12).natAbs ≤ 5 * 10 ^ 12 := by
        have e6 : (10 : Int) ^ 13 = 10000000000000 := by decide
        have e7 : (5 : Nat) * 10 ^ 12 = 5000000000000 := by decide
        have e8 : (5 : Int) * 10 ^ 12 = 5000000000000 := by decide
        omega
      refine ⟨(d2 - 5 * 10 ^ 12, 1 + d3), rfl, wd_small z1 z2 z3, fun p np => ?_⟩
      exact hQ p (low (d2 - 5 * 10 ^ 12) (1 + d3)) _ upd_same (drawn_low (q := (d2 - 5 * 10 ^ 12, 1 + d3)) z1 z2 z3) (hw3.same (same_upd np)) (((k1.trans k2).trans k3).trans (Kp.of (same_upd np)))
    · refine ⟨_, rfl, we, 13, rfl, hw1, by decide, by decide, fun d2 H2 a0 a1 hw2 k2 => ?_⟩
      refine ⟨_, _, rfl, rfl, ?_⟩
      refine ⟨_, rfl, we, 5, rfl, hw2, by decide, by decide, fun d3 H3 b0 b1 hw3 k3 => ?_⟩
      refine ⟨_, _, rfl, rfl, ?_⟩
      have z1 : (0 : Int) < 1 + d3 := by omega
      have z2 : (1 + d3).natAbs ≤ 10 ^ 6 := Nat.le_trans (show (1 + d3).natAbs ≤ 5 by omega) (by decide)
      have z3 : (d2 - 6).natAbs ≤ 5 * 10 ^ 12 := Nat.le_trans (show (d2 - 6).natAbs ≤ 6 by omega) (by decide)
      refine ⟨(d2 - 6, 1 + d3), rfl, wd_small z1 z2 z3, fun p np => ?_⟩
      exact hQ p (low (d2 - 6) (1 + d3)) _ upd_same (drawn_low (q := (d2 - 6, 1 + d3)) z1 z2 z3) (hw3.same (same_upd np)) (((k1.trans k2).trans k3).trans (Kp.of (same_upd np)))
def spNum : Sp := fun vs H Q _ => ∃ we : Addr, vs = [.ref we] ∧ WellAt H we ∧ ∀ (z : Int) (H' : Hp), -(100000000000000000000 : Int) ≤ z → z ≤ 100000000000000000000 → WellAt H' we → Kp [we] H H' → Q (.int z) H'
theorem sc_num : FnScope ["_law_well_here"] ["_law_well_here"] (defScope (tp 46)) := ⟨rfl, rfl, rfl, by decide +kernel, rfl, by decide +kernel, by decide +kernel⟩
theorem ok_num (T : Tx K mg) : Def P w K mg base 2 (He.ga K "_law_number") ["_law_well_here"] spNum := by
  obtain ⟨fd, F⟩ := T.fn 34 _ rfl
  refine Def.of F (F.ok sc_num (fun vs H Q E h => ?_) (fun cdv A outer s H vs Q E hr h => ?_)) (F.binds fun _ _ _ _ _ _ us hl => match us, hl with | [_], _ => rfl)
  · obtain ⟨we, rfl, _⟩ := h
    rfl
  · obtain ⟨we, rfl, hw, hQ⟩ := h
    refine ⟨_, pss_cons (ps_if (pt_cmpR op_eq (pcall (ok_take T) (T.g "_law_take") hr (pa_cons (pv 0) (pa_cons pe_int pa_nil))) pe_int (nomark _))
        (pss_one (ps_ret (pe_op op_sub (pcall (ok_take T) (T.g "_law_take") hr (pa_cons (pv 0) (pa_cons (pe_op op_add (pe_op op_mul pe_int (pe_op op_pow pe_int pe_int)) pe_int) pa_nil))) (pe_op op_pow pe_int pe_int)))) pss_nil)
      (pss_one (ps_ret (pe_op op_sub (pcall (ok_take T) (T.g "_law_take") hr (pa_cons (pv 0) (pa_cons pe_int pa_nil))) pe_int))), ?_⟩
    have e20 : (10 : Int) ^ 20 = 100000000000000000000 := by decide
    refine ⟨_, rfl, we, 9, rfl, hw, by decide, by decide, fun d H1 d0 d8 hw1 k1 => ?_⟩
    refine ⟨rfl, _, rfl, ?_⟩
    refine ite2 (fun hc => ?_) (fun hc => ?_)
    · refine ⟨_, rfl, _, _, rfl, rfl, ⟨by decide, by decide, by decide⟩, _, _, rfl, rfl, .inl (by constructor <;> decide), _, _, rfl, rfl, we, 2 * 10 ^ 20 + 1, rfl, hw1, by decide, by decide, fun d2 H2 a0 a1 hw2 k2 => ?_⟩
      refine ⟨_, _, rfl, rfl, ⟨by decide, by decide, by decide⟩, _, _, rfl, rfl, ?_⟩
      exact hQ (d2 - 10 ^ 20) H2 (by omega) (by omega) hw2 (k1.trans k2)
    · refine ⟨_, rfl, we, 9, rfl, hw1, by decide, by decide, fun d2 H2 a0 a1 hw2 k2 => ?_⟩
      refine ⟨_, _, rfl, rfl, ?_⟩
      exact hQ (d2 - 4) H2 (by omega) (by omega) hw2 (k1.trans k2)
end
end K46
end
section
set_option Elab.async false
set_option linter.all false
set_option autoImplicit false
set_option maxRecDepth 100000
set_option maxHeartbeats 4000000
set_option exponentiation.threshold 3000
/-! K46N: the law's rows, its well. -/
namespace K46
open PySem PySem.Spec PyProof.Rows L2
theorem tup_ofK {X : Cx} {K : Fg} (hK : X.K = K) : CallR X (.type "tuple") (fun xs H Q => ∃ p ys, xs = [V.ref p] ∧ ((SqL K H p ys ∧ ∀ l, H l = none → Q (.ref l) (upd H l (.tup ys))) ∨ (SqT K H p ys ∧ Q (.ref p) H))) := by
  subst hK
  exact call_tuple_of
theorem WellAt.kp {H H' : Hp} {we : Addr} {S : List Addr} (h : WellAt H we) (k : Kp S H H') (n : we ∉ S) : WellAt H' we := by
  obtain ⟨a, b, h, r⟩ := h
  exact ⟨a, b, k _ _ h n, r⟩
section
variable {P : Program} {w : World} {K : Fg} {mg : Str → Option Value} {base : Heap}
def spRows : Sp := fun vs H Q _ => ∃ (we : Addr) (n : Nat), vs = [.ref we, .int n] ∧ WellAt H we ∧ n ≤ 2 ∧ ∀ (rt : Addr) (rows : List (List Int)) (H' : Hp), RowsOk H' rt n rows → WellAt H' we → Kp [we] H H' → Q (.ref rt) H'
abbrev NRows : List Str := ["_law_well_here", "_law_size", "_law_place", "_law_spot"]
theorem sc_rows : FnScope NRows ["_law_well_here", "_law_size"] (defScope (tp 47)) := ⟨rfl, rfl, rfl, by decide +kernel, rfl, by decide +kernel, by decide +kernel⟩
abbrev scopeRows : Scope := lcScope (argOf (retOf (defBody (tp 47))))
theorem ok_rows (T : Tx K mg) : Def P w K mg base 3 (He.ga K "_law_rows") ["_law_well_here", "_law_size"] spRows := by
  obtain ⟨fd, F⟩ := T.fn 35 _ rfl
  refine Def.of F (F.ok sc_rows (fun vs H Q E h => ?_) (fun cdv A outer s H vs Q E hr h => ?_)) (F.binds fun _ _ _ _ _ _ us hl => match us, hl with | [_, _], _ => rfl)
  · obtain ⟨we, n, rfl, _⟩ := h
    rfl
  · obtain ⟨we, n, rfl, hw, hn, hQ⟩ := h
    refine ⟨_, pss_one (ps_ret (pe_callTy call_tuple_of rfl (T.f "tuple") boot_tuple (pa_cons
      (pe_lc (own := [("_law_place", 2)]) (g := gName 2) (tt := tYes) rfl sc_rows.nd (pi_range1 rfl (T.f "range") (pa_cons (pv 1) pa_nil)) (blkOk_by (N := NRows) (sc := defScope (tp 47)) (by decide +kernel)) (fun _ _ _ _ _ => pg_name (i := 2) sc_rows.nd rfl (Or.inl rfl)) (fun _ _ _ _ _ => pts_nil)
        (fun _ _ _ _ _ => pe_callTy (tup_ofK (K := K) rfl) rfl (T.f "tuple") boot_tuple (pa_cons
          (pe_lc (own := [("_law_spot", 3)]) (g := gName 3) (tt := tYes) rfl sc_rows.nd (pi_range1 rfl (T.f "range") (pa_cons (pv 1) pa_nil)) (blkOk_by (N := NRows) (sc := relS scopeRows (defScope (tp 47))) (by decide +kernel)) (fun _ _ _ _ _ => pg_name (i := 3) sc_rows.nd rfl (Or.inl rfl)) (fun _ _ _ _ _ => pts_nil)
            (fun _ _ _ _ _ => pcall (ok_num T) (T.g "_law_number") hr (pa_cons (pv 0) pa_nil))) pa_nil))) pa_nil))), ?_⟩
    refine ⟨_, rfl, (n : Int), rfl, by omega, by omega, fun D nD => ?_⟩
    have wD : ∀ {H' : Hp}, Kp [we] H H' → Kp [we] H (upd H' D (.lst [])) → True := fun _ _ => trivial
    obtain ⟨a0, b0, hw0, _⟩ := id hw
    have neD : D ≠ we := fun z => by
      rw [z, hw0] at nD
      cases nD
    rw [Int.toNat_natCast]
    refine lc_range (lo := 0) (n := n) (fun i H' => ∃ (as : List Addr) (rs : List (List Int)), H' D = some (.lst (as.map V.ref)) ∧ as.length = i ∧ rs.length = i ∧
      (∀ (j : Nat) (a : Addr), as[j]? = some a → ∃ r, rs[j]? = some r ∧ H' a = some (.tup (r.map V.int)) ∧ r.length = n ∧ ∀ z ∈ r, -(100000000000000000000 : Int) ≤ z ∧ z ≤ 100000000000000000000) ∧ WellAt H' we ∧ Kp [we] H H')
      ⟨[], [], upd_same, rfl, rfl, fun j a e => by simp at e, hw.same (same_upd nD), Kp.of (same_upd nD)⟩ ?_ ?_
    · rintro i H1 hi ⟨as, rs, hD, la, lr, hall, hw1, k1⟩
      refine ⟨rfl, yesT ?_⟩
      refine ⟨_, rfl, (n : Int), rfl, by omega, by omega, fun D2 nD2 => ?_⟩
      obtain ⟨a1, b1, hw1', _⟩ := id hw1
      rw [Int.toNat_natCast]
      refine lc_range (lo := 0) (n := n) (fun j H' => ∃ zs : List Int, H' D2 = some (.lst (zs.map V.int)) ∧ zs.length = j ∧ (∀ z ∈ zs, -(100000000000000000000 : Int) ≤ z ∧ z ≤ 100000000000000000000) ∧ WellAt H' we ∧ Kp [we] H1 H')
        ⟨[], upd_same, rfl, (by simp), hw1.same (same_upd nD2), Kp.of (same_upd nD2)⟩ ?_ ?_
      · rintro j H2 hj ⟨zs, hD2, lz, hz, hw2, k2⟩
        have neD2 : D2 ≠ we := fun z => by
          rw [z, hw1'] at nD2
          cases nD2
        refine ⟨rfl, yesT ?_⟩
        refine ⟨_, rfl, we, rfl, hw2, fun z H3 z1 z2 hw3 k3 => ?_⟩
        have hD3 : H3 D2 = some (.lst (zs.map V.int)) := k3 _ _ hD2 (by simpa using neD2)
        refine ⟨_, hD3, ?_, zs ++ [z], ?_, ?_, ?_, ?_, ?_⟩
        · rw [List.length_map, lz]
          exact Nat.lt_of_le_of_lt (show j ≤ 2 by omega) (by decide)
        · rw [upd_same, List.map_append]
          rfl
        · rw [List.length_append, lz]
          rfl
        · intro y hy
          rcases List.mem_append.mp hy with hy | hy
          · exact hz y hy
          · rw [List.mem_singleton.mp hy]
            exact ⟨z1, z2⟩
        · obtain ⟨a3, b3, hw3', r3⟩ := hw3
          exact ⟨a3, b3, by rw [upd_ne neD2.symm]; exact hw3', r3⟩
        · intro c o e m
          rw [upd_ne (ne_of_none e nD2)]
          exact (k2.trans k3) c o e m
      · rintro H2 ⟨zs, hD2, lz, hz, hw2, k2⟩
        refine ⟨D2, _, rfl, .inl ⟨SqL.of hD2, fun p np => ?_⟩⟩
        have hDc : H2 D = some (.lst (as.map V.ref)) := k2 _ _ hD (by simpa using neD)
        have nDp : D ≠ p := ne_of_none hDc np
        refine ⟨as.map V.ref, by rw [upd_ne nDp]; exact hDc, ?_, as ++ [p], rs ++ [zs], ?_, ?_, ?_, ?_, ?_, ?_⟩
        · rw [List.length_map, la]
          exact Nat.lt_of_le_of_lt (show i ≤ 2 by omega) (by decide)
        · rw [upd_same, List.map_append]
          rfl
        · rw [List.length_append, la]
          rfl
        · rw [List.length_append, lr]
          rfl
        · intro j a e
          have keepT : ∀ c xs, H1 c = some (.tup xs) → upd (upd H2 p (.tup (zs.map V.int))) D (.lst (as.map V.ref ++ [.ref p])) c = some (.tup xs) := fun c xs q => by
            have q2 : H2 c = some (.tup xs) := tup_keep k2 (fun b hb ys z => by
              rw [List.mem_singleton.mp hb, hw1'] at z
              cases z) q
            rw [upd_ne (ne_of q hD (fun z => by cases z)), upd_ne (ne_of_none q2 np)]
            exact q2
          by_cases hj : j < as.length
          · rw [List.getElem?_append_left hj] at e
            obtain ⟨r, r1, r2, r3, r4⟩ := hall j a e
            exact ⟨r, by rw [List.getElem?_append_left (by omega)]; exact r1, keepT _ _ r2, r3, r4⟩
          · have hj2 : j = as.length := by
              have := (List.getElem?_eq_some_iff.mp e).1
              rw [List.length_append] at this
              simp at this
              omega
            subst hj2
            rw [List.getElem?_append_right (Nat.le_refl _), Nat.sub_self] at e
            cases e
            refine ⟨zs, by rw [List.getElem?_append_right (by omega), show as.length - rs.length = 0 by omega]; rfl, by rw [upd_ne nDp.symm]; exact upd_same, lz, hz⟩
        · obtain ⟨a3, b3, hw3', r3⟩ := hw2
          exact ⟨a3, b3, by rw [upd_ne neD.symm, upd_ne (ne_of_none hw3' np)]; exact hw3', r3⟩
        · intro c o e m
          have q2 := k2 c o (k1 c o e m) m
          rw [upd_ne (ne_of_none e nD), upd_ne (ne_of_none q2 np)]
          exact q2
    · rintro H1 ⟨as, rs, hD, la, lr, hall, hw1, k1⟩
      refine ⟨D, _, rfl, .inl ⟨SqL.of hD, fun p np => ?_⟩⟩
      refine hQ p rs _ ⟨as, upd_same, la, lr, fun j a e => ?_⟩ (hw1.same (same_upd np)) (k1.trans (Kp.of (same_upd np)))
      obtain ⟨r, r1, r2, r3⟩ := hall j a e
      exact ⟨r, r1, by rw [upd_ne (ne_of_none r2 np)]; exact r2, r3⟩
def spWell (K : Fg) : Sp := fun vs H Q _ => ∃ (a : Addr) (ns : List Int) (t : Nat), vs = [.ref a, .int t] ∧ SqL K H a (ns.map V.int) ∧ ns.length ≤ 63 ∧ ∀ (we : Addr) (H' : Hp), H we = none → WellAt H' we → Same H H' → Q (.ref we) H'
theorem sc_well : FnScope ["_law_script", "_law_turn", "_law_own", "_law_stirred", "_law_each"] ["_law_script", "_law_turn"] (defScope (tp 39)) := ⟨rfl, rfl, rfl, by decide +kernel, rfl, by decide +kernel, by decide +kernel⟩
theorem ok_well (T : Tx K mg) : Def P w K mg base 1 (He.ga K "_law_well") ["_law_script", "_law_turn"] (spWell K) := by
  obtain ⟨fd, F⟩ := T.fn 29 _ rfl
  refine Def.of F (F.ok sc_well (fun vs H Q E h => ?_) (fun cdv A outer s H vs Q E hr h => ?_)) (F.binds fun _ _ _ _ _ _ us hl => match us, hl with | [_, _], _ => rfl)
  · obtain ⟨a, ns, t, rfl, _⟩ := h
    rfl
  · obtain ⟨a, ns, t, rfl, hS, hl, hQ⟩ := h
    refine ⟨_, C8.pss_cut (ps_set (i := 2) sc_well.nd rfl (.inl rfl) (pe_ifExp (pt_cmpR op_lt (pv 1) (pe_callB call_len_seq rfl (T.f "len") boot_len (pa_cons (pv 0) pa_nil)) (nomark _)) (pe_ix ix_list (pv 0) (pv 1) (fun _ _ => rfl)) (pe_op op_add (pe_op op_mul pe_int (pv 1)) pe_int)))
      (pss_cons (ps_set (i := 3) sc_well.nd rfl (.inl rfl) (pe_op op_add pe_int (pe_op op_mul pe_int (pv 1))))
      (pss_cons (ps_for PassesOwn.never rfl (pi_list (pe_op op_cat (pe_slice sl_list (pv 0) po_none (po_some pe_int)) (pe_lst (pa_cons (pv 2) pa_nil)))) (pg_name (i := 4) sc_well.nd rfl (.inl rfl))
        (pss_one (ps_set (i := 3) sc_well.nd rfl (.inl rfl) (pe_op op_mod (pe_callTy call_int1 rfl (T.f "int") boot_int (pa_cons (pe_op op_add (pe_op op_add (pe_op op_mul (pv 3) pe_int) (pe_op op_mod (pe_callTy call_int1 rfl (T.f "int") boot_int (pa_cons (pv 4) pa_nil)) pe_int)) pe_int) pa_nil)) pe_int))))
      (pss_one (ps_ret (pe_lst (pa_cons (pe_ifExp (PW.pt (pw_or (pt_cmpR op_lt (pv 2) pe_int (nomark _)) (pw_or1 (pt_cmpR op_ge (pv 2) (pe_op op_pow pe_int pe_int) (nomark _))))) (pe_callB call_abs rfl (T.f "abs") boot_abs (pa_cons (pv 2) pa_nil)) pe_int) (pa_cons (pv 3) pa_nil))))))), ?_⟩
    refine ⟨fun σ' H' => ∃ own : Int, σ' = [some (.ref a), some (.int t), some (.int own), none, none] ∧ H' = H, ?_, ?_⟩
    · refine ⟨_, rfl, _, rfl, a, _, rfl, .inl hS, _, _, rfl, rfl, _, rfl, ?_⟩
      refine ite2 (fun hc => ?_) (fun hc => ?_)
      · have ht : t < ns.length := by
          have := of_decide_eq_true hc
          rw [List.length_map] at this
          omega
        exact ⟨_, rfl, _, rfl, a, _, _, .int ns[t], rfl, rfl, hS, at_of (j := t) rfl (by rw [List.getElem?_map, List.getElem?_eq_getElem ht]; rfl), ns[t], rfl, rfl⟩
      · exact ⟨_, rfl, _, _, rfl, rfl, .inl (by constructor <;> decide), _, _, rfl, rfl, _, rfl, rfl⟩
    · rintro σ' H' ⟨own, rfl, rfl⟩
      refine ⟨_, rfl, _, _, rfl, rfl, .inl (by constructor <;> decide), _, _, rfl, rfl, ?_⟩
      refine ⟨_, rfl, 5, rfl, a, _, rfl, hS, fun p1 n1 => ?_⟩
      have s1 := same_upd (o := .lst (cutV (ns.map V.int) none (some 5))) n1
      refine ⟨_, rfl, by show 1 ≤ sizeLine; decide, fun p2 n2 => ?_⟩
      have s2 := same_then (o := .lst [.int own]) s1 n2
      obtain ⟨ms, em, lm⟩ : ∃ ms : List Int, cutV (ns.map V.int) none (some 5) = ms.map V.int ∧ ms.length ≤ 63 := by
        refine ⟨(ns.drop (HT.sIx (ns.map V.int).length 0 none)).take (HT.sIx (ns.map V.int).length (ns.map V.int).length (some 5) - HT.sIx (ns.map V.int).length 0 none), ?_, ?_⟩
        · unfold cutV
          rw [List.map_take, List.map_drop]
        · rw [List.length_take, List.length_drop]
          omega
      have n12 : p1 ≠ p2 := ne_of_none upd_same n2
      refine ⟨p1, p2, _, _, rfl, rfl, by rw [upd_ne n12]; exact upd_same, upd_same, ?_, fun p3 n3 => ?_⟩
      · rw [em, List.length_map]
        exact Nat.le_trans (show ms.length + 1 ≤ 64 by omega) (by decide)
      have s3 := same_then (o := .lst (cutV (ns.map V.int) none (some 5) ++ [.int own])) s2 n3
      have eL : cutV (ns.map V.int) none (some 5) ++ [V.int own] = (ms ++ [own]).map V.int := by
        rw [em, List.map_append]
        rfl
      rw [eL] at s3 ⊢
      refine ⟨p3, rfl, ⟨_, SqL.of upd_same⟩, for_list (K := K) (a := p3) (xs := (ms ++ [own]).map V.int) (fun i σ' H2 => ∃ (b : Int) (v4 : Option V), σ' = [some (.ref a), some (.int t), some (.int own), some (.int b), v4] ∧ (i = 0 ∨ (0 ≤ b ∧ b < 2147483579)) ∧ H2 = _) ⟨_, _, rfl, .inl rfl, rfl⟩ ?_ ?_ ?_⟩
      · rintro i σ' H2 _ ⟨_, _, _, _, rfl⟩
        exact SqL.of upd_same
      · rintro i x σ' H2 hx ⟨b, v4, rfl, _, rfl⟩
        obtain ⟨z, _, rfl⟩ := map_at hx
        refine ⟨_, rfl, _, _, rfl, rfl, .inr (by constructor <;> decide), _, rfl, .inl ⟨_, rfl, _, _, rfl, rfl, by show (0 : Int) < 2147483579; decide, _, _, rfl, rfl, _, _, rfl, rfl, .inl ⟨_, rfl, _, _, rfl, rfl, by show (0 : Int) < 2147483579; decide, ?_⟩⟩⟩
        exact ⟨_, _, rfl, .inr ⟨Int.emod_nonneg _ (by decide), Int.emod_lt_of_pos _ (by decide)⟩, rfl⟩
      · rintro σ' H2 ⟨b, v4, rfl, hb, rfl⟩
        have hb2 : 0 ≤ b ∧ b < 2147483579 := by
          rcases hb with z | z
          · simp at z
          · exact z
        have fin : ∀ z : Int, 0 ≤ z → ∀ p4, _ = none → Q (.ref p4) (upd _ p4 (.lst [.int z, .int b])) := fun z hz p4 n4 => hQ p4 _ (s3.free n4) ⟨z, b, upd_same, hz, hb2⟩ (same_then s3 n4)
        refine ⟨_, rfl, _, _, rfl, rfl, _, rfl, ?_⟩
        refine ite2 (fun hc => ?_) (fun hc => ?_)
        · refine iteT ⟨_, rfl, _, rfl, _, rfl, by show 2 ≤ sizeLine; decide, fun p4 n4 => fin _ ?_ p4 n4⟩
          split <;> omega
        · refine ⟨_, rfl, _, _, rfl, rfl, ⟨by decide, by decide, by decide⟩, _, _, rfl, rfl, _, rfl, ?_⟩
          refine ite2 (fun hc2 => ?_) (fun hc2 => ?_)
          · refine ⟨_, rfl, _, rfl, _, rfl, by show 2 ≤ sizeLine; decide, fun p4 n4 => fin _ ?_ p4 n4⟩
            split <;> omega
          · exact ⟨_, rfl, by show 2 ≤ sizeLine; decide, fun p4 n4 => fin 0 (by decide) p4 n4⟩
end
end K46
end
section
set_option Elab.async false
set_option linter.all false
set_option autoImplicit false
set_option maxRecDepth 100000
set_option maxHeartbeats 4000000
set_option exponentiation.threshold 3000
/-! K46O: the law's stands beside a bench. -/
namespace K46
open PySem PySem.Spec PyProof.Rows L2
/-- all stands: one of the two tables, n fractions each, no greater than their height allows -/
def Gd (n : Nat) (g0 g1 : Addr) : List Std → Prop
  | [] => True
  | d :: D => (d.1 = g0 ∨ d.1 = g1) ∧ d.2.length = n ∧ (∀ q ∈ d.2, FracOk D.length q) ∧ Gd n g0 g1 D
/-- a bench as led, and what leads it -/
structure Sit (K : Fg) (H : Hp) (we b l tb : Addr) (n : Nat) (g0 g1 : Addr) (D : List Std) : Prop where
  well : WellAt H we
  bench : BenchAt K H b D
  stands : StandsAt K H l D
  tabs : H tb = some (.lst [.ref g0, .ref g1])
  t0 : ∃ rows, TableAt K H g0 n rows
  t1 : ∃ rows, TableAt K H g1 n rows
  gd : Gd n g0 g1 D
  last : D.getLast? = some (g0, zeros n)
  n2 : n ≤ 2
section
variable {K : Fg} {H H' : Hp} {we b l tb g0 g1 : Addr} {n : Nat} {D : List Std} {S : List Addr}
theorem BenchAt.wr (h : BenchAt K H b D) : WrS H [b] := by
  obtain ⟨dx, st, h, _⟩ := h
  exact wr_bench h
theorem wr_cons {x : Addr} (h : WrS H [x]) (s : WrS H S) : WrS H (x :: S) := fun c hc => by
  rcases List.mem_cons.mp hc with e | e
  · rw [e]
    exact h x (List.mem_cons_self ..)
  · exact s c e
theorem Sit.ne (s : Sit K H we b l tb n g0 g1 D) : D ≠ [] := s.bench.ne
theorem Sit.wr (s : Sit K H we b l tb n g0 g1 D) : WrS H [we, b] := wr_cons s.well.wr s.bench.wr
theorem Sit.wb (s : Sit K H we b l tb n g0 g1 D) : we ≠ b := by
  obtain ⟨x, y, h, _⟩ := s.well
  obtain ⟨dx, st, h2, _⟩ := s.bench
  exact ne_of h h2 (fun q => by cases q)
theorem tabs_kp (h : H tb = some (.lst [.ref g0, .ref g1])) (k : Kp S H H') (w : WrS H S) : H' tb = some (.lst [.ref g0, .ref g1]) := k _ _ h (w.no h no_pair)
theorem Sit.kp (s : Sit K H we b l tb n g0 g1 D) (k : Kp S H H') (w : WrS H S) (n1 : we ∉ S) (n2 : b ∉ S) : Sit K H' we b l tb n g0 g1 D := by
  obtain ⟨r0, h0⟩ := s.t0
  obtain ⟨r1, h1⟩ := s.t1
  exact ⟨s.well.kp k n1, s.bench.kp k w n2, s.stands.kp k w s.ne, tabs_kp s.tabs k w, ⟨r0, h0.kw k w⟩, ⟨r1, h1.kw k w⟩, s.gd, s.last, s.n2⟩
theorem Sit.same (s : Sit K H we b l tb n g0 g1 D) (k : Same H H') : Sit K H' we b l tb n g0 g1 D := s.kp (Kp.of (S := []) k) wr_nil (by simp) (by simp)
/-- behind a draw -/
theorem Sit.draw (s : Sit K H we b l tb n g0 g1 D) (k : Kp [we] H H') (hw : WellAt H' we) : Sit K H' we b l tb n g0 g1 D := by
  obtain ⟨r0, h0⟩ := s.t0
  obtain ⟨r1, h1⟩ := s.t1
  have w := s.well.wr
  exact ⟨hw, s.bench.kp k w (by simpa using s.wb.symm), s.stands.kp k w s.ne, tabs_kp s.tabs k w, ⟨r0, h0.kw k w⟩, ⟨r1, h1.kw k w⟩, s.gd, s.last, s.n2⟩
/-- behind a step: the bench has other stages, the stands are another list -/
theorem Sit.move {l' : Addr} {D' : List Std} (s : Sit K H we b l tb n g0 g1 D) (k : Kp [b] H H') (hb : BenchAt K H' b D') (hs : StandsAt K H' l' D') (gd : Gd n g0 g1 D') (la : D'.getLast? = some (g0, zeros n)) : Sit K H' we b l' tb n g0 g1 D' := by
  obtain ⟨r0, h0⟩ := s.t0
  obtain ⟨r1, h1⟩ := s.t1
  have w := s.bench.wr
  exact ⟨s.well.kp k (by simpa using s.wb), hb, hs, tabs_kp s.tabs k w, ⟨r0, h0.kw k w⟩, ⟨r1, h1.kw k w⟩, gd, la, s.n2⟩
theorem Sit.top {d : Std} (s : Sit K H we b l tb n g0 g1 (d :: D)) : ∃ rows, TableAt K H d.1 n rows := by
  rcases s.gd.1 with e | e
  · rw [e]; exact s.t0
  · rw [e]; exact s.t1
/-- the stands with one more -/
theorem StandsAt.push {s wt p : Addr} {d : Std} {xs : List V} {l : Addr} (h : StandsAt K H l D) (sm : Same H H') (hx : H l = some (.lst xs)) (hs : H' s = some (.lst [.ref wt, .ref d.1])) (hL : LoadAt K H' wt d.2) (hp : H' p = some (.lst (xs ++ [.ref s]))) : StandsAt K H' p (d :: D) := by
  obtain ⟨ss, h1, h2⟩ := h
  rw [hx] at h1
  cases h1
  refine ⟨s :: ss, ?_, .cons ⟨wt, hs, hL⟩ (paired_kp (fun _ _ q => q.kp (Kp.of (S := []) sm) wr_nil) h2)⟩
  rw [hp, List.reverse_cons, List.map_append]
  rfl
end
section
variable {P : Program} {w : World} {K : Fg} {mg : Str → Option Value} {base : Heap}
theorem eq_load {H : Hp} {w1 w2 : Addr} {qs : Load} (h1 : LoadAt K H w1 qs) (h2 : LoadAt K H w2 qs) : DTup K (DTup K DFlat) (.ref w1) (.ref w2) H := by
  obtain ⟨as, a1, a2, a3⟩ := h1
  obtain ⟨cs, c1, c2, c3⟩ := h2
  refine ⟨w1, w2, _, _, rfl, rfl, a1, c1, by rw [List.length_map, List.length_map, a2, c2], fun i x y hx hy => ?_⟩
  obtain ⟨a, ha, rfl⟩ := map_at hx
  obtain ⟨c, hc, rfl⟩ := map_at hy
  obtain ⟨q, q1, q2⟩ := a3 i a ha
  obtain ⟨q', q3, q4⟩ := c3 i c hc
  rw [q1] at q3
  cases q3
  refine ⟨a, c, _, _, rfl, rfl, q2, q4, rfl, fun j x y hx hy => ?_⟩
  rw [hx] at hy
  cases hy
  match j, hx with
  | 0, hx =>
    cases hx
    exact ⟨rfl, rfl, by simp [eqV]⟩
  | 1, hx =>
    cases hx
    exact ⟨rfl, rfl, by simp [eqV]⟩
  | j + 2, hx => simp at hx
def spStands (K : Fg) : Sp := fun vs H Q _ => ∃ (b l : Addr) (n : Nat) (rows : List (List Int)) (d : Std) (D : List Std), vs = [.ref b, .ref l] ∧ BenchAt K H b (d :: D) ∧ StandsAt K H l (d :: D) ∧ TableAt K H d.1 n rows ∧ ∀ H', Same H H' → Q (.bl true) H'
theorem sc_stands : FnScope ["_law_bench", "_law_stands_here", "_law_load", "_law_now"] ["_law_bench", "_law_stands_here"] (defScope (tp 48)) := ⟨rfl, rfl, rfl, by decide +kernel, rfl, by decide +kernel, by decide +kernel⟩
theorem ok_stands (T : Tx K mg) : Def P w K mg base 4 (He.ga K "_law_stands") ["_law_bench", "_law_stands_here"] (spStands K) := by
  obtain ⟨fd, F⟩ := T.fn 36 _ rfl
  obtain ⟨fdE, GE, bE⟩ := (ok_tabE (P := P) (w := w) (base := base) T).ex
  refine Def.of F (F.ok sc_stands (fun vs H Q E h => ?_) (fun cdv A outer s H vs Q E hr h => ?_)) (F.binds fun _ _ _ _ _ _ us hl => match us, hl with | [_, _], _ => rfl)
  · obtain ⟨b, l, n, rows, d, D, rfl, _⟩ := h
    rfl
  · obtain ⟨b, l, n, rows, d, D, rfl, hB, hS, hT, hQ⟩ := h
    have cB := T.c "Bench"
    have mE := T.m "Table" "__eq__"
    refine ⟨_, pss_cons (ps_asg (pe_ix ix_list (pv 1) (pe_un un_neg pe_int) (fun _ _ => rfl)) (pg_unl rfl (pgs_cons (pg_name (i := 2) sc_stands.nd rfl (.inl rfl)) (pgs_cons (pg_name (i := 3) sc_stands.nd rfl (.inl rfl)) pgs_nil))))
      (pss_one (ps_ret (pe_and (pe_cmpR (op_eqG (rcG_tup (mon_tup mon_flat) (eqG_tup mon_flat eqG_flat)) (hr.mono (by decide))) (pprop (pv 0) cB (T.p "Bench" "load") (ok_loa T) hr) (pv 2) (nomark _))
        (pe_and (pe_cmpR (op_eqG (rcG_ins (C := He.ga K "Table") GE mE.at_ mE.fn bE pass0) hr) (pprop (pv 0) cB (T.p "Bench" "table") (ok_tab T) hr) (pv 3) (nomark _))
        (pe_one (pe_cmpR op_eq (pprop (pv 0) cB (T.p "Bench" "changes") (ok_cha T) hr) (pe_op op_sub (pe_callB call_len_seq rfl (T.f "len") boot_len (pa_cons (pv 1) pa_nil)) pe_int) (nomark _))))))), ?_⟩
    obtain ⟨ss, h1, h2⟩ := id hS
    cases h2 with
    | @cons s0 _ ss' _ hst hrest =>
      obtain ⟨wt, hs, hL⟩ := hst
      have eL : ((s0 :: ss').reverse.map V.ref) = ss'.reverse.map V.ref ++ [V.ref s0] := by
        rw [List.reverse_cons, List.map_append]
        rfl
      have lenS : ss'.length = D.length := hrest.length
      refine ⟨_, rfl, _, rfl, l, _, -1, .ref s0, rfl, rfl, SqL.of h1, by rw [eL]; exact atI_last _ _, s0, _, rfl, SqL.of hs, rfl, _, _, rfl, _, _, rfl, rfl, ?_⟩
      obtain ⟨dx, st, hb, hC⟩ := id hB
      refine ⟨_, rfl, b, dx, _, rfl, hb, b, d, D, rfl, hB, fun wt' hL' => ⟨_, rfl, eq_load hL' hL, fun H1 e1 => ?_⟩⟩
      have s1 : Same H H1 := e1
      refine ⟨true, rfl, iteT ?_⟩
      have hB1 := hB.kp (Kp.of (S := []) s1) wr_nil (by simp)
      refine ⟨_, rfl, b, dx, _, rfl, s1 _ _ hb, b, d, D, rfl, hB1, _, rfl, ?_, fun H2 e2 => ?_⟩
      · obtain ⟨dg, rt, hg, hR⟩ := id (hT.same s1)
        exact ⟨d.1, d.1, dg, dg, _, _, rfl, rfl, hg, hg, rfl, n, rows, hT.same s1⟩
      have s2 : Same H H2 := s1.trans e2
      have hB2 := hB.kp (Kp.of (S := []) s2) wr_nil (by simp)
      refine ⟨true, rfl, iteT ?_⟩
      refine ⟨_, rfl, b, dx, _, rfl, s2 _ _ hb, b, d, D, rfl, hB2, _, rfl, l, _, rfl, .inl (SqL.of (s2 _ _ h1)), _, _, rfl, rfl, rfl, ?_⟩
      have e : decide (V.int (D.length : Int) = V.int ((((s0 :: ss').reverse.map V.ref).length : Int) - 1)) = true := decide_eq_true (by
        rw [eL, List.length_append, List.length_map, List.length_reverse, lenS]
        simp)
      show Q (V.bl (decide (V.int (D.length : Int) = V.int ((((s0 :: ss').reverse.map V.ref).length : Int) - 1)))) H2
      rw [e]
      exact hQ H2 s2
end
end K46
end
section
set_option Elab.async false
set_option linter.all false
set_option autoImplicit false
set_option maxRecDepth 100000
set_option maxHeartbeats 4000000
set_option exponentiation.threshold 3000
/-! K46P: the law's steps (_law_led). -/
namespace K46
open PySem PySem.Spec PyProof.Rows L2
/-- a + b of tuples: some tuple of both's items -/
def rCatS (K : Fg) : R2 := fun x y H Q => ∃ a b xs ys, x = .ref a ∧ y = .ref b ∧ SqT K H a xs ∧ SqT K H b ys ∧ xs.length + ys.length ≤ sizeLine ∧ ∀ p H', SqT K H' p (xs ++ ys) → Same H H' → Q (.ref p) H'
theorem op_catS {X : Cx} : OpR X (binaryOp .Add) (rCatS X.K) := by
  intro pins s σ H x y v u Q I rx ry h
  obtain ⟨a, b, xs, ys, e1, e2, h1, h2, hl, hQ⟩ := h
  refine op_catA pins s σ H x y v u Q I rx ry ⟨a, b, xs, ys, e1, e2, h1, h2, hl, fun z => ?_, fun _ z => ?_, fun _ _ p np => ?_⟩
  · subst z
    exact hQ b H h2 (Same.refl H)
  · subst z
    exact hQ a H (by rw [List.append_nil]; exact h1) (Same.refl H)
  · exact hQ p _ (SqT.of upd_same) (same_upd np)
theorem cut_hi {xs : List V} {i : Nat} (h : i < xs.length) : cutV xs none (some (i : Int)) = xs.take i := by
  unfold cutV
  rw [HT.sIx_nat, HT.sIx_none, Nat.min_eq_left (by omega)]
  simp
theorem cut_lo {xs : List V} {i : Nat} (h : i < xs.length) : cutV xs (some ((i : Int) + 1)) none = xs.drop (i + 1) := by
  unfold cutV
  rw [show (i : Int) + 1 = ((i + 1 : Nat) : Int) by omega, HT.sIx_nat, HT.sIx_none, Nat.min_eq_left (by omega)]
  exact List.take_of_length_le (by rw [List.length_drop]; omega)
theorem not_whole_hi {n i : Nat} (h : i < n) : ¬ (HT.sIx n 0 none = 0 ∧ HT.sIx n n (some (i : Int)) = n) := by
  rw [HT.sIx_nat]
  omega
theorem not_whole_lo {n i : Nat} (h : i < n) : ¬ (HT.sIx n 0 (some ((i : Int) + 1)) = 0 ∧ HT.sIx n n none = n) := by
  rw [show (i : Int) + 1 = ((i + 1 : Nat) : Int) by omega, HT.sIx_nat]
  omega
theorem cut_last {xs : List V} {v : V} : cutV (xs ++ [v]) none (some (-1)) = xs := by
  unfold cutV
  rw [HT.sIx_none]
  have e : HT.sIx (xs ++ [v]).length (xs ++ [v]).length (some (-1)) = xs.length := by
    show (if (-1 : Int) < 0 then ((-1 : Int) + ((xs ++ [v]).length : Int)).toNat else min (-1 : Int).toNat (xs ++ [v]).length) = xs.length
    rw [if_pos (by decide), List.length_append, List.length_singleton]
    omega
  rw [e]
  simp
/-- two tests, both asked without a change -/
theorem if_and2 {t u : TT} {A B : TS} {D : Ends} {σ : L2.St} {H : Hp} {c1 c2 : Bool} (h1 : ∀ R : Bool → Hp → Prop, R c1 H → t σ H R) (h2 : ∀ R : Bool → Hp → Prop, R c2 H → u σ H R) (hA : (c1 && c2) = true → A D σ H) (hB : ¬ (c1 && c2) = true → B D σ H) : tIfS (tAnd t u) A B D σ H := by
  refine h1 _ ?_
  cases c1 with
  | true => exact iteT (h2 _ (ite2 hA hB))
  | false => exact iteF (iteF (hB (by simp)))
theorem nl {v : V} {m : Str} (h : ¬ m = "stage") : List.lookup m [(("stage" : Str), v)] = none := by
  rw [look_on h]
  rfl
theorem load_set {K : Fg} {H H' : Hp} {p r : Addr} {as : List Addr} {qs : Load} {j : Nat} {q : Int × Int} (h2 : as.length = qs.length) (h3 : ∀ (i : Nat) (a : Addr), as[i]? = some a → ∃ q, qs[i]? = some q ∧ PairT K H a q) (s : Same H H')
    (hj : j < qs.length) (hr : PairT K H' r q) (hp : SqT K H' p ((as.set j r).map V.ref)) : LoadAt K H' p (qs.set j q) := by
  refine ⟨as.set j r, hp, by rw [List.length_set, List.length_set]; exact h2, fun i c e => ?_⟩
  by_cases hi : j = i
  · subst hi
    rw [List.getElem?_set_self (by omega)] at e
    cases e
    exact ⟨q, List.getElem?_set_self hj, hr⟩
  · rw [List.getElem?_set_ne hi] at e
    obtain ⟨q', e1, e2⟩ := h3 i c e
    exact ⟨q', by rw [List.getElem?_set_ne hi]; exact e1, sqt_kp e2 (Kp.of (S := []) s) wr_nil⟩
section
variable {P : Program} {w : World} {K : Fg} {mg : Str → Option Value} {base : Heap}
def spLed (K : Fg) : Sp := fun vs H Q _ => ∃ (we b l tb : Addr) (n : Nat) (g0 g1 : Addr) (D : List Std), vs = [.ref we, .ref b, .ref l, .ref tb] ∧ Sit K H we b l tb n g0 g1 D ∧ 1 ≤ n ∧ D.length + 4 ≤ 30 ∧
  ∀ (l' : Addr) (D' : List Std) (H' : Hp), Sit K H' we b l' tb n g0 g1 D' → D'.length ≤ D.length + 4 → Kp [we, b] H H' → Q (.ref l') H'
abbrev NLed : List Str := ["_law_well_here", "_law_bench", "_law_stands_here", "_law_tables", "_law_turn", "_law_load", "_law_now", "_law_way", "_law_at", "_law_size"]
theorem sc_led : FnScope NLed ["_law_well_here", "_law_bench", "_law_stands_here", "_law_tables"] (defScope (tp 49)) := ⟨rfl, rfl, rfl, by decide +kernel, rfl, by decide +kernel, by decide +kernel⟩
theorem ok_led (T : Tx K mg) : Def P w K mg base 6 (He.ga K "_law_led") ["_law_well_here", "_law_bench", "_law_stands_here", "_law_tables"] (spLed K) := by
  obtain ⟨fd, F⟩ := T.fn 37 _ rfl
  refine Def.of F (F.ok sc_led (fun vs H Q E h => ?_) (fun cdv A outer s H vs Q E hr h => ?_)) (F.binds fun _ _ _ _ _ _ us hl => match us, hl with | [_, _, _, _], _ => rfl)
  · obtain ⟨we, b, l, tb, n, g0, g1, D, rfl, _⟩ := h
    rfl
  · obtain ⟨we, b, l, tb, n, g0, g1, D, rfl, hS, hn1, hcap, hQ⟩ := h
    have cB := T.c "Bench"
    refine ⟨_, pss_cons (ps_for PassesOwn.never rfl (pi_range1 rfl (T.f "range") (pa_cons (pcall (ok_take T) (T.g "_law_take") hr (pa_cons (pv 0) (pa_cons pe_int pa_nil))) pa_nil)) (pg_name (i := 4) sc_led.nd rfl (.inl rfl))
        (pss_cons (ps_asg (pe_ix ix_list (pv 2) (pe_un un_neg pe_int) (fun _ _ => rfl)) (pg_unl rfl (pgs_cons (pg_name (i := 5) sc_led.nd rfl (.inl rfl)) (pgs_cons (pg_name (i := 6) sc_led.nd rfl (.inl rfl)) pgs_nil))))
        (pss_cons (ps_par3 (i := 7) (j := 8) (l := 9) rfl sc_led.nd rfl rfl rfl (by decide) (by decide) (by decide) rfl rfl rfl
            (pa_cons (pcall (ok_take T) (T.g "_law_take") hr (pa_cons (pv 0) (pa_cons pe_int pa_nil))) (pa_cons (pcall (ok_take T) (T.g "_law_take") hr (pa_cons (pv 0) (pa_cons (pe_callB call_len_seq rfl (T.f "len") boot_len (pa_cons (pv 5) pa_nil)) pa_nil)))
              (pa_cons (pcall (ok_frac T) (T.g "_law_fraction") hr (pa_cons (pv 0) pa_nil)) pa_nil))) rfl)
        (pss_one (ps_if (PW.pt (pw_and (pt_cmpR op_gt (pv 7) pe_int (nomark _)) (pw_and1 (pt_cmpR op_gt (pe_callB call_len_seq rfl (T.f "len") boot_len (pa_cons (pv 2) pa_nil)) pe_int (nomark _)))))
          (pss_cons (ps_expr (pmeth0 (pv 1) cB (T.m "Bench" "undo") (ok_und T) hr)) (pss_one (ps_set (i := 2) sc_led.nd rfl (.inl rfl) (pe_slice sl_list (pv 2) po_none (po_some (pe_un un_neg pe_int))))))
          (pss_one (ps_if (pt_cmpR op_eq (pv 7) pe_int (nomark _))
            (pss_cons (ps_expr (pmeth (pv 1) cB (T.m "Bench" "change") (ok_chg T) hr (pa_cons (pe_ix ix_list (pv 3) (pv 8) (fun _ _ => rfl)) pa_nil)))
              (pss_one (ps_set (i := 2) sc_led.nd rfl (.inl rfl) (pe_op op_cat (pv 2) (pe_lst (pa_cons (pe_lst (pa_cons (pv 5) (pa_cons (pe_ix ix_list (pv 3) (pv 8) (fun _ _ => rfl)) pa_nil))) pa_nil))))))
            (pss_cons (ps_expr (pmeth (pv 1) cB (T.m "Bench" "add") (ok_add T) hr (pa_cons (pv 8) (pa_cons (pv 9) pa_nil))))
              (pss_one (ps_set (i := 2) sc_led.nd rfl (.inl rfl) (pe_op op_cat (pv 2) (pe_lst (pa_cons (pe_lst (pa_cons
                (pe_op op_catS (pe_op op_catS (pe_slice sl_tup (pv 5) po_none (po_some (pv 8))) (pe_tup (pa_cons (pcall (ok_sumL T) (T.g "_law_sum") hr (pa_cons (pe_ix ix_tup (pv 5) (pv 8) (fun _ _ => rfl)) (pa_cons (pv 9) pa_nil))) pa_nil)))
                  (pe_slice sl_tup (pv 5) (po_some (pe_op op_add (pv 8) pe_int)) po_none)) (pa_cons (pv 6) pa_nil))) pa_nil))))))))))))) (pss_one (ps_ret (pv 2))), ?_⟩
    refine ⟨_, rfl, we, 5, rfl, hS.well, by decide, by decide, fun m H1 m0 m5 hw1 k1 => ?_⟩
    have k1' : Kp [we, b] H H1 := k1.more (by simp)
    refine ⟨m, rfl, by omega, by omega, for_range (n := m.toNat) (fun i σ H' => ∃ (l' : Addr) (D' : List Std) (v4 v5 v6 v7 v8 v9 : Option V), σ = [some (.ref we), some (.ref b), some (.ref l'), some (.ref tb), v4, v5, v6, v7, v8, v9] ∧
      Sit K H' we b l' tb n g0 g1 D' ∧ D'.length ≤ D.length + i ∧ Kp [we, b] H H') ⟨l, D, _, _, _, _, _, _, rfl, hS.draw k1 hw1, Nat.le_refl _, k1'⟩ ?_ ?_⟩
    · rintro i σ H2 hi ⟨l2, D2, v4, v5, v6, v7, v8, v9, rfl, s2, len2, k2⟩
      have i4 : i < 4 := by omega
      cases D2 with
      | nil => exact absurd rfl s2.ne
      | cons d D3 =>
      obtain ⟨ss, h1, hpr⟩ := id s2.stands
      cases hpr with
      | @cons s0 _ ss' _ hst hrest =>
      obtain ⟨wt, hs0, hL⟩ := hst
      have eL : ((s0 :: ss').reverse.map V.ref) = ss'.reverse.map V.ref ++ [V.ref s0] := by
        rw [List.reverse_cons, List.map_append]
        rfl
      have lenS : ss'.length = D3.length := hrest.length
      have ln : d.2.length = n := s2.gd.2.1
      obtain ⟨as, w1, w2, w3⟩ := id hL
      have lw : (as.map V.ref).length = n := by rw [List.length_map, w2, ln]
      -- load, now = stands[-1]; way, at, size
      refine ⟨_, rfl, _, rfl, l2, _, -1, .ref s0, rfl, rfl, SqL.of h1, by rw [eL]; exact atI_last _ _, s0, _, rfl, SqL.of hs0, rfl, _, _, rfl, _, _, rfl, rfl, ?_⟩
      refine ⟨_, rfl, we, 5, rfl, s2.well, by decide, by decide, fun way H3 wy0 wy5 hw3 k3 => ?_⟩
      have s3 := s2.draw k3 hw3
      refine ⟨_, rfl, _, rfl, wt, _, rfl, .inr (sqt_kp w1 k3 s2.well.wr), we, _, rfl, hw3, by rw [lw]; omega, ?_, fun at_ H4 at0 at1 hw4 k4 => ?_⟩
      · rw [lw]
        have := s2.n2
        exact Nat.lt_of_le_of_lt (show (n : Int).natAbs ≤ 2 by omega) (by decide)
      rw [lw] at at1
      obtain ⟨j, rfl⟩ : ∃ j : Nat, at_ = (j : Int) := ⟨at_.toNat, by omega⟩
      have hj : j < n := by omega
      refine ⟨_, rfl, we, rfl, hw4, fun p q H5 hp dq hw5 k5 => ⟨_, _, _, rfl, ?_⟩⟩
      have k25 : Kp [we] H2 H5 := (k3.trans k4).trans k5
      have s5 := s2.draw k25 hw5
      have wr2 := s2.well.wr
      have h1' : H5 l2 = some (.lst (ss'.reverse.map V.ref ++ [V.ref s0])) := by
        rw [← eL]
        exact k25 _ _ h1 (wr2.no h1 (by rw [eL]; cases hh : ss'.reverse with
          | nil => exact no_refs (r := [])
          | cons x y => exact (by
              have := no_refs (a := x) (r := y ++ [s0])
              rw [List.map_cons, List.map_append] at this
              exact this)))
      have hs5 : H5 s0 = some (.lst [.ref wt, .ref d.1]) := k25 _ _ hs0 (wr2.no hs0 no_pair)
      have hL5 := hL.kp k25 wr2
      have w15 := sqt_kp w1 k25 wr2
      have k05 : Kp [we, b] H H5 := k2.trans (k25.more (by simp))
      obtain ⟨dx, st, hb, hC⟩ := id s5.bench
      have w5b := s5.bench.wr
      have lenL : (ss'.reverse.map V.ref ++ [V.ref s0]).length = D3.length + 1 := by
        rw [List.length_append, List.length_map, List.length_reverse, lenS]
        rfl
      have small : D3.length + 1 ≤ 29 := by
        have : (d :: D3).length = D3.length + 1 := rfl
        omega
      dsimp only
      refine if_and2 (c1 := decide (2 < way)) (c2 := decide (1 < ((ss'.reverse.map V.ref ++ [V.ref s0]).length : Int))) (fun R r => ⟨_, rfl, _, _, rfl, rfl, _, rfl, r⟩) (fun R r => ⟨_, rfl, l2, _, rfl, .inl (SqL.of h1'), _, _, rfl, rfl, _, rfl, r⟩) (fun hc => ?_) (fun _ => ?_)
      · -- undo
        have h2 : 1 < ((ss'.reverse.map V.ref ++ [V.ref s0]).length : Int) := of_decide_eq_true (Bool.and_eq_true_iff.mp hc).2
        have hD3 : D3 ≠ [] := fun z => by
          rw [lenL, z] at h2
          simp at h2
        refine ⟨_, rfl, b, dx, _, rfl, hb, nl (by decide +kernel), b, d, D3, rfl, s5.bench, hD3, fun H6 hB6 k6 => ?_⟩
        have hl6 : H6 l2 = some (.lst (ss'.reverse.map V.ref ++ [V.ref s0])) := k6 _ _ h1' (w5b.no h1' (by
          have := (show ¬ Mutb (.lst ((s0 :: ss').reverse.map V.ref)) from by
            cases hh : (s0 :: ss').reverse with
            | nil => simp at hh
            | cons x y => exact no_refs)
          rw [eL] at this
          exact this))
        refine ⟨_, rfl, _, rfl, -1, rfl, l2, _, rfl, SqL.of hl6, fun p6 n6 => ?_⟩
        have sm := same_upd (o := .lst (cutV (ss'.reverse.map V.ref ++ [V.ref s0]) none (some (-1)))) n6
        have k5f : Kp [b] H5 (upd H6 p6 (.lst (cutV (ss'.reverse.map V.ref ++ [V.ref s0]) none (some (-1))))) := k6.trans (Kp.of sm)
        refine ⟨p6, D3, _, _, _, _, _, _, rfl, s5.move k5f (hB6.kp (Kp.of (S := []) sm) wr_nil (by simp)) ⟨ss', by rw [upd_same, cut_last], paired_kp (fun _ _ z => (z.kp k25 wr2).kp k5f w5b) hrest⟩ s5.gd.2.2.2 ?_, ?_, k05.trans (k5f.more (by simp))⟩
        · have la := s5.last
          cases D3 with
          | nil => exact absurd rfl hD3
          | cons e E => rw [List.getLast?_cons_cons] at la; exact la
        · have : (d :: D3).length = D3.length + 1 := rfl
          omega
      · have hno : ¬ Mutb (.lst (ss'.reverse.map V.ref ++ [V.ref s0])) := by
          have := (show ¬ Mutb (.lst ((s0 :: ss').reverse.map V.ref)) from by
            cases hh : (s0 :: ss').reverse with
            | nil => simp at hh
            | cons x y => exact no_refs)
          rw [eL] at this
          exact this
        have fitL : ∀ v : V, (ss'.reverse.map V.ref ++ [V.ref s0]).length + [v].length ≤ sizeLine := fun v => by
          rw [lenL]
          exact Nat.le_trans (show D3.length + 1 + 1 ≤ 31 by omega) (by decide)
        obtain ⟨rows, hT5⟩ := s5.top
        refine ⟨_, rfl, rfl, _, rfl, ?_⟩
        refine ite2 (fun hc => ?_) (fun _ => ?_)
        · -- change
          obtain ⟨g', hg', hgg, rows', hT'⟩ : ∃ g', [V.ref g0, V.ref g1][j]? = some (V.ref g') ∧ (g' = g0 ∨ g' = g1) ∧ ∃ rows', TableAt K H5 g' n rows' := by
            have := s5.n2
            match j, hj with
            | 0, _ => exact ⟨g0, rfl, .inl rfl, s5.t0⟩
            | 1, _ => exact ⟨g1, rfl, .inr rfl, s5.t1⟩
            | k + 2, h => omega
          refine ⟨_, rfl, b, dx, _, rfl, hb, nl (by decide +kernel), _, rfl, _, rfl, tb, _, (j : Int), .ref g', rfl, rfl, SqL.of s5.tabs, at_of rfl hg', b, g', n, d, D3, rows, rows', rfl, s5.bench, hT5, hT', fun H6 hB6 k6 => ?_⟩
          have hl6 : H6 l2 = some (.lst (ss'.reverse.map V.ref ++ [V.ref s0])) := k6 _ _ h1' (w5b.no h1' hno)
          refine ⟨_, rfl, _, rfl, _, rfl, _, rfl, tb, _, (j : Int), .ref g', rfl, rfl, SqL.of (tabs_kp s5.tabs k6 w5b), at_of rfl hg', by show 2 ≤ sizeLine; decide, fun p6 n6 => ⟨by show 1 ≤ sizeLine; decide, fun p7 n7 => ?_⟩⟩
          have m6 := same_upd (o := .lst [.ref wt, .ref g']) n6
          have m7 := same_then (o := .lst [.ref p6]) m6 n7
          refine ⟨l2, p7, _, _, rfl, rfl, m7 _ _ hl6, upd_same, fitL _, fun p8 n8 => ?_⟩
          have m8 := same_then (o := .lst (ss'.reverse.map V.ref ++ [V.ref s0] ++ [.ref p6])) m7 n8
          have k5f := k6.trans (Kp.of (S := [b]) m8)
          refine ⟨p8, (g', d.2) :: d :: D3, _, _, _, _, _, _, rfl, s5.move k5f (hB6.kp (Kp.of (S := []) m8) wr_nil (by simp)) ((s5.stands.kp k6 w5b s5.ne).push m8 hl6 (wt := wt) (s := p6) ?_ (hL5.kp k5f w5b) upd_same) ⟨hgg, ln, fun q' hq' => (s5.gd.2.2.1 q' hq').mono (Nat.le_succ _), s5.gd⟩ ?_, ?_, k05.trans (k5f.more (by simp))⟩
          · have n67 : p6 ≠ p7 := ne_of_none upd_same n7
            have n68 : p6 ≠ p8 := ne_of_none (show (upd (upd H6 p6 (.lst [.ref wt, .ref g'])) p7 (.lst [.ref p6])) p6 = some (.lst [.ref wt, .ref g']) by rw [upd_ne n67]; exact upd_same) n8
            rw [upd_ne n68, upd_ne n67]
            exact upd_same
          · rw [List.getLast?_cons_cons]
            exact s5.last
          · have e1 : (d :: D3).length = D3.length + 1 := rfl
            have e2 : ((g', d.2) :: d :: D3).length = D3.length + 2 := rfl
            omega
        · -- add
          have jd : j < d.2.length := by omega
          have ja : j < as.length := by omega
          obtain ⟨q0, hq0, hP0⟩ := w3 j as[j] (List.getElem?_eq_getElem ja)
          have f0 : FracOk D3.length q0 := s5.gd.2.2.1 q0 (List.mem_of_getElem? hq0)
          have aj : (as.map V.ref)[j]? = some (V.ref as[j]) := by
            rw [List.getElem?_map, List.getElem?_eq_getElem ja]
            rfl
          have jl : j < (as.map V.ref).length := by omega
          refine ⟨_, rfl, b, dx, _, rfl, hb, nl (by decide +kernel), _, rfl, _, rfl, b, p, j, n, d, D3, rows, q, q0, rfl, s5.bench, hT5, ln, s5.n2, hq0, hp, dq, f0, by omega, fun H6 hB6 k6 => ?_⟩
          have hl6 : H6 l2 = some (.lst (ss'.reverse.map V.ref ++ [V.ref s0])) := k6 _ _ h1' (w5b.no h1' hno)
          have w16 := sqt_kp w15 k6 w5b
          have k26 : Kp [we, b] H2 H6 := (k25.more (by simp)).trans (k6.more (by simp))
          have hp6 : H6 p = some (.tup [.int q.1, .int q.2]) := k6 _ _ hp (w5b.no hp no_tup)
          have hP6 : PairT K H6 as[j] q0 := sqt_kp hP0 k26 s2.wr
          -- load[:at]
          refine ⟨_, rfl, _, rfl, _, rfl, (j : Int), rfl, wt, _, rfl, w16, not_whole_hi jl, fun p6 n6 => ?_⟩
          have m6 := same_upd (o := .tup (cutV (as.map V.ref) none (some (j : Int)))) n6
          -- (sum(load[at], size),)
          refine ⟨_, rfl, _, rfl, wt, _, (j : Int), .ref as[j], rfl, rfl, sqt_kp w16 (Kp.of (S := []) m6) wr_nil, at_of rfl aj, _, rfl, as[j], p, q0, q, rfl, sqt_kp hP6 (Kp.of (S := []) m6) wr_nil, SqT.of (m6 _ _ hp6), f0.wd (by omega), dq.wd, (raw_ok f0 dq).wd (by omega), fun r nr => ?_⟩
          have mr := same_then (o := .tup [.int (sum2 q0 q).1, .int (sum2 q0 q).2]) m6 nr
          refine ⟨by show 1 ≤ sizeLine; decide, fun p7 n7 => ?_⟩
          have m7 := same_then (o := .tup [.ref r]) mr n7
          have h67 : (upd (upd (upd H6 p6 (.tup (cutV (as.map V.ref) none (some (j : Int))))) r (.tup [.int (sum2 q0 q).1, .int (sum2 q0 q).2])) p7 (.tup [.ref r])) p6 = some (.tup (cutV (as.map V.ref) none (some (j : Int)))) := (same_then (same_upd nr) n7) _ _ upd_same
          have hr7 : (upd (upd (upd H6 p6 (.tup (cutV (as.map V.ref) none (some (j : Int))))) r (.tup [.int (sum2 q0 q).1, .int (sum2 q0 q).2])) p7 (.tup [.ref r])) r = some (.tup [.int (sum2 q0 q).1, .int (sum2 q0 q).2]) := (same_upd n7) _ _ upd_same
          have fit1 : (cutV (as.map V.ref) none (some (j : Int))).length + [V.ref r].length ≤ sizeLine := by
            have := cutV_length (as.map V.ref) none (some (j : Int))
            have := s5.n2
            exact Nat.le_trans (show (cutV (as.map V.ref) none (some (j : Int))).length + 1 ≤ 3 by omega) (by decide)
          refine ⟨p6, p7, _, _, rfl, rfl, SqT.of h67, SqT.of upd_same, fit1, fun p8 H8 h8 e8 => ?_⟩
          have m8 := m7.trans e8
          -- load[at + 1:]
          refine ⟨_, rfl, _, rfl, _, _, rfl, rfl, (j : Int) + 1, rfl, wt, _, rfl, sqt_kp w16 (Kp.of (S := []) m8) wr_nil, not_whole_lo jl, fun p9 n9 => ?_⟩
          have m9 := same_then (o := .tup (cutV (as.map V.ref) (some ((j : Int) + 1)) none)) m8 n9
          have fit2 : (cutV (as.map V.ref) none (some (j : Int)) ++ [V.ref r]).length + (cutV (as.map V.ref) (some ((j : Int) + 1)) none).length ≤ sizeLine := by
            have a1 := cutV_length (as.map V.ref) none (some (j : Int))
            have a2 := cutV_length (as.map V.ref) (some ((j : Int) + 1)) none
            have := s5.n2
            rw [List.length_append]
            exact Nat.le_trans (show (cutV (as.map V.ref) none (some (j : Int))).length + 1 + (cutV (as.map V.ref) (some ((j : Int) + 1)) none).length ≤ 5 by omega) (by decide)
          refine ⟨p8, p9, _, _, rfl, rfl, sqt_kp h8 (Kp.of (S := []) (same_upd n9)) wr_nil, SqT.of upd_same, fit2, fun pa Ha ha ea => ?_⟩
          have ma := m9.trans ea
          have exs : cutV (as.map V.ref) none (some (j : Int)) ++ [V.ref r] ++ cutV (as.map V.ref) (some ((j : Int) + 1)) none = (as.set j r).map V.ref := by
            rw [cut_hi jl, cut_lo jl, List.map_set, List.set_eq_take_append_cons_drop, if_pos jl, List.append_assoc]
            rfl
          rw [exs] at ha
          -- [[.., now]]
          refine ⟨_, rfl, by show 2 ≤ sizeLine; decide, fun pb nb => ⟨by show 1 ≤ sizeLine; decide, fun pc nc => ?_⟩⟩
          have mb := same_then (o := .lst [.ref pa, .ref d.1]) ma nb
          have mc := same_then (o := .lst [.ref pb]) mb nc
          refine ⟨l2, pc, _, _, rfl, rfl, mc _ _ hl6, upd_same, fitL _, fun pd nd => ?_⟩
          have md := same_then (o := .lst (ss'.reverse.map V.ref ++ [V.ref s0] ++ [.ref pb])) mc nd
          have k5f := k6.trans (Kp.of (S := [b]) md)
          have hbf : (upd (upd (upd Ha pb (.lst [.ref pa, .ref d.1])) pc (.lst [.ref pb])) pd (.lst (ss'.reverse.map V.ref ++ [V.ref s0] ++ [.ref pb]))) pb = some (.lst [.ref pa, .ref d.1]) := (same_then (same_upd nc) nd) _ _ upd_same
          have mabcd := same_then (o := .lst (ss'.reverse.map V.ref ++ [V.ref s0] ++ [.ref pb])) (same_then (o := .lst [.ref pb]) (same_upd (o := .lst [.ref pa, .ref d.1]) nb) nc) nd
          have hrf := mabcd _ _ (ea _ _ ((same_upd n9) _ _ (e8 _ _ hr7)))
          have hL6 := hL5.kp k6 w5b
          obtain ⟨as', z1, z2, z3⟩ := id hL6
          have eas : ∀ (i : Nat) (c : Addr), as[i]? = some c → ∃ q, d.2[i]? = some q ∧ PairT K H6 c q := fun i c e => by
            obtain ⟨q', e1, e2⟩ := w3 i c e
            exact ⟨q', e1, sqt_kp e2 k26 s2.wr⟩
          refine ⟨pd, (d.1, d.2.set j (sum2 q0 q)) :: d :: D3, _, _, _, _, _, _, rfl, s5.move k5f (hB6.kp (Kp.of (S := []) md) wr_nil (by simp))
            ((s5.stands.kp k6 w5b s5.ne).push md hl6 (wt := pa) (s := pb) hbf (load_set w2 eas md jd (SqT.of hrf) (sqt_kp ha (Kp.of (S := []) mabcd) wr_nil)) upd_same) ⟨s5.gd.1, by rw [List.length_set]; exact ln, fun q' hq' => ?_, s5.gd⟩ ?_, ?_, k05.trans (k5f.more (by simp))⟩
          · rcases List.mem_or_eq_of_mem_set hq' with z | z
            · exact (s5.gd.2.2.1 q' z).mono (Nat.le_succ _)
            · rw [z]
              exact sum2_ok f0 dq
          · rw [List.getLast?_cons_cons]
            exact s5.last
          · have e1 : (d :: D3).length = D3.length + 1 := rfl
            have e2 : ((d.1, d.2.set j (sum2 q0 q)) :: d :: D3).length = D3.length + 2 := rfl
            omega
    · rintro σ H2 ⟨l2, D2, v4, v5, v6, v7, v8, v9, rfl, s2, len2, k2⟩
      exact ⟨_, rfl, hQ l2 D2 H2 s2 (by omega) k2⟩
end
end K46
end
section
set_option Elab.async false
set_option linter.all false
set_option autoImplicit false
set_option maxRecDepth 100000
set_option maxHeartbeats 4000000
set_option exponentiation.threshold 3000
/-! K46Q: Bench.tried: it calls what it is given within a trial. -/
namespace K46
open PySem PySem.Spec PyProof.Rows L2
/-- f can be called from every state that is reached from (s0, H0) by code that leaves the untracked alone -/
structure CallsAt (P : Program) (w : World) (K : Fg) (mg : Str → Option Value) (base : Heap) (k : Nat) (fs : List Addr) (s0 : Shared) (H0 : Hp) (f : Addr) (okH : Hp → Prop) (sp : Sp) : Prop where
  fn : ∀ (s : Shared) (H : Hp), HOk P w H s.heap → Un fs [] H0 H s0.heap s.heap → okH H → PySem.W.FnAt f s.heap
  run : ∀ (A : Around) (outer : List Env) (s : Shared) (H : Hp) (us : List Value) (vs : List V) (Q : VK), Room k A → Env0 P w K mg base A outer s H → Un fs [] H0 H s0.heap s.heap → okH H → Vals vs us → sp vs H Q E0 →
    codeAny (model P w) A (.call (.ref f) ⟨us, []⟩) (CR CX0 outer P w H s Q E0) s
/-- x(y), x the name of such a thing -/
theorem pe_action {Z : Cx} {k j i i2 : Nat} {f : Addr} {okH : Hp → Prop} {sp : Sp} {x y : Str} {p p2 pos : Pos} (C : CallsAt Z.prog Z.w Z.K Z.mg Z.base k Z.fs Z.s_0 Z.H_0 f okH sp) (hex : Z.ex = []) (hr : Room j Z.A) (hk : k ≤ j) (hN : Z.N[i]? = some x) (hv : Vis Z.env.scope x) (hN2 : Z.N[i2]? = some y) (hv2 : Vis Z.env.scope y)
    (hd : (x == ("__debug__" : Str)) = false := by decide) (hcd : (x == ("__classdict__" : Str)) = false := by decide) (hd2 : (y == ("__debug__" : Str)) = false := by decide) (hcd2 : (y == ("__classdict__" : Str)) = false := by decide) :
    PE Z (.Call (.Name x p) [.Name y p2] [] pos) (fun σ H Q => ∃ v, σ[i]? = some (some (.ref f)) ∧ σ[i2]? = some (some v) ∧ okH H ∧ sp [v] H Q E0) := by
  refine ⟨fun pins s σ H Q I h => ?_⟩
  obtain ⟨v, h1, h2, h3, h4⟩ := h
  refine wpAny_Call_Name_kw (thn ((pe_var (pos := p) hN hv hd hcd).run pins s σ H (fun u H1 => u = .ref f ∧ H1 = H) I ⟨.ref f, h1, rfl, rfl⟩) fun u s1 q => ?_)
  obtain ⟨v1, H1, I1, r1, e1, e2⟩ := q
  subst e1
  rw [e2] at I1
  obtain rfl : u = Value.ref f := r1
  have un : ∀ {s' : Shared}, Inv Z pins σ H s' → Un Z.fs [] Z.H_0 H Z.s_0.heap s'.heap := fun J => by
    have := J.base
    rw [hex] at this
    exact this
  refine PySem.W.callWith_F (first := []) (C.fn s1 H I1.hok (un I1) h3) (thn ((pa_cons (pe_var (pos := p2) hN2 hv2 hd2 hcd2) pa_nil).run pos pins s1 σ H (fun vs H2 => vs = [v] ∧ H2 = H) I1 ⟨v, h2, rfl, rfl⟩) fun us s2 q2 => ?_) rfl rfl
  obtain ⟨vs, H2, I2, r2, e3, e4⟩ := q2
  subst e3
  rw [e4] at I2
  refine ⟨C.fn s2 H I2.hok (un I2) h3, ?_⟩
  show wpAny _ _ (call (.ref f) us) _ _ _
  refine wpAny_call (codeAny_mono (C.run Z.A Z.stack s2 H us [v] Q (hr.mono hk) I2.env0 (un I2) h3 r2 h4) fun r s' hq => ?_)
  cases r with
  | error e => exact (show False from hq).elim
  | ok fl =>
    cases fl with
    | ret u => exact I2.after hq
    | next => exact False.elim hq
    | brk => exact False.elim hq
    | cont => exact False.elim hq
abbrev sTried : Stmt := inClass (tp 37) 13
theorem sc_tried : FnScope ["self", "action", "bench"] ["self", "action"] (defScope sTried) := ⟨rfl, rfl, rfl, by decide +kernel, rfl, by decide +kernel, by decide +kernel⟩
/-- tried, called from the running frame -/
theorem run_tried {X : Cx} {pins : List (Addr × Obj)} {σ : L2.St} {H : Hp} {s : Shared} {k j : Nat} {f b dx st : Addr} {okH : Hp → Prop} {sp : Sp} {Q : VK} {args : Args} (T : Tx X.K X.mg) (I : Inv X pins σ H s) (hr : Room (j + 1) X.A) (hk : k ≤ j) (h3 : 3 ≤ j)
    (C : CallsAt X.prog X.w X.K X.mg X.base k (frs X.stack) s H f okH sp) (hb : H b = some (.ins (He.ga X.K "Bench") dx [("stage", .ref st)])) (hok : ∀ H1, Same H H1 → okH H1)
    (hbind : ∀ fd, Fun X.K "tried" "Bench.tried" sTried (He.ma X.K (He.ga X.K "Bench") "tried") fd → BindsTo s fd args ((["self", "action"] : List Str).zip [Value.ref b, Value.ref f]))
    (h : ∀ (H1 : Hp) (R : VK), Same H H1 →
      (∀ (v : V) (H2 : Hp) (st2 dx2 : Addr), H2 b = some (.ins (He.ga X.K "Bench") dx2 [("stage", .ref st2)]) → (∀ a C d fs, H1 a = some (.ins C d fs) → H a = none → H2 a = some (.ins C d fs)) →
        (∀ H3 : Hp, H3 b = some (.ins (He.ga X.K "Bench") dx2 [("stage", .ref st)]) → (∀ a o, H2 a = some o → a ≠ b → (H1 a = none ∨ H a ≠ none ∨ ∀ C d fs, o ≠ .ins C d fs) → H3 a = some o) → Q v H3) → R v H2) → sp [.ref b] H1 R E0) :
    codeAny (model X.prog X.w) X.A (.call (.ref (He.ma X.K (He.ga X.K "Bench") "tried")) args) (CR CX0 X.stack X.prog X.w H s Q E0) s := by
  obtain ⟨fd, F⟩ := T.fn 28 _ rfl
  have hbd := hbind fd F
  obtain ⟨oc, od, kV, doc, pm, an, cdv, ct, osl, efd, lk, hcd⟩ := F.ex
  subst efd
  refine LamX.run_ofS (CX := CX0) (N := ["self", "action", "bench"]) (ps := ["self", "action"]) (E := E0) (vs := [V.ref b, V.ref f]) lk hcd sc_tried hr I.env0 hbd (.cons rfl (.cons rfl .nil)) rfl fun hr' => ?_
  refine ⟨_, PSs.nox (pss_one (ps_with (i := 2) rfl (pmeth0 (pv 0) (T.c "Bench") (T.m "Bench" "trial") (ok_tri T) hr' h3) (T.m "Trial" "__enter__") (T.m "Trial" "__exit__") (ok_ent T) ((ok_exi T).mono (by decide)) hr' sc_tried.nd rfl (.inl rfl)
    (pss_one (ps_ret (pe_action (i := 1) (i2 := 2) (okH := okH) (sp := sp) C rfl hr' hk rfl (.inl rfl) rfl (.inl rfl)))) (.inl rfl) h3)), ?_⟩
  refine ⟨_, rfl, b, dx, _, rfl, hb, nl (by decide +kernel), b, rfl, fun t dt H1 nt ht sm => ?_⟩
  refine ⟨t, dt, _, rfl, ht, t, b, dt, dx, .ref st, .non, rfl, ht, sm _ _ hb, fun kk dk H2 nk hkk ht2 keep2 => ?_⟩
  have s2 : Same H H2 := fun c o e => keep2 c o (sm c o e) (ne_of_none e nt)
  refine ⟨.ref b, rfl, rfl, hok H2 s2, h H2 _ s2 fun v H3 st2 dx2 h3b h3k h3q => ?_⟩
  have nkH : H kk = none := sm.free nk
  have ht3 := h3k _ _ _ _ ht2 nt
  have hk3 := h3k _ _ _ _ hkk nkH
  refine ⟨t, b, kk, dt, dx2, dk, .non, .non, .non, .ref st, .ref st2, .non, rfl, ht3, hk3, h3b, fun H4 h4b h4k => ?_⟩
  refine h3q H4 h4b fun a o e n z => h4k a o e (fun q => ?_) n
  subst q
  rcases z with z | z | z
  · rw [ht2] at z
    cases z
  · exact z nt
  · rw [ht3] at e
    exact z _ _ _ (Option.some.inj e).symm
end K46
end
section
set_option Elab.async false
set_option linter.all false
set_option autoImplicit false
set_option maxRecDepth 100000
set_option maxHeartbeats 4000000
set_option exponentiation.threshold 3000
/-! K46S: what stays where tables of code objects may grow; a function made in a def, called from Bench.tried. -/
namespace K46
open PySem PySem.Spec PyProof.Rows L2 LamX NdefX
/-- what cannot be changed stays -/
def Mv (H H' : Hp) : Prop := ∀ b o, H b = some o → ¬ Mutb o → H' b = some o
/-- all stays but at S and the tables of code objects -/
def KpN (S : List Addr) (H H' : Hp) : Prop := ∀ b o, H b = some o → b ∉ S → (∀ ps, o ≠ .tbl ps) → H' b = some o
section
variable {K : Fg} {H H' H1 : Hp} {S S' : List Addr}
theorem Kp.n (k : Kp S H H') : KpN S H H' := fun b o h n _ => k b o h n
theorem KpN.trans (a : KpN S H H1) (b : KpN S H1 H') : KpN S H H' := fun c o h n t => b c o (a c o h n t) n t
theorem KpN.more (a : KpN S H H') (h : ∀ b ∈ S, b ∈ S') : KpN S' H H' := fun c o e n t => a c o e (fun z => n (h c z)) t
theorem KpN.ofN (e : ExtN H H') : KpN S H H' := fun b o h _ t => e b o h t
theorem KpN.mv (k : KpN S H H') (w : WrS H S) : Mv H H' := fun b o h n => k b o h (w.no h n) fun ps z => n (by rw [z]; exact .table ps)
theorem SqT.mv {a : Addr} {xs : List V} (h : SqT K H a xs) (m : Mv H H') : SqT K H' a xs := by
  rcases h with (h | ⟨o, h⟩) | h
  · exact .inl (.inl (m _ _ h no_tup))
  · exact .inl (.inr ⟨o, m _ _ h fun z => by cases z⟩)
  · exact .inr h
theorem LoadAt.mv {wt : Addr} {qs : Load} (h : LoadAt K H wt qs) (m : Mv H H') : LoadAt K H' wt qs := by
  obtain ⟨as, h1, h2, h3⟩ := h
  refine ⟨as, SqT.mv h1 m, h2, fun i a e => ?_⟩
  obtain ⟨q, e1, e2⟩ := h3 i a e
  exact ⟨q, e1, SqT.mv e2 m⟩
theorem Chain.mv (m : Mv H H') : ∀ {D : List Std} {st : Addr}, Chain K H st D → Chain K H' st D
  | [], _, h => h
  | d :: D, st, h => by
    obtain ⟨dx, wt, bf, h1, h2, h3⟩ := h
    refine ⟨dx, wt, bf, m _ _ h1 no_stage, h2.mv m, ?_⟩
    rcases h3 with h3 | ⟨st', e, h3⟩
    · exact .inl h3
    · exact .inr ⟨st', e, Chain.mv m h3⟩
theorem StandsAt.mv {l : Addr} {D : List Std} (h : StandsAt K H l D) (m : Mv H H') (hD : D ≠ []) : StandsAt K H' l D := by
  obtain ⟨ss, h1, h2⟩ := h
  have hl : ¬ Mutb (.lst (ss.reverse.map V.ref)) := by
    cases e : ss.reverse with
    | nil =>
      have e2 : ss = [] := List.reverse_eq_nil_iff.mp e
      subst e2
      cases h2
      exact absurd rfl hD
    | cons a r => exact no_refs
  refine ⟨ss, m _ _ h1 hl, paired_kp (fun a b h => ?_) h2⟩
  obtain ⟨wt, a1, a2⟩ := h
  exact ⟨wt, m _ _ a1 no_pair, a2.mv m⟩
theorem TableAt.mv {g : Addr} {n : Nat} {rows : List (List Int)} (t : TableAt K H g n rows) (m : Mv H H') : TableAt K H' g n rows := by
  obtain ⟨dx, rt, h1, as, a1, a2, a3, a4⟩ := t
  refine ⟨dx, rt, m _ _ h1 no_rows, as, m _ _ a1 no_tup, a2, a3, fun i a e => ?_⟩
  obtain ⟨r, r1, r2, r3⟩ := a4 i a e
  exact ⟨r, r1, m _ _ r2 no_tup, r3⟩
variable {we b l tb g0 g1 : Addr} {n : Nat} {D D' : List Std}
/-- the situation at another heap: what can be changed is told anew -/
theorem Sit.mv (s : Sit K H we b l tb n g0 g1 D) (m : Mv H H') (hw : WellAt H' we) (hb : BenchAt K H' b D) : Sit K H' we b l tb n g0 g1 D := by
  obtain ⟨r0, h0⟩ := s.t0
  obtain ⟨r1, h1⟩ := s.t1
  exact ⟨hw, hb, s.stands.mv m s.ne, m _ _ s.tabs no_pair, ⟨r0, h0.mv m⟩, ⟨r1, h1.mv m⟩, s.gd, s.last, s.n2⟩
theorem WellAt.kn (h : WellAt H we) (k : KpN S H H') (n : we ∉ S) : WellAt H' we := by
  obtain ⟨a, b, h, r⟩ := h
  exact ⟨a, b, k _ _ h n (fun _ z => by cases z), r⟩
theorem BenchAt.kn (h : BenchAt K H b D) (k : KpN S H H') (w : WrS H S) (n : b ∉ S) : BenchAt K H' b D := by
  obtain ⟨dx, st, h1, h2⟩ := h
  exact ⟨dx, st, k _ _ h1 n (fun _ z => by cases z), h2.mv (k.mv w)⟩
theorem Sit.kn (s : Sit K H we b l tb n g0 g1 D) (k : KpN S H H') (w : WrS H S) (n1 : we ∉ S) (n2 : b ∉ S) : Sit K H' we b l tb n g0 g1 D := s.mv (k.mv w) (s.well.kn k n1) (s.bench.kn k w n2)
/-- tables stay told where neither they nor code objects are changed -/
theorem tabs_stay {T : List NTab} (t : TabsN T H) (k : Kp S H H') (w : ∀ b ∈ S, ∃ o, H b = some o ∧ (∀ ps, o ≠ .tbl ps) ∧ ∀ φ, o ≠ .ext φ) : TabsN T H' := fun p hp => by
  obtain ⟨ps, h1, h2, h3⟩ := t p hp
  have st : ∀ c o, H c = some o → ((∃ ps, o = .tbl ps) ∨ ∃ φ, o = .ext φ) → H' c = some o := fun c o h z => k c o h fun hc => by
    obtain ⟨u, e, n1, n2⟩ := w c hc
    rw [h] at e
    cases e
    rcases z with ⟨ps, z⟩ | ⟨φ, z⟩
    · exact n1 ps z
    · exact n2 φ z
  refine ⟨ps, st _ _ h1 (.inl ⟨ps, rfl⟩), h2, fun pos cv hc => ?_⟩
  obtain ⟨c, e1, e2⟩ := h3 pos cv hc
  exact ⟨c, e1, st _ _ e2 (.inr ⟨_, rfl⟩)⟩
theorem Sit.soft (s : Sit K H we b l tb n g0 g1 D) : ∀ c ∈ [we, b], ∃ o, H c = some o ∧ (∀ ps, o ≠ .tbl ps) ∧ ∀ φ, o ≠ .ext φ := fun c hc => by
  obtain ⟨x, y, h1, _⟩ := s.well
  obtain ⟨dx, st, h2, _⟩ := s.bench
  rcases (show c = we ∨ c = b by simpa using hc) with z | z
  · rw [z]
    exact ⟨_, h1, (fun _ z => by cases z), (fun _ z => by cases z)⟩
  · rw [z]
    exact ⟨_, h2, (fun _ z => by cases z), (fun _ z => by cases z)⟩
end
/-! ### a function made here is callable from behind -/
theorem cells_un {cl : List (Str × Addr)} {fr : List Str} {ws : List (Option V)} {fs : List Addr} {h0 h : Heap} {H0 H : Hp} (C : CellsAt cl fr ws h0 H0) (nf : ∀ y c, cl.lookup y = some c → c ∉ fs) (u : Un fs [] H0 H h0 h) : CellsAt cl fr ws h H := by
  have stay : ∀ y c, cl.lookup y = some c → ∀ v, h0.IsCell c v → h.IsCell c v ∧ H c = none := fun y c e v z => by
    obtain ⟨o, ho, hd⟩ := z
    exact ⟨⟨o, u.keep c o ho (C.all y c e).1 (nf y c e) (by simp), hd⟩, u.free c o ho (C.all y c e).1 (by simp)⟩
  refine ⟨C.len, fun y c e => ?_, C.inj, fun i y e => ?_⟩
  · obtain ⟨_, v, z⟩ := C.all y c e
    obtain ⟨a, b⟩ := stay y c e v z
    exact ⟨b, v, a⟩
  · obtain ⟨c, hc, hv⟩ := C.has i y e
    refine ⟨c, hc, fun v ev => ?_⟩
    obtain ⟨x, r, z⟩ := hv v ev
    exact ⟨x, r, (stay y c hc _ z).1⟩
theorem calls_of_nok {P : Program} {w : World} {K : Fg} {mg : Str → Option Value} {base : Heap} {k : Nat} {f : Addr} {F : NF} {ps fr : List Str} {ws : List (Option V)} {sp : List (Option V) → Sp} {fs : List Addr} {s0 : Shared} {H0 : Hp}
    (o : NOk P w K mg base CX0 k f F ps fr sp) (C : CellsAt F.cl fr ws s0.heap H0) (nf : ∀ y c, F.cl.lookup y = some c → c ∉ fs) :
    CallsAt P w K mg base k fs s0 H0 f (fun H => H f = some (FnO f F) ∧ H F.c = some (CodeO F.c F.qual)) (sp ws) where
  fn := fun s H hok _ h => by
    obtain ⟨od, sl, doc, pm, ctv, z⟩ := fnO_at hok h.1
    exact ⟨_, od, _, sl, z⟩
  run := fun A outer s H us vs Q hr e0 un h r q => o.run A outer s H us vs ws Q E0 hr e0 h.1 h.2 (cells_un C nf un) r q
/-- the cells that a def makes are no frame's own dict -/
theorem cells_nf {X : Cx} {pins : List (Addr × Obj)} {σ : L2.St} {H : Hp} {s : Shared} (I : Inv X pins σ H s) (hf : ∀ x, X.fn x = true) : ∀ y c, X.env.cells.lookup y = some c → c ∉ frs X.stack := fun y c e hc => by
  rcases List.mem_cons.mp (I.stkSub c hc) with z | z
  · exact I.cne y c e z
  · obtain ⟨_, o, ho, _⟩ := I.ok.funs.mem z
    exact absurd (Nat.lt_of_lt_of_le (Heap.lt_size ho) (I.ok.cab y c (hf y) e)) (Nat.lt_irrefl _)
/-- o.tried(x), o.tried(action=x), x the name (slot i) of a function made here -/
def tTried (K : Fg) (mk : Addr → NF) (i : Nat) (js : List Nat) (spN : List (Option V) → Sp) (to : TE) : TE := fun σ H Q => to σ H fun x H1 => ∃ b dx st f c', x = .ref b ∧ H1 b = some (.ins (He.ga K "Bench") dx [("stage", .ref st)]) ∧ σ[i]? = some (some (.ref f)) ∧
  H1 f = some (FnO f (mk c')) ∧ H1 (mk c').c = some (CodeO (mk c').c (mk c').qual) ∧ ∀ (H2 : Hp) (R : VK), Same H1 H2 →
    (∀ (v : V) (H3 : Hp) (st2 dx2 : Addr), H3 b = some (.ins (He.ga K "Bench") dx2 [("stage", .ref st2)]) → (∀ a C d fs, H2 a = some (.ins C d fs) → H1 a = none → H3 a = some (.ins C d fs)) →
      (∀ H4 : Hp, H4 b = some (.ins (He.ga K "Bench") dx2 [("stage", .ref st)]) → (∀ a o, H3 a = some o → a ≠ b → (H2 a = none ∨ H1 a ≠ none ∨ ∀ C d fs, o ≠ .ins C d fs) → H4 a = some o) → Q v H4) → R v H3) → spN (js.map (slotAt σ)) [.ref b] H2 R E0
section
variable {X : Cx} {k j i : Nat} {mk : Addr → NF} {cl : List (Str × Addr)} {ps fr : List Str} {js : List Nat} {spN : List (Option V) → Sp} {to : TE} {x : Str} {o : Expr} {p pos apos kpos : Pos}
theorem tried_core {pins : List (Addr × Obj)} {σ : L2.St} {H : Hp} {s : Shared} {Q : VK} {b dx st f c' : Addr} {us : List Value} {kw : List (Str × Value)} (T : Tx X.K X.mg) (Fn : ∀ f c', NOk X.prog X.w X.K X.mg X.base CX0 k f (mk c') ps fr spN) (hcl : ∀ c', (mk c').cl = cl)
    (cp : X.Ok → Caps X cl fr js) (hfn : ∀ x, X.fn x = true) (hr : Room (j + 1) X.A) (hk : k ≤ j) (h3 : 3 ≤ j) (I : Inv X pins σ H s) (hb : H b = some (.ins (He.ga X.K "Bench") dx [("stage", .ref st)])) (hf : H f = some (FnO f (mk c'))) (hc : H (mk c').c = some (CodeO (mk c').c (mk c').qual))
    (hbind : ∀ fd, Fun X.K "tried" "Bench.tried" sTried (He.ma X.K (He.ga X.K "Bench") "tried") fd → BindsTo s fd ⟨us, kw⟩ ((["self", "action"] : List Str).zip [Value.ref b, Value.ref f]))
    (h : ∀ (H2 : Hp) (R : VK), Same H H2 → (∀ (v : V) (H3 : Hp) (st2 dx2 : Addr), H3 b = some (.ins (He.ga X.K "Bench") dx2 [("stage", .ref st2)]) → (∀ a C d fs, H2 a = some (.ins C d fs) → H a = none → H3 a = some (.ins C d fs)) →
      (∀ H4 : Hp, H4 b = some (.ins (He.ga X.K "Bench") dx2 [("stage", .ref st)]) → (∀ a o, H3 a = some o → a ≠ b → (H2 a = none ∨ H a ≠ none ∨ ∀ C d fs, o ≠ .ins C d fs) → H4 a = some o) → Q v H4) → R v H3) → spN (js.map (slotAt σ)) [.ref b] H2 R E0) :
    wpAny (model X.prog X.w) X.A (call (.ref (He.ma X.K (He.ga X.K "Bench") "tried")) us kw) (EP X pins σ Q) X.xe s := by
  have C := cells_of I (cp I.ok)
  have C2 : CellsAt (mk c').cl fr (js.map (slotAt σ)) s.heap H := by
    rw [hcl c']
    exact C
  have CA := calls_of_nok (fs := frs X.stack) (Fn f c') C2 fun y c e => cells_nf I hfn y c ((cp I.ok).sub y c (by rw [hcl c'] at e; exact e))
  refine wpAny_call (codeAny_mono (run_tried (Q := Q) (args := ⟨us, kw⟩) T I hr hk h3 CA hb (fun H1 sm => ⟨sm _ _ hf, sm _ _ hc⟩) hbind h) fun r s' hq => ?_)
  cases r with
  | error e => exact (show False from hq).elim
  | ok fl =>
    cases fl with
    | ret u => exact I.after hq
    | next => exact False.elim hq
    | brk => exact False.elim hq
    | cont => exact False.elim hq
theorem pe_tried {pl : Sem Bool} (T : Tx X.K X.mg) (Fn : ∀ f c', NOk X.prog X.w X.K X.mg X.base CX0 k f (mk c') ps fr spN) (hcl : ∀ c', (mk c').cl = cl) (cp : X.Ok → Caps X cl fr js) (hfn : ∀ x, X.fn x = true) (hr : Room (j + 1) X.A) (hk : k ≤ j) (h3 : 3 ≤ j) (ho : PE X o to) (hN : X.N[i]? = some x) (hv : Vis X.env.scope x)
    (hd : (x == ("__debug__" : Str)) = false := by decide) (hcd : (x == ("__classdict__" : Str)) = false := by decide)
    (ht : eval (.Call (.Attribute o "tried" apos) [.Name x p] [] pos) X.env = (do let ov ← eval o X.env; standAt apos.atName; let (f, first) ← holding [ov] (getMethod ov "tried" pl); callWith pos f first (backTo pos (starEach [.Name x p] X.env)) (backToKw pos (keywordEach [] X.env))) := by rfl) :
    PE X (.Call (.Attribute o "tried" apos) [.Name x p] [] pos) (tTried X.K mk i js spN to) := by
  have hm := T.m "Bench" "tried"
  refine ⟨fun pins s σ H Q I h => PySem.W.methodCall_KW (pl := pl) (thn (ho.run pins s σ H _ I h) fun u s1 q => ?_) ht⟩
  obtain ⟨v, H1, I1, rv, b, dx, st, f, c', ev, hb, hs, hf, hc, h⟩ := q
  subst ev
  obtain rfl : u = Value.ref b := rv
  refine getmeth_ok I1 hb (T.c "Bench") hm (nl (by decide +kernel)) ?_
  refine PySem.W.callWith_K (first := [.ref b]) (h₀ := X.base) I.ok.mod.kin hm.kp (thn ((pa_cons (pe_var (pos := p) hN hv hd hcd) pa_nil).run pos pins s1 σ H1 (fun vs H2 => vs = [.ref f] ∧ H2 = H1) I1 ⟨.ref f, hs, rfl, rfl⟩) fun us s2 q2 => ?_) rfl rfl
  obtain ⟨vs, H2, I2, r2, e1, e2⟩ := q2
  subst e1
  rw [e2] at I2
  obtain ⟨w', rfl, rw'⟩ := vals1 r2
  obtain rfl : w' = Value.ref f := rw'
  refine ⟨I2.kIn, tried_core T Fn hcl cp hfn hr hk h3 I2 hb hf hc (fun fd F => ?_) h⟩
  have bd := F.binds (ps := ["self", "action"]) fun _ _ _ _ _ _ us hl => match us, hl with | [_, _], _ => rfl
  exact bd s2 [.ref b, .ref f] I2.kIn rfl
theorem pe_triedK {pl : Sem Bool} (T : Tx X.K X.mg) (Fn : ∀ f c', NOk X.prog X.w X.K X.mg X.base CX0 k f (mk c') ps fr spN) (hcl : ∀ c', (mk c').cl = cl) (cp : X.Ok → Caps X cl fr js) (hfn : ∀ x, X.fn x = true) (hr : Room (j + 1) X.A) (hk : k ≤ j) (h3 : 3 ≤ j) (ho : PE X o to) (hN : X.N[i]? = some x) (hv : Vis X.env.scope x)
    (hd : (x == ("__debug__" : Str)) = false := by decide) (hcd : (x == ("__classdict__" : Str)) = false := by decide)
    (ht : eval (.Call (.Attribute o "tried" apos) [] [⟨some "action", .Name x p, kpos⟩] pos) X.env = (do let ov ← eval o X.env; standAt apos.atName; let (f, first) ← holding [ov] (getMethod ov "tried" pl); callWith pos f first (backTo pos (starEach [] X.env)) (backToKw pos (keywordEach [⟨some "action", .Name x p, kpos⟩] X.env))) := by rfl) :
    PE X (.Call (.Attribute o "tried" apos) [] [⟨some "action", .Name x p, kpos⟩] pos) (tTried X.K mk i js spN to) := by
  have hm := T.m "Bench" "tried"
  refine ⟨fun pins s σ H Q I h => PySem.W.methodCall_KW (pl := pl) (thn (ho.run pins s σ H _ I h) fun u s1 q => ?_) ht⟩
  obtain ⟨v, H1, I1, rv, b, dx, st, f, c', ev, hb, hs, hf, hc, h⟩ := q
  subst ev
  obtain rfl : u = Value.ref b := rv
  refine getmeth_ok I1 hb (T.c "Bench") hm (nl (by decide +kernel)) ?_
  refine PySem.W.callWith_KW0 (first := [.ref b]) (h₀ := X.base) I.ok.mod.kin hm.kp rfl (thn ((pk_cons (pe_var (pos := p) hN hv hd hcd) pk_nil).run pos pins s1 σ H1 (fun vs H2 => vs = [.ref f] ∧ H2 = H1) I1 ⟨.ref f, hs, rfl, rfl⟩) fun us s2 q2 => ?_) rfl
  obtain ⟨vs, H2, I2, r2, e1, e2⟩ := q2
  subst e1
  rw [e2] at I2
  obtain ⟨w', rfl, rw'⟩ := vals1 r2
  obtain rfl : w' = Value.ref f := rw'
  refine ⟨I2.kIn, tried_core T Fn hcl cp hfn hr hk h3 I2 hb hf hc (fun fd F => ?_) h⟩
  obtain ⟨oc, od, kV, doc, pm, an, cdv, ct, osl, efd, lk, hcdv⟩ := F.ex
  subst efd
  exact .of_eq rfl
end
end K46
end
section
set_option Elab.async false
set_option linter.all false
set_option autoImplicit false
set_option maxRecDepth 100000
set_option maxHeartbeats 4000000
set_option exponentiation.threshold 3000
/-! K46U: _law_is_tried and its action, by depth. -/
namespace K46
open PySem PySem.Spec PyProof.Rows L2 LamX NdefX
/-- a def whose code object stands at c -/
theorem Fun.okC {P : Program} {w : World} {K : Fg} {mg : Str → Option Value} {base : Heap} {x qual : Str} {st : Stmt} {f : Addr} {fd : FuncData} {N ps : List Str} {k : Nat} {sp : Sp} {cv : Value} (F : Fun K x qual st f fd) (hc : ∀ oc od osl, K.lookup f = some (⟨oc, od, .func fd, osl⟩ : Obj) → fd.code = cv) (S : FnScope N ps (defScope st)) (len : ∀ vs H Q E, sp vs H Q E → vs.length = ps.length)
    (hbody : ∀ (A : Around) (outer : List Env) (s : Shared) (H : Hp) (vs : List V) (Q : VK) (E : XK), Room k (A.deeper (envOfC qual (defScope st) s.heap.objs.size f cv)) → sp vs H Q E →
      ∃ t, PSs (cxOf CX0 P w K mg base N qual (defScope st) f cv A outer s H E).nox (defBody st) t ∧ t { nx := fun _ H' => Q .non H', rt := Q } (start N vs) H) : FnOk P w K mg base CX0 (k + 1) f fd ps sp := by
  obtain ⟨oc, od, kV, doc, pm, an, cdv, ct, osl, rfl, lk, hcd⟩ := F.ex
  obtain rfl : cdv = cv := hc oc od osl lk
  refine fn_of lk hcd S len fun A outer s H vs Q E hr hsp => ?_
  obtain ⟨t, h, q⟩ := hbody A outer s H vs Q E hr hsp
  exact ⟨t, h.nox, q⟩
/-- the def at f has its table of code objects at Pt -/
def TabF (K : Fg) (mg : Str → Option Value) (base : Heap) (f Pt : Addr) : Prop := ∀ fd oc od osl, K.lookup f = some (⟨oc, od, .func fd, osl⟩ : Obj) → ∃ c, fd.code = .ref c ∧ TabB base mg c Pt
def actSt : Stmt := (defBody (tp 50)).getD 1 (.Pass ⟨0, 0, 0, 0⟩)
abbrev aQ : Str := "_law_is_tried.<locals>._law_act"
abbrev lQ : Str := "_law_right.<locals>.<lambda>"
abbrev TabL (P1 P2 : Addr) : List NTab := [(P1, fun _ _ => aQ), (P2, fun _ _ => lQ)]
abbrev FrA : List Str := ["_law_well_here", "_law_bench", "_law_stands_here", "_law_tables", "_law_deep", "_law_notes"]
abbrev NAct : List Str := ["_law_given", "_law_well_here", "_law_bench", "_law_stands_here", "_law_tables", "_law_deep", "_law_notes", "_law_here"]
abbrev NTr : List Str := ["_law_well_here", "_law_bench", "_law_stands_here", "_law_tables", "_law_deep", "_law_notes", "_law_act", "_law_told"]
theorem sc_act : NScope NAct ["_law_given"] FrA (C8.fnScope actSt) := nscope_by (by decide +kernel)
theorem sc_itr : FnScope NTr ["_law_well_here", "_law_bench", "_law_stands_here", "_law_tables", "_law_deep"] (defScope (tp 50)) := ⟨rfl, rfl, rfl, by decide +kernel, rfl, by decide +kernel, by decide +kernel⟩
/-- where all that is told of the made functions may change -/
def spAct (K : Fg) (T : List NTab) (d : Nat) (ws : List (Option V)) : Sp := fun vs H Q _ => ∃ (we b l tb : Addr) (n : Nat) (g0 g1 : Addr) (D : List Std) (nn : Addr), ws = [some (.ref we), some (.ref b), some (.ref l), some (.ref tb), some (.int (d : Int)), some (.ref nn)] ∧ vs = [.ref b] ∧
  H nn = some (.lst []) ∧ Sit K H we b l tb n g0 g1 D ∧ 1 ≤ n ∧ D.length + 4 * (d + 1) ≤ 30 ∧ TabsN T H ∧
  ∀ (p : Addr) (H' : Hp) (c : Int) (D' : List Std) (bs : List Bool), H' p = some (.tup [.str "done", .int (d : Int), .int c]) → WellAt H' we → BenchAt K H' b D' → TabsN T H' → H' nn = some (.lst (bs.map V.bl)) → bs = List.replicate (if d = 0 then 1 else 4) true → KpN [we, b, nn] H H' → Q (.ref p) H'
def spIsTr (K : Fg) (T : List NTab) (d : Nat) : Sp := fun vs H Q _ => ∃ (we b l tb : Addr) (n : Nat) (g0 g1 : Addr) (D : List Std), vs = [.ref we, .ref b, .ref l, .ref tb, .int (d : Int)] ∧
  Sit K H we b l tb n g0 g1 D ∧ 1 ≤ n ∧ D.length + 4 * (d + 1) ≤ 30 ∧ TabsN T H ∧ ∀ H', Sit K H' we b l tb n g0 g1 D → TabsN T H' → KpN [we, b] H H' → Q (.bl true) H'
abbrev PsT : List Str := ["_law_well_here", "_law_bench", "_law_stands_here", "_law_tables", "_law_deep"]
section
variable {K : Fg} {H H' : Hp} {we b l tb g0 g1 nn : Addr} {n : Nat} {D : List Std} {S : List Addr}
theorem wr_notes (h : H nn = some (.lst [])) : WrS H [nn] := fun c hc => by
  rw [List.mem_singleton.mp hc]
  exact ⟨_, h, .notes []⟩
theorem no_tup3 {a b c : V} : ¬ Mutb (.tup [a, b, c]) := fun z => by cases z
theorem tabs_kpN {T : List NTab} (t : TabsN T H) (k : Kp S H H') (w : ∀ b ∈ S, ∃ o, H b = some o ∧ (∀ ps, o ≠ .tbl ps) ∧ ∀ φ, o ≠ .ext φ) : TabsN T H' := tabs_stay t k w
theorem soft_one {a : Addr} {xs : List V} (h : H a = some (.lst xs)) : ∀ c ∈ [a], ∃ o, H c = some o ∧ (∀ ps, o ≠ .tbl ps) ∧ ∀ φ, o ≠ .ext φ := fun c hc => by
  rw [List.mem_singleton.mp hc]
  exact ⟨_, h, (fun _ z => by cases z), (fun _ z => by cases z)⟩
theorem Sit.note (s : Sit K H we b l tb n g0 g1 D) (h : H nn = some (.lst [])) : nn ≠ we ∧ nn ≠ b := by
  obtain ⟨x, y, h1, _⟩ := s.well
  obtain ⟨dx, st, h2, _⟩ := s.bench
  exact ⟨ne_of h h1 (fun q => by cases q), ne_of h h2 (fun q => by cases q)⟩
theorem Kp.put {a : Addr} {o : HO} (hS : a ∈ S) : Kp S H (upd H a o) := fun c u h n => by
  rw [upd_ne (by rintro rfl; exact n hS)]
  exact h
end
/-- what holds within the action -/
structure AS (K : Fg) (T : List NTab) (H0 H : Hp) (we b l tb : Addr) (n : Nat) (g0 g1 : Addr) (D : List Std) (nn : Addr) (bs : List Bool) : Prop where
  sit : Sit K H we b l tb n g0 g1 D
  notes : H nn = some (.lst (bs.map V.bl))
  tabs : TabsN T H
  kn : KpN [we, b, nn] H0 H
  ne : nn ≠ we ∧ nn ≠ b
section
variable {K : Fg} {T : List NTab} {H0 H H' : Hp} {we b l l' tb g0 g1 nn : Addr} {n : Nat} {D D' : List Std} {bs : List Bool}
theorem AS.out (a : AS K T H0 H we b l tb n g0 g1 D nn bs) : nn ∉ [we, b] := by
  have := a.ne
  simp [this.1, this.2]
theorem AS.same (a : AS K T H0 H we b l tb n g0 g1 D nn bs) (s : Same H H') : AS K T H0 H' we b l tb n g0 g1 D nn bs :=
  ⟨a.sit.same s, s _ _ a.notes, a.tabs.ext s, a.kn.trans (Kp.of s).n, a.ne⟩
theorem AS.led (a : AS K T H0 H we b l tb n g0 g1 D nn bs) (s : Sit K H' we b l' tb n g0 g1 D') (k : Kp [we, b] H H') : AS K T H0 H' we b l' tb n g0 g1 D' nn bs :=
  ⟨s, k _ _ a.notes a.out, tabs_kpN a.tabs k a.sit.soft, a.kn.trans ((k.more (by simp)).n), a.ne⟩
theorem AS.again (a : AS K T H0 H we b l tb n g0 g1 D nn bs) (s : Sit K H' we b l' tb n g0 g1 D') (t : TabsN T H') (k : KpN [we, b] H H') : AS K T H0 H' we b l' tb n g0 g1 D' nn bs :=
  ⟨s, k _ _ a.notes a.out (fun _ z => by cases z), t, a.kn.trans (k.more (by simp)), a.ne⟩
theorem AS.app (a : AS K T H0 H we b l tb n g0 g1 D nn bs) : AS K T H0 (upd H nn (.lst (bs.map V.bl ++ [.bl true]))) we b l tb n g0 g1 D nn (bs ++ [true]) := by
  have k : Kp [nn] H (upd H nn (.lst (bs.map V.bl ++ [.bl true]))) := Kp.put (by simp)
  have w : WrS H [nn] := fun c hc => by
    rw [List.mem_singleton.mp hc]
    exact ⟨_, a.notes, .notes bs⟩
  refine ⟨a.sit.kp k w (by simpa using a.ne.1.symm) (by simpa using a.ne.2.symm), ?_, tabs_kpN a.tabs k (soft_one a.notes), a.kn.trans ((k.more (by simp)).n), a.ne⟩
  rw [upd_same, List.map_append]
  rfl
theorem Sit.parts (s : Sit K H we b l tb n g0 g1 D) : ∃ d E rows, BenchAt K H b (d :: E) ∧ StandsAt K H l (d :: E) ∧ TableAt K H d.1 n rows := by
  cases D with
  | nil => exact absurd rfl s.ne
  | cons d D =>
    obtain ⟨rows, ht⟩ := s.top
    exact ⟨d, D, rows, s.bench, s.stands, ht⟩
end
section
variable {P : Program} {w : World} {K : Fg} {mg : Str → Option Value} {base : Heap} {TL : List NTab}
abbrev actF (cl : List (Str × Addr)) (c' : Addr) : NF := NF.of actSt "_law_act" aQ cl c'
theorem bind_act {cl : List (Str × Addr)} {c' : Addr} (doc pm ctv : Value) (us : List Value) (h : us.length = (["_law_given"] : List Str).length) : bindArgs ((actF cl c').fd doc pm ctv) ⟨us, []⟩ = pure ((["_law_given"] : List Str).zip us) := match us, h with
  | [_], _ => rfl
theorem ok_act0 (T : Tx K mg) (f : Addr) (cl : List (Str × Addr)) (c' : Addr) : NOk P w K mg base CX0 7 f (actF cl c') ["_law_given"] FrA (spAct K TL 0) := by
  refine nok_of sc_act bind_act (fun ws vs H Q E h => ?_) fun A outer s H vs ws Q E hr hf hc hl h => ?_
  · obtain ⟨we, b, l, tb, n, g0, g1, D, nn, _, rfl, _⟩ := h
    rfl
  · obtain ⟨we, b, l, tb, n, g0, g1, D, nn, rfl, rfl, h0, hS, hn, hD, hT, hQ⟩ := h
    refine ⟨_, PSs.nox (pss_cons (ps_set (i := 7) sc_act.nd rfl (.inl rfl) (pcall (ok_led T) (T.g "_law_led") hr (pa_cons (pv 1) (pa_cons (pv 0) (pa_cons (pv 3) (pa_cons (pv 4) pa_nil))))) (hf := .inr rfl))
      (pss_cons (ps_expr (pe_bm PySem.F.plainAttrs_list PySem.F.slot_list_append PySem.F.type_list_append mt_append (pv 6) (pa_cons (pe_and (pcall (ok_stands T) (T.g "_law_stands") hr (pa_cons (pv 2) (pa_cons (pv 7) pa_nil))) (pe_one (pcall (ok_stands T) (T.g "_law_stands") hr (pa_cons (pv 0) (pa_cons (pv 7) pa_nil))))) pa_nil)))
      (pss_cons (ps_if (pt_cmpR op_gt (pv 5) pe_int (nomark _)) pss_never pss_nil)
      (pss_one (ps_ret (pe_tup (pa_cons pe_str (pa_cons (pv 5) (pa_cons (pe_callB call_len_seq rfl (T.f "len") boot_len (pa_cons (pv 7) pa_nil)) pa_nil))))))))), ?_⟩
    have a0 : AS K TL H H we b l tb n g0 g1 D nn [] := ⟨hS, h0, hT, fun b o h _ _ => h, hS.note h0⟩
    refine ⟨_, rfl, _, rfl, _, rfl, _, rfl, we, b, l, tb, n, g0, g1, D, rfl, hS, hn, by omega, fun l1 D1 H1 s1 len1 k1 => ?_⟩
    have a1 := a0.led s1 k1
    obtain ⟨d1, E1, rows1, hB1, hS1, hT1⟩ := s1.parts
    refine ⟨_, rfl, .inl ⟨rfl, _, SqL.of a1.notes⟩, _, rfl, _, rfl, b, l1, n, rows1, d1, E1, rfl, hB1, hS1, hT1, fun H2 e2 => ⟨true, rfl, iteT ?_⟩⟩
    obtain ⟨d2, E2, rows2, hB2, hS2, hT2⟩ := (s1.same e2).parts
    refine ⟨_, rfl, _, rfl, b, l1, n, rows2, d2, E2, rfl, hB2, hS2, hT2, fun H3 e3 => ?_⟩
    have a3 := (a1.same e2).same e3
    refine ⟨nn, _, _, rfl, rfl, a3.notes, by decide, ?_⟩
    have a4 := a3.app
    refine ⟨_, rfl, _, _, rfl, rfl, _, rfl, iteF ?_⟩
    obtain ⟨ss, h1, _⟩ := id a4.sit.stands
    refine ⟨_, rfl, _, rfl, l1, _, rfl, .inl (SqL.of h1), by show 3 ≤ sizeLine; decide, fun p hp => ?_⟩
    have a5 := a4.same (same_upd (o := .tup [.str "done", .int ((0 : Nat) : Int), .int (((ss.reverse.map V.ref).length : Nat) : Int)]) hp)
    exact hQ p _ _ D1 _ upd_same a5.sit.well a5.sit.bench a5.tabs a5.notes rfl a5.kn
theorem ok_actS (T : Tx K mg) (d : Nat) {k : Nat} (h6 : 6 ≤ k) (rec : Def P w K mg base k (He.ga K "_law_is_tried") PsT (spIsTr K TL d)) (f : Addr) (cl : List (Str × Addr)) (c' : Addr) : NOk P w K mg base CX0 (k + 1) f (actF cl c') ["_law_given"] FrA (spAct K TL (d + 1)) := by
  refine nok_of sc_act bind_act (fun ws vs H Q E h => ?_) fun A outer s H vs ws Q E hr hf hc hl h => ?_
  · obtain ⟨we, b, l, tb, n, g0, g1, D, nn, _, rfl, _⟩ := h
    rfl
  · obtain ⟨we, b, l, tb, n, g0, g1, D, nn, rfl, rfl, h0, hS, hn, hD, hT, hQ⟩ := h
    refine ⟨_, PSs.nox (pss_cons (ps_set (i := 7) sc_act.nd rfl (.inl rfl) (pcall (ok_led T) (T.g "_law_led") hr (pa_cons (pv 1) (pa_cons (pv 0) (pa_cons (pv 3) (pa_cons (pv 4) pa_nil)))) h6) (hf := .inr rfl))
      (pss_cons (ps_expr (pe_bm PySem.F.plainAttrs_list PySem.F.slot_list_append PySem.F.type_list_append mt_append (pv 6) (pa_cons (pe_and (pcall (ok_stands T) (T.g "_law_stands") hr (pa_cons (pv 2) (pa_cons (pv 7) pa_nil)) (by omega)) (pe_one (pcall (ok_stands T) (T.g "_law_stands") hr (pa_cons (pv 0) (pa_cons (pv 7) pa_nil)) (by omega)))) pa_nil)))
      (pss_cons (ps_if (pt_cmpR op_gt (pv 5) pe_int (nomark _))
        (pss_cons (ps_expr (pe_bm PySem.F.plainAttrs_list PySem.F.slot_list_append PySem.F.type_list_append mt_append (pv 6) (pa_cons (pcall rec (T.g "_law_is_tried") hr (pa_cons (pv 1) (pa_cons (pv 0) (pa_cons (pv 7) (pa_cons (pv 4) (pa_cons (pe_op op_sub (pv 5) pe_int) pa_nil))))) (Nat.le_refl _)) pa_nil)))
        (pss_cons (ps_expr (pe_bm PySem.F.plainAttrs_list PySem.F.slot_list_append PySem.F.type_list_append mt_append (pv 6) (pa_cons (pcall (ok_stands T) (T.g "_law_stands") hr (pa_cons (pv 2) (pa_cons (pv 7) pa_nil)) (by omega)) pa_nil)))
        (pss_cons (ps_set (i := 7) sc_act.nd rfl (.inl rfl) (pcall (ok_led T) (T.g "_law_led") hr (pa_cons (pv 1) (pa_cons (pv 2) (pa_cons (pv 7) (pa_cons (pv 4) pa_nil)))) h6) (hf := .inr rfl))
        (pss_one (ps_expr (pe_bm PySem.F.plainAttrs_list PySem.F.slot_list_append PySem.F.type_list_append mt_append (pv 6) (pa_cons (pcall (ok_stands T) (T.g "_law_stands") hr (pa_cons (pv 0) (pa_cons (pv 7) pa_nil)) (by omega)) pa_nil))))))) pss_nil)
      (pss_one (ps_ret (pe_tup (pa_cons pe_str (pa_cons (pv 5) (pa_cons (pe_callB call_len_seq rfl (T.f "len") boot_len (pa_cons (pv 7) pa_nil)) pa_nil))))))))), ?_⟩
    have a0 : AS K TL H H we b l tb n g0 g1 D nn [] := ⟨hS, h0, hT, fun b o h _ _ => h, hS.note h0⟩
    refine ⟨_, rfl, _, rfl, _, rfl, _, rfl, we, b, l, tb, n, g0, g1, D, rfl, hS, hn, by omega, fun l1 D1 H1 s1 len1 k1 => ?_⟩
    have a1 := a0.led s1 k1
    obtain ⟨d1, E1, rows1, hB1, hS1, hT1⟩ := s1.parts
    refine ⟨_, rfl, .inl ⟨rfl, _, SqL.of a1.notes⟩, _, rfl, _, rfl, b, l1, n, rows1, d1, E1, rfl, hB1, hS1, hT1, fun H2 e2 => ⟨true, rfl, iteT ?_⟩⟩
    obtain ⟨d2, E2, rows2, hB2, hS2, hT2⟩ := (s1.same e2).parts
    refine ⟨_, rfl, _, rfl, b, l1, n, rows2, d2, E2, rfl, hB2, hS2, hT2, fun H3 e3 => ?_⟩
    have a3 := (a1.same e2).same e3
    refine ⟨nn, _, _, rfl, rfl, a3.notes, by decide, ?_⟩
    have a4 := a3.app
    refine ⟨_, rfl, _, _, rfl, rfl, _, rfl, ?_⟩
    rw [decide_eq_true (show (0 : Int) < ((d + 1 : Nat) : Int) by omega)]
    refine iteT ?_
    -- the tried within
    refine ⟨_, rfl, .inl ⟨rfl, _, SqL.of a4.notes⟩, _, rfl, _, rfl, _, rfl, _, rfl, _, rfl, _, _, rfl, rfl, ?_⟩
    refine ⟨we, b, l1, tb, n, g0, g1, D1, by
      show [V.ref we, V.ref b, V.ref l1, V.ref tb, V.int (((d + 1 : Nat) : Int) - 1)] = _
      rw [show ((d + 1 : Nat) : Int) - 1 = (d : Int) by omega], a4.sit, hn, by omega, a4.tabs, fun H5 s5 t5 k5 => ?_⟩
    have a5 := a4.again s5 t5 k5
    refine ⟨nn, _, _, rfl, rfl, a5.notes, by decide, ?_⟩
    have a6 := a5.app
    obtain ⟨d6, E6, rows6, hB6, hS6, hT6⟩ := a6.sit.parts
    refine ⟨_, rfl, .inl ⟨rfl, _, SqL.of a6.notes⟩, _, rfl, _, rfl, b, l1, n, rows6, d6, E6, rfl, hB6, hS6, hT6, fun H7 e7 => ?_⟩
    have a7 := a6.same e7
    refine ⟨nn, _, _, rfl, rfl, a7.notes, by decide, ?_⟩
    have a8 := a7.app
    refine ⟨_, rfl, _, rfl, _, rfl, _, rfl, we, b, l1, tb, n, g0, g1, D1, rfl, a8.sit, hn, by omega, fun l9 D9 H9 s9 len9 k9 => ?_⟩
    have a9 := a8.led s9 k9
    obtain ⟨dA, EA, rowsA, hBA, hSA, hTA⟩ := a9.sit.parts
    refine ⟨_, rfl, .inl ⟨rfl, _, SqL.of a9.notes⟩, _, rfl, _, rfl, b, l9, n, rowsA, dA, EA, rfl, hBA, hSA, hTA, fun HA eA => ?_⟩
    have aA := a9.same eA
    refine ⟨nn, _, _, rfl, rfl, aA.notes, by decide, ?_⟩
    have aB := aA.app
    obtain ⟨ss, h1, _⟩ := id aB.sit.stands
    refine ⟨_, rfl, _, rfl, l9, _, rfl, .inl (SqL.of h1), by show 3 ≤ sizeLine; decide, fun p hp => ?_⟩
    have aC := aB.same (same_upd (o := .tup [.str "done", .int ((d + 1 : Nat) : Int), .int (((ss.reverse.map V.ref).length : Nat) : Int)]) hp)
    exact hQ p _ _ D9 _ upd_same aC.sit.well aC.sit.bench aC.tabs aC.notes rfl aC.kn
end
end K46
end
section
set_option Elab.async false
set_option linter.all false
set_option autoImplicit false
set_option maxRecDepth 100000
set_option maxHeartbeats 4000000
set_option exponentiation.threshold 3000
/-! K46V: _law_is_tried by its action. -/
namespace K46
open PySem PySem.Spec PyProof.Rows L2 LamX NdefX
theorem iteSame {c p : Prop} [Decidable c] (h : p) : if c then p else p := by split <;> exact h
theorem tIf_both {t : TT} {ta tb : TE} {σ : L2.St} {H : Hp} {Q : VK} {c : Bool} {v : V} (h1 : ∀ R : Bool → Hp → Prop, R c H → t σ H R) (h2 : c = true → ∀ R : VK, R v H → ta σ H R) (h3 : ¬ c = true → ∀ R : VK, R v H → tb σ H R) (h : Q v H) : tIf t ta tb σ H Q := by
  refine h1 _ ?_
  cases c with
  | true => exact iteT (h2 rfl Q h)
  | false => exact iteF (h3 (by decide) Q h)
theorem tabs_st {T : List NTab} {H H' : Hp} (t : TabsN T H) (st : ∀ c o, H c = some o → ((∃ ps, o = .tbl ps) ∨ ∃ φ, o = .ext φ) → H' c = some o) : TabsN T H' := fun p hp => by
  obtain ⟨ps, h1, h2, h3⟩ := t p hp
  refine ⟨ps, st _ _ h1 (.inl ⟨ps, rfl⟩), h2, fun pos cv hc => ?_⟩
  obtain ⟨c, e1, e2⟩ := h3 pos cv hc
  exact ⟨c, e1, st _ _ e2 (.inr ⟨_, rfl⟩)⟩
theorem sh_done (d : Nat) : SeqAt.shaped (PyData.tuple [.str "done", .int (d : Int)]) = true := by
  have h : PyData.strOk "done" = true := by decide +kernel
  simp [SeqAt.shaped, PyData.canLay0, PyData.canLayAll0, PyData.depth, PyData.depthAll, h]
theorem eq_notes {K : Fg} {H : Hp} {Q : VK} {a r : Addr} {m : Nat} (hm : m = 1 ∨ m = 4) (ha : SqL K H a ((List.replicate m true).map V.bl)) (hr : SqL K H r (List.replicate m [V.bl true]).flatten) (h : Q (.bl true) H) : rEqD K (.ref a) (.ref r) H Q := by
  rcases hm with rfl | rfl
  · exact ⟨.list [.bool true], .list [.bool true], .lst ha (.cons (.bl true) .nil), .lst hr (.cons (.bl true) .nil), by decide, by decide, h⟩
  · exact ⟨.list [.bool true, .bool true, .bool true, .bool true], .list [.bool true, .bool true, .bool true, .bool true], .lst ha (.cons (.bl true) (.cons (.bl true) (.cons (.bl true) (.cons (.bl true) .nil)))), .lst hr (.cons (.bl true) (.cons (.bl true) (.cons (.bl true) (.cons (.bl true) .nil)))), by decide, by decide, h⟩
section
variable {P : Program} {w : World} {K : Fg} {mg : Str → Option Value} {base : Heap} {P1 P2 : Addr}
theorem ok_istrF (T : Tx K mg) {fd : FuncData} (F : Fun K "_law_is_tried" "_law_is_tried" (tp 50) (He.ga K "_law_is_tried") fd) (TF : TabF K mg base (He.ga K "_law_is_tried") P1) (hP : P2 ≠ P1) (d : Nat) (hd : d ≤ 2) {k : Nat} (h6 : 6 ≤ k)
    (act : ∀ (f : Addr) (cl : List (Str × Addr)) (c' : Addr), NOk P w K mg base CX0 k f (actF cl c') ["_law_given"] FrA (spAct K (TabL P1 P2) d)) : FnOk P w K mg base CX0 (k + 2) (He.ga K "_law_is_tried") fd PsT (spIsTr K (TabL P1 P2) d) := by
  obtain ⟨oc, od, _, _, _, _, _, _, osl, efd, lk, _⟩ := F.ex
  obtain ⟨c, hc, TB⟩ := TF _ _ _ _ lk
  refine K46.Fun.okC F (cv := .ref c) (fun _ _ _ l => hc) sc_itr (fun vs H Q E h => ?_) (fun A outer s H vs Q E hr h => ?_)
  · obtain ⟨we, b, l, tb, n, g0, g1, D, rfl, _⟩ := h
    rfl
  · obtain ⟨we, b, l, tb, n, g0, g1, D, rfl, hS, hn, hD, hT, hQ⟩ := h
    have hfree : ∀ y ∈ (C8.fnScope actSt).names, y.2 = .free → (defScope (tp 50)).names.lookup y.1 = some .cell ∨ (defScope (tp 50)).names.lookup y.1 = some .free := ndef_free (fr := FrA) (by decide +kernel)
    have hu : ∀ p ∈ TabL P1 P2, p.1 = P1 → p.2 = fun _ _ => aQ := fun p hp e => by
      rcases List.mem_cons.mp hp with z | z
      · rw [z]
      · rw [List.mem_singleton.mp z] at e
        exact absurd e hP
    have hu64 : (A.deeper (envOfC "_law_is_tried" (defScope (tp 50)) s.heap.objs.size (He.ga K "_law_is_tried") (.ref c))).units + 64 < cLine := by
      have q : (A.deeper (envOfC "_law_is_tried" (defScope (tp 50)) s.heap.objs.size (He.ga K "_law_is_tried") (.ref c))).units + 16 * (k + 1) + 200 < cLine := hr.un
      omega
    refine ⟨_, pss_cons (ps_set (i := 5) sc_itr.nd rfl (.inr rfl) (pe_lst pa_nil))
      (pss_cons (ps_ndefMS (st := actSt) (T := TabL P1 P2) (nm := fun _ _ => aQ) (i := 6) rfl TB rfl (List.mem_cons_self ..) rfl hu hfree rfl rfl rfl sc_itr.nd rfl (.inl rfl) (.inl rfl))
      (pss_cons (ps_set (i := 7) sc_itr.nd rfl (.inl rfl) (pe_ifExp (pt_cmpR op_ne (pv 4) pe_int (nomark _))
        (pe_tried (fr := FrA) (js := [0, 1, 2, 3, 4, 5]) (i := 6) T (fun f c' => act f _ c') (fun _ => rfl) (fun ok => Caps.made ok hfree (ndef_fr (sc := defScope (tp 50)) (by decide +kernel)) rfl) (fun _ => rfl) hr (Nat.le_refl _) (by omega) (pv 1) rfl (.inl rfl))
        (pe_triedK (fr := FrA) (js := [0, 1, 2, 3, 4, 5]) (i := 6) T (fun f c' => act f _ c') (fun _ => rfl) (fun ok => Caps.made ok hfree (ndef_fr (sc := defScope (tp 50)) (by decide +kernel)) rfl) (fun _ => rfl) hr (Nat.le_refl _) (by omega) (pv 1) rfl (.inl rfl))))
      (pss_cons (ps_if (PW.pt (pw_or (pt_not (pt_val (pe_callB call_isi rfl (T.f "isinstance") boot_isinstance (pa_cons (pv 7) (pa_cons (pty (T.f "tuple") boot_tuple) pa_nil)))))
          (pw_or (pt_cmpR (op_neD hu64) (pe_slice sl_tup (pv 7) po_none (po_some pe_int)) (pe_tup (pa_cons pe_str (pa_cons (pv 4) pa_nil))) (nomark _))
          (pw_or1 (pt_cmpR op_ne (pe_callB call_len_seq rfl (T.f "len") boot_len (pa_cons (pv 5) pa_nil)) (pe_ifExp (pt_cmpR op_eq (pv 4) pe_int (nomark _)) pe_int pe_int) (nomark _)))))) (pss_one (ps_ret pe_bl)) pss_nil)
      (pss_one (ps_ret (pe_and (pe_cmpR (op_eqD hu64) (pv 5) (pe_op op_rep (pe_lst (pa_cons pe_bl pa_nil)) (pe_callB call_len_seq rfl (T.f "len") boot_len (pa_cons (pv 5) pa_nil))) (nomark _))
        (pe_one (pcall (ok_stands T) (T.g "_law_stands") hr (pa_cons (pv 1) (pa_cons (pv 2) pa_nil)) (by omega))))))))), ?_⟩
    refine ⟨by show 0 ≤ sizeLine; decide, fun nn nfree => ⟨hT.ext (same_upd nfree), fun f c' H2 eN nn2 t2 f0 hf hc' => ?_⟩⟩
    have e1 : Same H (upd H nn (.lst [])) := same_upd nfree
    have hN2 : H2 nn = some (.lst []) := eN _ _ upd_same (fun _ z => by cases z)
    have s2 : Sit K H2 we b l tb n g0 g1 D := (hS.same e1).kn (KpN.ofN (S := []) eN) wr_nil (by simp) (by simp)
    obtain ⟨dx, st, hb2, hC2⟩ := id s2.bench
    have nw := s2.note hN2
    have wr2 := s2.wr
    refine ⟨_, rfl, rfl, _, rfl, iteSame ⟨_, rfl, b, dx, st, f, c', rfl, hb2, rfl, hf, hc', fun H3 R e3 cont => ?_⟩⟩
    refine ⟨we, b, l, tb, n, g0, g1, D, nn, rfl, rfl, e3 _ _ hN2, s2.same e3, hn, hD, t2.ext e3, fun p H4 cc D4 bs hp hw4 hb4 t4 n4 ebs k4 => ?_⟩
    obtain ⟨dx2, st2, hb4', hC4⟩ := hb4
    have out : ∀ a o, H2 a = some o → ¬ Mutb o → a ∉ [we, b, nn] := fun a o h hm => by
      have h1 : a ∉ [we, b] := wr2.no h hm
      have h2 : a ≠ nn := fun q => by
        rw [q, hN2] at h
        exact hm (by rw [← Option.some.inj h]; exact .notes [])
      simp at h1 ⊢
      exact ⟨h1.1, h1.2, h2⟩
    refine cont (.ref p) H4 st2 dx2 hb4' (fun a C d fs h3 h2n => k4 a _ h3 (fun z => ?_) (fun _ z => by cases z)) fun H5 h5b h5k => ?_
    · obtain ⟨x, y, hwx, _⟩ := s2.well
      have : H2 a ≠ none := by
        rcases (show a = we ∨ a = b ∨ a = nn by simpa using z) with q | q | q <;> rw [q]
        · rw [hwx]; simp
        · rw [hb2]; simp
        · rw [hN2]; simp
      exact this h2n
    -- behind the trial
    have stay : ∀ c o, H4 c = some o → (∀ C d fs, o ≠ .ins C d fs) → H5 c = some o := fun c o h ni => h5k c o h (fun q => by
      rw [q, hb4'] at h
      exact ni _ _ _ (Option.some.inj h).symm) (.inr (.inr ni))
    have t5 : TabsN (TabL P1 P2) H5 := tabs_st t4 fun c o h z => stay c o h fun C d fs q => by
      rw [q] at z
      rcases z with ⟨_, z⟩ | ⟨_, z⟩ <;> cases z
    have n5 : H5 nn = some (.lst (bs.map V.bl)) := stay _ _ n4 (fun _ _ _ z => by cases z)
    have p5 : H5 p = some (.tup [.str "done", .int (d : Int), .int cc]) := stay _ _ hp (fun _ _ _ z => by cases z)
    have k25 : ∀ a o, H2 a = some o → a ∉ [we, b, nn] → (∀ ps, o ≠ .tbl ps) → H5 a = some o := fun a o h hn ht => h5k a o (k4 a o (e3 a o h) hn ht) (by simp at hn; exact hn.2.1) (.inr (.inl (by rw [h]; simp)))
    have m25 : Mv H2 H5 := fun a o h hm => k25 a o h (out a o h hm) fun ps z => hm (by rw [z]; exact .table ps)
    have w5 : WellAt H5 we := by
      obtain ⟨x, y, hwx, hr⟩ := hw4
      exact ⟨x, y, stay _ _ hwx (fun _ _ _ z => by cases z), hr⟩
    have s5 : Sit K H5 we b l tb n g0 g1 D := s2.mv m25 w5 ⟨dx2, st, h5b, hC2.mv m25⟩
    have k05 : KpN [we, b] H H5 := fun a o h hn ht => k25 a o (eN a o (e1 a o h) ht) (fun z => by
      simp at z hn
      rcases z with z | z | z
      · exact hn.1 z
      · exact hn.2 z
      · rw [z, nfree] at h
        cases h) ht
    have hm : (if d = 0 then 1 else 4 : Nat) = 1 ∨ (if d = 0 then 1 else 4 : Nat) = 4 := by
      split
      · exact .inl rfl
      · exact .inr rfl
    -- the told
    refine ⟨_, rfl, _, _, _, _, true, rfl, .ty _, .base (.tup p5), kit_ty (by decide +kernel), true, rfl, iteF ?_⟩
    refine ⟨_, rfl, 2, rfl, p, _, rfl, SqT.of p5, (by show ¬ (HT.sIx 3 0 none = 0 ∧ HT.sIx 3 3 (some 2) = 3); decide), fun q nq => ?_⟩
    have e6 := same_upd (o := .tup (cutV [V.str "done", .int (d : Int), .int cc] none (some 2))) nq
    refine ⟨_, rfl, by show 2 ≤ sizeLine; decide, fun r nr => ?_⟩
    have e7 := same_upd (o := .tup [.str "done", .int (d : Int)]) nr
    have c7 : SqT K (upd (upd H5 q (.tup (cutV [V.str "done", .int (d : Int), .int cc] none (some 2)))) r (.tup [.str "done", .int (d : Int)])) q [.str "done", .int (d : Int)] := SqT.of (e7 _ _ upd_same)
    refine ⟨.tuple [.str "done", .int (d : Int)], .tuple [.str "done", .int (d : Int)], .tup c7 (.cons (.str _) (.cons (.int _) .nil)), .tup (SqT.of upd_same) (.cons (.str _) (.cons (.int _) .nil)), sh_done d, sh_done d, false, ?_, iteF ?_⟩
    · simp [PyData.eqv, PyData.eqvAll]
    have e57 := e6.trans e7
    have len5 : (bs.map V.bl).length = if d = 0 then 1 else 4 := by rw [List.length_map, ebs, List.length_replicate]
    refine ⟨_, rfl, nn, _, rfl, .inl (SqL.of (e57 _ _ n5)), ?_⟩
    refine tIf_both (v := .int ((bs.map V.bl).length : Int)) (c := decide (d = 0)) (fun R hR => ⟨_, rfl, rfl, _, rfl, ?_⟩) (fun hc R hR => ?_) (fun hc R hR => ?_) ?_
    · have e0 : decide (V.int (d : Int) = V.int 0) = decide (d = 0) := decide_eq_decide.mpr ⟨fun h => by injection h with h; omega, fun h => by rw [h]; rfl⟩
      rw [e0]
      exact hR
    · rw [len5, if_pos (of_decide_eq_true hc)] at hR
      exact hR
    · rw [len5, if_neg (fun z => hc (decide_eq_true z))] at hR
      exact hR
    refine ⟨rfl, false, by simp, iteF ?_⟩
    refine ⟨_, rfl, by show 1 ≤ sizeLine; decide, fun u nu => ?_⟩
    have e8 := same_upd (o := .lst [.bl true]) nu
    have ek : (((bs.map V.bl).length : Nat) : Int).toNat = if d = 0 then 1 else 4 := by
      rw [len5]
      exact Int.toNat_natCast _
    have lm : (bs.map V.bl).length ≤ 4 := by
      rw [len5]
      split <;> omega
    refine ⟨_, rfl, nn, _, rfl, .inl (SqL.of ((e57.trans e8) _ _ n5)), u, _, _, rfl, rfl, upd_same, by omega, by omega, ?_, fun x nx => ?_⟩
    · rw [ek]
      split <;> decide
    have e9 := same_upd (o := .lst (List.replicate (((bs.map V.bl).length : Nat) : Int).toNat [V.bl true]).flatten) nx
    have e59 := (e57.trans e8).trans e9
    refine eq_notes hm ?_ ?_ ⟨true, rfl, iteT ?_⟩
    · rw [← ebs]
      exact SqL.of (e59 _ _ n5)
    · rw [← ek]
      exact SqL.of upd_same
    have s9 := s5.same e59
    obtain ⟨dA, EA, rowsA, hBA, hSA, hTA⟩ := s9.parts
    refine ⟨_, rfl, _, rfl, b, l, n, rowsA, dA, EA, rfl, hBA, hSA, hTA, fun HA eA => ?_⟩
    exact hQ HA (s9.same eA) ((t5.ext e59).ext eA) (k05.trans (Kp.of (e59.trans eA)).n)
/-- at any depth that is drawn -/
def spIsAny (K : Fg) (T : List NTab) : Sp := fun vs H Q E => ∃ d : Nat, d ≤ 2 ∧ spIsTr K T d vs H Q E
theorem ok_istr (T : Tx K mg) (TF : TabF K mg base (He.ga K "_law_is_tried") P1) (hP : P2 ≠ P1) : Def P w K mg base 15 (He.ga K "_law_is_tried") PsT (spIsAny K (TabL P1 P2)) := by
  obtain ⟨fd, F⟩ := T.fn 38 _ rfl
  have b := F.binds (ps := PsT) fun _ _ _ _ _ _ us hl => match us, hl with | [_, _, _, _, _], _ => rfl
  have g0 := ok_istrF (P := P) (w := w) T F TF hP 0 (by decide) (k := 7) (by decide) fun f cl c' => ok_act0 T f cl c'
  have g1 := ok_istrF (P := P) (w := w) T F TF hP 1 (by decide) (k := 10) (by decide) fun f cl c' => ok_actS T 0 (k := 9) (by decide) (Def.of F g0 b) f cl c'
  have g2 := ok_istrF (P := P) (w := w) T F TF hP 2 (by decide) (k := 13) (by decide) fun f cl c' => ok_actS T 1 (k := 12) (by decide) (Def.of F g1 b) f cl c'
  refine Def.of F ⟨fun vs H Q E h => ?_, fun A outer s H args us vs Q E hr e0 hb r h => ?_⟩ b
  · obtain ⟨d, _, we, b, l, tb, n, g0, g1, D, rfl, _⟩ := h
    rfl
  · obtain ⟨d, hd, h⟩ := h
    have m0 := g0.mono (k := 15) (by decide)
    have m1 := g1.mono (k := 15) (by decide)
    rcases (show d = 0 ∨ d = 1 ∨ d = 2 by omega) with e | e | e
    · rw [e] at h
      exact m0.run A outer s H args us vs Q E hr e0 hb r h
    · rw [e] at h
      exact m1.run A outer s H args us vs Q E hr e0 hb r h
    · rw [e] at h
      exact g2.run A outer s H args us vs Q E hr e0 hb r h
end
end K46
end
section
set_option Elab.async false
set_option linter.all false
set_option autoImplicit false
set_option maxRecDepth 100000
set_option maxHeartbeats 4000000
set_option exponentiation.threshold 3000
/-! K46W: o.tried(lambda x: ..). -/
namespace K46
open PySem PySem.Spec PyProof.Rows L2 LamX NdefX
/-- a lambda's words -/
abbrev lamF (q : Str) (params : Arguments) (scope : Scope) (c' : Addr) : NF := ⟨"<lambda>", q, params, [], scope, [], c'⟩
/-- a lambda with parameters and without captured names, callable from behind its making -/
theorem calls_of_lam {P : Program} {w : World} {K : Fg} {mg : Str → Option Value} {base : Heap} {k : Nat} {f c' : Addr} {q : Str} {params : Arguments} {body : Expr} {scope : Scope} {pm ctv : Value} {N ps : List Str} {sp : Sp} {fs : List Addr} {s0 : Shared} {H0 : Hp}
    (S : NScope N ps [] scope) (hf : s0.heap.get? f = some (PySem.W.kla_obj "<lambda>" q params body scope [] pm c' ctv)) (hfn : H0 f = none) (hfr : f ∉ fs)
    (hb : ∀ us : List Value, us.length = ps.length → bindArgs (PySem.W.kla_fn "<lambda>" q params body scope [] pm (.ref c') ctv) ⟨us, []⟩ = pure (ps.zip us)) (len : ∀ vs H Q E, sp vs H Q E → vs.length = ps.length)
    (hbody : ∀ (A : Around) (outer : List Env) (s : Shared) (H : Hp) (vs : List V) (Q : VK), Room k (A.deeper (envF (lamF q params scope c') f s.heap.objs.size)) → sp vs H Q E0 → ∃ t, PE (ncx CX0 P w K mg base N (lamF q params scope c') f A outer s H E0) body t ∧ t (startF N vs []) H Q) :
    CallsAt P w K mg base (k + 1) fs s0 H0 f (fun H => H c' = some (CodeO c' q)) sp where
  fn := fun s H _ un _ => ⟨_, _, _, _, un.keep f _ hf hfn hfr (by simp)⟩
  run := fun A outer s H us vs Q hr e0 un hc r hsp => by
    have hl := len _ _ _ _ hsp
    have lim : s.heap.NoLimit := e0.mod.nolimit.keeps fun b o e => (e0.bs b o e).1
    have of1 := un.keep f _ hf hfn hfr (by simp)
    obtain ⟨⟨oc, cs, t, hoc, hdc, hvc⟩, _, _⟩ := e0.hok c' _ hc
    refine PySem.W.kla_callFunE hr.depth of1 rfl S.co S.gen rfl ⟨c', oc, cs, t, rfl, hoc, hdc, hvc⟩ ?_
    rw [hb us (by rw [← r.length]; exact hl)]
    refine wpAny_pure (wpAny_newFunctionEnv S.nocell (fun ⟨n, _⟩ hy => S.par n (List.of_mem_zip hy).1) (fun h₁ hns hsb => ⟨lim.fresh _ hsb, ?_⟩) S.kind)
    show codeAny _ _ (.expr body (envF (lamF q params scope c') f s.heap.objs.size)) _ _
    have kp : ∀ b o, s.heap.get? b = some o → h₁.get? b = some o := fun b o e => hsb.extBut b o (Nat.ne_of_lt (Heap.lt_size e)) (Heap.get?_push_of_some _ e)
    have C : CellsAt (lamF q params scope c').cl [] [] s.heap H := ⟨rfl, (fun y c e => by cases e), (fun x y c e => by cases e), (fun i y e => by simp at e)⟩
    have J : Inv (ncx CX0 P w K mg base N (lamF q params scope c') f A outer s H E0) [] (startF N vs []) H { s with heap := h₁, toks := s.toks + (ps.zip us).length } := inv_startN S hr.hd e0 hl r C hns kp
    obtain ⟨te, hbe, hq⟩ := hbody A outer s H vs Q (hr.deeper _) hsp
    refine PySem.W.kla_codeExpr (wpAny_mono (hbe.run [] _ _ H Q J hq) (fun v s' hq => ?_) fun e s' hq => hq)
    obtain ⟨w', H', J', rv, q⟩ := hq
    exact ⟨w', H', J'.os, J'.bare, J'.base, J'.hok, rv, q⟩
/-- the reading of o.tried(lambda x: ..) -/
def tTriedL (K : Fg) (T : List (Addr × Str)) (sp : Sp) (to : TE) : TE := fun σ H Q => to σ H fun x H0 => ∃ b dx st, x = .ref b ∧ H0 b = some (.ins (He.ga K "Bench") dx [("stage", .ref st)]) ∧ Tabs T H0 ∧
  ∀ (H1 H2 : Hp) (R : VK), ExtN H0 H1 → Tabs T H1 → Same H1 H2 →
    (∀ (v : V) (H3 : Hp) (st2 dx2 : Addr), H3 b = some (.ins (He.ga K "Bench") dx2 [("stage", .ref st2)]) → (∀ a C d fs, H2 a = some (.ins C d fs) → H1 a = none → H3 a = some (.ins C d fs)) →
      (∀ H4 : Hp, H4 b = some (.ins (He.ga K "Bench") dx2 [("stage", .ref st)]) → (∀ a o, H3 a = some o → a ≠ b → (H2 a = none ∨ H1 a ≠ none ∨ ∀ C d fs, o ≠ .ins C d fs) → H4 a = some o) → Q v H4) → R v H3) → sp [.ref b] H2 R E0
theorem pe_triedL {X : Cx} {k j : Nat} {T' : List (Addr × Str)} {c Pt : Addr} {params : Arguments} {body : Expr} {scope : Scope} {N ps : List Str} {sp : Sp} {to : TE} {o : Expr} {lpos pos apos : Pos} {pl : Sem Bool} (T : Tx X.K X.mg) (TB : TabB X.base X.mg c Pt) (hcode : X.env.code = .ref c)
    (hmT : (Pt, X.env.qual ++ "<lambda>") ∈ T') (hu : ∀ p ∈ T', p.1 = Pt → p.2 = X.env.qual ++ "<lambda>") (hdef : defaultsOf params X.env = ([], [])) (S : NScope N ps [] scope) (hcl : cloFrom X.env.cells scope.names [] = [])
    (hb : ∀ (q : Str) (pm cv ctv : Value) (us : List Value), us.length = ps.length → bindArgs (PySem.W.kla_fn "<lambda>" q params body scope [] pm cv ctv) ⟨us, []⟩ = pure (ps.zip us)) (len : ∀ vs H Q E, sp vs H Q E → vs.length = ps.length)
    (hbody : ∀ (f c' : Addr) (A : Around) (outer : List Env) (s : Shared) (H : Hp) (vs : List V) (Q : VK), Room k (A.deeper (envF (lamF (X.env.qual ++ "<lambda>") params scope c') f s.heap.objs.size)) → sp vs H Q E0 → ∃ t, PE (ncx CX0 X.prog X.w X.K X.mg X.base N (lamF (X.env.qual ++ "<lambda>") params scope c') f A outer s H E0) body t ∧ t (startF N vs []) H Q)
    (hr : Room (j + 1) X.A) (hk : k + 1 ≤ j) (h3 : 3 ≤ j) (ho : PE X o to)
    (ht : eval (.Call (.Attribute o "tried" apos) [.Lambda params body scope lpos] [] pos) X.env = (do let ov ← eval o X.env; standAt apos.atName; let (f, first) ← holding [ov] (getMethod ov "tried" pl); callWith pos f first (backTo pos (starEach [.Lambda params body scope lpos] X.env)) (backToKw pos (keywordEach [] X.env))) := by rfl) :
    PE X (.Call (.Attribute o "tried" apos) [.Lambda params body scope lpos] [] pos) (tTriedL X.K T' sp to) := by
  have hm := T.m "Bench" "tried"
  refine ⟨fun pins s σ H Q I h => PySem.W.methodCall_KW (pl := pl) (thn (ho.run pins s σ H _ I h) fun u s1 q => ?_) ht⟩
  obtain ⟨v, H0, I1, rv, b, dx, st, ev, hb0, hT, h⟩ := q
  subst ev
  obtain rfl : u = Value.ref b := rv
  refine getmeth_ok I1 hb0 (T.c "Bench") hm (nl (by decide +kernel)) ?_
  have hfree : ∀ y ∈ scope.names, y.2 = .free → ∃ c, X.env.cells.lookup y.1 = some c := fun y hy e => absurd (S.free y hy e) (by simp)
  refine PySem.W.callWith_K (first := [.ref b]) (h₀ := X.base) I1.ok.mod.kin hm.kp ?_ (by rfl) (by rfl)
  show wpAny _ _ (spliced ((false, eval (.Lambda params body scope lpos) X.env) :: backTo pos (starEach [] X.env))) _ _ s1
  refine Calls.spliced_cons (lam_make2 I1 TB hcode hmT hu hT hdef hfree fun f c' pm' ctv H1 s2 I2 eN T1 hf hfn hfr hco => ?_)
  refine Calls.spliced_nil ⟨I2.kIn, ?_⟩
  rw [hcl] at hf
  have CA := calls_of_lam (P := X.prog) (w := X.w) (K := X.K) (mg := X.mg) (base := X.base) (k := k) (sp := sp) S hf hfn hfr (hb _ pm' (.ref c') ctv) len (hbody f c')
  have hb1 : H1 b = some (.ins (He.ga X.K "Bench") dx [("stage", .ref st)]) := eN _ _ hb0 (fun _ z => by cases z)
  refine wpAny_call (codeAny_mono (run_tried (Q := Q) (args := ⟨[.ref b, .ref f], []⟩) T I2 hr hk h3 CA hb1 (fun H2 sm => sm _ _ hco) (fun fd F => ?_) fun H2 R sm => h H1 H2 R eN T1 sm) fun r s' hq => ?_)
  · have bd := F.binds (ps := ["self", "action"]) fun _ _ _ _ _ _ us hl => match us, hl with | [_, _], _ => rfl
    exact bd s2 [.ref b, .ref f] I2.kIn rfl
  cases r with
  | error e => exact (show False from hq).elim
  | ok fl =>
    cases fl with
    | ret u => exact I2.after hq
    | next => exact False.elim hq
    | brk => exact False.elim hq
    | cont => exact False.elim hq
end K46
end
section
set_option Elab.async false
set_option linter.all false
set_option autoImplicit false
set_option maxRecDepth 100000
set_option maxHeartbeats 4000000
set_option exponentiation.threshold 3000
/-! K46X: _law_right. -/
namespace K46
open PySem PySem.Spec PyProof.Rows L2 LamX NdefX
abbrev NRt : List Str := ["_law_well_here", "_law_many", "_law_tables", "_law_bench", "_law_stands_here", "_law_turn"]
theorem sc_rt : FnScope NRt ["_law_well_here"] (defScope (tp 51)) := ⟨rfl, rfl, rfl, by decide +kernel, rfl, by decide +kernel, by decide +kernel⟩
theorem op_repE {X : Cx} : OpR X (binaryOp .Mult) (fun x y H Q => rRep1 X.K x y H Q ∨ rRepT X.K x y H Q) := OpR.or op_rep1 op_repT
abbrev TabS2 (P1 P2 : Addr) : List (Addr × Str) := [(P1, aQ), (P2, lQ)]
theorem tabs_to {P1 P2 : Addr} {H : Hp} (t : TabsN (TabL P1 P2) H) : Tabs (TabS2 P1 P2) H := fun p hp => by
  rcases List.mem_cons.mp hp with z | z
  · rw [z]
    exact TabN.to (t (P1, fun _ _ => aQ) (List.mem_cons_self ..))
  · rw [List.mem_singleton.mp z]
    exact TabN.to (t (P2, fun _ _ => lQ) (List.mem_cons_of_mem _ (List.mem_cons_self ..)))
theorem tabs_of {P1 P2 : Addr} {H : Hp} (t : Tabs (TabS2 P1 P2) H) : TabsN (TabL P1 P2) H := fun p hp => by
  rcases List.mem_cons.mp hp with z | z
  · rw [z]
    exact TabN.of (t (P1, aQ) (List.mem_cons_self ..))
  · rw [List.mem_singleton.mp z]
    exact TabN.of (t (P2, lQ) (List.mem_cons_of_mem _ (List.mem_cons_self ..)))
def spLam (K : Fg) : Sp := fun vs H Q _ => ∃ (b : Addr) (d : Std) (D : List Std) (n : Nat) (rows : List (List Int)), vs = [.ref b] ∧ BenchAt K H b (d :: D) ∧ TableAt K H d.1 n rows ∧ n ≤ 2 ∧ ∀ H', Same H H' → Q (.str (tabTx rows)) H'
def spRight (K : Fg) (T : List NTab) : Sp := fun vs H Q _ => ∃ (we : Addr), vs = [.ref we] ∧ WellAt H we ∧ TabsN T H ∧ ∀ H', TabsN T H' → KpN [we] H H' → Q (.bl true) H'
/-- ((0, 1),) * n -/
theorem rep_zero {K : Fg} {H : Hp} {Q : VK} {t z : Addr} {n : Nat} {m : Int} (hz : H z = some (.tup [.int 0, .int 1])) (ht : H t = some (.tup [.ref z])) (en : 1 + m = (n : Int)) (hn : n = 1 ∨ n = 2) (h : ∀ (p : Addr) (H' : Hp), Same H H' → LoadAt K H' p (zeros n) → Q (.ref p) H') :
    rRep1 K (.ref t) (.int (1 + m)) H Q ∨ rRepT K (.ref t) (.int (1 + m)) H Q := by
  rw [en]
  rcases hn with rfl | rfl
  · refine .inl ⟨t, _, rfl, rfl, SqT.of ht, h t H (Same.refl H) ⟨[z], SqT.of ht, rfl, fun i a e => ?_⟩⟩
    match i, e with
    | 0, e =>
      cases e
      exact ⟨(0, 1), rfl, SqT.of hz⟩
    | i + 1, e => simp at e
  · refine .inr ⟨t, 2, _, rfl, rfl, SqT.of ht, by simp, by decide, by decide, (by show 1 ≤ 1000; decide), fun p np => h p _ (same_upd np) ⟨[z, z], SqT.of upd_same, rfl, fun i a e => ?_⟩⟩
    have hz' := same_upd (o := .tup (List.replicate (2 : Int).toNat [V.ref z]).flatten) np _ _ hz
    match i, e with
    | 0, e =>
      cases e
      exact ⟨(0, 1), rfl, SqT.of hz'⟩
    | 1, e =>
      cases e
      exact ⟨(0, 1), rfl, SqT.of hz'⟩
    | i + 2, e => simp at e
/-- what holds within _law_right -/
structure RS (K : Fg) (T : List NTab) (H0 H : Hp) (we b l tb : Addr) (n : Nat) (g0 g1 : Addr) (D : List Std) : Prop where
  sit : Sit K H we b l tb n g0 g1 D
  tabs : TabsN T H
  kn : KpN [we] H0 H
  nb : H0 b = none
section
variable {K : Fg} {T : List NTab} {H0 H H' : Hp} {we b l l' tb g0 g1 : Addr} {n : Nat} {D D' : List Std}
theorem kpN_drop (k : KpN [we] H0 H) (nb : H0 b = none) (k2 : KpN [we, b] H H') : KpN [we] H0 H' := fun c o h hn ht => k2 c o (k c o h hn ht) (fun z => by
  rcases (show c = we ∨ c = b by simpa using z) with z | z
  · exact hn (by simp [z])
  · rw [z, nb] at h
    cases h) ht
theorem RS.same (a : RS K T H0 H we b l tb n g0 g1 D) (s : Same H H') : RS K T H0 H' we b l tb n g0 g1 D := ⟨a.sit.same s, a.tabs.ext s, a.kn.trans (Kp.of s).n, a.nb⟩
theorem RS.led (a : RS K T H0 H we b l tb n g0 g1 D) (s : Sit K H' we b l' tb n g0 g1 D') (k : Kp [we, b] H H') : RS K T H0 H' we b l' tb n g0 g1 D' :=
  ⟨s, tabs_kpN a.tabs k a.sit.soft, kpN_drop a.kn a.nb k.n, a.nb⟩
theorem RS.again (a : RS K T H0 H we b l tb n g0 g1 D) (s : Sit K H' we b l' tb n g0 g1 D') (t : TabsN T H') (k : KpN [we, b] H H') : RS K T H0 H' we b l' tb n g0 g1 D' :=
  ⟨s, t, kpN_drop a.kn a.nb k, a.nb⟩
end
section
variable {P : Program} {w : World} {K : Fg} {mg : Str → Option Value} {base : Heap} {P1 P2 : Addr}
theorem ok_right (T : Tx K mg) (TF : TabF K mg base (He.ga K "_law_is_tried") P1) (TR : TabF K mg base (He.ga K "_law_right") P2) (hP : P2 ≠ P1) : Def P w K mg base 16 (He.ga K "_law_right") ["_law_well_here"] (spRight K (TabL P1 P2)) := by
  obtain ⟨fd, F⟩ := T.fn 39 _ rfl
  obtain ⟨oc, od, _, _, _, _, _, _, osl, efd, lk, _⟩ := F.ex
  obtain ⟨c, hc, TB⟩ := TR _ _ _ _ lk
  refine Def.of F (K46.Fun.okC F (cv := .ref c) (fun _ _ _ l => hc) sc_rt (fun vs H Q E h => ?_) (fun A outer s H vs Q E hr h => ?_)) (F.binds fun _ _ _ _ _ _ us hl => match us, hl with | [_], _ => rfl)
  · obtain ⟨we, rfl, _⟩ := h
    rfl
  · obtain ⟨we, rfl, hW, hT, hQ⟩ := h
    have cB := T.c "Bench"
    have cT := T.c "Table"
    have hu : ∀ p ∈ TabS2 P1 P2, p.1 = P2 → p.2 = lQ := fun p hp e => by
      rcases List.mem_cons.mp hp with z | z
      · rw [z] at e
        exact absurd e.symm hP
      · rw [List.mem_singleton.mp z]
    refine ⟨_, pss_cons (ps_set (i := 1) sc_rt.nd rfl (.inr rfl) (pe_op op_add pe_int (pcall (ok_take T) (T.g "_law_take") hr (pa_cons (pv 0) (pa_cons pe_int pa_nil)))))
      (pss_cons (ps_setLc (i := 2) (own := [("_law_turn", 5)]) (g := gName 5) (tt := tYes) rfl sc_rt.nd rfl rfl rfl (pi_range1 rfl (T.f "range") (pa_cons pe_int pa_nil)) (blkOk_by (N := NRt) (sc := defScope (tp 51)) (by decide +kernel)) (fun _ _ _ _ _ => pg_name (i := 5) sc_rt.nd rfl (Or.inl rfl)) (fun _ _ _ _ _ => pts_nil)
          (fun _ _ _ _ _ => pmake (T.k "Table") (ok_tabI T) (T.g "Table") hr (pa_cons (pcall (ok_rows T) (T.g "_law_rows") hr (pa_cons (pv 0) (pa_cons (pv 1) pa_nil))) pa_nil)))
      (pss_cons (ps_set (i := 3) sc_rt.nd rfl (.inl rfl) (pmake (T.k "Bench") (ok_bnI T) (T.g "Bench") hr (pa_cons (pe_ix ix_list (pv 2) pe_int (fun _ _ => rfl)) pa_nil)))
      (pss_cons (ps_set (i := 4) sc_rt.nd rfl (.inl rfl) (pcall (ok_led T) (T.g "_law_led") hr (pa_cons (pv 0) (pa_cons (pv 3) (pa_cons (pe_lst (pa_cons (pe_lst (pa_cons (pe_op op_repE (pe_tup (pa_cons (pe_tup (pa_cons pe_int (pa_cons pe_int pa_nil))) pa_nil)) (pv 1)) (pa_cons (pe_ix ix_list (pv 2) pe_int (fun _ _ => rfl)) pa_nil))) pa_nil)) (pa_cons (pv 2) pa_nil))))))
      (pss_cons (ps_for PassesOwn.never rfl (pi_range1 rfl (T.f "range") (pa_cons pe_int pa_nil)) (pg_name (i := 5) sc_rt.nd rfl (.inl rfl))
        (pss_cons (ps_if (pt_not (pt_val (pcall (ok_istr T TF hP) (T.g "_law_is_tried") hr (pa_cons (pv 0) (pa_cons (pv 3) (pa_cons (pv 4) (pa_cons (pv 2) (pa_cons (pcall (ok_take T) (T.g "_law_take") hr (pa_cons (pv 0) (pa_cons pe_int pa_nil))) pa_nil)))))))) pss_never pss_nil)
        (pss_one (ps_set (i := 4) sc_rt.nd rfl (.inl rfl) (pcall (ok_led T) (T.g "_law_led") hr (pa_cons (pv 0) (pa_cons (pv 3) (pa_cons (pv 4) (pa_cons (pv 2) pa_nil)))))))))
      (pss_cons (ps_for PassesOwn.never rfl (pi_range1 rfl (T.f "range") (pa_cons (pe_op op_sub (pe_callB call_len_seq rfl (T.f "len") boot_len (pa_cons (pv 4) pa_nil)) pe_int) pa_nil)) (pg_name (i := 5) sc_rt.nd rfl (.inl rfl))
        (pss_cons (ps_expr (pmeth0 (pv 3) cB (T.m "Bench" "undo") (ok_und T) hr))
        (pss_cons (ps_set (i := 4) sc_rt.nd rfl (.inl rfl) (pe_slice sl_list (pv 4) po_none (po_some (pe_un un_neg pe_int))))
        (pss_one (ps_if (pt_not (pt_val (pcall (ok_stands T) (T.g "_law_stands") hr (pa_cons (pv 3) (pa_cons (pv 4) pa_nil))))) pss_never pss_nil)))))
      (pss_one (ps_ret (pe_cmpR op_eq (pe_triedL (k := 13) (N := ["_law_given"]) (ps := ["_law_given"]) (sp := spLam K) (T' := TabS2 P1 P2) T TB rfl (List.mem_cons_of_mem _ (List.mem_cons_self ..)) hu rfl (nscope_by (by decide +kernel)) (by rfl) (by intro q pm cv ctv us hl; match us, hl with | [_], _ => rfl) (fun vs H Q E h => by obtain ⟨b, d, D, n, rows, rfl, _⟩ := h; rfl)
          (fun f c' A outer s H vs Q hr h => ⟨_, pprop (pprop (pv 0) cB (T.p "Bench" "table") (ok_tab T) hr) cT (T.p "Table" "text") (ok_text T) hr, by
            obtain ⟨b, d, D, n, rows, rfl, hB, hTb, hn, hQ⟩ := h
            obtain ⟨dx, st, hb, hC⟩ := id hB
            obtain ⟨dg, rt, hg, _⟩ := id hTb
            exact ⟨_, rfl, b, dx, _, rfl, hb, b, d, D, rfl, hB, d.1, dg, _, rfl, hg, d.1, n, rows, rfl, hTb, hn, hQ⟩⟩) hr (by decide) (by decide) (pv 3))
        (pprop (pe_ix ix_list (pv 2) pe_int (fun _ _ => rfl)) cT (T.p "Table" "text") (ok_text T) hr) (nomark _))))))))), ?_⟩
    refine ⟨_, rfl, we, 2, rfl, hW, by decide, by decide, fun m H1 m0 m2 hw1 k1 => ⟨_, _, rfl, rfl, ?_⟩⟩
    obtain ⟨n, en⟩ : ∃ n : Nat, 1 + m = (n : Int) := ⟨(1 + m).toNat, by omega⟩
    have hn : n = 1 ∨ n = 2 := by omega
    have wr1 := hw1.wr
    obtain ⟨aw, bw, hwe, _⟩ := id hw1
    -- the tables
    refine ⟨2, rfl, by decide, by decide, fun tb nD => ?_⟩
    have neD : tb ≠ we := fun z => by
      rw [z, hwe] at nD
      cases nD
    refine lc_range (lo := 0) (n := 2) (fun i H' => ∃ gs : List Addr, H' tb = some (.lst (gs.map V.ref)) ∧ gs.length = i ∧ (∀ (j : Nat) (g : Addr), gs[j]? = some g → ∃ rows, TableAt K H' g n rows) ∧ WellAt H' we ∧ Kp [we] H1 H')
      ⟨[], upd_same, rfl, (fun j g e => by simp at e), hw1.same (same_upd nD), Kp.of (same_upd nD)⟩ ?_ ?_
    · rintro i H2 hi ⟨gs, hD, lg, hall, hw2, k2⟩
      refine ⟨rfl, yesT ?_⟩
      refine ⟨_, rfl, _, rfl, we, n, by
        show [V.ref we, V.int (1 + m)] = _
        rw [en], hw2, by omega, fun rt rows H3 hr3 hw3 k3 => ?_⟩
      intro x xd nx nxd ne
      have sxd : Same H3 (upd (upd H3 xd (.own x)) x (.ins (He.ga K "Table") xd [])) := same_then (same_upd nxd) (by rw [upd_ne ne.symm]; exact nx)
      refine ⟨x, xd, rt, n, rows, rfl, upd_same, hr3.kp (S := []) (Kp.of sxd) (by simp), by omega, by omega, fun H5 h5 k5 => ⟨rfl, ?_⟩⟩
      have s35 : Same H3 H5 := Same.made nx nxd k5
      have hD3 : H3 tb = some (.lst (gs.map V.ref)) := k3 _ _ hD (by simpa using neD)
      have hD5 := s35 _ _ hD3
      have kput : ∀ o, Kp [tb] H5 (upd H5 tb o) := fun o => Kp.put (by simp)
      have tb5 : ∀ {g rows'}, TableAt K H5 g n rows' → TableAt K (upd H5 tb (.lst (gs.map V.ref ++ [.ref x]))) g n rows' := fun {g rows'} t => by
        obtain ⟨dg, rg, hg, _⟩ := id t
        refine t.kp (kput _) ?_ ?_
        · have : g ≠ tb := ne_of hg hD5 (fun z => by cases z)
          simpa using this
        · intro c hc ys z
          rw [List.mem_singleton.mp hc, hD5] at z
          cases z
      refine ⟨_, hD5, ?_, gs ++ [x], ?_, ?_, ?_, ?_, ?_⟩
      · rw [List.length_map, lg]
        exact Nat.lt_of_le_of_lt (show i ≤ 2 by omega) (by decide)
      · rw [upd_same, List.map_append]
        rfl
      · rw [List.length_append, lg]
        rfl
      · intro j g e
        by_cases hj : j < gs.length
        · rw [List.getElem?_append_left hj] at e
          obtain ⟨r, t⟩ := hall j g e
          exact ⟨r, tb5 ((t.kw k3 hw2.wr).same s35)⟩
        · have hj2 : j = gs.length := by
            have := (List.getElem?_eq_some_iff.mp e).1
            rw [List.length_append] at this
            simp at this
            omega
          subst hj2
          rw [List.getElem?_append_right (Nat.le_refl _), Nat.sub_self] at e
          cases e
          exact ⟨rows, tb5 h5⟩
      · exact (hw3.same s35).kp (kput _) (by simpa using neD.symm)
      · intro c o e mm
        rw [upd_ne (ne_of_none e nD)]
        exact s35 _ _ ((k2.trans k3) c o e mm)
    rintro H2 ⟨gs, hD, lg, hall, hw2, k2⟩
    obtain ⟨g0, g1, rfl⟩ : ∃ g0 g1, gs = [g0, g1] := match gs, lg with
      | [g0, g1], _ => ⟨g0, g1, rfl⟩
    obtain ⟨rows0, hT0⟩ := hall 0 g0 rfl
    obtain ⟨rows1, hT1⟩ := hall 1 g1 rfl
    have at0 : atI [V.ref g0, V.ref g1] 0 = some (.ref g0) := atI_nat (j := 0) rfl
    have hD : H2 tb = some (.lst [V.ref g0, V.ref g1]) := hD
    -- the bench
    refine ⟨_, rfl, tb, _, 0, .ref g0, rfl, rfl, SqL.of hD, at0, ?_⟩
    intro x xd nx nxd ne
    have sxd : Same H2 (upd (upd H2 xd (.own x)) x (.ins (He.ga K "Bench") xd [])) := same_then (same_upd nxd) (by rw [upd_ne ne.symm]; exact nx)
    refine ⟨x, g0, xd, n, rows0, rfl, upd_same, hT0.same sxd, by omega, fun H5 hB5 k5 => ⟨rfl, ?_⟩⟩
    have s25 : Same H2 H5 := Same.made nx nxd k5
    have k02 : Kp [we] H H2 := k1.trans k2
    have nb : H x = none := by
      cases e : H x with
      | none => rfl
      | some o =>
        by_cases hx : x = we
        · obtain ⟨a2, b2, hwe2, _⟩ := hw2
          rw [hx, hwe2] at nx
          cases nx
        · rw [k02 x o e (by simpa using hx)] at nx
          cases nx
    -- the stands
    refine ⟨_, rfl, _, rfl, by show 2 ≤ sizeLine; decide, fun z nz => ⟨by show 1 ≤ sizeLine; decide, fun t nt => ⟨_, rfl, ?_⟩⟩⟩
    have sz := same_upd (o := .tup [.int 0, .int 1]) nz
    have szt := same_then (o := .tup [.ref z]) sz nt
    refine rep_zero (n := n) ((same_upd nt) _ _ upd_same) upd_same en hn fun p H7 e7 hL => ?_
    have s57 : Same H5 H7 := szt.trans e7
    have hD7 := s57 _ _ (s25 _ _ hD)
    refine ⟨_, rfl, tb, _, 0, .ref g0, rfl, rfl, SqL.of hD7, at0, by show 2 ≤ sizeLine; decide, fun s0 ns => ⟨by show 1 ≤ sizeLine; decide, fun l nl' => ⟨_, rfl, ?_⟩⟩⟩
    have s8 := same_upd (o := .lst [.ref p, .ref g0]) ns
    have s9 := same_then (o := .lst [.ref s0]) s8 nl'
    have s59 := s57.trans s9
    have s29 := s25.trans s59
    have sit0 : Sit K (upd (upd H7 s0 (.lst [.ref p, .ref g0])) l (.lst [.ref s0])) we x l tb n g0 g1 [(g0, zeros n)] := by
      refine ⟨hw2.same s29, hB5.kp (Kp.of (S := []) s59) wr_nil (by simp), ⟨[s0], upd_same, .cons ⟨p, (same_upd nl') _ _ upd_same, hL.kp (Kp.of (S := []) s9) wr_nil⟩ .nil⟩, s29 _ _ hD, ⟨rows0, hT0.same s29⟩, ⟨rows1, hT1.same s29⟩, ⟨.inl rfl, List.length_replicate, fun q hq => ?_, trivial⟩, rfl, by omega⟩
      rw [List.eq_of_mem_replicate hq]
      exact FracOk.zero
    have r0 : RS K (TabL P1 P2) H _ we x l tb n g0 g1 [(g0, zeros n)] := ⟨sit0, (tabs_kpN hT k02 (fun c hc => by
      obtain ⟨a0, b0, h0, _⟩ := hW
      rw [List.mem_singleton.mp hc]
      exact ⟨_, h0, (fun _ z => by cases z), (fun _ z => by cases z)⟩)).ext s29, (k02.trans (Kp.of s29)).n, nb⟩
    refine ⟨we, x, l, tb, n, g0, g1, _, rfl, sit0, by omega, by show 1 + 4 ≤ 30; decide, fun l1 D1 H10 s10 len10 k10 => ?_⟩
    have r1 := r0.led s10 k10
    have len1 : D1.length ≤ 5 := len10
    -- two actions
    refine ⟨2, rfl, by decide, by decide, for_range (n := 2) (fun i σ H' => ∃ (l' : Addr) (D' : List Std) (v5 : Option V), σ = [some (.ref we), some (.int (1 + m)), some (.ref tb), some (.ref x), some (.ref l'), v5] ∧
      RS K (TabL P1 P2) H H' we x l' tb n g0 g1 D' ∧ D'.length ≤ 5 + 4 * i) ⟨l1, D1, _, rfl, r1, by omega⟩ ?_ ?_⟩
    · rintro i σ H11 hi ⟨l', D', v5, rfl, r, len'⟩
      refine ⟨_, rfl, _, rfl, _, rfl, _, rfl, _, rfl, we, 3, rfl, r.sit.well, by decide, by decide, fun dp H12 d0 d3 hw12 k12 => ?_⟩
      obtain ⟨dn, rfl⟩ : ∃ dn : Nat, dp = (dn : Int) := ⟨dp.toNat, by omega⟩
      have r12 := r.led (r.sit.draw k12 hw12) (k12.more (by simp))
      refine ⟨dn, by omega, we, x, l', tb, n, g0, g1, D', rfl, r12.sit, by omega, by omega, r12.tabs, fun H13 s13 t13 k13 => ⟨true, rfl, iteF ?_⟩⟩
      have r13 := r12.again s13 t13 k13
      refine ⟨_, rfl, _, rfl, _, rfl, _, rfl, we, x, l', tb, n, g0, g1, D', rfl, s13, by omega, by omega, fun l14 D14 H14 s14 len14 k14 => ?_⟩
      exact ⟨l14, D14, _, rfl, r13.led s14 k14, by omega⟩
    rintro σ H11 ⟨l2, D2, v5, rfl, r2, len2⟩
    -- all is taken back
    obtain ⟨ss2, hl2, hp2⟩ := id r2.sit.stands
    have lenS2 : (ss2.reverse.map V.ref).length = D2.length := by
      rw [List.length_map, List.length_reverse, hp2.length]
    have pos2 : 0 < D2.length := List.length_pos_iff.mpr r2.sit.ne
    refine ⟨_, rfl, l2, _, rfl, .inl (SqL.of hl2), _, _, rfl, rfl, _, rfl, by omega, by omega, for_range (n := (((ss2.reverse.map V.ref).length : Int) - 1).toNat) (fun i σ H' => ∃ (l' : Addr) (D' : List Std) (v5 : Option V), σ = [some (.ref we), some (.int (1 + m)), some (.ref tb), some (.ref x), some (.ref l'), v5] ∧
      RS K (TabL P1 P2) H H' we x l' tb n g0 g1 D' ∧ D'.length + i = D2.length) ⟨l2, D2, _, rfl, r2, rfl⟩ ?_ ?_⟩
    · rintro i σ H12 hi ⟨l', D', v5, rfl, r, len'⟩
      rw [lenS2] at hi
      have two : 2 ≤ D'.length := by omega
      cases D' with
      | nil => exact absurd two (by decide)
      | cons d D3 =>
        have hD3 : D3 ≠ [] := fun z => by
          rw [z] at two
          simp at two
        obtain ⟨ss, h1, hpr⟩ := id r.sit.stands
        cases hpr with
        | @cons s0 _ ss' _ hst hrest =>
          have eL : ((s0 :: ss').reverse.map V.ref) = ss'.reverse.map V.ref ++ [V.ref s0] := by
            rw [List.reverse_cons, List.map_append]
            rfl
          rw [eL] at h1
          have hno : ¬ Mutb (.lst (ss'.reverse.map V.ref ++ [V.ref s0])) := by
            have := (show ¬ Mutb (.lst ((s0 :: ss').reverse.map V.ref)) from by
              cases hh : (s0 :: ss').reverse with
              | nil => simp at hh
              | cons x y => exact no_refs)
            rw [eL] at this
            exact this
          obtain ⟨dx, st, hb, hC⟩ := id r.sit.bench
          have w5b := r.sit.bench.wr
          refine ⟨_, rfl, x, dx, _, rfl, hb, nl (by decide +kernel), x, d, D3, rfl, r.sit.bench, hD3, fun H6 hB6 k6 => ?_⟩
          have hl6 := k6 _ _ h1 (w5b.no h1 hno)
          refine ⟨_, rfl, _, rfl, -1, rfl, l', _, rfl, SqL.of hl6, fun p6 n6 => ?_⟩
          have sm := same_upd (o := .lst (cutV (ss'.reverse.map V.ref ++ [V.ref s0]) none (some (-1)))) n6
          have k5f : Kp [x] H12 (upd H6 p6 (.lst (cutV (ss'.reverse.map V.ref ++ [V.ref s0]) none (some (-1))))) := k6.trans (Kp.of sm)
          have sit6 : Sit K (upd H6 p6 (.lst (cutV (ss'.reverse.map V.ref ++ [V.ref s0]) none (some (-1))))) we x p6 tb n g0 g1 D3 := by
            refine r.sit.move k5f (hB6.kp (Kp.of (S := []) sm) wr_nil (by simp)) ⟨ss', by rw [upd_same, cut_last], paired_kp (fun _ _ z => z.kp k5f w5b) hrest⟩ r.sit.gd.2.2.2 ?_
            have la := r.sit.last
            cases D3 with
            | nil => exact absurd rfl hD3
            | cons e E => rw [List.getLast?_cons_cons] at la; exact la
          have r6 := r.led sit6 (k5f.more (by simp))
          obtain ⟨d7, E7, rows7, hB7, hS7, hT7⟩ := sit6.parts
          refine ⟨_, rfl, _, rfl, x, p6, n, rows7, d7, E7, rfl, hB7, hS7, hT7, fun H7 e7 => ⟨true, rfl, iteF ?_⟩⟩
          refine ⟨p6, D3, _, rfl, r6.same e7, ?_⟩
          have : (d :: D3).length = D3.length + 1 := rfl
          omega
    rintro σ H12 ⟨l3, D3, v5, rfl, r3, len3⟩
    rw [lenS2] at len3
    have one : D3.length = 1 := by omega
    obtain ⟨d3, rfl⟩ : ∃ d3, D3 = [d3] := match D3, one with
      | [d3], _ => ⟨d3, rfl⟩
    obtain rfl : d3 = (g0, zeros n) := Option.some.inj r3.sit.last
    obtain ⟨dx, st, hb, hC⟩ := id r3.sit.bench
    obtain ⟨rowsZ, hTZ⟩ := r3.sit.t0
    refine ⟨_, rfl, x, dx, st, rfl, hb, tabs_to r3.tabs, fun H13 H14 R eN T13 e14 cont => ?_⟩
    have s13 : Sit K H13 we x l3 tb n g0 g1 [(g0, zeros n)] := r3.sit.kn (KpN.ofN (S := []) eN) wr_nil (by simp) (by simp)
    have s14 := s13.same e14
    have hTZ4 : TableAt K H14 g0 n rowsZ := (hTZ.mv ((KpN.ofN (S := []) eN).mv wr_nil)).same e14
    refine ⟨x, (g0, zeros n), [], n, rowsZ, rfl, s14.bench, hTZ4, s14.n2, fun H15 e15 => ?_⟩
    have hb13 : H13 x = some (.ins (He.ga K "Bench") dx [("stage", .ref st)]) := eN _ _ hb (fun _ z => by cases z)
    refine cont (.str (tabTx rowsZ)) H15 st dx (e15 _ _ (e14 _ _ hb13)) (fun a C d fs h _ => e15 _ _ h) fun H16 h16b h16k => ?_
    have st16 : ∀ a o, H13 a = some o → H16 a = some o := fun a o h => by
      by_cases ha : a = x
      · rw [ha] at h ⊢
        rw [hb13] at h
        cases h
        exact h16b
      · exact h16k a o (e15 _ _ (e14 _ _ h)) ha (.inr (.inl (by rw [h]; simp)))
    have hTZ13 : TableAt K H13 g0 n rowsZ := hTZ.mv ((KpN.ofN (S := []) eN).mv wr_nil)
    have hTZ16 := hTZ13.same st16
    obtain ⟨dg, rg, hg, _⟩ := id hTZ16
    refine ⟨_, rfl, tb, _, 0, .ref g0, rfl, rfl, SqL.of (st16 _ _ s13.tabs), at0, g0, dg, _, rfl, hg, g0, n, rowsZ, rfl, hTZ16, r3.sit.n2, fun H17 e17 => ⟨rfl, ?_⟩⟩
    have fin : Q (.bl true) H17 := hQ H17 (((tabs_of T13).ext st16).ext e17) ((r3.kn.trans (KpN.ofN eN)).trans ((Kp.of (Same.trans st16 e17)).n))
    rw [show V.bl (decide (V.str (tabTx rowsZ) = V.str (tabTx rowsZ))) = V.bl true from congrArg V.bl (decide_eq_true rfl)]
    exact fin
end
end K46
end
section
set_option Elab.async false
set_option linter.all false
set_option autoImplicit false
set_option maxRecDepth 100000
set_option maxHeartbeats 4000000
set_option exponentiation.threshold 3000
/-! K46Y: law. -/
namespace K46
open PySem PySem.Spec PyProof.Rows L2 LamX NdefX
theorem sqL_kpn {K : Fg} {H H' : Hp} {a : Addr} {xs : List V} (h : SqL K H a xs) (k : ∀ o, H a = some o → (∀ ps, o ≠ .tbl ps) → H' a = some o) : SqL K H' a xs := by
  rcases h with (h | ⟨o, h⟩) | h
  · exact .inl (.inl (k _ h (fun _ z => by cases z)))
  · exact .inl (.inr ⟨o, k _ h (fun _ z => by cases z)⟩)
  · exact .inr h
def spLaw (K : Fg) (T : List NTab) : Sp := fun vs H Q _ => ∃ (a : Addr) (ns : List Int), vs = [.ref a] ∧ SqL K H a (ns.map V.int) ∧ ns.length ≤ 63 ∧ TabsN T H ∧ ∀ H', Q (.bl true) H'
abbrev NLaw : List Str := ["_law_script", "_law_turn"]
theorem sc_law : FnScope NLaw ["_law_script"] (defScope (tp 52)) := ⟨rfl, rfl, rfl, by decide +kernel, rfl, by decide +kernel, by decide +kernel⟩
section
variable {P : Program} {w : World} {K : Fg} {mg : Str → Option Value} {base : Heap} {P1 P2 : Addr}
theorem ok_law (T : Tx K mg) (TF : TabF K mg base (He.ga K "_law_is_tried") P1) (TR : TabF K mg base (He.ga K "_law_right") P2) (hP : P2 ≠ P1) {fd : FuncData} (F : Fun K "law" "law" (tp 52) (He.ga K "law") fd) : FnOk P w K mg base CX0 17 (He.ga K "law") fd ["_law_script"] (spLaw K (TabL P1 P2)) := by
  refine F.ok sc_law (fun vs H Q E h => ?_) (fun cdv A outer s H vs Q E hr h => ?_)
  · obtain ⟨a, ns, rfl, _⟩ := h
    rfl
  · obtain ⟨a, ns, rfl, hS, hl, hT, hQ⟩ := h
    refine ⟨_, pss_one (ps_ret (pe_callB (cr_all rfl) rfl (T.f "all") boot_all (pa_cons
      (pe_lc (own := [("_law_turn", 1)]) (g := gName 1) (tt := tYes) rfl sc_law.nd (pi_range1 rfl (T.f "range") (pa_cons (pe_callB (call_max2 rfl) rfl (T.f "max") boot_max (pa_cons pe_int (pa_cons (pe_callB (call_min2 rfl) rfl (T.f "min") boot_min (pa_cons (pe_callB call_len_seq rfl (T.f "len") boot_len (pa_cons (pv 0) pa_nil)) (pa_cons pe_int pa_nil))) pa_nil))) pa_nil)) (blkOk_by (N := NLaw) (sc := defScope (tp 52)) (by decide +kernel)) (fun _ _ _ _ _ => pg_name (i := 1) sc_law.nd rfl (Or.inl rfl)) (fun _ _ _ _ _ => pts_nil)
        (fun _ _ _ _ _ => pcall (ok_right T TF TR hP) (T.g "_law_right") hr (pa_cons (pcall (ok_well T) (T.g "_law_well") hr (pa_cons (pv 0) (pa_cons (pv 1) pa_nil))) pa_nil))) pa_nil))), ?_⟩
    have fits : ∀ z : Int, z ≤ 63 → (if 5 < z then 5 else z) ≤ 63 ∧ 2 ≤ (if (if 5 < z then 5 else z) > 2 then (if 5 < z then 5 else z) else 2) ∧ (if (if 5 < z then 5 else z) > 2 then (if 5 < z then 5 else z) else 2) ≤ 5 := fun z hz => by
      split <;> split <;> omega
    refine ⟨_, rfl, a, _, rfl, .inl hS, _, _, rfl, _, _, rfl, _, rfl, ?_⟩
    have lz : (((ns.map V.int).length : Nat) : Int) ≤ 63 := by rw [List.length_map]; omega
    obtain ⟨_, f1, f2⟩ := fits _ lz
    refine ⟨?_, ?_, fun D nD => ?_⟩
    · exact Int.le_trans (by decide) f1
    · exact Int.lt_of_le_of_lt f2 (by decide)
    have hk : ∀ H1 H2 : Hp, SqL K H1 a (ns.map V.int) → (∀ o, H1 a = some o → (∀ ps, o ≠ .tbl ps) → a ≠ D → H2 a = some o) → SqL K H2 a (ns.map V.int) := by
      rcases hS with h | h
      · have hne : a ≠ D := fun z => by
          rcases h with h | ⟨o, h⟩ <;> rw [z, nD] at h <;> cases h
        exact fun H1 H2 s k => sqL_kpn s fun o h ht => k o h ht hne
      · exact fun _ _ _ _ => .inr h
    refine lc_range (lo := 0) (n := (if (if 5 < (((ns.map V.int).length : Nat) : Int) then 5 else (((ns.map V.int).length : Nat) : Int)) > 2 then (if 5 < (((ns.map V.int).length : Nat) : Int) then 5 else (((ns.map V.int).length : Nat) : Int)) else 2).toNat)
      (fun i H' => H' D = some (.lst ((List.replicate i true).map V.bl)) ∧ SqL K H' a (ns.map V.int) ∧ TabsN (TabL P1 P2) H') ⟨upd_same, hk _ _ hS (fun o h _ n => by rw [upd_ne n]; exact h), hT.ext (same_upd nD)⟩ ?_ ?_
    · rintro i H1 hi ⟨hD, hS1, hT1⟩
      refine ⟨rfl, yesT ?_⟩
      refine ⟨_, rfl, _, rfl, a, ns, i, by
        show [V.ref a, V.int ((0 : Int) + (i : Int))] = _
        rw [Int.zero_add], hS1, hl, fun we H2 nwe hw2 s2 => ?_⟩
      have i5 : i < 5 := by omega
      refine ⟨we, rfl, hw2, hT1.ext s2, fun H3 hT3 k3 => ?_⟩
      have hneD : D ≠ we := ne_of_none hD nwe
      have hD3 : H3 D = some (.lst ((List.replicate i true).map V.bl)) := k3 _ _ (s2 _ _ hD) (by simpa using hneD) (fun _ z => by cases z)
      refine ⟨_, hD3, ?_, ?_, ?_, ?_⟩
      · rw [List.length_map, List.length_replicate]
        exact Nat.lt_trans i5 (by decide)
      · rw [upd_same, List.replicate_succ', List.map_append]
        rfl
      · refine hk H1 _ hS1 fun o h ht n => ?_
        rw [upd_ne n]
        exact k3 _ _ (s2 _ _ h) (by simpa using ne_of_none h nwe) ht
      · exact tabs_kpN hT3 (Kp.put (S := [D]) (by simp)) (soft_one hD3)
    · rintro H1 ⟨hD, hS1, hT1⟩
      refine ⟨D, _, rfl, SqL.of hD, ?_⟩
      have e : ∀ m : Nat, ((List.replicate m true).all id) = true := fun m => by simp
      rw [e]
      exact hQ H1
end
end K46
end
section
set_option Elab.async false
set_option linter.all false
set_option autoImplicit false
set_option maxRecDepth 100000
set_option maxHeartbeats 4000000
/-! K46T: what the head's state is asked. -/
namespace K46
open PySem PySem.Spec PyProof.Rows L2 LamX NdefX He
def codeAt (K : Fg) (f : Addr) : Addr := match K.lookup f with
  | some ⟨_, _, .func fd, _⟩ => (match fd.code with
    | .ref c => c
    | _ => 0)
  | _ => 0
def codeRefB (K : Fg) (f : Addr) : Bool := match K.lookup f with
  | some ⟨_, _, .func fd, _⟩ => (match fd.code with
    | .ref _ => true
    | _ => false)
  | _ => false
def tabAt (K : Fg) (f : Addr) : Addr := match K.lookup (codeAt K f) with
  | some ⟨_, _, .fields vs, _⟩ => (match (vs.toList[11]? : Option Value) with
    | some (.ref p) => p
    | _ => 0)
  | _ => 0
theorem codeAt_ok {K : Fg} {f : Addr} (h : codeRefB K f = true) {fd : FuncData} {oc : Value} {od : Option Addr} {osl : Array (Option Value)} (l : K.lookup f = some (⟨oc, od, .func fd, osl⟩ : Obj)) : fd.code = .ref (codeAt K f) := by
  unfold codeRefB at h
  unfold codeAt
  rw [l] at h ⊢
  dsimp only at h ⊢
  cases e : fd.code with
  | ref c => rfl
  | _ =>
    rw [e] at h
    cases h
def fnV (K : Fg) (a : Addr) : FnW := match K.lookup a with
  | some ⟨_, _, .func fd, _⟩ => some (fd.name, fd.qualname, fd.params, fd.body, fd.scope, fd.globals, fd.closure, fd.builtins)
  | _ => none
def FD.val (d : FD) : FnW := some (d.name, d.qual, defArgs d.st, .stmts (defBody d.st), defScope d.st, mainGlobals, [], builtinsNs)
def noneB : Value → Bool
  | .none => true
  | _ => false
theorem noneB_ok {v : Value} (h : noneB v = true) : v = .none := by
  cases v <;> first | rfl | cases h
def FD.okB (K : Fg) (d : FD) : Bool := PySem.W.keepIn K (.ref (d.at_ K)) && (match K.lookup (d.at_ K) with
  | some ⟨_, _, .func fd, _⟩ => PySem.W.codeIn K fd.code d.qual && noneB fd.defaults
  | _ => false)
theorem FD.fun_ {K : Fg} {d : FD} (e : fnV K (d.at_ K) = d.val) (c : d.okB K = true) : ∃ fd, Fun K d.name d.qual d.st (d.at_ K) fd := by
  obtain ⟨kp, c2⟩ := ba c
  unfold fnV at e
  cases q : K.lookup (d.at_ K) with
  | none =>
    rw [q] at c2
    cases c2
  | some o =>
    obtain ⟨oc, od, dt, osl⟩ := o
    rw [q] at c2 e
    cases dt with
    | func fd =>
      obtain ⟨n1, n2, n3, n4, n5, n6, n7, n8, n9, n10, n11, n12, n13, n14, n15⟩ := fd
      have e2 : (some (n1, n2, n3, n4, n5, n6, n7, n15) : FnW) = some (d.name, d.qual, defArgs d.st, .stmts (defBody d.st), defScope d.st, mainGlobals, [], builtinsNs) := e
      simp only [Option.some.injEq, Prod.mk.injEq] at e2
      obtain ⟨h1, h2, h3, h4, h5, h6, h7, h8⟩ := e2
      subst h1 h2 h3 h4 h5 h6 h7 h8
      have c3 : (PySem.W.codeIn K n13 d.qual && noneB n8) = true := c2
      obtain ⟨k1, k2⟩ := ba c3
      obtain rfl := noneB_ok k2
      exact ⟨_, ⟨oc, od, n9, n10, n11, n12, n13, n14, osl, rfl, q, k1⟩, kp⟩
    | _ => cases c2
def headRefB (r : Option (List Value)) (a : Addr) : Bool := match r with
  | some (.ref b :: _) => Nat.beq b a
  | _ => false
def obB (a b : Option Bool) : Bool := match a, b with
  | some x, some y => x == y
  | none, none => true
  | _, _ => false
theorem obB_ok {a b : Option Bool} (h : obB a b = true) : a = b := by
  cases a <;> cases b <;> first | rfl | cases h | exact congrArg some (eq_of_beq h)
def propB (K : Fg) (C m : Str) : Bool := eqO (PySem.W.findIn K (.ref (ga K C)) m) (some (some (.ref (ma K (ga K C) m)))) && (eqO (PySem.W.specialIn K (.ref (ma K (ga K C) m)) "__get__") (some (some (.builtin "property.__get__"))) &&
  (obB (PySem.W.takesIn K (.ref (ma K (ga K C) m))) (some true) && headRefB (PySem.W.recIn K (ma K (ga K C) m) "property") (gtr K C m)))
theorem propB_ok {K : Fg} {C m : Str} (h : propB K C m = true) : PropOf K (ga K C) m (ma K (ga K C) m) (gtr K C m) := by
  obtain ⟨h1, h⟩ := ba h
  obtain ⟨h2, h⟩ := ba h
  obtain ⟨h3, h4⟩ := ba h
  refine ⟨eqO_ok h1, eqO_ok h2, obB_ok h3, ?_⟩
  unfold headRefB at h4
  split at h4
  · rename_i b rest e
    rw [Nat.eq_of_beq_eq_true h4] at e
    exact ⟨rest, e⟩
  · cases h4
def iscB (K : Fg) (C : Addr) : Bool := eqO (PySem.W.findIn K (.ref C) "__class__") (some (some (.builtin "object.__class__"))) && (eqO (PySem.W.specialIn K (.builtin "object.__class__") "__get__") (some (some (.builtin "getset_descriptor.__get__"))) &&
  (obB (PySem.W.takesIn K (.builtin "object.__class__")) (some true) && obB (PySem.W.mroIn K C (.type "object")) (some true)))
theorem iscB_ok {K : Fg} {C : Addr} (h : iscB K C = true) : IsC K C := by
  obtain ⟨h1, h⟩ := ba h
  obtain ⟨h2, h⟩ := ba h
  obtain ⟨h3, h4⟩ := ba h
  exact ⟨eqO_ok h1, eqO_ok h2, obB_ok h3, obB_ok h4⟩
def noLookB (K : Fg) (a : Addr) : Bool := match K.lookup a with
  | none => true
  | some _ => false
theorem noLookB_ok {K : Fg} {a : Addr} (h : noLookB K a = true) : K.lookup a = none := by
  unfold noLookB at h
  cases e : K.lookup a with
  | none => rfl
  | some o =>
    rw [e] at h
    cases h
def tfB (K : Fg) (f : Addr) : Bool := codeRefB K f && (PySem.W.codeHdIn K (codeAt K f) (tabAt K f) && noLookB K (tabAt K f))
abbrev f1 (K : Fg) : Addr := ga K "_law_is_tried"
abbrev f2 (K : Fg) : Addr := ga K "_law_right"
def facts1 (K : Fg) : Bool := (gNames.all fun x => (Fa.glo x).ok K) && (fNames.all fun x => (Fa.free x).ok K)
def facts2 (K : Fg) : Bool := (cNames.all fun x => (Fa.cls x).ok K && (Fa.mkr x).ok K) && ((aNames.all fun p => (Fa.noat p.1 p.2).ok K) && (mNames.all fun p => (Fa.meth p.1 p.2).ok K))
def facts3 (K : Fg) : Bool := (pNames.all fun p => propB K p.1 p.2) && (iscB K (ga K "Table") && tupB K "NONE" [.int 0, .int 1])
def facts4 (K : Fg) : Bool := (Fa.int "MOST_ROWS" 5).ok K && ((Fa.int "MOST_NUMBER" 100000000000000000000).ok K && (Fa.str "PARTED" " / ").ok K)
def facts5 (K : Fg) : Bool := tfB K (f1 K) && (tfB K (f2 K) && !Nat.beq (tabAt K (f2 K)) (tabAt K (f1 K)))
def factsB (K : Fg) : Bool := facts1 K && (facts2 K && (facts3 K && (facts4 K && (facts5 K && fns.all fun d => d.okB K))))
theorem tx_of {K : Fg} {h : Heap} {mg : Str → Option Value} (X : K.In h) (G : h.Ns mainGlobals mg) (c : factsB K = true) (e : (fns.map fun d => fnV K (d.at_ K)) = fns.map FD.val) : Tx K mg := by
  obtain ⟨c1, c⟩ := ba c
  obtain ⟨c2, c⟩ := ba c
  obtain ⟨c3, c⟩ := ba c
  obtain ⟨c4, c⟩ := ba c
  obtain ⟨c5, c6⟩ := ba c
  obtain ⟨a1, a2⟩ := ba c1
  obtain ⟨b1, c2⟩ := ba c2
  obtain ⟨b2, b3⟩ := ba c2
  obtain ⟨p1, c3⟩ := ba c3
  obtain ⟨p2, p3⟩ := ba c3
  obtain ⟨i1, c4⟩ := ba c4
  obtain ⟨i2, i3⟩ := ba c4
  exact {
    gl := fun x hx => glo_ok X G (List.all_eq_true.mp a1 x hx)
    fr := fun x hx => free_ok X G (List.all_eq_true.mp a2 x hx)
    cl := fun x hx => cls_ok (ba (List.all_eq_true.mp b1 x hx)).1
    na := fun p hp => noat_ok (List.all_eq_true.mp b2 p hp)
    me := fun p hp => meth_ok (List.all_eq_true.mp b3 p hp)
    mx := fun x hx => mkr_ok (ba (List.all_eq_true.mp b1 x hx)).2
    pr := fun p hp => propB_ok (List.all_eq_true.mp p1 p hp)
    ti := iscB_ok p2
    none_ := fun H => tupB_ok p3 H
    rows := int_ok X G i1
    numb := int_ok X G i2
    part := str_ok X G i3
    fn := fun i d hd => by
      have e2 : (fns.map fun d => fnV K (d.at_ K))[i]? = (fns.map FD.val)[i]? := by rw [e]
      rw [List.getElem?_map, List.getElem?_map, hd] at e2
      exact FD.fun_ (Option.some.inj e2) (List.all_eq_true.mp c6 d (List.mem_of_getElem? hd)) }
/-! ### the Hook -/
def tabB : Option Obj → Bool
  | some ⟨.none, none, .fields vs, sl⟩ => (match vs.toList, sl.toList with
    | [], [] => true
    | _, _ => false)
  | _ => false
theorem tabB_ok {o : Option Obj} (h : tabB o = true) : o = some ({ cls := .none, data := .fields #[] } : Obj) := by
  unfold tabB at h
  split at h
  · rename_i vs sl
    split at h
    · rename_i h1 h2
      have e1 : vs = #[] := Array.toList_eq_nil_iff.mp h1
      have e2 : sl = #[] := Array.toList_eq_nil_iff.mp h2
      rw [e1, e2] <;> rfl
    · cases h
  · cases h
def as0 (g : Addr → Option Obj) : List Addr := asG g 6
def kOf (g : Addr → Option Obj) (K0 : Fg) : Fg := frG g ((as0 g).filter fun a => !Nat.beq a (tabAt K0 (f1 K0)) && !Nat.beq a (tabAt K0 (f2 K0)))
abbrev AlT : Type := Bool × List FnW
def obsK (g : Addr → Option Obj) (K : Fg) : AlT := (factsB K && (tabB (g (tabAt K (f1 K))) && tabB (g (tabAt K (f2 K)))), fns.map fun d => fnV K (d.at_ K))
def obsT (g : Addr → Option Obj) : AlT := obsK g (kOf g (frG g (as0 g)))
def valT : AlT := (true, fns.map FD.val)
def SaysT (K : Fg) (h : Heap) : Prop := factsB K = true ∧ (fns.map fun d => fnV K (d.at_ K)) = fns.map FD.val ∧ h.get? (tabAt K (f1 K)) = some ({ cls := .none, data := .fields #[] } : Obj) ∧ h.get? (tabAt K (f2 K)) = some ({ cls := .none, data := .fields #[] } : Obj)
theorem says_of {K : Fg} {h : Heap} (e : obsK h.get? K = valT) : SaysT K h := by
  have e1 : (factsB K && (tabB (h.get? (tabAt K (f1 K))) && tabB (h.get? (tabAt K (f2 K))))) = true := congrArg (fun z : AlT => z.1) e
  have e2 : (fns.map fun d => fnV K (d.at_ K)) = fns.map FD.val := congrArg (fun z : AlT => z.2) e
  obtain ⟨c1, c⟩ := ba e1
  obtain ⟨c2, c3⟩ := ba c
  exact ⟨c1, e2, tabB_ok c2, tabB_ok c3⟩
def hookT : PySem.W.Hook where
  α := AlT
  obs := fun s => obsT s.heap.get?
  val := fun _ => valT
  says := fun _ h => ∃ K : Fg, K.In h ∧ SaysT K h
  of := fun _ _ e => ⟨_, frG_in, says_of e⟩
  keeps := fun _ _ _ ⟨K, hK, c1, c2, c3, c4⟩ k => ⟨K, PySem.W.Frag.In.keeps hK k, c1, c2, k _ _ c3, k _ _ c4⟩
def obT (s : PySem.W.SharedT) : AlT := obsT (HandSHeadRun.getT s)
theorem obT_eq (s : PySem.W.SharedT) : obT s = hookT.obs s.abs := by
  have e : HandSHeadRun.getT s = s.abs.heap.get? := funext (HandSHeadRun.getT_eq s)
  unfold obT
  rw [e] <;> rfl
end K46
end
section
set_option Elab.async false
set_option linter.all false
set_option autoImplicit false
set_option maxRecDepth 100000
set_option maxHeartbeats 0
/-! K46Z: the head's run. -/
namespace K46
open PySem PySem.W PySem.Calls PyProof.Rows
abbrev RR : OpenRow := OpenLaw.row PySem.Challenge.rw_onlyanswer_k46_whole_trials_of_benches
abbrev qv : Program := view RR.prog [52]
def looseA : List PySem.Str := ["_wall", "NotRight", "InvalidText", "InvalidNumber", "InvalidIndex", "NotATable", "InvalidRows", "NotKnown", "NothingToUndo", "NotPossible", "OtherSize", "FIGURES", "MOST_FIGURES", "NONE", "is_integer", "is_between", "number_in", "signed_in", "common", "ratio", "plus", "is_ratio", "MOST_ROWS", "MOST_NUMBER", "PARTED"]
def looseB : List PySem.Str := ["rows_fault", "Table", "rows_in", "check_table", "check_place", "Stage", "Mark", "Trial", "Bench", "_law_well", "_law_take", "_law_one", "_law_ratio", "_law_sum", "_law_times", "_law_fraction", "_law_number", "_law_rows", "_law_stands", "_law_led", "_law_is_tried", "_law_right"]
def loose : List PySem.Str := looseA ++ looseB
theorem run (w : World) : HandSHeadRun.RunEq RR qv hookT obT 8000 loose w := by
  intro os
  kernel_rfl
end K46
end
section
set_option Elab.async false
set_option linter.all false
set_option autoImplicit false
set_option maxRecDepth 100000
set_option maxHeartbeats 0
/-! K46E2: the end. -/
namespace K46
open PySem PySem.Spec PyProof.Rows L2 LamX NdefX He
theorem law_at {P : Program} {w : World} {K : Fg} {h : Heap} {mg : Str → Option Value} {fa : Addr} (X : K.In h) (G : h.Ns mainGlobals mg) (c : SaysT K h) (hfa : mg ("law" : Str) = some (.ref fa)) :
    ∃ (fd : FuncData) (cs : List (Addr × Addr)) (sp : Sp), (∀ p ∈ cs, h.get? p.2 = some { cls := .none, data := .fields #[] }) ∧ (∀ p ∈ cs, K.lookup p.2 = none) ∧ (∀ p ∈ cs, PySem.W.CodeHd h p.1 p.2) ∧ (∀ (s : Shared) (u : Value), BindsTo s fd ⟨[u], []⟩ [("_law_script", u)]) ∧
    (∀ (H : Hp) (a : Addr) (ns : List Int), ns.length ≤ 63 → (∀ z ∈ ns, Builtin.Int.intBits z ≤ 1048576) → (∀ p ∈ cs, H p.2 = some (.tbl #[])) → SqL K H a (ns.map V.int) → sp [.ref a] H (fun v _ => v = .bl true) fun _ _ _ => False) ∧
    ∀ base : Heap, K.In base → base.Ns mainGlobals mg → (∀ p ∈ cs, TabB base mg p.1 p.2) → FnOk P w K mg base CX0 17 fa fd ["_law_script"] sp := by
  obtain ⟨c1, c2, t1, t2⟩ := c
  have T := tx_of X G c1 c2
  obtain ⟨_, c⟩ := ba c1
  obtain ⟨_, c⟩ := ba c
  obtain ⟨_, c⟩ := ba c
  obtain ⟨_, c⟩ := ba c
  obtain ⟨c5, _⟩ := ba c
  obtain ⟨a1, c5⟩ := ba c5
  obtain ⟨a2, a3⟩ := ba c5
  obtain ⟨r1, a1⟩ := ba a1
  obtain ⟨d1, n1⟩ := ba a1
  obtain ⟨r2, a2⟩ := ba a2
  obtain ⟨d2, n2⟩ := ba a2
  have hP : tabAt K (f2 K) ≠ tabAt K (f1 K) := fun z => by
    rw [z, Nat.beq_refl] at a3
    cases a3
  have e := hfa.symm.trans (T.g "law")
  obtain rfl : fa = He.ga K "law" := by
    have e2 := Option.some.inj e
    injection e2
  obtain ⟨fd, F⟩ := T.fn 40 _ rfl
  have hb : ∀ (s : Shared) (u : Value), BindsTo s fd ⟨[u], []⟩ [("_law_script", u)] := fun s u => by
    obtain ⟨oc, od, kV, doc, pm, an, cdv, ct, osl, efd, lk, hcdv⟩ := F.ex
    subst efd
    exact .of_eq rfl
  have two : ∀ {p : Addr × Addr} {M : Addr × Addr → Prop}, p ∈ [(codeAt K (f1 K), tabAt K (f1 K)), (codeAt K (f2 K), tabAt K (f2 K))] → M (codeAt K (f1 K), tabAt K (f1 K)) → M (codeAt K (f2 K), tabAt K (f2 K)) → M p := fun {p M} hp m1 m2 => by
    rcases List.mem_cons.mp hp with z | z
    · rw [z]
      exact m1
    · rw [List.mem_singleton.mp z]
      exact m2
  refine ⟨fd, [(codeAt K (f1 K), tabAt K (f1 K)), (codeAt K (f2 K), tabAt K (f2 K))], spLaw K (TabL (tabAt K (f1 K)) (tabAt K (f2 K))), fun p hp => ?_, fun p hp => ?_, fun p hp => ?_, fun s u => ?_, fun H a ns hl _ hT hS => ?_, fun base KB GB TB => ?_⟩
  · exact two (M := fun p => h.get? p.2 = some { cls := .none, data := .fields #[] }) hp t1 t2
  · exact two (M := fun p => K.lookup p.2 = none) hp (noLookB_ok n1) (noLookB_ok n2)
  · exact two (M := fun p => PySem.W.CodeHd h p.1 p.2) hp (PySem.W.codeHd_of_K X d1) (PySem.W.codeHd_of_K X d2)
  · exact hb s u
  · refine ⟨a, ns, rfl, hS, hl, fun p hp => ?_, fun _ => rfl⟩
    rcases List.mem_cons.mp hp with z | z
    · rw [z]
      exact TabN.nil (hT _ (List.mem_cons_self ..))
    · rw [List.mem_singleton.mp z]
      exact TabN.nil (hT _ (List.mem_cons_of_mem _ (List.mem_cons_self ..)))
  · refine ok_law T (fun fd oc od osl l => ⟨_, codeAt_ok r1 l, TB _ (List.mem_cons_self ..)⟩) (fun fd oc od osl l => ⟨_, codeAt_ok r2 l, TB _ (List.mem_cons_of_mem _ (List.mem_cons_self ..))⟩) hP F
end K46
open PySem PySem.W PySem.Calls PyProof.Rows
theorem PySem.Challenge.cw_onlyanswer_k46_whole_trials_of_benches_holds : PySem.Challenge.rw_onlyanswer_k46_whole_trials_of_benches.Holds := by
  w_on; o_law
  refine HandSHeadRun.head_any (r := OpenLaw.row PySem.Challenge.rw_onlyanswer_k46_whole_trials_of_benches) (q := view (OpenLaw.row PySem.Challenge.rw_onlyanswer_k46_whole_trials_of_benches).prog [52]) (H := K46.hookT) (ob := K46.obT) (M := 8000) (loose := K46.loose) (d := HandSHeadRun.topDef (OpenLaw.row PySem.Challenge.rw_onlyanswer_k46_whole_trials_of_benches).prog 52) (kwd := []) K46.obT_eq
    (by kernel_rfl) (fun s => by kernel_rfl) K46.run (by kernel_rfl) (by kernel_rfl) (by kernel_rfl) (by rfl) (by first | assumption | decide +kernel) (by decide +kernel) ⟨rfl, rfl, rfl, rfl, rfl, by decide +kernel⟩ ?hw ?hc
  case hw => w_witness2
  case hc =>
    refine LamX.walk_ofTsE (l := PySem.Challenge.rw_onlyanswer_k46_whole_trials_of_benches) (n := 63) (k := 17) (x := "_law_script") (CX := fun _ => L2.CX0) rfl (by decide) (by kernel_rfl) ⟨rfl, by decide, by decide⟩ ?F (fun _ _ _ _ _ z => z)
    intro w mg fa h Y G hmg0
    obtain ⟨K, KX, c⟩ := Y
    have hmg : mg ("law" : PySem.Str) = some (.ref fa) := by
      have e : (HandSHeadRun.topDef (OpenLaw.row PySem.Challenge.rw_onlyanswer_k46_whole_trials_of_benches).prog 52).name = ("law" : PySem.Str) := by kernel_rfl
      rw [← e]
      exact hmg0
    exact ⟨K, KX, K46.law_at KX G c hmg⟩
end
