import PyProof.Rows.All
import Wide.All
import OpenK.AllK
import Wide.FinOn
import HandS.ForMost
import HandS.ForExc
import HandS.ExcInit
import HandS.ExcField
import HandS.IsInst
import HandS.Wide
import HandS.WideMore
import HandS.StrMore
import HandS.More
import HandS.Flow
import HandS.CallSlots
import HandS.Lambda
import HandS.Nested
import HandS.EndTab
import KE.IntTextLaws
import PySem.Challenge.RW_figurestay_k08_whole_shown_as
import HandS.Defaults
import KE.KExcSuper
/-! Plain mathematics: the nine ways, how far they reach, the law's own rounding. No program in sight. -/
namespace FS
inductive Way where
  | floor | ceiling | cut | away | halfup | halfdown | halfeven | halfaway | halfcut
  deriving DecidableEq

/-- what lift answers, as a truth -/
def liftB (w : Way) (part : Int) (neg odd : Bool) : Bool :=
  if part = 0 then false else
  match w with
  | .floor => false
  | .ceiling => true
  | .cut => neg
  | .away => !neg
  | .halfup => if part = 2 then true else decide (part = 3)
  | .halfdown => if part = 2 then false else decide (part = 3)
  | .halfeven => if part = 2 then odd else decide (part = 3)
  | .halfaway => if part = 2 then !neg else decide (part = 3)
  | .halfcut => if part = 2 then neg else decide (part = 3)

def reachB (w : Way) (u wide : Int) : Int :=
  if liftB w 3 (decide (u ≤ 0)) (decide (u % 2 = 0)) = false then 0 else
  if liftB w 2 (decide (u ≤ 0)) (decide (u % 2 = 0)) = false then wide / 2 - 1 else
  if liftB w 1 (decide (u ≤ 0)) (decide (u % 2 = 0)) = false then wide / 2 else wide - 1
def reachA (w : Way) (u wide : Int) : Int :=
  if liftB w 1 (decide (u < 0)) (decide (u % 2 = 1)) = true then 0 else
  if liftB w 2 (decide (u < 0)) (decide (u % 2 = 1)) = true then wide / 2 - 1 else
  if liftB w 3 (decide (u < 0)) (decide (u % 2 = 1)) = true then wide / 2 else wide - 1

/-- the law's rounding, from the floor q and what is left r of a number n by a divisor d -/
def roundQ (w : Way) (n q r d : Int) : Int :=
  if r = 0 then q else
  match w with
  | .floor => q
  | .ceiling => q + 1
  | .cut => if n > 0 then q else q + 1
  | .away => q + q + 1 - (if n > 0 then q else q + 1)
  | .halfup => if 2 * r = d then q + 1 else q + (if 2 * r > d then 1 else 0)
  | .halfdown => if 2 * r = d then q else q + (if 2 * r > d then 1 else 0)
  | .halfeven => if 2 * r = d then q + q % 2 else q + (if 2 * r > d then 1 else 0)
  | .halfaway => if 2 * r = d then q + q + 1 - (if n > 0 then q else q + 1) else q + (if 2 * r > d then 1 else 0)
  | .halfcut => if 2 * r = d then (if n > 0 then q else q + 1) else q + (if 2 * r > d then 1 else 0)
def rounds (w : Way) (n d : Int) : Int := roundQ w n (n / d) (n - n / d * d) d

theorem rounds_at {w : Way} {n q r d : Int} (hn : n = q * d + r) (h0 : 0 ≤ r) (h1 : r < d) : rounds w n d = roundQ w n q r d := by
  have hd : 0 < d := by omega
  have e : n / d = q := by
    have := (Int.ediv_emod_unique (a := n) (q := q) (r := r) hd).2 ⟨by rw [Int.mul_comm d q]; omega, h0, h1⟩
    exact this.1
  unfold rounds
  rw [e, show n - q * d = r by omega]

theorem pos_iff {n q r d : Int} (hn : n = q * d + r) (h0 : 0 < r) (h1 : r < d) : n > 0 ↔ 0 ≤ q := by
  constructor
  · intro h
    apply Classical.byContradiction
    intro z
    have hq : q ≤ -1 := by omega
    have : q * d ≤ -1 * d := Int.mul_le_mul_of_nonneg_right hq (by omega)
    omega
  · intro h
    have : 0 ≤ q * d := Int.mul_nonneg h (by omega)
    omega

theorem reachB_bounds (w : Way) (u h : Int) (hh : 2 ≤ h) : 0 ≤ reachB w u (2 * h) ∧ reachB w u (2 * h) ≤ 2 * h - 1 := by
  unfold reachB
  split
  · omega
  · split
    · omega
    · split <;> omega
theorem reachA_bounds (w : Way) (u h : Int) (hh : 2 ≤ h) : 0 ≤ reachA w u (2 * h) ∧ reachA w u (2 * h) ≤ 2 * h - 1 := by
  unfold reachA
  split
  · omega
  · split
    · omega
    · split <;> omega

/-- below: the number (g - 1) * d + r with r > 0 is rounded to g just if d - r is within reach -/
theorem below_iff (w : Way) (g h r n : Int) (hh : 2 ≤ h) (h0 : 0 < r) (h1 : r < 2 * h) (hn : n = (g - 1) * (2 * h) + r) :
    roundQ w n (g - 1) r (2 * h) = g ↔ 2 * h - r ≤ reachB w g (2 * h) := by
  have hp := pos_iff hn h0 h1
  have e1 : (n > 0) ↔ ¬ (g ≤ 0) := by rw [hp]; omega
  have hr0 : ¬ r = 0 := by omega
  cases w <;> by_cases c1 : g ≤ 0 <;> by_cases c2 : g % 2 = 0 <;> simp [roundQ, reachB, liftB, e1, hr0, c1, c2] <;> (repeat' split) <;> omega

/-- above: the number g * d + r with r > 0 is rounded to g just if r is within reach -/
theorem above_iff (w : Way) (g h r n : Int) (hh : 2 ≤ h) (h0 : 0 < r) (h1 : r < 2 * h) (hn : n = g * (2 * h) + r) :
    roundQ w n g r (2 * h) = g ↔ r ≤ reachA w g (2 * h) := by
  have hp := pos_iff hn h0 h1
  have e1 : (n > 0) ↔ ¬ (g < 0) := by rw [hp]; omega
  have hr0 : ¬ r = 0 := by omega
  cases w <;> by_cases c1 : g < 0 <;> by_cases c2 : g % 2 = 1 <;> simp [roundQ, reachA, liftB, e1, hr0, c1, c2] <;> (repeat' split) <;> omega

/-- THE LAW's four questions, and that the goal lies between -/
theorem ends_right (w : Way) (g h : Int) (hh : 2 ≤ h) :
    g * (2 * h) - reachB w g (2 * h) ≤ g * (2 * h) ∧ g * (2 * h) ≤ g * (2 * h) + reachA w g (2 * h) ∧
    rounds w (g * (2 * h) - reachB w g (2 * h) - 1) (2 * h) ≠ g ∧ rounds w (g * (2 * h) - reachB w g (2 * h)) (2 * h) = g ∧
    rounds w (g * (2 * h) + reachA w g (2 * h)) (2 * h) = g ∧ rounds w (g * (2 * h) + reachA w g (2 * h) + 1) (2 * h) ≠ g := by
  obtain ⟨b0, b1⟩ := reachB_bounds w g h hh
  obtain ⟨a0, a1⟩ := reachA_bounds w g h hh
  have em : (g - 1) * (2 * h) = g * (2 * h) - 2 * h := by rw [Int.sub_mul]; omega
  have ep : (g + 1) * (2 * h) = g * (2 * h) + 2 * h := by rw [Int.add_mul]; omega
  refine ⟨by omega, by omega, ?_, ?_, ?_, ?_⟩
  · have hn : g * (2 * h) - reachB w g (2 * h) - 1 = (g - 1) * (2 * h) + (2 * h - reachB w g (2 * h) - 1) := by omega
    rw [rounds_at hn (by omega) (by omega)]
    by_cases z : 2 * h - reachB w g (2 * h) - 1 = 0
    · unfold roundQ
      rw [if_pos z]
      omega
    · intro q
      have := (below_iff w g h _ _ hh (by omega) (by omega) hn).1 q
      omega
  · by_cases z : reachB w g (2 * h) = 0
    · have hn : g * (2 * h) - reachB w g (2 * h) = g * (2 * h) + 0 := by omega
      rw [rounds_at hn (by omega) (by omega)]
      unfold roundQ
      rw [if_pos rfl]
    · have hn : g * (2 * h) - reachB w g (2 * h) = (g - 1) * (2 * h) + (2 * h - reachB w g (2 * h)) := by omega
      rw [rounds_at hn (by omega) (by omega)]
      exact (below_iff w g h _ _ hh (by omega) (by omega) hn).2 (by omega)
  · by_cases z : reachA w g (2 * h) = 0
    · have hn : g * (2 * h) + reachA w g (2 * h) = g * (2 * h) + 0 := by omega
      rw [rounds_at hn (by omega) (by omega)]
      unfold roundQ
      rw [if_pos rfl]
    · have hn : g * (2 * h) + reachA w g (2 * h) = g * (2 * h) + reachA w g (2 * h) := rfl
      rw [rounds_at hn (by omega) (by omega)]
      exact (above_iff w g h _ _ hh (by omega) (by omega) hn).2 (by omega)
  · by_cases z : reachA w g (2 * h) + 1 = 2 * h
    · have hn : g * (2 * h) + reachA w g (2 * h) + 1 = (g + 1) * (2 * h) + 0 := by omega
      rw [rounds_at hn (by omega) (by omega)]
      unfold roundQ
      rw [if_pos rfl]
      omega
    · have hn : g * (2 * h) + reachA w g (2 * h) + 1 = g * (2 * h) + (reachA w g (2 * h) + 1) := by omega
      rw [rounds_at hn (by omega) (by omega)]
      intro q
      have := (above_iff w g h _ _ hh (by omega) (by omega) hn).1 q
      omega
end FS
set_option Elab.async false
set_option linter.all false
set_option maxRecDepth 100000
/-! The program by places; how a def stands; short words of our own. -/
namespace FS
open PySem L2
def top (i : Nat) : Stmt := PySem.Challenge.pw_figurestay_k08_whole_shown_as.main.body.getD i (.Pass ⟨0, 0, 0, 0⟩)
abbrev sTen : Stmt := top 5
abbrev sIsInt : Stmt := top 6
abbrev sIsWhole : Stmt := top 7
abbrev sNeedInt : Stmt := top 8
abbrev sNeedWhole : Stmt := top 9
abbrev sLowered : Stmt := top 11
abbrev sWInit : Stmt := inClass (top 12) 0
abbrev sUnitsAt : Stmt := inClass (top 12) 12
abbrev sNeedWorth : Stmt := top 13
abbrev sNeedWay : Stmt := top 19
abbrev sLift : Stmt := top 20
abbrev sBelow : Stmt := top 21
abbrev sAbove : Stmt := top 22
abbrev sShown : Stmt := top 23
abbrev sBegin : Stmt := top 25
abbrev sDraw : Stmt := top 26
abbrev sPick : Stmt := top 27
abbrev sLTen : Stmt := top 28
abbrev sFigures : Stmt := top 29
abbrev sDrawn : Stmt := top 30
abbrev sLow : Stmt := top 31
abbrev sTold : Stmt := top 32
abbrev sWrong : Stmt := top 33
abbrev sSame : Stmt := top 34
abbrev sRefused : Stmt := top 35
abbrev sWays : Stmt := top 36
abbrev sRounds : Stmt := top 37
abbrev sEnds : Stmt := top 38
abbrev sRight : Stmt := top 39
abbrev sRefusals : Stmt := top 40
abbrev sLaw : Stmt := top 41
/-- a def as it stands behind the top -/
structure At (K : PySem.W.Frag) (mg : Str → Option Value) (x : Str) (st : Stmt) (ps : List Str) (f : Addr) (fd : FuncData) : Prop where
  g : mg x = some (.ref f)
  F : Fun K x x st f fd
  b : Binds K fd ps []
/-- a def that keeps a promise, by its name -/
structure Keeps (P : Program) (w : World) (K : PySem.W.Frag) (mg : Str → Option Value) (base : Heap) (CX : CXT) (k : Nat) (x : Str) (sp : Sp) : Prop where
  ex : ∃ (f : Addr) (fd : FuncData) (ps : List Str), FnOk P w K mg base CX k f fd ps sp ∧ mg x = some (.ref f) ∧ PySem.W.keepIn K (.ref f) = true ∧ Binds K fd ps []
section
variable {P : Program} {w : World} {K : PySem.W.Frag} {mg : Str → Option Value} {base : Heap} {CX : CXT} {k : Nat} {x : Str} {sp : Sp}
theorem At.keeps {st : Stmt} {ps : List Str} {f : Addr} {fd : FuncData} (D : At K mg x st ps f fd) (h : FnOk P w K mg base CX k f fd ps sp) : Keeps P w K mg base CX k x sp :=
  ⟨f, fd, ps, h, D.g, D.F.kp, D.b⟩
end
section
variable {X : Cx} {CX : CXT} {k j : Nat} {x : Str} {sp : Sp} {e : Expr} {es : List Expr} {t : TA} {p pos : Pos}
/-- x(e, ..), what it raises wished for by E -/
theorem pe_k {E : XK} (c : Keeps X.prog X.w X.K X.mg X.base CX k x sp) (hr : Room j X.A) (hx : Passes CX X E) (ha : PA X (e :: es) t) (hk : k ≤ j := by decide) (hg : Gl X x := by rfl) (hdb : (x == ("__debug__" : Str)) = false := by decide)
    (he : starEach (e :: es) X.env = (false, eval e X.env) :: starEach es X.env := by rfl) (hpl : (backTo pos (starEach es X.env)).any (·.1) = false := by rfl) :
    PE X (.Call (.Name x p) (e :: es) [] pos) (tCall sp [] E t) := by
  obtain ⟨f, fd, ps, h, hm, kp, hb⟩ := c.ex
  exact pe_call h (hr.mono hk) hg hm kp hb .nil hx ha hdb he hpl
/-- .. in a def that lets W out -/
theorem pe_ks {W : WX} (c : Keeps X.prog X.w X.K X.mg X.base (L2.CX X.prog X.w) k x sp) (hr : Room j X.A) (tk : Takes X W) (ha : PA X (e :: es) t) (hk : k ≤ j := by decide) (hg : Gl X x := by rfl) (hdb : (x == ("__debug__" : Str)) = false := by decide)
    (he : starEach (e :: es) X.env = (false, eval e X.env) :: starEach es X.env := by rfl) (hpl : (backTo pos (starEach es X.env)).any (·.1) = false := by rfl) :
    PE X (.Call (.Name x p) (e :: es) [] pos) (tCallS sp (WE W) t) := by
  obtain ⟨f, fd, ps, h, hm, kp, hb⟩ := c.ex
  exact pe_callS h (hr.mono hk) hg hm kp hb (fun σ => passAt tk σ) ha hdb he hpl
end
end FS
set_option Elab.async false
set_option linter.all false
set_option maxRecDepth 100000
/-! powers.py: ten_to. -/
namespace FS
open PySem L2
theorem ten_bits (n : Nat) : (10 : Nat) ^ n < 2 ^ (4 * n + 1) := by
  have h1 : (10 : Nat) ^ n ≤ 16 ^ n := Nat.pow_le_pow_left (by decide) n
  have h2 : (16 : Nat) ^ n = 2 ^ (4 * n) := by rw [Nat.pow_mul]
  have h3 : (2 : Nat) ^ (4 * n) < 2 ^ (4 * n + 1) := Nat.pow_lt_pow_right (by decide) (by omega)
  omega
/-- one turn of ten_to's loop -/
theorem ten_turn {n m b z : Nat} (h : m * b ^ n = z) : (if n % 2 = 1 then m * b else m) * (b * b) ^ (n / 2) = z := by
  have e : b ^ n = (b * b) ^ (n / 2) * b ^ (n % 2) := by
    rw [← Nat.pow_two, ← Nat.pow_mul, ← Nat.pow_add]
    congr 1
    omega
  rw [e] at h
  rcases Nat.mod_two_eq_zero_or_one n with q | q
  · rw [if_neg (by omega)]
    rw [q, Nat.pow_zero, Nat.mul_one] at h
    exact h
  · rw [if_pos q]
    rw [q, Nat.pow_one] at h
    rw [← h, Nat.mul_assoc, Nat.mul_comm b]
def spTen : Sp := fun vs H Q _ => ∃ n : Nat, vs = [.int n] ∧ n ≤ 1000 ∧ ∀ H', Same H H' → Q (.int ((10 ^ n : Nat) : Int)) H'
/-- what holds between two turns -/
def TenInv (N : Nat) (H0 : Hp) (μ : Nat) (σ : St) (H : Hp) : Prop := ∃ m b : Nat, σ = [some (.int (μ : Int)), some (.int (m : Int)), some (.int (b : Int))] ∧ H = H0 ∧ 1 ≤ m ∧ 1 ≤ b ∧ m ≤ 10 ^ N ∧ b ≤ 10 ^ (2 * N + 1) ∧ m * b ^ μ = 10 ^ N ∧ (0 < μ → b ≤ 10 ^ N ∨ N = 0)
section
variable {P : Program} {w : World} {K : PySem.W.Frag} {mg : Str → Option Value} {base : Heap}
theorem scTen : FnScope ["number", "made", "base"] ["number"] (defScope sTen) := ⟨rfl, rfl, rfl, by decide +kernel, rfl, by decide +kernel, by decide +kernel⟩
theorem ok_ten {f : Addr} {fd : FuncData} (F : Fun K "ten_to" "ten_to" sTen f fd) : FnOk P w K mg base CX0 1 f fd ["number"] spTen := by
  refine F.ok scTen (fun vs H Q E h => ?_) (fun cdv A outer s H vs Q E hr h => ?_)
  · obtain ⟨n, rfl, _⟩ := h
    rfl
  · obtain ⟨N, rfl, hN, k⟩ := h
    refine ⟨_, pss_cons (ps_asg (pe_tup (pa_cons pe_int (pa_cons pe_int pa_nil))) (pg_tup (by rfl) (pgs_cons (pg_name (i := 1) scTen.nd rfl (.inl rfl)) (pgs_cons (pg_name (i := 2) scTen.nd rfl (.inl rfl)) pgs_nil))))
      (pss_cons (ps_while PassesOwn.never (pt_cmpR op_gt (pv 0) pe_int (nomark _))
        (pss_cons (ps_if (pt_cmpR op_eq (pe_op op_mod (pv 0) pe_int) pe_int (nomark _)) (pss_one (ps_set (i := 1) scTen.nd rfl (Or.inl rfl) (pe_op op_mulW (pv 1) (pv 2)))) pss_nil)
        (pss_cons (ps_set (i := 2) scTen.nd rfl (Or.inl rfl) (pe_op op_mulW (pv 2) (pv 2)))
        (pss_one (ps_set (i := 0) scTen.nd rfl (Or.inl rfl) (pe_op op_fdiv (pv 0) pe_int))))))
      (pss_one (ps_ret (pv 1)))), ?_⟩
    refine ⟨(by show 2 ≤ sizeLine; decide), fun p hp => ⟨p, _, rfl, SqT.of upd_same, rfl, _, _, rfl, _, _, rfl, rfl, ?_⟩⟩
    have k' := k (upd H p (.tup [.int 1, .int 10])) (fun b o e => by rw [upd_ne (ne_of_none e hp)]; exact e)
    clear k
    generalize upd H p (.tup [.int 1, .int 10]) = G at k' ⊢
    refine ⟨TenInv N G, ⟨N, 1, 10, rfl, rfl, by omega, by omega, Nat.one_le_pow _ _ (by decide), ?_, by omega, fun _ => ?_⟩, ?_⟩
    · exact Nat.le_trans (by decide : 10 ≤ 10 ^ 1) (Nat.pow_le_pow_right (by decide) (by omega))
    · by_cases z : N = 0
      · exact .inr z
      · exact .inl (Nat.le_trans (by decide : 10 ≤ 10 ^ 1) (Nat.pow_le_pow_right (by decide) (by omega)))
    · rintro n σ H1 ⟨m, b, rfl, eH, m0, b0, mN, bN, e, hb⟩
      refine ⟨_, rfl, _, _, rfl, rfl, _, rfl, ?_⟩
      refine ite2 (fun c => ?_) (fun c => ?_)
      · have c' : 0 < n := by
          have := of_decide_eq_true c
          omega
        have t := ten_turn e
        have bits := ten_bits (2 * N + 1)
        have lm : ∀ x : Nat, x ≤ 10 ^ (2 * N + 1) → ((x : Int)).natAbs < 2 ^ (4 * (2 * N + 1) + 1) := fun x hx => by
          rw [Int.natAbs_natCast]
          omega
        have mle : m ≤ 10 ^ (2 * N + 1) := Nat.le_trans mN (Nat.pow_le_pow_right (by decide) (by omega))
        have hz : N ≠ 0 ∨ N = 0 := by omega
        have bb : b * b ≤ 10 ^ (2 * N + 1) := by
          rcases hb c' with z | z
          · have : b * b ≤ 10 ^ N * 10 ^ N := Nat.mul_le_mul z z
            rw [← Nat.pow_add] at this
            exact Nat.le_trans this (Nat.pow_le_pow_right (by decide) (by omega))
          · subst z
            have : b ^ n ≤ 1 := by
              have := Nat.le_mul_of_pos_left (b ^ n) (show 0 < m by omega)
              omega
            have b1 : b ≤ 1 := Nat.le_trans (Nat.le_self_pow (by omega) b) this
            have : b * b ≤ 1 * 1 := Nat.mul_le_mul b1 b1
            omega
        have nx : ∀ m' : Nat, 1 ≤ m' → m' ≤ 10 ^ N → m' * (b * b) ^ (n / 2) = 10 ^ N → (0 < n / 2 → b * b ≤ 10 ^ N ∨ N = 0) → TenInv N G (n / 2) [some (.int ((n / 2 : Nat) : Int)), some (.int (m' : Int)), some (.int ((b * b : Nat) : Int))] H1 := fun m' h1 h2 h3 h4 =>
          ⟨m', b * b, rfl, eH, h1, Nat.mul_pos (by omega) (by omega), h2, bb, h3, h4⟩
        have lt2 : n / 2 < n := by omega
        have half : ∀ m' : Nat, m' * (b * b) ^ (n / 2) = 10 ^ N → 1 ≤ m' → m' ≤ 10 ^ N ∧ (0 < n / 2 → b * b ≤ 10 ^ N ∨ N = 0) := fun m' h1 h2 => by
          have p : 1 ≤ (b * b) ^ (n / 2) := Nat.one_le_pow _ _ (Nat.mul_pos (by omega) (by omega))
          refine ⟨?_, fun q => .inl ?_⟩
          · have := Nat.le_mul_of_pos_right m' (show 0 < (b * b) ^ (n / 2) by omega)
            omega
          · have x1 : b * b ≤ (b * b) ^ (n / 2) := Nat.le_self_pow (by omega) _
            have x2 := Nat.le_mul_of_pos_left ((b * b) ^ (n / 2)) (show 0 < m' by omega)
            omega
        refine ⟨fun σ' H' => TenInv N G (n / 2) σ' H', fun σ' H' q => ⟨n / 2, lt2, q⟩, ?_⟩
        refine ⟨_, rfl, _, _, rfl, rfl, (by show (0 : Int) < 2; decide), rfl, _, rfl, ?_⟩
        refine ite2 (fun d => ?_) (fun d => ?_)
        · have d' : n % 2 = 1 := by
            have := of_decide_eq_true d
            injection this with this
            omega
          rw [if_pos d'] at t
          have h1 : 1 ≤ m * b := Nat.mul_pos (by omega) (by omega)
          obtain ⟨h2, h3⟩ := half (m * b) t h1
          refine ⟨_, rfl, _, rfl, _, _, rfl, rfl, wide_mul (lm m mle) (lm b bN) (by omega) (by omega) (by omega), ?_⟩
          refine ⟨_, rfl, _, rfl, _, _, rfl, rfl, wide_mul (lm b bN) (lm b bN) (by omega) (by omega) (by omega), ?_⟩
          refine ⟨_, rfl, _, _, rfl, rfl, ⟨by decide, by decide⟩, ?_⟩
          have := nx (m * b) h1 h2 t h3
          simp at this
          exact this
        · have d' : ¬ n % 2 = 1 := fun z => d (decide_eq_true (by show V.int ((n : Int) % 2) = V.int 1; rw [show ((n : Int) % 2) = 1 by omega]))
          rw [if_neg d'] at t
          obtain ⟨h2, h3⟩ := half m t m0
          refine ⟨_, rfl, _, rfl, _, _, rfl, rfl, wide_mul (lm b bN) (lm b bN) (by omega) (by omega) (by omega), ?_⟩
          refine ⟨_, rfl, _, _, rfl, rfl, ⟨by decide, by decide⟩, ?_⟩
          have := nx m m0 h2 t h3
          simp at this
          exact this
      · have c' : n = 0 := by
          have := of_decide_eq_false (Bool.eq_false_iff.mpr c)
          omega
        subst c'
        refine ⟨_, rfl, ?_⟩
        rw [Nat.pow_zero, Nat.mul_one] at e
        rw [e]
        rw [eH]
        exact k'
end
end FS
set_option Elab.async false
set_option linter.all false
set_option maxRecDepth 100000
/-! powers.py: is_integer .. need_whole; BadValue's making. -/
namespace FS
open PySem L2
def tyN : List String := ["NoneType", "bool", "int", "str", "tuple", "list", "dict"]
theorem kit_int {T : String} (h : T ∈ tyN) : kitB T "int" = some (T == "int" || T == "bool") := by
  simp only [tyN, List.mem_cons, List.mem_nil_iff, or_false] at h
  rcases h with rfl | rfl | rfl | rfl | rfl | rfl | rfl <;> decide +kernel
theorem kit_bool {T : String} (h : T ∈ tyN) : kitB T "bool" = some (T == "bool") := by
  simp only [tyN, List.mem_cons, List.mem_nil_iff, or_false] at h
  rcases h with rfl | rfl | rfl | rfl | rfl | rfl | rfl <;> decide +kernel
/-- the built-in names that the text leaves as they are -/
structure Names (mg : Str → Option Value) : Prop where
  isinstance : mg "isinstance" = none
  int : mg "int" = none
  bool : mg "bool" = none
  tuple : mg "tuple" = none
  list : mg "list" = none
  str : mg "str" = none
  min : mg "min" = none
  max : mg "max" = none
  len : mg "len" = none
  range : mg "range" = none
  all : mg "all" = none
def spIsInt (K : PySem.W.Frag) : Sp := fun vs H Q _ => ∃ (v : V) (T : String), vs = [v] ∧ TyX K H v (.type T) ∧ T ∈ tyN ∧ Q (.bl (T == "int")) H
/-- what is promised of an int v, and of v of another kind -/
def spIsWhole (K : PySem.W.Frag) : Sp := fun vs H Q _ => ∃ v : V, vs = [v] ∧ ((∃ i : Int, v = .int i ∧ Q (.bl (decide (0 ≤ i))) H) ∨ (∃ T : String, TyX K H v (.type T) ∧ T ∈ tyN ∧ T ≠ "int" ∧ Q (.bl false) H))
section
variable {P : Program} {w : World} {K : PySem.W.Frag} {mg : Str → Option Value} {base : Heap}
theorem scIsInt : FnScope ["value"] ["value"] (defScope sIsInt) := ⟨rfl, rfl, rfl, by decide +kernel, rfl, by decide +kernel, by decide +kernel⟩
theorem ok_isInt {f : Addr} {fd : FuncData} (F : Fun K "is_integer" "is_integer" sIsInt f fd) (N : Names mg) : FnOk P w K mg base CX0 1 f fd ["value"] (spIsInt K) := by
  refine F.ok scIsInt (fun vs H Q E h => ?_) (fun cdv A outer s H vs Q E hr h => ?_)
  · obtain ⟨v, T, rfl, _⟩ := h
    rfl
  · obtain ⟨v, T, rfl, ty, hT, k⟩ := h
    refine ⟨_, pss_one (ps_ret (pe_and (pe_callB call_isi (by rfl) N.isinstance (by decide +kernel) (pa_cons (pv 0) (pa_cons (pe_bltn (v := .ty "int") (by rfl) N.int (by decide +kernel) rfl) pa_nil)))
      (pe_one (pe_not (pe_callB call_isi (by rfl) N.isinstance (by decide +kernel) (pa_cons (pv 0) (pa_cons (pe_bltn (v := .ty "bool") (by rfl) N.bool (by decide +kernel) rfl) pa_nil))))))), ?_⟩
    refine ⟨_, rfl, _, _, _, _, _, rfl, .ty _, ty, kit_ty (kit_int hT), _, rfl, ?_⟩
    refine ite2 (fun c => ?_) (fun c => ?_)
    · refine ⟨_, rfl, _, _, _, _, _, rfl, .ty _, ty, kit_ty (kit_bool hT), _, rfl, ?_⟩
      have e : (T == "int") = !(T == "bool") := by
        by_cases z : T = "bool"
        · subst z
          decide
        · have z2 : (T == "bool") = false := by simpa using z
          rw [z2, Bool.or_false] at c
          rw [c, z2]
          rfl
      rw [e] at k
      exact k
    · have c' : (T == "int" || T == "bool") = false := Bool.eq_false_iff.mpr c
      rw [Bool.or_eq_false_iff] at c'
      rw [c'.1] at k
      exact k
theorem scIsWhole : FnScope ["value"] ["value"] (defScope sIsWhole) := ⟨rfl, rfl, rfl, by decide +kernel, rfl, by decide +kernel, by decide +kernel⟩
theorem ok_isWhole {f : Addr} {fd : FuncData} (F : Fun K "is_whole" "is_whole" sIsWhole f fd) (cI : Keeps P w K mg base CX0 1 "is_integer" (spIsInt K)) : FnOk P w K mg base CX0 2 f fd ["value"] (spIsWhole K) := by
  refine F.ok scIsWhole (fun vs H Q E h => ?_) (fun cdv A outer s H vs Q E hr h => ?_)
  · obtain ⟨v, rfl, _⟩ := h
    rfl
  · obtain ⟨v, rfl, k⟩ := h
    refine ⟨_, pss_one (ps_ret (pe_and (pe_k cI hr pass0 (pa_cons (pv 0) pa_nil)) (pe_one (pe_cmpR op_ge (pv 0) pe_int (nomark _))))), ?_⟩
    rcases k with ⟨i, rfl, k⟩ | ⟨T, ty, hT, nT, k⟩
    · refine ⟨_, rfl, _, "int", rfl, .base (.int i), by decide, _, rfl, ?_⟩
      refine iteT ?_
      exact ⟨_, rfl, _, _, rfl, rfl, k⟩
    · refine ⟨_, rfl, _, T, rfl, ty, hT, _, rfl, ?_⟩
      rw [show (T == "int") = false by simpa using nT]
      exact iteF k
end
/-! ### BadValue -/
/-- what is wanted where v is refused -/
def Refuse (C : Addr) (E : XK) (v : V) (H : Hp) : Prop := ∀ d, H d = none → E (.ref C) (some d) (upd H d (.xd [("value", v)]))
/-- BadValue.__init__, called with a new exception -/
def spBV (C : Addr) : Sp := fun vs H Q _ => ∃ (a : Addr) (v : V), vs = [.ref a, v] ∧ H a = some (exo a C none) ∧ ∀ dx, H dx = none → dx ≠ a → Q .non (upd (upd H dx (exd dx [("value", v)])) a (exo a C (some dx)))
structure BadV (P : Program) (w : World) (K : PySem.W.Frag) (mg : Str → Option Value) (base : Heap) (C : Addr) : Prop where
  mgC : mg "BadValue" = some (.ref C)
  oex : OexC K C
  ex : ∃ (fI : Addr) (fd : FuncData), PySem.W.findIn K (.ref C) "__init__" = some (some (.ref fI)) ∧ PySem.W.typeIn K (.ref fI) = some (.type "function") ∧
    FnOk P w K mg base CX0 2 fI fd ["self", "value"] (spBV C) ∧ Binds K fd ["self", "value"] []
section
variable {X : Cx} {C : Addr} {k : Nat} {W : WX} {e : Expr} {i : Nat} {p pos pos2 : Pos}
/-- raise BadValue(e) -/
theorem ps_bad (hc : X.calm = true) (B : BadV X.prog X.w X.K X.mg X.base C) (hr : Room k X.A) (tk : Takes X W) (he : PE X e (tVar i)) (hk : 3 ≤ k := by decide) (hg : Gl X "BadValue" := by rfl)
    (hs : starEach (e :: []) X.env = (false, eval e X.env) :: starEach [] X.env := by rfl) (hpl : (backTo pos (starEach [] X.env)).any (·.1) = false := by rfl) :
    PS X (.Raise (some (.Call (.Name "BadValue" p) [e] [] pos)) none pos2) (fun _ σ H => ∃ v, σ[i]? = some (some v) ∧ ∀ d, H d = none → W (.ref C) (some d) σ (upd H d (.xd [("value", v)]))) := by
  obtain ⟨fI, fd, h1, h2, h3, h4⟩ := B.ex
  have r := ps_raise (pos := pos2) hc tk (pmk_oex (CX := CX0) (dvs := []) (p := p) (pos := pos) B.oex h1 h2 h3 (hr.mono hk) h4 .nil (fun _ _ _ _ _ _ _ h => h.elim) hg B.mgC (pa_cons he pa_nil hs) (by decide) hs hpl)
  refine ⟨fun pins s σ H D I h => r.run pins s σ H D I ?_⟩
  obtain ⟨v, hv, q⟩ := h
  refine ⟨v, hv, ?_⟩
  · generalize H = H1 at q
    refine ⟨by show 1 ≤ 1000; decide, fun a ha => ⟨a, v, rfl, upd_same, fun dx hd na => ⟨rfl, dx, _, upd_same, by rw [upd_ne na, upd_same], ?_, ?_⟩⟩⟩
    · rw [upd_ne na] at hd
      exact hd
    · rw [upd_ne na] at hd
      have := q dx hd
      have eq : upd (del (upd (upd (upd H1 a (exo a C none)) dx (exd dx [("value", v)])) a (exo a C (some dx))) a) dx (.xd [("value", v)]) = upd H1 dx (.xd [("value", v)]) := by
        funext b
        by_cases hb : b = dx
        · subst hb
          rw [upd_same, upd_same]
        · rw [upd_ne hb, upd_ne hb]
          by_cases hba : b = a
          · subst hba
            rw [del_same, ha]
          · rw [del_ne hba, upd_ne hba, upd_ne hb, upd_ne hba]
      rw [eq]
      exact this
end
end FS
set_option Elab.async false
set_option linter.all false
set_option maxRecDepth 100000
/-! need_integer, need_whole, need_worth; lowered. -/
namespace FS
open PySem L2
def spNeedInt (K : PySem.W.Frag) (C : Addr) : Sp := fun vs H Q E => ∃ (v : V) (T : String), vs = [v] ∧ TyX K H v (.type T) ∧ T ∈ tyN ∧ (T = "int" → Q .non H) ∧ (T ≠ "int" → Refuse C E v H)
/-- v is no whole number -/
def NoWhole (K : PySem.W.Frag) (H : Hp) (v : V) : Prop := (∃ i : Int, v = .int i ∧ i < 0) ∨ (∃ T : String, TyX K H v (.type T) ∧ T ∈ tyN ∧ T ≠ "int")
def spNeedWhole (K : PySem.W.Frag) (C : Addr) : Sp := fun vs H Q E => ∃ v : V, vs = [v] ∧ ((∃ i : Int, v = .int i ∧ 0 ≤ i ∧ Q .non H) ∨ (NoWhole K H v ∧ Refuse C E v H))
/-- what the walk asks of the class Worth -/
structure WC (K : PySem.W.Frag) (mg : Str → Option Value) (D : Addr) : Prop where
  g : mg "Worth" = some (.ref D)
  cl : Cls K D
  nU : NoAttr K D "units"
  nS : NoAttr K D "scale"
  nI : NoAttr K D "units_at" ∨ True
  ha : PySem.W.findIn K (.ref D) "__class__" = some (some (.builtin "object.__class__"))
  hn : PySem.W.specialIn K (.builtin "object.__class__") "__get__" = some (some (.builtin "getset_descriptor.__get__"))
  htk : PySem.W.takesIn K (.builtin "object.__class__") = some true
  hm : PySem.W.mroIn K D (.type "object") = some true
  no : ∀ T ∈ tyN, PySem.W.kitOne K (.type T) (.ref D) = some false
/-- the fields of a Worth -/
def wFlds (u s : Int) : List (Str × V) := putF "scale" (.int s) (putF "units" (.int u) [])
def WorthAt (D : Addr) (H : Hp) (p : Addr) (u s : Int) : Prop := ∃ dx, H p = some (.ins D dx (wFlds u s))
theorem kus : ¬ (("units" : Str) = "scale") := by decide +kernel
theorem wF_units (u s : Int) : (wFlds u s).lookup ("units" : Str) = some (.int u) := by
  unfold wFlds
  rw [lookup_putF, if_neg kus, lookup_putF, if_pos rfl]
theorem wF_scale (u s : Int) : (wFlds u s).lookup ("scale" : Str) = some (.int s) := by
  unfold wFlds
  rw [lookup_putF, if_pos rfl]
theorem wF_no (u s : Int) {m : Str} (h1 : ¬ m = "scale") (h2 : ¬ m = "units") : (wFlds u s).lookup m = none := by
  unfold wFlds
  rw [lookup_putF, if_neg h1, lookup_putF, if_neg h2]
  all_goals rfl
def spNeedWorth (K : PySem.W.Frag) (C D : Addr) : Sp := fun vs H Q E => ∃ v : V, vs = [v] ∧ ((∃ (p : Addr) (u s : Int), v = .ref p ∧ WorthAt D H p u s ∧ Q .non H) ∨ (∃ T : String, TyX K H v (.type T) ∧ T ∈ tyN ∧ Refuse C E v H))
section
variable {P : Program} {w : World} {K : PySem.W.Frag} {mg : Str → Option Value} {base : Heap} {C D : Addr}
theorem scNeedInt : FnScope ["value"] ["value"] (defScope sNeedInt) := ⟨rfl, rfl, rfl, by decide +kernel, rfl, by decide +kernel, by decide +kernel⟩
theorem ok_needInt {f : Addr} {fd : FuncData} (F : Fun K "need_integer" "need_integer" sNeedInt f fd) (cI : Keeps P w K mg base CX0 1 "is_integer" (spIsInt K)) (B : BadV P w K mg base C) : FnOk P w K mg base (L2.CX P w) 4 f fd ["value"] (spNeedInt K C) := by
  refine F.okX scNeedInt (fun vs H Q E h => ?_) (fun cdv A outer s H vs Q E hr h => ?_)
  · obtain ⟨v, T, rfl, _⟩ := h
    rfl
  · obtain ⟨v, T, rfl, ty, hT, k1, k2⟩ := h
    refine ⟨_, pss_one (ps_if (pt_not (pt_val (pe_k cI hr pass0 (pa_cons (pv 0) pa_nil)) (by intro _; rfl))) (pss_one (ps_bad (W := fun cls d _ H => E cls d H) (by rfl) B hr (takes_of rfl rfl rfl rfl) (pv 0))) pss_nil), ?_⟩
    refine ⟨_, rfl, v, T, rfl, ty, hT, _, rfl, ?_⟩
    by_cases z : T = "int"
    · rw [show (T == "int") = true by simpa using z]
      exact iteF (k1 z)
    · rw [show (T == "int") = false by simpa using z]
      exact iteT ⟨v, rfl, k2 z⟩
theorem scNeedWhole : FnScope ["value"] ["value"] (defScope sNeedWhole) := ⟨rfl, rfl, rfl, by decide +kernel, rfl, by decide +kernel, by decide +kernel⟩
theorem ok_needWhole {f : Addr} {fd : FuncData} (F : Fun K "need_whole" "need_whole" sNeedWhole f fd) (cI : Keeps P w K mg base CX0 2 "is_whole" (spIsWhole K)) (B : BadV P w K mg base C) : FnOk P w K mg base (L2.CX P w) 4 f fd ["value"] (spNeedWhole K C) := by
  refine F.okX scNeedWhole (fun vs H Q E h => ?_) (fun cdv A outer s H vs Q E hr h => ?_)
  · obtain ⟨v, rfl, _⟩ := h
    rfl
  · obtain ⟨v, rfl, k⟩ := h
    refine ⟨_, pss_one (ps_if (pt_not (pt_val (pe_k cI hr pass0 (pa_cons (pv 0) pa_nil)) (by intro _; rfl))) (pss_one (ps_bad (W := fun cls d _ H => E cls d H) (by rfl) B hr (takes_of rfl rfl rfl rfl) (pv 0))) pss_nil), ?_⟩
    rcases k with ⟨i, rfl, hi, k⟩ | ⟨⟨i, rfl, hi⟩ | ⟨T, ty, hT, nT⟩, k⟩
    · refine ⟨_, rfl, _, rfl, .inl ⟨i, rfl, _, rfl, ?_⟩⟩
      rw [decide_eq_true hi]
      exact iteF k
    · refine ⟨_, rfl, _, rfl, .inl ⟨i, rfl, _, rfl, ?_⟩⟩
      rw [decide_eq_false (by omega)]
      exact iteT ⟨_, rfl, k⟩
    · exact ⟨_, rfl, _, rfl, .inr ⟨T, ty, hT, nT, _, rfl, iteT ⟨_, rfl, k⟩⟩⟩
theorem scNeedWorth : FnScope ["value"] ["value"] (defScope sNeedWorth) := ⟨rfl, rfl, rfl, by decide +kernel, rfl, by decide +kernel, by decide +kernel⟩
theorem WC.ty (c : WC K mg D) {H : Hp} {p : Addr} {u s : Int} (h : WorthAt D H p u s) : TyX K H (.ref p) (.ref D) := by
  obtain ⟨dx, e⟩ := h
  exact .base (.ins e c.cl c.ha c.hn c.htk c.hm)
theorem ok_needWorth {f : Addr} {fd : FuncData} (F : Fun K "need_worth" "need_worth" sNeedWorth f fd) (N : Names mg) (cW : WC K mg D) (B : BadV P w K mg base C) : FnOk P w K mg base (L2.CX P w) 4 f fd ["value"] (spNeedWorth K C D) := by
  refine F.okX scNeedWorth (fun vs H Q E h => ?_) (fun cdv A outer s H vs Q E hr h => ?_)
  · obtain ⟨v, rfl, _⟩ := h
    rfl
  · obtain ⟨v, rfl, k⟩ := h
    refine ⟨_, pss_one (ps_if (pt_not (pt_val (pe_callB call_isi (by rfl) N.isinstance (by decide +kernel) (pa_cons (pv 0) (pa_cons (pe_glob (v := .ref D) (by rfl) cW.g rfl) pa_nil))) (by intro _; rfl))) (pss_one (ps_bad (W := fun cls d _ H => E cls d H) (by rfl) B hr (takes_of rfl rfl rfl rfl) (pv 0))) pss_nil), ?_⟩
    rcases k with ⟨p, u, s, rfl, hw, k⟩ | ⟨T, ty, hT, k⟩
    · exact ⟨_, rfl, _, _, _, _, _, rfl, .own _, cW.ty hw, if_pos (beq_self_eq_true _), _, rfl, iteF k⟩
    · exact ⟨_, rfl, _, _, _, _, _, rfl, .own _, ty, cW.no T hT, _, rfl, iteT ⟨_, rfl, k⟩⟩
end
/-! ### lowered -/
/-- (u', s') is (u, s) at its own scale -/
structure Low (u : Int) (s : Nat) (u' : Int) (s' : Nat) : Prop where
  le : s' ≤ s
  eq : u = u' * 10 ^ (s - s')
  own : s' = 0 ∨ u' % 10 ≠ 0
  zero : u = 0 → u' = 0 ∧ s' = 0
theorem ten_pos (n : Nat) : (0 : Int) < 10 ^ n := Int.pow_pos (by decide)
theorem ten_dvd (n : Nat) : (10 : Int) ∣ 10 ^ (n + 1) := ⟨10 ^ n, by rw [Int.pow_succ, Int.mul_comm]⟩
/-- the own scale is one -/
theorem Low.one {u : Int} {s : Nat} {u1 u2 : Int} {s1 s2 : Nat} (a : Low u s u1 s1) (b : Low u s u2 s2) : u1 = u2 ∧ s1 = s2 := by
  have key : ∀ {u1 u2 : Int} {s1 s2 : Nat}, Low u s u1 s1 → Low u s u2 s2 → ¬ s1 < s2 := by
    intro u1 u2 s1 s2 a b h
    have e : u1 * 10 ^ (s - s1) = u2 * 10 ^ (s - s2) := a.eq.symm.trans b.eq
    have hs : s - s1 = (s2 - s1 - 1 + 1) + (s - s2) := by have := b.le; omega
    rw [hs, Int.pow_add, ← Int.mul_assoc] at e
    have e2 := Int.eq_of_mul_eq_mul_right (Int.ne_of_gt (ten_pos (s - s2))) e
    rcases b.own with z | z
    · omega
    · apply z
      rw [← e2]
      exact Int.emod_eq_zero_of_dvd (Int.dvd_trans (ten_dvd _) (Int.dvd_mul_left _ _))
  have h1 := key a b
  have h2 := key b a
  have hs : s1 = s2 := by omega
  subst hs
  have e : u1 * 10 ^ (s - s1) = u2 * 10 ^ (s - s1) := a.eq.symm.trans b.eq
  exact ⟨Int.eq_of_mul_eq_mul_right (Int.ne_of_gt (ten_pos _)) e, rfl⟩
def spLowered : Sp := fun vs H Q _ => ∃ (u : Int) (s : Nat), vs = [.int u, .int (s : Int)] ∧ ∀ (u' : Int) (s' : Nat), Low u s u' s' → ∀ p, H p = none → Q (.ref p) (upd H p (.tup [.int u', .int (s' : Int)]))
end FS
set_option Elab.async false
set_option linter.all false
set_option maxRecDepth 100000
/-! lowered; Worth.__init__, units_at. -/
namespace FS
open PySem L2
/-- o.f as a target -/
def gFld (K : PySem.W.Frag) (to : TE) (f : Str) : TG := fun v σ H Q => to σ H fun x H2 => ∃ a C dx fs, x = .ref a ∧ H2 a = some (.ins C dx fs) ∧ Cls K C ∧ NoAttr K C f ∧ fs.length < 1000 ∧ Q σ (upd H2 a (.ins C dx (putF f v fs)))
theorem pg_fld {X : Cx} {o : Expr} {to : TE} {f : Str} {pos : Pos} (ho : PE X o to) : PG X (.Attribute o f pos) (gFld X.K to f) := by
  refine ⟨fun pins s σ H v u Q I r h => ?_⟩
  rw [assign_Attribute]
  refine wpAny_bind (wpAny_holding (thn (ho.run pins s σ H _ I h) fun ov s1 q => ?_))
  obtain ⟨x, H1, I1, rx, a, C, dx, fs, rfl, ea, c, n, l, q⟩ := q
  obtain rfl : ov = Value.ref a := rx
  refine wpAny_bind (wpAny_standAt (wpAny_bind (wpAny_holding ?_)))
  exact setattr_ok I1 ea c n l r fun s3 I3 => wpAny_release ⟨σ, _, I3, q⟩
theorem low_zero (s : Nat) : Low 0 s 0 0 := ⟨Nat.zero_le _, by rw [Int.zero_mul], .inl rfl, fun _ => ⟨rfl, rfl⟩⟩
section
variable {P : Program} {w : World} {K : PySem.W.Frag} {mg : Str → Option Value} {base : Heap} {C D : Addr}
theorem scLowered : FnScope ["units", "scale"] ["units", "scale"] (defScope sLowered) := ⟨rfl, rfl, rfl, by decide +kernel, rfl, by decide +kernel, by decide +kernel⟩
def LowInv (u : Int) (s : Nat) (G : Hp) (μ : Nat) (σ : St) (H : Hp) : Prop := ∃ u1 : Int, σ = [some (.int u1), some (.int (μ : Int))] ∧ H = G ∧ μ ≤ s ∧ u = u1 * 10 ^ (s - μ)
theorem ok_lowered {f : Addr} {fd : FuncData} (F : Fun K "lowered" "lowered" sLowered f fd) : FnOk P w K mg base CX0 1 f fd ["units", "scale"] spLowered := by
  refine F.ok scLowered (fun vs H Q E h => ?_) (fun cdv A outer s H vs Q E hr h => ?_)
  · obtain ⟨u, s, rfl, _⟩ := h
    rfl
  · obtain ⟨u, sc, rfl, k⟩ := h
    refine ⟨_, pss_cons (ps_if (pt_cmpR op_eq (pv 0) pe_int (nomark _)) (pss_one (ps_ret (pe_tup (pa_cons pe_int (pa_cons pe_int pa_nil))))) pss_nil)
      (pss_cons (ps_while PassesOwn.never (pw_and (pt_cmpR op_gt (pv 1) pe_int (nomark _)) (pw_and1 (pt_cmpR op_eq (pe_op op_mod (pv 0) pe_int) pe_int (nomark _)))).pt
        (pss_one (ps_par (i := 0) (j := 1) (by rfl) scLowered.nd rfl rfl (by decide) rfl rfl (pa_cons (pe_op op_fdiv (pv 0) pe_int) (pa_cons (pe_op op_sub (pv 1) pe_int) pa_nil)) (by rfl))))
      (pss_one (ps_ret (pe_tup (pa_cons (pv 0) (pa_cons (pv 1) pa_nil)))))), ?_⟩
    refine ⟨_, rfl, rfl, _, rfl, ?_⟩
    refine ite2 (fun c => ?_) (fun c => ?_)
    · have e : u = 0 := V.int.inj (of_decide_eq_true c)
      subst e
      refine ⟨(by show 2 ≤ sizeLine; decide), fun p hp => k 0 0 (low_zero sc) p hp⟩
    · have ne : u ≠ 0 := fun z => c (by rw [z]; exact decide_eq_true rfl)
      refine ⟨LowInv u sc H, ⟨sc, u, rfl, rfl, Nat.le_refl _, by rw [Nat.sub_self, Int.pow_zero, Int.mul_one]⟩, ?_⟩
      rintro n σ H1 ⟨u1, rfl, eH, hn, e⟩
      have fin : (n = 0 ∨ u1 % 10 ≠ 0) → tRet (tTup (tCons (tVar 0) (tCons (tVar 1) tNil))) { nx := fun _ H' => Q .non H', rt := Q } [some (.int u1), some (.int (n : Int))] H1 := fun hz => by
        refine ⟨_, rfl, _, rfl, (by show 2 ≤ sizeLine; decide), fun p hp => ?_⟩
        rw [eH] at hp ⊢
        exact k u1 n ⟨hn, e, hz, fun z => absurd z ne⟩ p hp
      refine ⟨_, rfl, _, _, rfl, rfl, _, rfl, ?_⟩
      refine ite2 (fun c1 => ?_) (fun c1 => ?_)
      · have n0 : 0 < n := by
          have := of_decide_eq_true c1
          omega
        refine ⟨_, rfl, _, _, rfl, rfl, (by show (0 : Int) < 10; decide), rfl, _, rfl, ?_⟩
        refine ite2 (fun c2 => ?_) (fun c2 => ?_)
        · have z : u1 % 10 = 0 := V.int.inj (of_decide_eq_true c2)
          refine ⟨LowInv u sc H (n - 1), fun σ' H' q => ⟨n - 1, by omega, q⟩, ?_⟩
          refine ⟨_, rfl, _, _, rfl, rfl, ⟨by decide, by decide⟩, _, rfl, _, _, rfl, rfl, _, _, rfl, u1 / 10, ?_, eH, by omega, ?_⟩
          · show [some (V.int (u1 / 10)), some (V.int ((n : Int) - 1))] = [some (V.int (u1 / 10)), some (V.int ((n - 1 : Nat) : Int))]
            rw [show ((n - 1 : Nat) : Int) = (n : Int) - 1 by omega]
          · rw [show sc - (n - 1) = (sc - n) + 1 by omega, Int.pow_succ, Int.mul_comm (10 ^ (sc - n)), ← Int.mul_assoc]
            rw [show u1 / 10 * 10 = u1 by omega]
            exact e
        · exact fin (.inr fun z => c2 (decide_eq_true (by show V.int (u1 % 10) = V.int 0; rw [z])))
      · have n0 : n = 0 := by
          have := of_decide_eq_false (Bool.eq_false_iff.mpr c1)
          omega
        exact fin (.inl n0)
/-! ### Worth.__init__ -/
def spWInit (D : Addr) : Sp := fun vs H Q _ => ∃ (p dx : Addr) (u : Int) (s : Nat), vs = [.ref p, .int u, .int (s : Int)] ∧ H p = some (.ins D dx []) ∧
  ∀ (u' : Int) (s' : Nat), Low u s u' s' → ∀ H', H' p = some (.ins D dx (wFlds u' s')) → (∀ b o, H b = some o → b ≠ p → H' b = some o) → Q .non H'
theorem scWInit : FnScope ["self", "units", "scale"] ["self", "units", "scale"] (defScope sWInit) := ⟨rfl, rfl, rfl, by decide +kernel, rfl, by decide +kernel, by decide +kernel⟩
end
end FS
set_option Elab.async false
set_option linter.all false
set_option maxRecDepth 100000
/-! Worth.__init__ (it has a default), Worth(..), units_at. -/
namespace FS
open PySem L2
/-- Worth.__init__ as it stands behind the top: its default is 0 -/
abbrev FunW (K : PySem.W.Frag) (f : Addr) (fd : FuncData) : Prop := L2.FunD K "__init__" "Worth.__init__" (defArgs sWInit) (defBody sWInit) (defScope sWInit) [.int 0] [] f fd
section
variable {P : Program} {w : World} {K : PySem.W.Frag} {mg : Str → Option Value} {base : Heap} {C D : Addr}
theorem bWInit {f : Addr} {fd : FuncData} (F : FunW K f fd) : Binds K fd ["self", "units", "scale"] [] := by
  obtain ⟨ds, hd, hb⟩ := F.binds1 (ps := ["self", "units", "scale"]) 3 1 (by simp) rfl (fun T kV doc pm an cdv ct us its hu hi => match us, its, hu, hi with | [_, _, _], [_], _, _ => ⟨_, rfl, rfl⟩)
  cases (show Vals [] ds from hd)
  exact hb
theorem ok_wInit {f : Addr} {fd : FuncData} (F : FunW K f fd) (cW : WC K mg D) (cI : Keeps P w K mg base (L2.CX P w) 4 "need_integer" (spNeedInt K C)) (cN : Keeps P w K mg base (L2.CX P w) 4 "need_whole" (spNeedWhole K C))
    (cL : Keeps P w K mg base CX0 1 "lowered" spLowered) : FnOk P w K mg base (L2.CX P w) 5 f fd ["self", "units", "scale"] (spWInit D) := by
  refine F.ok scWInit (fun vs H Q E h => ?_) (fun cdv A outer s H vs Q E hr h => ?_)
  · obtain ⟨p, dx, u, s, rfl, _⟩ := h
    rfl
  · obtain ⟨p, dx, u, s, rfl, hp, k⟩ := h
    refine ⟨_, pss_cons (ps_expr (pe_k (E := E0) cI hr passL (pa_cons (pv 1) pa_nil)))
      (pss_cons (ps_expr (pe_k (E := E0) cN hr passL (pa_cons (pv 2) pa_nil)))
      (pss_one (ps_asg (pe_k cL hr pass0 (pa_cons (pv 1) (pa_cons (pv 2) pa_nil))) (pg_tup (by rfl) (pgs_cons (pg_fld (pv 0)) (pgs_cons (pg_fld (pv 0)) pgs_nil)))))), ?_⟩
    refine ⟨_, rfl, _, "int", rfl, .base (.int u), by decide, fun _ => ?_, fun z => absurd rfl z⟩
    refine ⟨_, rfl, _, rfl, .inl ⟨(s : Int), rfl, by omega, ?_⟩⟩
    refine ⟨_, rfl, _, rfl, u, s, rfl, fun u' s' hl q hq => ?_⟩
    have nq : p ≠ q := ne_of_none hp hq
    refine ⟨q, _, rfl, SqT.of upd_same, rfl, _, _, rfl, ?_⟩
    refine ⟨_, rfl, p, D, dx, [], rfl, (by rw [upd_ne nq]; exact hp), cW.cl, cW.nU, (by show 0 < 1000; decide), ?_⟩
    refine ⟨_, _, rfl, ?_⟩
    refine ⟨_, rfl, p, D, dx, _, rfl, upd_same, cW.cl, cW.nS, (by show 1 < 1000; decide), rfl, ?_⟩
    refine k u' s' hl _ upd_same fun b o e hb => ?_
    rw [upd_ne hb, upd_ne hb, upd_ne (ne_of_none e hq)]
    exact e
end
/-! ### Worth(u, s) -/
/-- how Worth is made -/
structure MkW (P : Program) (w : World) (K : PySem.W.Frag) (mg : Str → Option Value) (base : Heap) (D : Addr) : Prop where
  ex : ∃ (f : Addr) (fd : FuncData), Mk K D f ∧ FnOk P w K mg base (L2.CX P w) 5 f fd ["self", "units", "scale"] (spWInit D) ∧ Binds K fd ["self", "units", "scale"] []
/-- the reading of Worth(u, s) behind its arguments, the new instance at x -/
theorem worth_init {D : Addr} {u : Int} {s : Nat} {H1 : Hp} {R : VK} {E : XK} {x dx : Addr} (hx : H1 x = none) (hdx : H1 dx = none) (h : ∀ (u' : Int) (s' : Nat), Low u s u' s' → ∀ H2 : Hp, Same H1 H2 → WorthAt D H2 x u' s' → R .non H2) :
    spWInit D [.ref x, .int u, .int (s : Int)] (upd (upd H1 dx (.own x)) x (.ins D dx [])) R E := by
  refine ⟨x, dx, u, s, rfl, upd_same, fun u' s' hl H' h1 h2 => h u' s' hl H' (fun b o e => ?_) ⟨dx, h1⟩⟩
  refine h2 b o ?_ (ne_of_none e hx)
  rw [upd_ne (ne_of_none e hx), upd_ne (ne_of_none e hdx)]
  exact e
section
variable {X : Cx} {D : Addr} {j : Nat} {e : Expr} {es : List Expr} {t : TA} {p pos : Pos}
/-- Worth(e, ..) -/
theorem pe_worth (M : MkW X.prog X.w X.K X.mg X.base D) (hm : X.mg "Worth" = some (.ref D)) (hr : Room j X.A) (ha : PA X (e :: es) t) (hk : 6 ≤ j := by decide) (hg : Gl X "Worth" := by rfl)
    (he : starEach (e :: es) X.env = (false, eval e X.env) :: starEach es X.env := by rfl) (hpl : (backTo pos (starEach es X.env)).any (·.1) = false := by rfl) :
    PE X (.Call (.Name "Worth" p) (e :: es) [] pos) (tMake D (spWInit D) [] E0 t) := by
  obtain ⟨f, fd, mk, F, hb⟩ := M.ex
  exact pe_make mk F (hr.mono hk) hg hm hb .nil passL ha (by decide) he hpl
end
/-! ### units_at -/
def spUnitsAt (D : Addr) : Sp := fun vs H Q _ => ∃ (p : Addr) (u : Int) (s t b : Nat), vs = [.ref p, .int (t : Int)] ∧ WorthAt D H p u s ∧ s ≤ t ∧ t ≤ 1000 ∧ (u.natAbs < 2 ^ b ∧ 0 < b ∧ b ≤ 900000) ∧ ∀ H', Same H H' → Q (.int (u * 10 ^ (t - s))) H'
theorem scUnitsAt : FnScope ["self", "scale"] ["self", "scale"] (defScope sUnitsAt) := ⟨rfl, rfl, rfl, by decide +kernel, rfl, by decide +kernel, by decide +kernel⟩
theorem ten_cast (n : Nat) : ((10 ^ n : Nat) : Int) = 10 ^ n := by
  rw [Int.natCast_pow]
  rfl
theorem ten_abs (n : Nat) : ((10 : Int) ^ n).natAbs < 2 ^ (4 * n + 1) := by
  rw [← ten_cast, Int.natAbs_natCast]
  exact ten_bits n
section
variable {P : Program} {w : World} {K : PySem.W.Frag} {mg : Str → Option Value} {base : Heap} {C D : Addr}
theorem ok_unitsAt {f : Addr} {fd : FuncData} (F : Fun K "units_at" "Worth.units_at" sUnitsAt f fd) (cW : WC K mg D) (cN : Keeps P w K mg base (L2.CX P w) 4 "need_whole" (spNeedWhole K C)) (cT : Keeps P w K mg base CX0 1 "ten_to" spTen) :
    FnOk P w K mg base (L2.CX P w) 5 f fd ["self", "scale"] (spUnitsAt D) := by
  refine F.okX scUnitsAt (fun vs H Q E h => ?_) (fun cdv A outer s H vs Q E hr h => ?_)
  · obtain ⟨p, u, s, t, b, rfl, _⟩ := h
    rfl
  · obtain ⟨p, u, s, t, b, rfl, ⟨dx, hp⟩, hs, ht, ⟨hu, hb0, hb1⟩, k⟩ := h
    refine ⟨_, pss_cons (ps_expr (pe_k (E := E0) cN hr passL (pa_cons (pv 1) pa_nil)))
      (pss_cons (ps_if (pt_cmpR op_lt (pv 1) (pe_fld (pv 0) rfl) (nomark _)) (pss_one ps_never) pss_nil)
      (pss_one (ps_ret (pe_op op_mulW (pe_fld (pv 0) rfl) (pe_k cT hr pass0 (pa_cons (pe_op op_sub (pv 1) (pe_fld (pv 0) rfl)) pa_nil)))))), ?_⟩
    refine ⟨_, rfl, _, rfl, .inl ⟨(t : Int), rfl, by omega, ?_⟩⟩
    refine ⟨_, rfl, _, rfl, p, D, dx, _, _, rfl, hp, cW.cl, cW.nS, wF_scale _ _, _, _, rfl, rfl, _, rfl, ?_⟩
    refine ite2 (fun c => ?_) (fun c => ?_)
    · have := of_decide_eq_true c
      omega
    · refine ⟨_, rfl, p, D, dx, _, _, rfl, hp, cW.cl, cW.nU, wF_units _ _, _, rfl, _, rfl, p, D, dx, _, _, rfl, hp, cW.cl, cW.nS, wF_scale _ _, _, _, rfl, rfl, t - s, ?_, by omega, fun H' sm => ?_⟩
      · show [V.int ((t : Int) - (s : Int))] = [V.int ((t - s : Nat) : Int)]
        rw [show ((t - s : Nat) : Int) = (t : Int) - s by omega]
      · have hb := ten_abs (t - s)
        rw [ten_cast]
        exact ⟨_, _, rfl, rfl, wide_mul hu hb (by omega) (by omega) (by omega), k H' sm⟩
end
end FS
set_option Elab.async false
set_option linter.all false
set_option maxRecDepth 100000
/-! a dict is no text: value not in WAYS for every kind of value. -/
namespace FS
open PySem L2 PySem.MeetsSeq PySem.AutoSeq1
theorem subDS : isSubtype (.type "dict") (.type "str") = pure false := by rw [isSubtype_type]; kernel_rfl
theorem subSD : isSubtype (.type "str") (.type "dict") = pure false := by rw [isSubtype_type]; kernel_rfl
theorem str_eq_no_dict (b : Str) (u : Tok) (l : Addr) (dd : Option Addr) (es : Array DictEntry) (ep : Nat) (sl : Array (Option Value)) :
    Meets (Builtin.«str.__eq__» ⟨[.str b u, .ref l], []⟩) (fun _ R s => s.heap.get? l = some { cls := .type "dict", dict := dd, data := .dict es ep, slots := sl } ∧ R (.ok (.ret .notImplemented)) s) :=
  .of_wp fun prog w A R s h => by
    obtain ⟨hp, g, d, tk, os⟩ := s
    obtain ⟨hl, h⟩ := h
    wp_walk using wpAny_loadPart' hl, wpAny_load hl
    exact ⟨_, rfl, h⟩
theorem dict_eq_no_str (b : Str) (u : Tok) (l : Addr) (dd : Option Addr) (es : Array DictEntry) (ep : Nat) (sl : Array (Option Value)) :
    Meets (Builtin.«dict.__eq__» ⟨[.ref l, .str b u], []⟩) (fun _ R s => s.heap.get? l = some { cls := .type "dict", dict := dd, data := .dict es ep, slots := sl } ∧ R (.ok (.ret .notImplemented)) s) :=
  .of_wp fun prog w A R s h => by
    obtain ⟨hp, g, d, tk, os⟩ := s
    obtain ⟨hl, h⟩ := h
    have f1 := subSD
    wp_walk using wpAny_loadPart' hl, wpAny_load hl
    exact ⟨_, rfl, h⟩
section
variable {A : Around} {s : Shared}
theorem rc_str_dict {l : Addr} {o : Obj} {es : Array DictEntry} {ep : Nat} (b : Str) (u : Tok) (ho : s.heap.get? l = some o) (hc : o.cls = .type "dict") (hd : o.data = .dict es ep) (hu : A.units < cLine) : SeqAt.RcAt A s (.str b u) (.ref l) false := fun prog w E Q h => by
  obtain ⟨cls, dd, data, sl⟩ := o
  dsimp only at hc hd
  subst hc hd
  refine SeqAt.rc_eq_decline_or (k := false) (typeIs_str s b u) ⟨_, ho, rfl⟩ (by decide) subDS F.slot_str_eq F.slot_dict_eq_refl (fun Q' hq => ?_) (fun Q' hq => ?_) (fun Q' hq => ?_) (.inr hu) h
  · exact call_meets F.slot_str_eq (typeIs_str s b u) F.entry_str_eq (F.args_str_eq_2 _ _) (str_eq_no_dict b u l dd es ep sl) ⟨ho, hq⟩
  · exact call_meets F.slot_dict_eq_refl ⟨_, ho, rfl⟩ F.entry_dict_eq (F.args_dict_eq_2 _ _) (dict_eq_no_str b u l dd es ep sl) ⟨ho, hq⟩
  · exact wpAny_of_eq (rfl : isSame (.str b u) (.ref l) = pure false) hq
theorem eq_str_dict {l : Addr} {o : Obj} {es : Array DictEntry} {ep : Nat} (b : Str) (u : Tok) (ho : s.heap.get? l = some o) (hc : o.cls = .type "dict") (hd : o.data = .dict es ep) (hu : A.units < cLine) : SeqAt.EqAt A s (.str b u) (.ref l) false := fun prog w E Q h => by
  unfold eqBool
  refine wpAny_holding (wpAny_ite_split (fun hab => absurd (eq_of_beq hab) nofun) fun _ => ?_)
  exact wpAny_bind (rc_str_dict b u ho hc hd hu prog w E _ (wpAny_truthy_bool h))
end
end FS
set_option Elab.async false
set_option linter.all false
set_option maxRecDepth 100000
/-! The ways as texts; the wrong values; need_way. -/
namespace FS
open PySem L2
def Way.str : Way → Str
  | .floor => "floor" | .ceiling => "ceiling" | .cut => "cut" | .away => "away" | .halfup => "halfup" | .halfdown => "halfdown" | .halfeven => "halfeven" | .halfaway => "halfaway" | .halfcut => "halfcut"
def ways : List Way := [.floor, .ceiling, .cut, .away, .halfup, .halfdown, .halfeven, .halfaway, .halfcut]
def wayVs : List V := ways.map fun w => V.str w.str
theorem Way.mem (w : Way) : w ∈ ways := by cases w <;> decide
theorem wayVs_flat : wayVs.all flatV = true := by rfl
theorem in_way (w : Way) : inV (.str w.str) wayVs = true := by cases w <;> decide +kernel
/-- the module's WAYS -/
def WaysIn (K : PySem.W.Frag) (mg : Str → Option Value) : Prop := ∃ (a : Addr) (o : Obj) (its : Array Value) (n : Nat), mg "WAYS" = some (.ref a) ∧ K.lookup a = some o ∧ o.cls = .type "tuple" ∧ o.data = .seq its n ∧ its.size ≤ sizeLine ∧ Vals wayVs its.toList
/-- the wrong values of the law: none of them is an int, a Worth, a way -/
inductive Wr (H : Hp) : V → Prop
  | non : Wr H .non
  | bl (b : Bool) : Wr H (.bl b)
  | str (x : Str) (h : inV (.str x) wayVs = false) : Wr H (.str x)
  | lst (a : Addr) (ns : List Int) (h : H a = some (.lst (ns.map V.int))) : Wr H (.ref a)
  | tup (a : Addr) (ns : List Int) (h : H a = some (.tup (ns.map V.int))) : Wr H (.ref a)
  | dK (a : Addr) (kvs : List (Key × V)) (h : H a = some (.dK kvs)) (nd : (kvs.map (·.1)).Nodup) (f : ∀ p ∈ kvs, ∃ i : Int, p.2 = .int i) : Wr H (.ref a)
theorem Wr.same {H H' : Hp} (s : Same H H') {v : V} (w : Wr H v) : Wr H' v := by
  cases w with
  | non => exact .non
  | bl b => exact .bl b
  | str x h => exact .str x h
  | lst a xs h => exact .lst a xs (s _ _ h)
  | tup a xs h => exact .tup a xs (s _ _ h)
  | dK a kvs h nd f => exact .dK a kvs (s _ _ h) nd f
theorem Wr.ty {K : PySem.W.Frag} {H : Hp} {v : V} (w : Wr H v) : ∃ T : String, TyX K H v (.type T) ∧ T ∈ tyN ∧ T ≠ "int" := by
  cases w with
  | non => exact ⟨_, .base .non, by decide, by decide⟩
  | bl b => exact ⟨_, .base (.bl b), by decide, by decide⟩
  | str x h => exact ⟨_, .base (.str x), by decide, by decide⟩
  | lst a xs h => exact ⟨_, .base (.lst h), by decide, by decide⟩
  | tup a xs h => exact ⟨_, .base (.tup h), by decide, by decide⟩
  | dK a kvs h nd f => exact ⟨_, .base (.dK h), by decide, by decide⟩
/-- x not in the ways -/
def rNoWay (K : PySem.W.Frag) : R2 := fun x y H Q => ∃ (a : Addr), y = .ref a ∧ SqT K H a wayVs ∧ ((∃ w : Way, x = .str w.str ∧ Q (.bl false) H) ∨ ((Wr H x ∨ ∃ i : Int, x = .int i) ∧ Q (.bl true) H))
theorem inV_int (i : Int) : inV (.int i) wayVs = false := by rfl
theorem inV_bl (b : Bool) : inV (.bl b) wayVs = false := by cases b <;> rfl
theorem inV_non : inV .non wayVs = false := by rfl
section
variable {X : Cx} {j : Nat}
theorem op_noWay (hr : Room j X.A) : OpR X (compareOp .NotIn) (rNoWay X.K) := by
  intro pins s σ H x y v u Q I rx ry h
  obtain ⟨a, rfl, hT, h⟩ := h
  have flat : ∀ {x : V} {v : Value} {b : Bool}, RelV x v → flatV x = true → inV x wayVs = b → Q (.bl (!b)) H → wpAny (model X.prog X.w) X.A (compareOp .NotIn v u) (EP X pins σ Q) X.xe s := fun {x v b} rx fx e q =>
    op_notIn_seq pins s σ H x (.ref a) v u Q I rx ry ⟨a, _, rfl, .inr hT, fx, wayVs_flat, by rw [e]; exact q⟩
  rcases h with ⟨w, rfl, q⟩ | ⟨hw | ⟨i, rfl⟩, q⟩
  · exact flat rx rfl (in_way w) q
  · have un1 : X.A.in1.units < cLine := by have := hr.un; show X.A.units + 1 < _; omega
    have items : ∀ (v : Value), (∀ (b : Str) (t : Tok), SeqAt.EqAt X.A.in1 s (.str b t) v false) → wpAny (model X.prog X.w) X.A (compareOp .NotIn v u) (EP X pins σ Q) X.xe s := fun v hv => by
      cases ry
      obtain ⟨its, r, pl, hz⟩ := I.tuple hT
      refine SeqAt.notIn_tupleAt (fun _ => false) pl (fun y hy => ?_) ⟨.bl true, H, I, ?_, q⟩
      · have hy' : y ∈ its := by simpa using hy
        obtain ⟨n, hn⟩ := List.mem_iff_getElem?.mp hy'
        have : ∃ b t, y = Value.str b t := by
          have hl := r.length
          have hn2 : n < its.length := (List.getElem?_eq_some_iff.mp hn).1
          have hx : ∃ x, wayVs[n]? = some x := ⟨wayVs[n]'(by omega), List.getElem?_eq_getElem (by omega)⟩
          obtain ⟨x, hx⟩ := hx
          obtain ⟨u', h1, h2⟩ := r.get hx
          rw [hn] at h1
          cases h1
          unfold wayVs at hx
          rw [List.getElem?_map] at hx
          cases e : ways[n]? with
          | none => rw [e] at hx; cases hx
          | some w =>
            rw [e] at hx
            cases hx
            obtain ⟨t, rfl⟩ := h2
            exact ⟨_, t, rfl⟩
        obtain ⟨b, t, rfl⟩ := this
        exact hv b t
      · show Value.bool _ = Value.bool _
        simp
    cases hw with
    | non => exact flat rx rfl inV_non q
    | bl b => exact flat rx rfl (inV_bl b) q
    | str x h => exact flat rx rfl h q
    | lst p xs h =>
      cases rx
      obtain ⟨_, _, n, _, e⟩ := (show ObjOk X.prog X.w H s.heap p (.lst (xs.map V.int)) from I.hok p _ h)
      exact items _ fun b t => SeqAt.EqAt.str_list b t ⟨_, e, rfl, _, rfl⟩ un1
    | tup p xs h =>
      cases rx
      obtain ⟨_, its, _, it⟩ := (show ObjOk X.prog X.w H s.heap p (.tup (xs.map V.int)) from I.hok p _ h)
      exact items _ fun b t => SeqAt.EqAt.str_tuple b t it un1
    | dK p kvs h =>
      cases rx
      obtain ⟨_, _, vs, _, o, es, ep, e1, e2, e3, _⟩ := (show ObjOk X.prog X.w H s.heap p (.dK kvs) from I.hok p _ h)
      exact items _ fun b t => eq_str_dict b t e1 e2.1 e3 un1
  · exact flat rx rfl (inV_int i) q
end
def spNeedWay (C : Addr) : Sp := fun vs H Q E => ∃ v : V, vs = [v] ∧ ((∃ w : Way, v = .str w.str ∧ Q .non H) ∨ ((Wr H v ∨ ∃ i : Int, v = .int i) ∧ Refuse C E v H))
section
variable {P : Program} {w : World} {K : PySem.W.Frag} {mg : Str → Option Value} {base : Heap} {C D : Addr}
theorem scNeedWay : FnScope ["value"] ["value"] (defScope sNeedWay) := ⟨rfl, rfl, rfl, by decide +kernel, rfl, by decide +kernel, by decide +kernel⟩
theorem ok_needWay {f : Addr} {fd : FuncData} (F : Fun K "need_way" "need_way" sNeedWay f fd) (hW : WaysIn K mg) (B : BadV P w K mg base C) : FnOk P w K mg base (L2.CX P w) 4 f fd ["value"] (spNeedWay C) := by
  refine F.okX scNeedWay (fun vs H Q E h => ?_) (fun cdv A outer s H vs Q E hr h => ?_)
  · obtain ⟨v, rfl, _⟩ := h
    rfl
  · obtain ⟨v, rfl, k⟩ := h
    obtain ⟨a, o, its, n, g, h1, h2, h3, h4, h5⟩ := hW
    have hT : ∀ H, SqT K H a wayVs := fun H => .inr ⟨o, its, n, h1, h2, h3, h4, h5⟩
    refine ⟨_, pss_one (ps_if (pt_cmpR (op_noWay hr) (pv 0) (pe_glob (v := .ref a) (by rfl) g rfl) (by rfl)) (pss_one (ps_bad (W := fun cls d _ H => E cls d H) (by rfl) B hr (takes_of rfl rfl rfl rfl) (pv 0))) pss_nil), ?_⟩
    rcases k with ⟨w, rfl, k⟩ | ⟨hw, k⟩
    · exact ⟨_, rfl, a, rfl, hT _, .inl ⟨w, rfl, _, rfl, iteF k⟩⟩
    · exact ⟨_, rfl, a, rfl, hT _, .inr ⟨hw, _, rfl, iteT ⟨_, rfl, k⟩⟩⟩
end
end FS
set_option Elab.async false
set_option linter.all false
set_option maxRecDepth 100000
/-! lift. -/
namespace FS
open PySem L2
def tieB (w : Way) (neg odd : Bool) : Bool := match w with
  | .halfup => true | .halfdown => false | .halfeven => odd | .halfaway => !neg | .halfcut => neg | _ => false
def Way.tie (w : Way) : Bool := match w with
  | .halfup => true | .halfdown => true | .halfeven => true | .halfaway => true | .halfcut => true | _ => false
def tieL (neg odd : Bool) : List (Key × V) := [(.inr "halfup", .bl true), (.inr "halfdown", .bl false), (.inr "halfeven", .bl odd), (.inr "halfaway", .bl (!neg)), (.inr "halfcut", .bl neg)]
theorem tie_look (w : Way) (neg odd : Bool) (h : w.tie = true) : valV (mergeK [] (tieL neg odd)) (.inr w.str : Key) = some (.bl (tieB w neg odd)) := by
  cases neg <;> cases odd <;> cases w <;> first | (exact absurd h (by decide)) | decide +kernel
theorem way_is (w v : Way) : decide (V.str w.str = V.str v.str) = decide (w = v) := by
  cases w <;> cases v <;> decide +kernel
theorem liftB_tie {w : Way} {part : Int} {neg odd : Bool} (h0 : ¬ part = 0) (h : w.tie = true) : liftB w part neg odd = if part = 2 then tieB w neg odd else decide (part = 3) := by
  unfold liftB
  rw [if_neg h0]
  cases w <;> first | (exact absurd h (by decide)) | rfl
/-- what lift answers, as an int -/
def b2I (b : Bool) : Int := if b then 1 else 0
def spLift : Sp := fun vs H Q _ => ∃ (w : Way) (part : Int) (neg odd : Bool), vs = [.str w.str, .int part, .bl neg, .bl odd] ∧ ∀ H', Same H H' → Q (.int (b2I (liftB w part neg odd))) H'
section
variable {P : Program} {w : World} {K : PySem.W.Frag} {mg : Str → Option Value} {base : Heap} {C D : Addr}
theorem scLift : FnScope ["way", "part", "negative", "odd", "ties"] ["way", "part", "negative", "odd"] (defScope sLift) := ⟨rfl, rfl, rfl, by decide +kernel, rfl, by decide +kernel, by decide +kernel⟩
theorem ok_lift {f : Addr} {fd : FuncData} (F : Fun K "lift" "lift" sLift f fd) (N : Names mg) : FnOk P w K mg base CX0 1 f fd ["way", "part", "negative", "odd"] spLift := by
  refine F.ok scLift (fun vs H Q E h => ?_) (fun cdv A outer s H vs Q E hr h => ?_)
  · obtain ⟨w, part, neg, odd, rfl, _⟩ := h
    rfl
  · obtain ⟨w, part, neg, odd, rfl, k⟩ := h
    have hu := hu_of hr
    refine ⟨_, C8.pss_cut (ps_if (pw_or (pt_cmpR op_eq (pv 1) pe_int (nomark _)) (pw_or1 (pt_cmpR op_eq (pv 0) pe_str (nomark _)))).pt (pss_one (ps_ret pe_int)) pss_nil)
      (pss_cons (ps_if (pt_cmpR op_eq (pv 0) pe_str (nomark _)) (pss_one (ps_ret pe_int)) pss_nil)
      (pss_cons (ps_if (pt_cmpR op_eq (pv 0) pe_str (nomark _)) (pss_one (ps_ret (pe_callTy call_int1 (by rfl) N.int (by decide +kernel) (pa_cons (pv 2) pa_nil)))) pss_nil)
      (pss_cons (ps_if (pt_cmpR op_eq (pv 0) pe_str (nomark _)) (pss_one (ps_ret (pe_callTy call_int1 (by rfl) N.int (by decide +kernel) (pa_cons (pe_not (pv 2)) pa_nil)))) pss_nil)
      (pss_cons (ps_if (pt_cmpR op_ne (pv 1) pe_int (nomark _)) (pss_one (ps_ret (pe_callTy call_int1 (by rfl) N.int (by decide +kernel) (pa_cons (pe_cmpR op_eq (pv 1) pe_int (nomark _)) pa_nil)))) pss_nil)
      (pss_cons (ps_set (i := 4) scLift.nd rfl (Or.inl rfl) (pe_disp (pps_cons pe_str pe_bl (pps_cons pe_str pe_bl (pps_cons pe_str (pv 3) (pps_cons pe_str (pe_not (pv 2)) (pps_cons pe_str (pv 2) pps_nil))))) (by rfl) (by rfl) (fun z => by cases z) (by decide)))
      (pss_one (ps_ret (pe_callTy call_int1 (by rfl) N.int (by decide +kernel) (pa_cons (pe_dget hu (pv 4) (pv 0) (fun _ _ => rfl)) pa_nil))))))))), ?_⟩
    -- part == 0 or way == 'floor'
    refine ⟨fun σ' H' => σ' = L2.start ["way", "part", "negative", "odd", "ties"] [.str w.str, .int part, .bl neg, .bl odd] ∧ H' = H ∧ ¬ part = 0 ∧ w ≠ .floor, ?_, ?_⟩
    rotate_left
    · rintro σ' H' ⟨rfl, rfl, h0, n1⟩
      refine ⟨_, rfl, rfl, _, rfl, ?_⟩
      rw [show decide (V.str w.str = V.str "ceiling") = decide (w = .ceiling) from way_is w .ceiling]
      refine ite2 (fun c => ?_) (fun c => ?_)
      · have e := of_decide_eq_true c
        subst e
        have := k _ (Same.refl _)
        unfold liftB at this
        rw [if_neg h0] at this
        exact this
      have n2 : w ≠ .ceiling := fun z => c (decide_eq_true z)
      refine ⟨_, rfl, rfl, _, rfl, ?_⟩
      rw [show decide (V.str w.str = V.str "cut") = decide (w = .cut) from way_is w .cut]
      refine ite2 (fun c => ?_) (fun c => ?_)
      · have e := of_decide_eq_true c
        subst e
        have := k _ (Same.refl _)
        unfold liftB at this
        rw [if_neg h0] at this
        exact ⟨_, rfl, .inr ⟨_, rfl, this⟩⟩
      have n3 : w ≠ .cut := fun z => c (decide_eq_true z)
      refine ⟨_, rfl, rfl, _, rfl, ?_⟩
      rw [show decide (V.str w.str = V.str "away") = decide (w = .away) from way_is w .away]
      refine ite2 (fun c => ?_) (fun c => ?_)
      · have e := of_decide_eq_true c
        subst e
        have := k _ (Same.refl _)
        unfold liftB at this
        rw [if_neg h0] at this
        exact ⟨_, rfl, _, rfl, .inr ⟨_, rfl, this⟩⟩
      have n4 : w ≠ .away := fun z => c (decide_eq_true z)
      have ht : w.tie = true := by
        cases w with
        | floor => exact absurd rfl n1
        | ceiling => exact absurd rfl n2
        | cut => exact absurd rfl n3
        | away => exact absurd rfl n4
        | _ => rfl
      rw [liftB_tie h0 ht] at k
      refine ⟨_, rfl, rfl, _, rfl, ?_⟩
      by_cases h2 : part = 2
      · subst h2
        refine iteF ?_
        rw [if_pos rfl] at k
        intro p hp
        refine ⟨_, rfl, _, rfl, _, rfl, _, rfl, upd_same, tieL neg odd, rfl, (by show 5 ≤ 15; decide), ?_⟩
        refine ⟨_, rfl, _, rfl, p, .bl (tieB w neg odd), rfl, .inl ⟨_, .inr w.str, .inl upd_same, rfl, (tie_look w neg odd ht).symm⟩, .inr ⟨_, rfl, ?_⟩⟩
        refine k _ fun b o e => ?_
        rw [upd_ne (ne_of_none e hp), upd_ne (ne_of_none e hp)]
        exact e
      · have d : (!decide (V.int part = V.int 2)) = true := by
          rw [decide_eq_false fun z => h2 (V.int.inj z)]
          rfl
        rw [d]
        refine iteT ?_
        rw [if_neg h2] at k
        refine ⟨_, rfl, rfl, .inr ⟨_, rfl, ?_⟩⟩
        have e : decide (V.int part = V.int 3) = decide (part = 3) := by
          by_cases z : part = 3
          · rw [z]; rfl
          · rw [decide_eq_false z, decide_eq_false fun q => z (V.int.inj q)]
        rw [e]
        exact k _ (Same.refl _)
    · refine ⟨_, rfl, rfl, _, rfl, ?_⟩
      refine ite2 (fun c => ?_) (fun c => ?_)
      · have e : part = 0 := V.int.inj (of_decide_eq_true c)
        subst e
        exact iteT (k _ (Same.refl _))
      · have h0 : ¬ part = 0 := fun z => c (by rw [z]; exact decide_eq_true rfl)
        refine ⟨_, rfl, rfl, _, rfl, ?_⟩
        rw [show decide (V.str w.str = V.str "floor") = decide (w = .floor) from way_is w .floor]
        refine ite2 (fun c => ?_) (fun c => ?_)
        · have e := of_decide_eq_true c
          subst e
          have := k _ (Same.refl _)
          unfold liftB at this
          rw [if_neg h0] at this
          exact this
        · exact ⟨rfl, rfl, h0, fun z => c (decide_eq_true z)⟩
end
end FS
set_option Elab.async false
set_option linter.all false
set_option maxRecDepth 100000
/-! reach_below, reach_above. -/
namespace FS
open PySem L2
theorem dec_ii (a b : Int) : decide (V.int a = V.int b) = decide (a = b) := by
  by_cases z : a = b
  · rw [z]
    simp
  · rw [decide_eq_false z, decide_eq_false fun q => z (V.int.inj q)]
theorem b2I_zero (b : Bool) : decide (V.int (b2I b) = V.int 0) = !b := by cases b <;> rfl
theorem b2I_one (b : Bool) : decide (V.int (b2I b) = V.int 1) = b := by cases b <;> rfl
def spReachB : Sp := fun vs H Q _ => ∃ (w : Way) (u wide : Int), vs = [.str w.str, .int u, .int wide] ∧ ∀ H', Same H H' → Q (.int (reachB w u wide)) H'
def spReachA : Sp := fun vs H Q _ => ∃ (w : Way) (u wide : Int), vs = [.str w.str, .int u, .int wide] ∧ ∀ H', Same H H' → Q (.int (reachA w u wide)) H'
section
variable {P : Program} {w : World} {K : PySem.W.Frag} {mg : Str → Option Value} {base : Heap} {C D : Addr}
theorem scBelow : FnScope ["way", "units", "wide", "half", "part", "most"] ["way", "units", "wide"] (defScope sBelow) := ⟨rfl, rfl, rfl, by decide +kernel, rfl, by decide +kernel, by decide +kernel⟩
theorem scAbove : FnScope ["way", "units", "wide", "half", "part", "most"] ["way", "units", "wide"] (defScope sAbove) := ⟨rfl, rfl, rfl, by decide +kernel, rfl, by decide +kernel, by decide +kernel⟩
/-- between two turns: the parts that were asked were lifted (below: so want = true), were not (above) -/
def ReachInv (w : Way) (u wide : Int) (neg odd want : Bool) (p1 p2 p3 : Int) (G : Hp) (i : Nat) (σ : St) (H : Hp) : Prop := ∃ v1 v2 : Option V, σ = [some (.str w.str), some (.int u), some (.int wide), some (.int (wide / 2)), v1, v2] ∧ Same G H ∧
  (1 ≤ i → liftB w p1 neg odd = want) ∧ (2 ≤ i → liftB w p2 neg odd = want) ∧ (3 ≤ i → liftB w p3 neg odd = want)
theorem ok_below {f : Addr} {fd : FuncData} (F : Fun K "reach_below" "reach_below" sBelow f fd) (cL : Keeps P w K mg base CX0 1 "lift" spLift) : FnOk P w K mg base CX0 2 f fd ["way", "units", "wide"] spReachB := by
  refine F.ok scBelow (fun vs H Q E h => ?_) (fun cdv A outer s H vs Q E hr h => ?_)
  · obtain ⟨w, u, wide, rfl, _⟩ := h
    rfl
  · obtain ⟨w, u, wide, rfl, k⟩ := h
    refine ⟨_, pss_cons (ps_set (i := 3) scBelow.nd rfl (Or.inl rfl) (pe_op op_fdiv (pv 2) pe_int))
      (pss_cons (ps_for PassesOwn.never rfl (pi_tup (pe_tup (pa_cons (pe_tup (pa_cons pe_int (pa_cons pe_int pa_nil))) (pa_cons (pe_tup (pa_cons pe_int (pa_cons (pe_op op_sub (pv 3) pe_int) pa_nil))) (pa_cons (pe_tup (pa_cons pe_int (pa_cons (pv 3) pa_nil))) pa_nil)))))
          (pg_tup rfl (pgs_cons (pg_name (i := 4) scBelow.nd rfl (.inl rfl)) (pgs_cons (pg_name (i := 5) scBelow.nd rfl (.inl rfl)) pgs_nil)))
        (pss_one (ps_if (pt_cmpR op_eq (pe_k cL hr pass0 (pa_cons (pv 0) (pa_cons (pv 4) (pa_cons (pe_cmpR op_le (pv 1) pe_int (nomark _)) (pa_cons (pe_cmpR op_eq (pe_op op_mod (pv 1) pe_int) pe_int (nomark _)) pa_nil))))) pe_int (nomark _)) (pss_one (ps_ret (pv 5))) pss_nil)))
      (pss_one (ps_ret (pe_op op_sub (pv 2) pe_int)))), ?_⟩
    refine ⟨_, rfl, _, _, rfl, rfl, ⟨by decide, by decide⟩, ?_⟩
    refine ⟨(by show 2 ≤ sizeLine; decide), fun t1 h1 => ⟨_, rfl, _, _, rfl, rfl, (by show 2 ≤ sizeLine; decide), fun t2 h2 => ⟨_, rfl, (by show 2 ≤ sizeLine; decide), fun t3 h3 => ⟨(by show 3 ≤ sizeLine; decide), fun t h4 => ⟨t, rfl, ⟨_, SqT.of upd_same⟩, ?_⟩⟩⟩⟩⟩
    have n2 : H t2 = none := by
      by_cases z : t2 = t1
      · rw [z]; exact h1
      · rw [upd_ne z] at h2; exact h2
    have g1 : ∀ b o, H b = some o → b ≠ t1 := fun b o e => ne_of_none e h1
    generalize e1 : upd H t1 (.tup [.int 3, .int 0]) = H1 at h2 h3 h4 ⊢
    have a1 : H1 t1 = some (.tup [.int 3, .int 0]) := by rw [← e1, upd_same]
    have s1 : Same H H1 := fun b o e => by rw [← e1, upd_ne (ne_of_none e h1)]; exact e
    generalize e2 : upd H1 t2 (.tup [.int 2, .int (wide / 2 - 1)]) = H2 at h3 h4 ⊢
    have a2 : H2 t2 = some (.tup [.int 2, .int (wide / 2 - 1)]) := by rw [← e2, upd_same]
    have s2 : Same H1 H2 := fun b o e => by rw [← e2, upd_ne (ne_of_none e h2)]; exact e
    generalize e3 : upd H2 t3 (.tup [.int 1, .int (wide / 2)]) = H3 at h4 ⊢
    have a3 : H3 t3 = some (.tup [.int 1, .int (wide / 2)]) := by rw [← e3, upd_same]
    have s3 : Same H2 H3 := fun b o e => by rw [← e3, upd_ne (ne_of_none e h3)]; exact e
    generalize e4 : upd H3 t (.tup [.ref t1, .ref t2, .ref t3]) = G at ⊢
    have a4 : G t = some (.tup [.ref t1, .ref t2, .ref t3]) := by rw [← e4, upd_same]
    have s4 : Same H3 G := fun b o e => by rw [← e4, upd_ne (ne_of_none e h4)]; exact e
    have b1 : G t1 = some (.tup [.int 3, .int 0]) := s4 _ _ (s3 _ _ (s2 _ _ a1))
    have b2 : G t2 = some (.tup [.int 2, .int (wide / 2 - 1)]) := s4 _ _ (s3 _ _ a2)
    have b3 : G t3 = some (.tup [.int 1, .int (wide / 2)]) := s4 _ _ a3
    have sG : Same H G := ((s1.trans s2).trans s3).trans s4
    refine for_tup (K := K) (a := t) (xs := [.ref t1, .ref t2, .ref t3]) (ReachInv w u wide (decide (u ≤ 0)) (decide (u % 2 = 0)) true 3 2 1 G) ⟨none, none, rfl, Same.refl _, by omega, by omega, by omega⟩
      (fun i σ H' _ ⟨_, _, _, sm, _⟩ => SqT.of (sm _ _ a4)) (fun i x σ H' hi hP => ?_) (fun σ H' hP => ?_)
    · obtain ⟨v1, v2, rfl, sm, q1, q2, q3⟩ := hP
      have hi3 : i < 3 := (List.getElem?_eq_some_iff.mp hi).1
      rcases (by omega : i = 0 ∨ i = 1 ∨ i = 2) with rfl | rfl | rfl
      · cases hi
        refine ⟨_, _, rfl, SqT.of (sm _ _ b1), rfl, _, _, rfl, _, _, rfl, rfl, ?_⟩
        refine ⟨_, rfl, _, rfl, _, rfl, _, _, rfl, rfl, _, rfl, _, _, rfl, rfl, (by show (0 : Int) < 2; decide), rfl, w, _, _, _, rfl, fun H2 s2 => ⟨rfl, _, rfl, ?_⟩⟩
        rw [b2I_zero, dec_ii]
        have k' := k H2 ((sG.trans sm).trans s2)
        unfold reachB at k'
        cases hb : liftB w 3 (decide (u ≤ 0)) (decide (u % 2 = 0)) with
        | false =>
          rw [hb] at k'
          refine iteT ⟨_, rfl, ?_⟩
          exact k'
        | true =>
          refine iteF ?_
          exact ⟨_, _, rfl, sm.trans s2, fun _ => hb, by omega, by omega⟩
      · cases hi
        refine ⟨_, _, rfl, SqT.of (sm _ _ b2), rfl, _, _, rfl, _, _, rfl, rfl, ?_⟩
        refine ⟨_, rfl, _, rfl, _, rfl, _, _, rfl, rfl, _, rfl, _, _, rfl, rfl, (by show (0 : Int) < 2; decide), rfl, w, _, _, _, rfl, fun H2 s2 => ⟨rfl, _, rfl, ?_⟩⟩
        rw [b2I_zero, dec_ii]
        have k' := k H2 ((sG.trans sm).trans s2)
        unfold reachB at k'
        cases hb : liftB w 2 (decide (u ≤ 0)) (decide (u % 2 = 0)) with
        | false =>
          rw [q1 (by decide), hb] at k'
          refine iteT ⟨_, rfl, ?_⟩
          exact k'
        | true =>
          refine iteF ?_
          exact ⟨_, _, rfl, sm.trans s2, fun _ => q1 (by decide), fun _ => hb, by omega⟩
      · cases hi
        refine ⟨_, _, rfl, SqT.of (sm _ _ b3), rfl, _, _, rfl, _, _, rfl, rfl, ?_⟩
        refine ⟨_, rfl, _, rfl, _, rfl, _, _, rfl, rfl, _, rfl, _, _, rfl, rfl, (by show (0 : Int) < 2; decide), rfl, w, _, _, _, rfl, fun H2 s2 => ⟨rfl, _, rfl, ?_⟩⟩
        rw [b2I_zero, dec_ii]
        have k' := k H2 ((sG.trans sm).trans s2)
        unfold reachB at k'
        cases hb : liftB w 1 (decide (u ≤ 0)) (decide (u % 2 = 0)) with
        | false =>
          rw [q1 (by decide), q2 (by decide), hb] at k'
          refine iteT ⟨_, rfl, ?_⟩
          exact k'
        | true =>
          refine iteF ?_
          exact ⟨_, _, rfl, sm.trans s2, fun _ => q1 (by decide), fun _ => q2 (by decide), fun _ => hb⟩
    · obtain ⟨v1, v2, rfl, sm, q1, q2, q3⟩ := hP
      refine ⟨_, rfl, _, _, rfl, rfl, ?_⟩
      have := k H' (sG.trans sm)
      unfold reachB at this
      rw [q1 (by show 1 ≤ 3; decide), q2 (by show 2 ≤ 3; decide), q3 (by show 3 ≤ 3; decide)] at this
      exact this
theorem ok_above {f : Addr} {fd : FuncData} (F : Fun K "reach_above" "reach_above" sAbove f fd) (cL : Keeps P w K mg base CX0 1 "lift" spLift) : FnOk P w K mg base CX0 2 f fd ["way", "units", "wide"] spReachA := by
  refine F.ok scAbove (fun vs H Q E h => ?_) (fun cdv A outer s H vs Q E hr h => ?_)
  · obtain ⟨w, u, wide, rfl, _⟩ := h
    rfl
  · obtain ⟨w, u, wide, rfl, k⟩ := h
    refine ⟨_, pss_cons (ps_set (i := 3) scAbove.nd rfl (Or.inl rfl) (pe_op op_fdiv (pv 2) pe_int))
      (pss_cons (ps_for PassesOwn.never rfl (pi_tup (pe_tup (pa_cons (pe_tup (pa_cons pe_int (pa_cons pe_int pa_nil))) (pa_cons (pe_tup (pa_cons pe_int (pa_cons (pe_op op_sub (pv 3) pe_int) pa_nil))) (pa_cons (pe_tup (pa_cons pe_int (pa_cons (pv 3) pa_nil))) pa_nil)))))
          (pg_tup rfl (pgs_cons (pg_name (i := 4) scAbove.nd rfl (.inl rfl)) (pgs_cons (pg_name (i := 5) scAbove.nd rfl (.inl rfl)) pgs_nil)))
        (pss_one (ps_if (pt_cmpR op_eq (pe_k cL hr pass0 (pa_cons (pv 0) (pa_cons (pv 4) (pa_cons (pe_cmpR op_lt (pv 1) pe_int (nomark _)) (pa_cons (pe_cmpR op_eq (pe_op op_mod (pv 1) pe_int) pe_int (nomark _)) pa_nil))))) pe_int (nomark _)) (pss_one (ps_ret (pv 5))) pss_nil)))
      (pss_one (ps_ret (pe_op op_sub (pv 2) pe_int)))), ?_⟩
    refine ⟨_, rfl, _, _, rfl, rfl, ⟨by decide, by decide⟩, ?_⟩
    refine ⟨(by show 2 ≤ sizeLine; decide), fun t1 h1 => ⟨_, rfl, _, _, rfl, rfl, (by show 2 ≤ sizeLine; decide), fun t2 h2 => ⟨_, rfl, (by show 2 ≤ sizeLine; decide), fun t3 h3 => ⟨(by show 3 ≤ sizeLine; decide), fun t h4 => ⟨t, rfl, ⟨_, SqT.of upd_same⟩, ?_⟩⟩⟩⟩⟩
    have n2 : H t2 = none := by
      by_cases z : t2 = t1
      · rw [z]; exact h1
      · rw [upd_ne z] at h2; exact h2
    have g1 : ∀ b o, H b = some o → b ≠ t1 := fun b o e => ne_of_none e h1
    generalize e1 : upd H t1 (.tup [.int 1, .int 0]) = H1 at h2 h3 h4 ⊢
    have a1 : H1 t1 = some (.tup [.int 1, .int 0]) := by rw [← e1, upd_same]
    have s1 : Same H H1 := fun b o e => by rw [← e1, upd_ne (ne_of_none e h1)]; exact e
    generalize e2 : upd H1 t2 (.tup [.int 2, .int (wide / 2 - 1)]) = H2 at h3 h4 ⊢
    have a2 : H2 t2 = some (.tup [.int 2, .int (wide / 2 - 1)]) := by rw [← e2, upd_same]
    have s2 : Same H1 H2 := fun b o e => by rw [← e2, upd_ne (ne_of_none e h2)]; exact e
    generalize e3 : upd H2 t3 (.tup [.int 3, .int (wide / 2)]) = H3 at h4 ⊢
    have a3 : H3 t3 = some (.tup [.int 3, .int (wide / 2)]) := by rw [← e3, upd_same]
    have s3 : Same H2 H3 := fun b o e => by rw [← e3, upd_ne (ne_of_none e h3)]; exact e
    generalize e4 : upd H3 t (.tup [.ref t1, .ref t2, .ref t3]) = G at ⊢
    have a4 : G t = some (.tup [.ref t1, .ref t2, .ref t3]) := by rw [← e4, upd_same]
    have s4 : Same H3 G := fun b o e => by rw [← e4, upd_ne (ne_of_none e h4)]; exact e
    have b1 : G t1 = some (.tup [.int 1, .int 0]) := s4 _ _ (s3 _ _ (s2 _ _ a1))
    have b2 : G t2 = some (.tup [.int 2, .int (wide / 2 - 1)]) := s4 _ _ (s3 _ _ a2)
    have b3 : G t3 = some (.tup [.int 3, .int (wide / 2)]) := s4 _ _ a3
    have sG : Same H G := ((s1.trans s2).trans s3).trans s4
    refine for_tup (K := K) (a := t) (xs := [.ref t1, .ref t2, .ref t3]) (ReachInv w u wide (decide (u < 0)) (decide (u % 2 = 1)) false 1 2 3 G) ⟨none, none, rfl, Same.refl _, by omega, by omega, by omega⟩
      (fun i σ H' _ ⟨_, _, _, sm, _⟩ => SqT.of (sm _ _ a4)) (fun i x σ H' hi hP => ?_) (fun σ H' hP => ?_)
    · obtain ⟨v1, v2, rfl, sm, q1, q2, q3⟩ := hP
      have hi3 : i < 3 := (List.getElem?_eq_some_iff.mp hi).1
      rcases (by omega : i = 0 ∨ i = 1 ∨ i = 2) with rfl | rfl | rfl
      · cases hi
        refine ⟨_, _, rfl, SqT.of (sm _ _ b1), rfl, _, _, rfl, _, _, rfl, rfl, ?_⟩
        refine ⟨_, rfl, _, rfl, _, rfl, _, _, rfl, rfl, _, rfl, _, _, rfl, rfl, (by show (0 : Int) < 2; decide), rfl, w, _, _, _, rfl, fun H2 s2 => ⟨rfl, _, rfl, ?_⟩⟩
        rw [b2I_one, dec_ii]
        have k' := k H2 ((sG.trans sm).trans s2)
        unfold reachA at k'
        cases hb : liftB w 1 (decide (u < 0)) (decide (u % 2 = 1)) with
        | true =>
          rw [hb] at k'
          refine iteT ⟨_, rfl, ?_⟩
          exact k'
        | false =>
          refine iteF ?_
          exact ⟨_, _, rfl, sm.trans s2, fun _ => hb, by omega, by omega⟩
      · cases hi
        refine ⟨_, _, rfl, SqT.of (sm _ _ b2), rfl, _, _, rfl, _, _, rfl, rfl, ?_⟩
        refine ⟨_, rfl, _, rfl, _, rfl, _, _, rfl, rfl, _, rfl, _, _, rfl, rfl, (by show (0 : Int) < 2; decide), rfl, w, _, _, _, rfl, fun H2 s2 => ⟨rfl, _, rfl, ?_⟩⟩
        rw [b2I_one, dec_ii]
        have k' := k H2 ((sG.trans sm).trans s2)
        unfold reachA at k'
        cases hb : liftB w 2 (decide (u < 0)) (decide (u % 2 = 1)) with
        | true =>
          rw [q1 (by decide), hb] at k'
          refine iteT ⟨_, rfl, ?_⟩
          exact k'
        | false =>
          refine iteF ?_
          exact ⟨_, _, rfl, sm.trans s2, fun _ => q1 (by decide), fun _ => hb, by omega⟩
      · cases hi
        refine ⟨_, _, rfl, SqT.of (sm _ _ b3), rfl, _, _, rfl, _, _, rfl, rfl, ?_⟩
        refine ⟨_, rfl, _, rfl, _, rfl, _, _, rfl, rfl, _, rfl, _, _, rfl, rfl, (by show (0 : Int) < 2; decide), rfl, w, _, _, _, rfl, fun H2 s2 => ⟨rfl, _, rfl, ?_⟩⟩
        rw [b2I_one, dec_ii]
        have k' := k H2 ((sG.trans sm).trans s2)
        unfold reachA at k'
        cases hb : liftB w 3 (decide (u < 0)) (decide (u % 2 = 1)) with
        | true =>
          rw [q1 (by decide), q2 (by decide), hb] at k'
          refine iteT ⟨_, rfl, ?_⟩
          exact k'
        | false =>
          refine iteF ?_
          exact ⟨_, _, rfl, sm.trans s2, fun _ => q1 (by decide), fun _ => q2 (by decide), fun _ => hb⟩
    · obtain ⟨v1, v2, rfl, sm, q1, q2, q3⟩ := hP
      refine ⟨_, rfl, _, _, rfl, rfl, ?_⟩
      have := k H' (sG.trans sm)
      unfold reachA at this
      rw [q1 (by show 1 ≤ 3; decide), q2 (by show 2 ≤ 3; decide), q3 (by show 3 ≤ 3; decide)] at this
      exact this
end
end FS
set_option Elab.async false
set_option linter.all false
set_option maxRecDepth 100000
/-! shown_as. -/
namespace FS
open PySem L2
/-- the end of shown_as for good arguments -/
structure ShownEnd (D : Addr) (p : Addr) (u : Int) (s sc pl : Nat) (w : Way) (H : Hp) (Q : VK) : Prop where
  no : (sc < s ∨ pl < s) → ∀ H', Same H H' → Q .non H'
  flat : s ≤ sc → s ≤ pl → pl ≤ sc → ∀ t H', Same H H' → H' t = some (.tup [.ref p, .ref p]) → Q (.ref t) H'
  wide : s ≤ sc → sc < pl → ∀ (t p1 p2 : Addr) (u1 u2 : Int) (s1 s2 : Nat) (H' : Hp), Same H H' → H' t = some (.tup [.ref p1, .ref p2]) → WorthAt D H' p1 u1 s1 → WorthAt D H' p2 u2 s2 →
    Low (u * 10 ^ (sc - s) * 10 ^ (pl - sc) - reachB w (u * 10 ^ (sc - s)) (10 ^ (pl - sc))) pl u1 s1 → Low (u * 10 ^ (sc - s) * 10 ^ (pl - sc) + reachA w (u * 10 ^ (sc - s)) (10 ^ (pl - sc))) pl u2 s2 → Q (.ref t) H'
def spShown (K : PySem.W.Frag) (C D : Addr) : Sp := fun vs H Q E => ∃ v1 v2 v3 v4 : V, vs = [v1, v2, v3, v4] ∧
  ((Wr H v1 ∧ Refuse C E v1 H) ∨
   (∃ (p : Addr) (u : Int) (s : Nat), v1 = .ref p ∧ WorthAt D H p u s ∧
     ((NoWhole K H v2 ∧ Refuse C E v2 H) ∨
      (∃ sc : Nat, v2 = .int (sc : Int) ∧
        ((NoWhole K H v3 ∧ Refuse C E v3 H) ∨
         (∃ pl : Nat, v3 = .int (pl : Int) ∧
           (((Wr H v4 ∨ ∃ i : Int, v4 = .int i) ∧ Refuse C E v4 H) ∨
            (∃ w : Way, v4 = .str w.str ∧ sc ≤ 400 ∧ pl ≤ 400 ∧ u.natAbs < 2 ^ 1000 ∧ ShownEnd D p u s sc pl w H Q))))))))
structure MetU (P : Program) (w : World) (K : PySem.W.Frag) (mg : Str → Option Value) (base : Heap) (D : Addr) : Prop where
  ex : ∃ (f : Addr) (fd : FuncData), Meth K D "units_at" f ∧ FnOk P w K mg base (L2.CX P w) 5 f fd ["self", "scale"] (spUnitsAt D) ∧ Binds K fd ["self", "scale"] []
theorem WorthAt.same {D : Addr} {H H' : Hp} {p : Addr} {u s : Int} (e : Same H H') (h : WorthAt D H p u s) : WorthAt D H' p u s := by
  obtain ⟨dx, h⟩ := h
  exact ⟨dx, e _ _ h⟩
section
variable {P : Program} {w : World} {K : PySem.W.Frag} {mg : Str → Option Value} {base : Heap} {C D : Addr}
theorem scShown : FnScope ["worth", "scale", "places", "way", "units", "wide", "low", "high"] ["worth", "scale", "places", "way"] (defScope sShown) := ⟨rfl, rfl, rfl, by decide +kernel, rfl, by decide +kernel, by decide +kernel⟩
theorem ok_shown {f : Addr} {fd : FuncData} (F : Fun K "shown_as" "shown_as" sShown f fd) (N : Names mg) (cW : WC K mg D) (M : MkW P w K mg base D) (U : MetU P w K mg base D)
    (cNo : Keeps P w K mg base (L2.CX P w) 4 "need_worth" (spNeedWorth K C D)) (cNw : Keeps P w K mg base (L2.CX P w) 4 "need_whole" (spNeedWhole K C)) (cNy : Keeps P w K mg base (L2.CX P w) 4 "need_way" (spNeedWay C))
    (cT : Keeps P w K mg base CX0 1 "ten_to" spTen) (cB : Keeps P w K mg base CX0 2 "reach_below" spReachB) (cA : Keeps P w K mg base CX0 2 "reach_above" spReachA) :
    FnOk P w K mg base (L2.CX P w) 7 f fd ["worth", "scale", "places", "way"] (spShown K C D) := by
  refine F.okX scShown (fun vs H Q E h => ?_) (fun cdv A outer s H vs Q E hr h => ?_)
  · obtain ⟨v1, v2, v3, v4, rfl, _⟩ := h
    rfl
  · obtain ⟨v1, v2, v3, v4, rfl, h⟩ := h
    obtain ⟨fu, fdu, mu, Fu, bu⟩ := U.ex
    refine ⟨_, pss_cons (ps_expr (pe_ks (W := fun cls d _ H => E cls d H) cNo hr (takes_of rfl rfl rfl rfl) (pa_cons (pv 0) pa_nil)))
      (pss_cons (ps_expr (pe_ks (W := fun cls d _ H => E cls d H) cNw hr (takes_of rfl rfl rfl rfl) (pa_cons (pv 1) pa_nil)))
      (pss_cons (ps_expr (pe_ks (W := fun cls d _ H => E cls d H) cNw hr (takes_of rfl rfl rfl rfl) (pa_cons (pv 2) pa_nil)))
      (pss_cons (ps_expr (pe_ks (W := fun cls d _ H => E cls d H) cNy hr (takes_of rfl rfl rfl rfl) (pa_cons (pv 3) pa_nil)))
      (pss_cons (ps_if (pt_cmpR op_gt (pe_fld (pv 0) rfl) (pe_callB (call_min2 (by rfl)) (by rfl) N.min (by decide +kernel) (pa_cons (pv 1) (pa_cons (pv 2) pa_nil))) (nomark _)) (pss_one (ps_ret pe_non)) pss_nil)
      (pss_cons (ps_if (pt_cmpR op_le (pv 2) (pv 1) (nomark _)) (pss_one (ps_ret (pe_tup (pa_cons (pv 0) (pa_cons (pv 0) pa_nil))))) pss_nil)
      (pss_cons (ps_par (i := 4) (j := 5) (by rfl) scShown.nd rfl rfl (by decide) rfl rfl (pa_cons (pe_meth (E := E0) (pv 0) cW.cl mu Fu (hr.mono (by decide)) bu .nil passL (pa_cons (pv 1) pa_nil)) (pa_cons (pe_k cT hr pass0 (pa_cons (pe_op op_sub (pv 2) (pv 1)) pa_nil)) pa_nil)) (by rfl))
      (pss_cons (ps_set (i := 6) scShown.nd rfl (Or.inl rfl) (pe_op op_sub (pe_op op_mulW (pv 4) (pv 5)) (pe_k cB hr pass0 (pa_cons (pv 3) (pa_cons (pv 4) (pa_cons (pv 5) pa_nil))))))
      (pss_cons (ps_set (i := 7) scShown.nd rfl (Or.inl rfl) (pe_op op_add (pe_op op_mulW (pv 4) (pv 5)) (pe_k cA hr pass0 (pa_cons (pv 3) (pa_cons (pv 4) (pa_cons (pv 5) pa_nil))))))
      (pss_one (ps_ret (pe_tup (pa_cons (pe_worth M cW.g hr (pa_cons (pv 6) (pa_cons (pv 2) pa_nil))) (pa_cons (pe_worth M cW.g hr (pa_cons (pv 7) (pa_cons (pv 2) pa_nil))) pa_nil))))))))))))), ?_⟩
    rcases h with ⟨hw, k⟩ | ⟨p, u, so, rfl, hw, h⟩
    · obtain ⟨T, ty, hT, _⟩ := hw.ty (K := K)
      exact ⟨_, rfl, _, rfl, .inr ⟨T, ty, hT, k⟩⟩
    refine ⟨_, rfl, _, rfl, .inl ⟨p, u, so, rfl, hw, ?_⟩⟩
    rcases h with ⟨nw, k⟩ | ⟨sc, rfl, h⟩
    · exact ⟨_, rfl, _, rfl, .inr ⟨nw, k⟩⟩
    refine ⟨_, rfl, _, rfl, .inl ⟨(sc : Int), rfl, by omega, ?_⟩⟩
    rcases h with ⟨nw, k⟩ | ⟨pl, rfl, h⟩
    · exact ⟨_, rfl, _, rfl, .inr ⟨nw, k⟩⟩
    refine ⟨_, rfl, _, rfl, .inl ⟨(pl : Int), rfl, by omega, ?_⟩⟩
    rcases h with ⟨nw, k⟩ | ⟨w, rfl, hsc, hpl, hu, k⟩
    · exact ⟨_, rfl, _, rfl, .inr ⟨nw, k⟩⟩
    refine ⟨_, rfl, _, rfl, .inl ⟨w, rfl, ?_⟩⟩
    obtain ⟨dx, hp⟩ := id hw
    refine ⟨_, rfl, p, D, dx, _, _, rfl, hp, cW.cl, cW.nS, wF_scale _ _, _, rfl, _, rfl, _, _, rfl, _, _, rfl, rfl, _, rfl, ?_⟩
    refine ite2 (fun c => ?_) (fun c => ?_)
    · have c' := of_decide_eq_true c
      refine k.no ?_ H (Same.refl H)
      split at c' <;> omega
    have c' := of_decide_eq_false (Bool.eq_false_iff.mpr c)
    have hs : so ≤ sc ∧ so ≤ pl := by split at c' <;> omega
    clear c c'
    refine ⟨_, rfl, _, rfl, _, _, rfl, rfl, _, rfl, ?_⟩
    refine ite2 (fun c => ?_) (fun c => ?_)
    · have c' := of_decide_eq_true c
      refine ⟨_, rfl, _, rfl, (by show 2 ≤ sizeLine; decide), fun t ht => ?_⟩
      exact k.flat hs.1 hs.2 (by omega) t _ (fun b o e => by rw [upd_ne (ne_of_none e ht)]; exact e) upd_same
    have c' := of_decide_eq_false (Bool.eq_false_iff.mpr c)
    have hlt : sc < pl := by omega
    clear c c'
    -- units, wide
    refine ⟨_, rfl, p, dx, _, rfl, hp, wF_no _ _ (by decide +kernel) (by decide +kernel), _, rfl, p, u, so, sc, 1000, rfl, ⟨dx, hp⟩, hs.1, by omega, ⟨hu, by omega, by omega⟩, fun H1 m1 => ?_⟩
    refine ⟨_, rfl, _, rfl, _, _, rfl, rfl, pl - sc, ?_, by omega, fun H2 m2 => ⟨_, _, rfl, ?_⟩⟩
    · show [V.int ((pl : Int) - (sc : Int))] = [V.int ((pl - sc : Nat) : Int)]
      rw [show ((pl - sc : Nat) : Int) = (pl : Int) - sc by omega]
    rw [ten_cast]
    have hg : (u * 10 ^ (sc - so)).natAbs < 2 ^ (1000 + (4 * (sc - so) + 1)) := wide_lt hu (ten_abs (sc - so))
    have hwd := ten_abs (pl - sc)
    have hm : CMulW (u * 10 ^ (sc - so)) (10 ^ (pl - sc)) := wide_mul hg hwd (by omega) (by omega) (by omega)
    have kw := k.wide hs.1 hlt
    clear k
    generalize u * 10 ^ (sc - so) = g at *
    generalize (10 : Int) ^ (pl - sc) = wd at *
    refine ⟨_, rfl, _, rfl, _, _, rfl, rfl, hm, _, rfl, _, rfl, _, rfl, w, g, wd, rfl, fun H3 m3 => ⟨_, _, rfl, rfl, ?_⟩⟩
    refine ⟨_, rfl, _, rfl, _, _, rfl, rfl, hm, _, rfl, _, rfl, _, rfl, w, g, wd, rfl, fun H4 m4 => ⟨_, _, rfl, rfl, ?_⟩⟩
    refine ⟨_, rfl, _, rfl, fun p1 d1 n1 nd1 _ => worth_init (s := pl) n1 nd1 fun u1 s1 l1 H5 m5 w5 => ⟨rfl, ?_⟩⟩
    refine ⟨_, rfl, _, rfl, fun p2 d2 n2 nd2 _ => worth_init (s := pl) n2 nd2 fun u2 s2 l2 H6 m6 w6 => ⟨rfl, ?_⟩⟩
    refine ⟨(by show 2 ≤ sizeLine; decide), fun t ht => ?_⟩
    have m7 : Same H6 (upd H6 t (.tup [.ref p1, .ref p2])) := fun b o e => by
      rw [upd_ne (ne_of_none e ht)]
      exact e
    exact kw t p1 p2 u1 u2 s1 s2 _ ((((((m1.trans m2).trans m3).trans m4).trans m5).trans m6).trans m7) upd_same ((w5.same m6).same m7) (w6.same m7) l1 l2
end
end FS
set_option Elab.async false
set_option linter.all false
set_option maxRecDepth 100000
/-! The law's pen: begin, draw. -/
namespace FS
open PySem L2
def penL (x y z : V) : List (Key × V) := [(.inr "cells", x), (.inr "count", y), (.inr "left", z)]
theorem pen_cells (x y z : V) : valV (penL x y z) (.inr "cells" : Key) = some x := by rfl
theorem pen_count (x y z : V) : valV (penL x y z) (.inr "count" : Key) = some y := by rfl
theorem pen_left (x y z : V) : valV (penL x y z) (.inr "left" : Key) = some z := by rfl
theorem put_count (x y z v : V) : putK (penL x y z) (.inr "count" : Key) v = penL x v z := by rfl
theorem put_left (x y z v : V) : putK (penL x y z) (.inr "left" : Key) v = penL x y v := by rfl
/-- the pen at q, at most c draws begun -/
def PenAt (H : Hp) (q : Addr) (c : Int) : Prop := ∃ (l : Addr) (ns : List Int) (n z : Int), H q = some (.dK (penL (.ref l) (.int n) (.int z))) ∧ H l = some (.lst (ns.map V.int)) ∧ ns.length ≤ 63 ∧ 0 ≤ n ∧ n ≤ c
/-- all but the pen is as it was -/
def Keep (q : Addr) (H H' : Hp) : Prop := ∀ b o, H b = some o → b ≠ q → H' b = some o
theorem Keep.refl (q : Addr) (H : Hp) : Keep q H H := fun _ _ h _ => h
theorem Keep.trans {q : Addr} {H H1 H2 : Hp} (a : Keep q H H1) (b : Keep q H1 H2) : Keep q H H2 := fun c o h n => b c o (a c o h n) n
theorem Same.keep {q : Addr} {H H' : Hp} (a : Same H H') : Keep q H H' := fun b o h _ => a b o h
theorem PenAt.mono {H : Hp} {q : Addr} {c c' : Int} (h : PenAt H q c) (l : c ≤ c') : PenAt H q c' := by
  obtain ⟨a, ns, n, z, h1, h2, h3, h4, h5⟩ := h
  exact ⟨a, ns, n, z, h1, h2, h3, h4, by omega⟩
theorem PenAt.same {H H' : Hp} {q : Addr} {c : Int} (h : PenAt H q c) (s : Same H H') : PenAt H' q c := by
  obtain ⟨a, ns, n, z, h1, h2, h3, h4, h5⟩ := h
  exact ⟨a, ns, n, z, s _ _ h1, s _ _ h2, h3, h4, h5⟩
def spBegin (K : PySem.W.Frag) : Sp := fun vs H Q _ => ∃ (a : Addr) (ns : List Int), vs = [.ref a] ∧ SqL K H a (ns.map V.int) ∧ ns.length ≤ 63 ∧ ∀ q H', PenAt H' q 0 → Same H H' → Q (.ref q) H'
def spDraw : Sp := fun vs H Q _ => ∃ (q : Addr) (span c : Int), vs = [.ref q, .int span] ∧ PenAt H q c ∧ 0 < span ∧ span < 1073741824 ∧ c ≤ 1000000 ∧
  ∀ d H', 0 ≤ d → d < span → PenAt H' q (c + 1) → Keep q H H' → Q (.int d) H'
theorem dp_ints {K : PySem.W.Frag} {H : Hp} : ∀ ns : List Int, DpAll K H (ns.map V.int) (ns.map PyData.int)
  | [] => .nil
  | n :: r => .cons (.int n) (dp_ints r)
theorem lay_ints : ∀ ns : List Int, PyData.canLayAll0 (ns.map PyData.int) = true ∧ PyData.depthAll (ns.map PyData.int) ≤ 1
  | [] => ⟨by simp [PyData.canLayAll0], by simp [PyData.depthAll]⟩
  | n :: r => by
    obtain ⟨h1, h2⟩ := lay_ints r
    refine ⟨by simp [PyData.canLayAll0, PyData.canLay0, h1], ?_⟩
    simp only [List.map_cons, PyData.depthAll, PyData.depth]
    omega
theorem shaped_ints (ns : List Int) : SeqAt.shaped (.list (ns.map PyData.int)) = true := by
  obtain ⟨h1, h2⟩ := lay_ints ns
  show (PyData.canLay0 (.list (ns.map PyData.int)) && decide (PyData.depth (.list (ns.map PyData.int)) ≤ 64)) = true
  rw [Bool.and_eq_true]
  refine ⟨by simp only [PyData.canLay0]; exact h1, decide_eq_true ?_⟩
  simp only [PyData.depth]
  omega
theorem eqv_nil (ns : List Int) : PyData.eqv (.list (ns.map PyData.int)) (.list []) = ns.isEmpty := by
  cases ns with
  | nil => simp [PyData.eqv, PyData.eqvAll]
  | cons n r => simp [PyData.eqv, PyData.eqvAll]
section
variable {P : Program} {w : World} {K : PySem.W.Frag} {mg : Str → Option Value} {base : Heap} {C D : Addr}
theorem scBegin : FnScope ["_law_script"] ["_law_script"] (defScope sBegin) := ⟨rfl, rfl, rfl, by decide +kernel, rfl, by decide +kernel, by decide +kernel⟩
theorem ok_begin {f : Addr} {fd : FuncData} (F : Fun K "_law_begin" "_law_begin" sBegin f fd) (N : Names mg) : FnOk P w K mg base CX0 1 f fd ["_law_script"] (spBegin K) := by
  refine F.ok scBegin (fun vs H Q E h => ?_) (fun cdv A outer s H vs Q E hr h => ?_)
  · obtain ⟨a, ns, rfl, _⟩ := h
    rfl
  · obtain ⟨a, ns, rfl, hS, hl, k⟩ := h
    refine ⟨_, pss_one (ps_ret (pe_disp (pps_cons pe_str (pe_callTy call_list_of (by rfl) N.list (by decide +kernel) (pa_cons (pe_slice sl_list (pv 0) po_none (po_some pe_int)) pa_nil)) (pps_cons pe_str pe_int (pps_cons pe_str pe_int pps_nil))) (by rfl) (by rfl) (fun z => by cases z) (by decide))), ?_⟩
    intro q hq
    have m1 : Same H (upd H q (.dK [])) := fun b o e => by rw [upd_ne (ne_of_none e hq)]; exact e
    refine ⟨_, rfl, _, rfl, a, _, rfl, m1.seq hS, fun l1 h1 => ⟨l1, _, rfl, .inl (SqL.of upd_same), fun l2 h2 => ?_⟩⟩
    have ne2 : q ≠ l2 := ne_of_none (o := .dK []) (by rw [upd_ne (ne_of_none (o := .dK []) upd_same h1), upd_same]) h2
    have ne1 : q ≠ l1 := ne_of_none (o := .dK []) upd_same h1
    refine ⟨by rw [upd_ne ne2, upd_ne ne1, upd_same], [(.inr "cells", .ref l2), (.inr "count", .int 0), (.inr "left", .int 0)], rfl, (by show 3 ≤ 15; decide), ?_⟩
    refine k q _ ⟨l2, (ns.drop (HT.sIx (ns.map V.int).length 0 none)).take (HT.sIx (ns.map V.int).length (ns.map V.int).length (some 63) - HT.sIx (ns.map V.int).length 0 none), 0, 0, upd_same, ?_, ?_, by omega, by omega⟩ fun b o e => ?_
    · rw [upd_ne ne2.symm, upd_same]
      unfold cutV
      rw [List.map_take, List.map_drop]
    · rw [List.length_take, List.length_drop]
      omega
    · have e1 := m1 b o e
      have nb : b ≠ q := ne_of_none e hq
      have e2 : (upd (upd H q (.dK [])) l1 (.lst (cutV (ns.map V.int) none (some 63)))) b = some o := by rw [upd_ne (ne_of_none e1 h1)]; exact e1
      rw [upd_ne nb, upd_ne (ne_of_none e2 h2)]
      exact e2
theorem scDraw : FnScope ["_law_pen", "_law_span", "_law_digit", "_law_count", "_law_cell", "_law_first", "_law_blend"] ["_law_pen", "_law_span"] (defScope sDraw) := ⟨rfl, rfl, rfl, by decide +kernel, rfl, by decide +kernel, by decide +kernel⟩
theorem ok_draw {f : Addr} {fd : FuncData} (F : Fun K "_law_draw" "_law_draw" sDraw f fd) (N : Names mg) : FnOk P w K mg base CX0 1 f fd ["_law_pen", "_law_span"] spDraw := by
  refine F.ok scDraw (fun vs H Q E h => ?_) (fun cdv A outer s H vs Q E hr h => ?_)
  · obtain ⟨q, span, c, rfl, _⟩ := h
    rfl
  · obtain ⟨q, span, c, rfl, ⟨l, ns, n, z, hq, hl, hns, hn0, hnc⟩, sp0, sp1, hc, k⟩ := h
    have hu := hu_of hr
    refine ⟨_, pss_cons (ps_if (pt_cmpR op_ge (pe_dget hu (pv 0) pe_str (fun _ _ => rfl)) (pv 1) (nomark _))
        (pss_cons (ps_set (i := 2) scDraw.nd rfl (Or.inl rfl) (pe_op op_mod (pe_callTy call_int1 (by rfl) N.int (by decide +kernel) (pa_cons (pe_dget hu (pv 0) pe_str (fun _ _ => rfl)) pa_nil)) (pv 1)))
        (pss_cons (ps_dput hu (pv 0) pe_str (pe_op op_fdiv (pe_dget hu (pv 0) pe_str (fun _ _ => rfl)) (pv 1)) rfl)
        (pss_one (ps_ret (pv 2))))) pss_nil)
      (pss_cons (ps_set (i := 3) scDraw.nd rfl (Or.inl rfl) (pe_dget hu (pv 0) pe_str (fun _ _ => rfl)))
      (pss_cons (ps_dput hu (pv 0) pe_str (pe_op op_add (pv 3) pe_int) rfl)
      (pss_cons (ps_set (i := 4) scDraw.nd rfl (Or.inl rfl) (pe_op op_add (pe_op op_mul pe_int (pv 3)) pe_int))
      (C8.pss_cut (ps_if (pt_cmpR (op_neD hr.units) (pe_dget hu (pv 0) pe_str (fun _ _ => rfl)) (pe_lst pa_nil) (nomark _)) (pss_one (ps_set (i := 4) scDraw.nd rfl (Or.inl rfl) (pe_ix ix_list (pe_dget hu (pv 0) pe_str (fun _ _ => rfl)) (pe_op op_mod (pe_callTy call_int1 (by rfl) N.int (by decide +kernel) (pa_cons (pv 3) pa_nil)) (pe_callB call_len_seq (by rfl) N.len (by decide +kernel) (pa_cons (pe_dget hu (pv 0) pe_str (fun _ _ => rfl)) pa_nil))) (fun _ _ => rfl)))) pss_nil)
      (C8.pss_cut (ps_if (pw_and (pt_cmpR op_lt (pv 3) (pe_callB call_len_seq (by rfl) N.len (by decide +kernel) (pa_cons (pe_dget hu (pv 0) pe_str (fun _ _ => rfl)) pa_nil)) (nomark _)) (pw_and1 (pt_cmpR op_ge (pv 4) (pe_op op_pow pe_int pe_int) (nomark _)))).pt
        (pss_cons (ps_dput hu (pv 0) pe_str (pe_op op_fdiv (pe_op op_sub (pv 4) (pe_op op_pow pe_int pe_int)) (pv 1)) rfl)
        (pss_one (ps_ret (pe_op op_mod (pe_callTy call_int1 (by rfl) N.int (by decide +kernel) (pa_cons (pe_op op_sub (pv 4) (pe_op op_pow pe_int pe_int)) pa_nil)) (pv 1))))) pss_nil)
      (pss_cons (ps_set (i := 5) scDraw.nd rfl (Or.inl rfl) (pe_op op_add (pe_op op_mul (pe_op op_mod (pe_callTy call_int1 (by rfl) N.int (by decide +kernel) (pa_cons (pv 4) pa_nil)) pe_int) pe_int) (pe_op op_mul (pe_op op_mul pe_int (pv 3)) (pv 3))))
      (C8.pss_cut (ps_set (i := 6) scDraw.nd rfl (Or.inl rfl) (pe_op op_mod (pe_callTy call_int1 (by rfl) N.int (by decide +kernel) (pa_cons (pe_op op_add (pe_op op_add (pv 5) (pe_op op_mul pe_int (pv 3))) pe_int) pa_nil)) pe_int))
      (C8.pss_cut (ps_set (i := 6) scDraw.nd rfl (Or.inl rfl) (pe_op op_mod (pe_callTy call_int1 (by rfl) N.int (by decide +kernel) (pa_cons (pe_op op_mul (pv 6) (pe_op op_add (pv 6) pe_int)) pa_nil)) pe_int))
      (pss_one (ps_ret (pe_op op_mod (pe_callTy call_int1 (by rfl) N.int (by decide +kernel) (pa_cons (pe_op op_fdiv (pe_op op_mod (pe_callTy call_int1 (by rfl) N.int (by decide +kernel) (pa_cons (pe_op op_add (pe_op op_mul (pv 6) (pv 6)) (pe_op op_mul pe_int (pv 6))) pa_nil)) pe_int) pe_int) pa_nil)) (pv 1)))))))))))), ?_⟩
    have nlq : l ≠ q := ne_of hl hq (by intro z; cases z)
    -- the pen behind: its count n', what is left z'
    have pen : ∀ (H0 H' : Hp) (n' z' : Int), H0 l = some (.lst (ns.map V.int)) → H' = upd H0 q (.dK (penL (.ref l) (.int n') (.int z'))) → 0 ≤ n' → n' ≤ c + 1 → PenAt H' q (c + 1) := fun H0 H' n' z' e0 e h1 h2 =>
      ⟨l, ns, n', z', by rw [e, upd_same], by rw [e, upd_ne nlq]; exact e0, hns, h1, h2⟩
    have md : ∀ x : Int, 0 ≤ x % span ∧ x % span < span := fun x => ⟨Int.emod_nonneg x (by omega), Int.emod_lt_of_pos x sp0⟩
    -- left >= span
    refine ⟨_, rfl, q, _, rfl, .inl ⟨_, .inr "left", .inl hq, rfl, (pen_left _ _ _).symm⟩, _, rfl, _, _, rfl, rfl, _, rfl, ?_⟩
    refine ite2 (fun _ => ?_) (fun _ => ?_)
    · refine ⟨_, rfl, q, _, rfl, .inl ⟨_, .inr "left", .inl hq, rfl, (pen_left _ _ _).symm⟩, .inl ⟨_, rfl, _, rfl, _, _, rfl, rfl, sp0, ?_⟩⟩
      refine ⟨_, rfl, q, _, rfl, .inl ⟨_, .inr "left", .inl hq, rfl, (pen_left _ _ _).symm⟩, _, rfl, _, _, rfl, rfl, ⟨sp0, sp1⟩, _, rfl, q, _, rfl, DPut.k (k := Sum.inr "left") hq (by show 3 < sizeLine; decide), ?_⟩
      refine ⟨_, rfl, k _ _ (md _).1 (md _).2 (pen H _ n (z / span) hl (by rw [put_left]) hn0 (by omega)) fun b o e hb => ?_⟩
      rw [upd_ne hb]
      exact e
    -- count
    refine ⟨_, rfl, q, _, rfl, .inl ⟨_, .inr "count", .inl hq, rfl, (pen_count _ _ _).symm⟩, ?_⟩
    refine ⟨_, rfl, _, _, rfl, rfl, _, rfl, q, _, rfl, DPut.k (k := Sum.inr "count") hq (by show 3 < sizeLine; decide), ?_⟩
    rw [put_count]
    have hq1 : (upd H q (.dK (penL (.ref l) (.int (n + 1)) (.int z)))) q = some (.dK (penL (.ref l) (.int (n + 1)) (.int z))) := upd_same
    have hl1 : (upd H q (.dK (penL (.ref l) (.int (n + 1)) (.int z)))) l = some (.lst (ns.map V.int)) := by rw [upd_ne nlq]; exact hl
    have kp1 : Keep q H (upd H q (.dK (penL (.ref l) (.int (n + 1)) (.int z)))) := fun b o e hb => by rw [upd_ne hb]; exact e
    show tSeq _ _ _ _ (upd H q (.dK (penL (.ref l) (.int (n + 1)) (.int z))))
    generalize upd H q (.dK (penL (.ref l) (.int (n + 1)) (.int z))) = H1 at hq1 hl1 kp1 ⊢
    refine ⟨_, rfl, _, _, rfl, rfl, .inl ⟨by decide, by decide⟩, _, _, rfl, rfl, ?_⟩
    -- cell
    refine ⟨fun σ' H' => ∃ cell : Int, σ' = [some (.ref q), some (.int span), none, some (.int n), some (.int cell), none, none] ∧ H' q = some (.dK (penL (.ref l) (.int (n + 1)) (.int z))) ∧ H' l = some (.lst (ns.map V.int)) ∧ Keep q H H', ?_, ?_⟩
    · refine ⟨_, rfl, q, _, rfl, .inl ⟨_, .inr "cells", .inl hq1, rfl, (pen_cells _ _ _).symm⟩, (by show 0 ≤ sizeLine; decide), fun p hp => ?_⟩
      have hq2 : (upd H1 p (.lst [])) q = some (.dK (penL (.ref l) (.int (n + 1)) (.int z))) := by rw [upd_ne (ne_of_none hq1 hp)]; exact hq1
      have hl2 : (upd H1 p (.lst [])) l = some (.lst (ns.map V.int)) := by rw [upd_ne (ne_of_none hl1 hp)]; exact hl1
      have kp2 : Keep q H (upd H1 p (.lst [])) := fun b o e hb => by
        have := kp1 b o e hb
        rw [upd_ne (ne_of_none this hp)]
        exact this
      refine ⟨.list (ns.map PyData.int), .list [], .lst (SqL.of hl2) (dp_ints ns), .lst (SqL.of upd_same) .nil, shaped_ints ns, shaped_ints [], _, rfl, ?_⟩
      rw [eqv_nil]
      refine ite2 (fun c1 => ?_) (fun c1 => ?_)
      · have ne : 0 < ns.length := by
          cases ns with
          | nil => exact absurd c1 (by decide)
          | cons _ _ => exact Nat.succ_pos _
        refine ⟨_, rfl, q, _, rfl, .inl ⟨_, .inr "cells", .inl hq2, rfl, (pen_cells _ _ _).symm⟩, _, rfl, .inl ⟨_, rfl, _, rfl, q, _, rfl, .inl ⟨_, .inr "cells", .inl hq2, rfl, (pen_cells _ _ _).symm⟩, l, _, rfl, .inl (SqL.of hl2), _, _, rfl, rfl, ?_, ?_⟩⟩
        · rw [List.length_map]
          omega
        · have b0 : 0 ≤ n % (((ns.map V.int).length : Nat) : Int) := Int.emod_nonneg _ (by rw [List.length_map]; omega)
          have b1 : n % (((ns.map V.int).length : Nat) : Int) < ((ns.map V.int).length : Nat) := Int.emod_lt_of_pos _ (by rw [List.length_map]; omega)
          have hlt : (n % (((ns.map V.int).length : Nat) : Int)).toNat < ns.length := by rw [List.length_map] at *; omega
          refine ⟨l, _, _, .int (ns[(n % (((ns.map V.int).length : Nat) : Int)).toNat]'hlt), rfl, rfl, SqL.of hl2, at_of (j := (n % (((ns.map V.int).length : Nat) : Int)).toNat) (by omega) (by rw [List.getElem?_map, List.getElem?_eq_getElem hlt]; rfl), ?_⟩
          exact ⟨_, rfl, hq2, hl2, kp2⟩
      · exact ⟨_, rfl, hq2, hl2, kp2⟩
    · rintro σ' H2 ⟨cell, rfl, hq2, hl2, kp2⟩
      have pen2 : PenAt H2 q (c + 1) := ⟨l, ns, n + 1, z, hq2, hl2, hns, by omega, by omega⟩
      refine ⟨fun σ' H' => σ' = [some (.ref q), some (.int span), none, some (.int n), some (.int cell), none, none] ∧ H' = H2, ?_, ?_⟩
      · refine ⟨_, rfl, _, rfl, q, _, rfl, .inl ⟨_, .inr "cells", .inl hq2, rfl, (pen_cells _ _ _).symm⟩, l, _, rfl, .inl (SqL.of hl2), _, _, rfl, rfl, _, rfl, ?_⟩
        refine ite2 (fun _ => ?_) (fun _ => ?_)
        · refine ⟨_, rfl, _, _, rfl, rfl, ⟨by decide, by decide, by decide⟩, _, _, rfl, rfl, _, rfl, ?_⟩
          refine ite2 (fun _ => ?_) (fun _ => ?_)
          · refine ⟨_, rfl, _, _, rfl, rfl, ⟨by decide, by decide, by decide⟩, _, _, rfl, rfl, _, rfl, _, _, rfl, rfl, ⟨sp0, sp1⟩, _, rfl, q, _, rfl, DPut.k (k := Sum.inr "left") hq2 (by show 3 < sizeLine; decide), ?_⟩
            refine ⟨_, rfl, _, _, rfl, rfl, ⟨by decide, by decide, by decide⟩, _, _, rfl, rfl, .inl ⟨_, rfl, _, rfl, _, _, rfl, rfl, sp0, ?_⟩⟩
            refine k _ _ (md _).1 (md _).2 (pen H2 _ (n + 1) _ hl2 (by rw [put_left]) (by omega) (by omega)) fun b o e hb => ?_
            rw [upd_ne hb]
            exact kp2 b o e hb
          · exact ⟨rfl, rfl⟩
        · exact ⟨rfl, rfl⟩
      · rintro σ' H3 ⟨rfl, eH⟩
        rw [← eH] at pen2 kp2
        clear eH hq2 hl2
        refine ⟨_, rfl, .inl ⟨_, rfl, _, _, rfl, rfl, (by show (0 : Int) < 2147482811; decide), _, _, rfl, rfl, .inr ⟨by decide, by decide⟩, _, rfl, _, _, rfl, rfl, .inl ⟨by decide, by decide⟩, _, rfl, _, _, rfl, rfl, .inr ⟨by omega, by omega⟩, _, _, rfl, rfl, ?_⟩⟩
        have bd : ∀ x M : Int, 0 < M → 0 ≤ x % M ∧ x % M < M := fun x M h => ⟨Int.emod_nonneg x (by omega), Int.emod_lt_of_pos x h⟩
        refine ⟨fun σ' H' => ∃ (y : Int) (v5 : Option V), 0 ≤ y ∧ y < 2147482873 ∧ σ' = [some (.ref q), some (.int span), none, some (.int n), some (.int cell), v5, some (.int y)] ∧ H' = H3, ?_, ?_⟩
        · refine ⟨_, rfl, _, rfl, _, _, rfl, rfl, .inl ⟨by decide, by decide⟩, _, _, rfl, rfl, _, _, rfl, rfl, .inl ⟨_, rfl, _, _, rfl, rfl, (by show (0 : Int) < 2147482873; decide), ?_⟩⟩
          exact ⟨_, _, (bd _ _ (by decide)).1, (bd _ _ (by decide)).2, rfl, rfl⟩
        rintro σ' H4 ⟨y, v5, y0, y1, rfl, eH⟩
        subst eH
        refine ⟨fun σ' H' => ∃ (y : Int) (v5 : Option V), 0 ≤ y ∧ y < 2147482951 ∧ σ' = [some (.ref q), some (.int span), none, some (.int n), some (.int cell), v5, some (.int y)] ∧ H' = H4, ?_, ?_⟩
        · refine ⟨_, rfl, _, rfl, _, _, rfl, rfl, _, _, rfl, rfl, .inl ⟨by omega, by omega⟩, .inl ⟨_, rfl, _, _, rfl, rfl, (by show (0 : Int) < 2147482951; decide), ?_⟩⟩
          exact ⟨_, _, (bd _ _ (by decide)).1, (bd _ _ (by decide)).2, rfl, rfl⟩
        rintro σ' H5 ⟨y', v5', y0', y1', rfl, eH⟩
        subst eH
        refine ⟨_, rfl, _, rfl, _, _, rfl, rfl, .inl ⟨by omega, by omega⟩, _, rfl, _, _, rfl, rfl, .inl ⟨by decide, by decide⟩, _, _, rfl, rfl, .inl ⟨_, rfl, _, _, rfl, rfl, (by show (0 : Int) < 2147483033; decide), _, _, rfl, rfl, ⟨by decide, by decide⟩, .inl ⟨_, rfl, _, rfl, _, _, rfl, rfl, sp0, ?_⟩⟩⟩
        exact k _ _ (md _).1 (md _).2 pen2 kp2
end
end FS
set_option Elab.async false
set_option linter.all false
set_option maxRecDepth 100000
/-! _law_pick, _law_ten. -/
namespace FS
open PySem L2
def spPick : Sp := fun vs H Q _ => ∃ (q a : Addr) (xs : List V) (c : Int), vs = [.ref q, .ref a] ∧ PenAt H q c ∧ H a = some (.lst xs) ∧ 0 < xs.length ∧ xs.length ≤ 1000 ∧ c ≤ 1000000 ∧
  ∀ x ∈ xs, ∀ H', PenAt H' q (c + 1) → Keep q H H' → Q x H'
theorem op_mul_str {X : Cx} : OpR X (binaryOp .Mult) (fun x y H Q => ∃ (z : Str) (k : Int), x = .str z ∧ y = .int k ∧ z.length ≤ 16 ∧ 0 ≤ k ∧ k ≤ 1000000 ∧ Q (.str (Txt.mul z k)) H) := by
  intro pins s σ H x y v u Q I rx ry h
  obtain ⟨z, k, rfl, rfl, h1, h2, h3, q⟩ := h
  obtain ⟨t, rfl⟩ := rx
  obtain ⟨t', rfl⟩ := ry
  exact PySem.W.KXi.mul (n := z.length) rfl h1 (by omega) (by omega) fun t2 k2 _ _ => ⟨.str _, H, I.tok _, ⟨_, rfl⟩, q⟩
section
variable {P : Program} {w : World} {K : PySem.W.Frag} {mg : Str → Option Value} {base : Heap} {C D : Addr}
theorem scPick : FnScope ["_law_pen", "_law_some"] ["_law_pen", "_law_some"] (defScope sPick) := ⟨rfl, rfl, rfl, by decide +kernel, rfl, by decide +kernel, by decide +kernel⟩
theorem ok_pick {f : Addr} {fd : FuncData} (F : Fun K "_law_pick" "_law_pick" sPick f fd) (N : Names mg) (cD : Keeps P w K mg base CX0 1 "_law_draw" spDraw) : FnOk P w K mg base CX0 2 f fd ["_law_pen", "_law_some"] spPick := by
  refine F.ok scPick (fun vs H Q E h => ?_) (fun cdv A outer s H vs Q E hr h => ?_)
  · obtain ⟨q, a, xs, c, rfl, _⟩ := h
    rfl
  · obtain ⟨q, a, xs, c, rfl, hP, ha, l0, l1, hc, k⟩ := h
    refine ⟨_, pss_one (ps_ret (pe_ix ix_list (pv 1) (pe_k cD hr pass0 (pa_cons (pv 0) (pa_cons (pe_callB call_len_seq (by rfl) N.len (by decide +kernel) (pa_cons (pv 1) pa_nil)) pa_nil))) (fun _ _ => rfl))), ?_⟩
    have na : a ≠ q := by
      obtain ⟨_, _, _, _, hq, _⟩ := hP
      exact ne_of ha hq (by intro z; cases z)
    refine ⟨_, rfl, _, rfl, _, rfl, a, _, rfl, .inl (SqL.of ha), q, ((xs.length : Nat) : Int), c, rfl, hP, by omega, by omega, hc, fun d H' d0 d1 hP' kp => ?_⟩
    have hlt : d.toNat < xs.length := by omega
    exact ⟨a, xs, _, xs[d.toNat]'hlt, rfl, rfl, SqL.of (kp _ _ ha na), at_of (j := d.toNat) (by omega) (List.getElem?_eq_getElem hlt), k _ (List.getElem_mem hlt) H' hP' kp⟩
end
/-! ### 10 to a number, by its text -/
theorem flat_zeros : ∀ n : Nat, ((List.replicate n (#[48] : Array Nat)).foldl (· ++ ·) #[]).toList = List.replicate n 48 := by
  have key : ∀ (n : Nat) (a : Array Nat), ((List.replicate n (#[48] : Array Nat)).foldl (· ++ ·) a).toList = a.toList ++ List.replicate n 48 := by
    intro n
    induction n with
    | zero => intro a; simp
    | succ n ih =>
      intro a
      rw [List.replicate_succ, List.foldl_cons, ih, List.replicate_succ]
      simp
  intro n
  rw [key]
  simp
theorem mul_zeros (n : Nat) : (Txt.mul "0" (n : Int)).cps.toList = List.replicate n 48 := by
  unfold Txt.mul
  by_cases h : (n : Int) < 1
  · rw [if_pos h]
    have : n = 0 := by omega
    subst this
    rfl
  · rw [if_neg h]
    split
    · rename_i e
      rw [Bool.or_eq_true] at e
      rcases e with e | e
      · have : n = 1 := by
          have := of_decide_eq_true e
          omega
        subst this
        rfl
      · exact absurd e (by decide)
    · rw [Int.toNat_natCast]
      exact flat_zeros n
theorem dig_zeros : ∀ (n acc : Nat), (List.replicate n 48).foldl (fun acc c => acc * 10 + (c - 48)) acc = acc * 10 ^ n
  | 0, acc => by simp
  | n + 1, acc => by
    rw [List.replicate_succ, List.foldl_cons, dig_zeros n, Nat.pow_succ]
    rw [show acc * 10 + (48 - 48) = acc * 10 by omega, Nat.mul_assoc, Nat.mul_comm 10]
theorem ten_text (n : Nat) (h : n ≤ 600) : PySem.intText? (("1" : Str) ++ Txt.mul "0" (n : Int)) = some ((10 : Int) ^ n) ∧ (("1" : Str) ++ Txt.mul "0" (n : Int)).length = n + 1 := by
  have e : (("1" : Str) ++ Txt.mul "0" (n : Int)).cps.toList = 49 :: List.replicate n 48 := by
    show (#[49] ++ (Txt.mul "0" (n : Int)).cps).toList = _
    rw [Array.toList_append, mul_zeros]
    rfl
  have l : (("1" : Str) ++ Txt.mul "0" (n : Int)).length = n + 1 := by
    show (("1" : Str) ++ Txt.mul "0" (n : Int)).cps.size = n + 1
    rw [← Array.length_toList, e]
    simp
  refine ⟨?_, l⟩
  rw [intText_digits (by
    rw [e]
    intro c hc
    rcases List.mem_cons.mp hc with rfl | hc
    · decide
    · have := List.eq_of_mem_replicate hc
      omega) (by rw [e]; simp) (by omega), e]
  unfold PySem.NumText.digitsVal
  rw [List.foldl_cons, dig_zeros, ← ten_cast]
  simp
def spLTen : Sp := fun vs H Q _ => ∃ n : Nat, vs = [.int (n : Int)] ∧ n ≤ 600 ∧ Q (.int (10 ^ n)) H
section
variable {P : Program} {w : World} {K : PySem.W.Frag} {mg : Str → Option Value} {base : Heap} {C D : Addr}
theorem scLTen : FnScope ["_law_number"] ["_law_number"] (defScope sLTen) := ⟨rfl, rfl, rfl, by decide +kernel, rfl, by decide +kernel, by decide +kernel⟩
theorem ok_lten {f : Addr} {fd : FuncData} (F : Fun K "_law_ten" "_law_ten" sLTen f fd) (N : Names mg) : FnOk P w K mg base CX0 1 f fd ["_law_number"] spLTen := by
  refine F.ok scLTen (fun vs H Q E h => ?_) (fun cdv A outer s H vs Q E hr h => ?_)
  · obtain ⟨n, rfl, _⟩ := h
    rfl
  · obtain ⟨n, rfl, hn, k⟩ := h
    refine ⟨_, pss_one (ps_ret (pe_callTy call_int_str (by rfl) N.int (by decide +kernel) (pa_cons (pe_op op_add_str pe_str (pe_op op_mul_str pe_str (pv 0))) pa_nil))), ?_⟩
    obtain ⟨t1, t2⟩ := ten_text n hn
    have l0 : (Txt.mul "0" (n : Int)).length = n := by
      show (Txt.mul "0" (n : Int)).cps.size = n
      rw [← Array.length_toList, mul_zeros]
      simp
    refine ⟨_, rfl, _, _, rfl, rfl, by decide, by omega, by omega, _, _, rfl, rfl, ?_, _, _, rfl, t1, by rw [t2]; omega, k⟩
    rw [l0, show ("1" : Str).length = 1 from rfl, sizeLine_eq]
    omega
end
end FS
set_option Elab.async false
set_option linter.all false
set_option maxRecDepth 100000
/-! _law_low: trailing noughts by the text. -/
namespace FS
open PySem L2 TL
/-- the noughts at the end of a list of signs -/
def tz (l : List Nat) : Nat := (l.reverse.takeWhile (· == 48)).length
theorem tw_snoc {p : Nat → Bool} {c : Nat} (h : p c = false) : ∀ l : List Nat, (l ++ [c]).takeWhile p = l.takeWhile p
  | [] => by simp [List.takeWhile_cons, h]
  | a :: r => by
    simp only [List.cons_append, List.takeWhile_cons]
    rw [tw_snoc h r]
theorem tz_minus (l : List Nat) : tz (45 :: l) = tz l := by
  unfold tz
  rw [List.reverse_cons, tw_snoc (by decide)]
theorem tz_le (l : List Nat) : tz l ≤ l.length := by
  unfold tz
  have := List.IsPrefix.length_le (List.takeWhile_prefix (l := l.reverse) (p := (· == 48)))
  simpa using this
theorem tz_snoc (l : List Nat) (c : Nat) : tz (l ++ [c]) = if c = 48 then tz l + 1 else 0 := by
  unfold tz
  rw [List.reverse_append, List.reverse_singleton, List.singleton_append, List.takeWhile_cons]
  by_cases h : c = 48
  · subst h
    simp
  · simp [h]
/-- what the text's noughts say of the number -/
theorem tz_num : ∀ n : Nat, 0 < n → ∃ q, n = q * 10 ^ tz (numL n) ∧ q % 10 ≠ 0 := by
  intro n
  induction n using Nat.strongRecOn with
  | _ n ih =>
    intro h0
    by_cases h : n < 10
    · have e : tz (numL n) = 0 := by
        rw [numL_lt h, show [48 + n] = [] ++ [48 + n] from rfl, tz_snoc, if_neg (by omega)]
      refine ⟨n, by rw [e]; omega, by omega⟩
    · have e := numL_step (n := n) (by omega)
      rw [e, tz_snoc]
      by_cases z : n % 10 = 0
      · rw [if_pos (by omega)]
        obtain ⟨q, h1, h2⟩ := ih (n / 10) (by omega) (by omega)
        refine ⟨q, ?_, h2⟩
        rw [Nat.pow_succ, ← Nat.mul_assoc, ← h1]
        omega
      · rw [if_neg (by omega)]
        exact ⟨n, by omega, z⟩
theorem int_text (u : Int) (h : u ≠ 0) : ∃ l : List Nat, (Str.ofString (toString u)).cps.toList = l ∧ tz l = tz (numL u.natAbs) ∧ l.length ≤ (numL u.natAbs).length + 1 := by
  by_cases n : u < 0
  · refine ⟨45 :: numL u.natAbs, ?_, tz_minus _, by simp⟩
    rw [PyProof.Rows.toString_neg n, PyProof.Rows.signs_ofString]
    have e : 0 - u = ((u.natAbs : Nat) : Int) := by omega
    rw [e]
    have t := tl_num u.natAbs
    have t2 : (toString ((u.natAbs : Nat) : Int)).toList.map Char.toNat = numL u.natAbs := by
      rw [← PyProof.Rows.signs_ofString]
      exact t
    rw [String.toList_append, List.map_append, t2]
    rfl
  · refine ⟨numL u.natAbs, ?_, rfl, by omega⟩
    have e : u = ((u.natAbs : Nat) : Int) := by omega
    have t := tl_num u.natAbs
    rw [← e] at t
    exact t
theorem rstrip_len (x : Str) : (Txt.rstripChars x "0").length = x.length - tz x.cps.toList := by
  have hg : (fun c => (("0" : Str).cps.contains c)) = (fun c : Nat => c == 48) := by
    funext c
    show (#[48] : Array Nat).contains c = _
    simp
    rfl
  unfold Txt.rstripChars Txt.stripBy
  have hh : PySem.stripHi ("0" : Str).cps.contains true x (PySem.stripLo ("0" : Str).cps.contains false x) = x.length - tz x.cps.toList := by
    unfold PySem.stripHi PySem.stripLo tz
    simp only [if_true, Bool.false_eq_true, if_false, List.drop_zero]
    show x.length - (List.takeWhile (fun c => (("0" : Str).cps.contains c)) x.cps.toList.reverse).length = _
    rw [hg]
  split
  · rename_i h
    unfold PySem.stripSame at h
    rw [Bool.and_eq_true, hh] at h
    have := of_decide_eq_true h.2
    omega
  · unfold PySem.stripped
    rw [hh]
    rw [show PySem.stripLo ("0" : Str).cps.contains false x = 0 from rfl]
    rw [show ∀ y : Str, y.length = y.cps.toList.length from fun y => (Array.length_toList (xs := y.cps)).symm, StrLaws.strSub_toList]
    have hx : x.cps.toList.length = x.length := Array.length_toList
    have hs : x.cps.size = x.length := rfl
    simp
    omega
/-- the law's way to the own scale -/
theorem low_text (u : Int) (s : Nat) (h : u ≠ 0) : Low u s (u / 10 ^ (min s (tz (numL u.natAbs)))) (s - min s (tz (numL u.natAbs))) := by
  obtain ⟨q, e, hq⟩ := tz_num u.natAbs (by omega)
  generalize tz (numL u.natAbs) = t at *
  have key : ∀ k : Nat, k ≤ t → ∃ v : Int, u = v * 10 ^ k ∧ u / 10 ^ k = v ∧ (k = t → v % 10 ≠ 0) := fun k hk => by
    have e2 : ∃ v : Int, u = v * 10 ^ t ∧ v.natAbs = q := by
      have ec : ((q * 10 ^ t : Nat) : Int) = (q : Int) * 10 ^ t := by rw [Int.natCast_mul, ten_cast]
      by_cases n : u < 0
      · refine ⟨-(q : Int), ?_, by omega⟩
        rw [Int.neg_mul, ← ec, ← e]
        omega
      · refine ⟨(q : Int), ?_, by omega⟩
        rw [← ec, ← e]
        omega
    obtain ⟨v, hv, hvq⟩ := e2
    refine ⟨v * 10 ^ (t - k), ?_, ?_, fun z => ?_⟩
    · rw [Int.mul_assoc, ← Int.pow_add, show t - k + k = t by omega]
      exact hv
    · rw [hv, show (10 : Int) ^ t = 10 ^ (t - k) * 10 ^ k by rw [← Int.pow_add, show t - k + k = t by omega], ← Int.mul_assoc]
      exact Int.mul_ediv_cancel _ (Int.ne_of_gt (ten_pos k))
    · subst z
      rw [Nat.sub_self, Int.pow_zero, Int.mul_one]
      omega
  obtain ⟨v, h1, h2, h3⟩ := key (min s t) (Nat.min_le_right _ _)
  rw [h2]
  refine ⟨Nat.sub_le _ _, ?_, ?_, fun z => absurd z h⟩
  · rw [show s - (s - min s t) = min s t by omega]
    exact h1
  · by_cases c : s ≤ t
    · exact .inl (by omega)
    · exact .inr (h3 (by omega))
def spLow : Sp := fun vs H Q _ => ∃ (u : Int) (s : Nat), vs = [.int u, .int (s : Int)] ∧ u.natAbs < 10 ^ 400 ∧ s ≤ 600 ∧ ∀ (u' : Int) (s' : Nat), Low u s u' s' → ∀ p H', Same H H' → H' p = some (.tup [.int u', .int (s' : Int)]) → Q (.ref p) H'
section
variable {P : Program} {w : World} {K : PySem.W.Frag} {mg : Str → Option Value} {base : Heap} {C D : Addr}
theorem scLow : FnScope ["_law_units", "_law_scale", "_law_text", "_law_tail"] ["_law_units", "_law_scale"] (defScope sLow) := ⟨rfl, rfl, rfl, by decide +kernel, rfl, by decide +kernel, by decide +kernel⟩
theorem ok_low {f : Addr} {fd : FuncData} (F : Fun K "_law_low" "_law_low" sLow f fd) (N : Names mg) (cT : Keeps P w K mg base CX0 1 "_law_ten" spLTen) : FnOk P w K mg base CX0 2 f fd ["_law_units", "_law_scale"] spLow := by
  refine F.ok scLow (fun vs H Q E h => ?_) (fun cdv A outer s H vs Q E hr h => ?_)
  · obtain ⟨u, s, rfl, _⟩ := h
    rfl
  · obtain ⟨u, sc, rfl, hu, hs, k⟩ := h
    refine ⟨_, pss_cons (ps_if (pt_cmpR op_eq (pv 0) pe_int (nomark _)) (pss_one (ps_ret (pe_tup (pa_cons pe_int (pa_cons pe_int pa_nil))))) pss_nil)
      (pss_cons (ps_set (i := 2) scLow.nd rfl (Or.inl rfl) (pe_callTy call_str_int (by rfl) N.str (by decide +kernel) (pa_cons (pv 0) pa_nil)))
      (C8.pss_cut (ps_set (i := 3) scLow.nd rfl (Or.inl rfl) (pe_callB (call_min2 (by rfl)) (by rfl) N.min (by decide +kernel) (pa_cons (pv 1) (pa_cons (pe_op op_sub (pe_callB call_len_str (by rfl) N.len (by decide +kernel) (pa_cons (pv 2) pa_nil))
        (pe_callB call_len_str (by rfl) N.len (by decide +kernel) (pa_cons (pe_m1 PySem.F.slot_str_rstrip PySem.F.type_str_rstrip mt_rstripChars (pv 2) pe_str) pa_nil))) pa_nil))))
      (pss_one (ps_ret (pe_tup (pa_cons (pe_op op_fdivW (pv 0) (pe_k cT hr pass0 (pa_cons (pv 3) pa_nil))) (pa_cons (pe_op op_sub (pv 1) (pv 3)) pa_nil))))))), ?_⟩
    have nw : ∀ {G : Hp} {t : Addr} {o : HO}, G t = none → Same G (upd G t o) := fun {G t o} h b o' e => by
      rw [upd_ne (ne_of_none e h)]
      exact e
    refine ⟨_, rfl, rfl, _, rfl, ?_⟩
    refine ite2 (fun c => ?_) (fun c => ?_)
    · have e : u = 0 := V.int.inj (of_decide_eq_true c)
      subst e
      exact ⟨(by show 2 ≤ sizeLine; decide), fun p hp => k 0 0 (low_zero sc) p _ (nw hp) upd_same⟩
    have ne : u ≠ 0 := fun z => c (by rw [z]; exact decide_eq_true rfl)
    obtain ⟨l, e1, e2, e3⟩ := int_text u ne
    have hlog : u.natAbs.log2 < 1920 := by
      refine PySem.Flt.log2_lt_of (by omega) (Nat.lt_trans hu ?_)
      exact Nat.lt_of_lt_of_le (ten_bits 400) (Nat.pow_le_pow_right (by decide) (by omega))
    have hl : l.length ≤ 401 := by
      have := numL_len (n := u.natAbs) (k := 400) (by decide) hu
      omega
    have xl : (Str.ofString (toString u)).length = l.length := by
      rw [show ∀ y : Str, y.length = y.cps.toList.length from fun y => (Array.length_toList (xs := y.cps)).symm, e1]
    have hsz : (Str.ofString (toString u)).length ≤ sizeLine := by
      rw [xl, sizeLine_eq]
      omega
    have rl := rstrip_len (Str.ofString (toString u))
    rw [e1, e2] at rl
    have ht := tz_le l
    rw [e2] at ht
    refine ⟨_, rfl, _, rfl, hlog, ?_⟩
    have em : (if (((Str.ofString (toString u)).length : Int) - ((Txt.rstripChars (Str.ofString (toString u)) "0").length : Int)) < (sc : Int) then (((Str.ofString (toString u)).length : Int) - ((Txt.rstripChars (Str.ofString (toString u)) "0").length : Int)) else (sc : Int)) = ((min sc (tz (numL u.natAbs)) : Nat) : Int) := by
      rw [rl, xl]
      split <;> omega
    have lw := low_text u sc ne
    have hm : min sc (tz (numL u.natAbs)) ≤ sc := Nat.min_le_left _ _
    generalize min sc (tz (numL u.natAbs)) = m at *
    refine ⟨fun σ' H' => σ' = [some (.int u), some (.int (sc : Int)), some (.str (Str.ofString (toString u))), some (.int (m : Int))] ∧ H' = H, ?_, ?_⟩
    · refine ⟨_, rfl, _, rfl, _, rfl, hsz, _, rfl, ⟨_, rfl⟩, _, _, rfl, rfl, hsz, _, rfl, ?_, _, _, rfl, rfl, _, _, rfl, ?_⟩
      · rw [rl, xl, sizeLine_eq]
        omega
      · exact ⟨congrArg (fun z : Int => ([some (V.int u), some (V.int (sc : Int)), some (V.str (Str.ofString (toString u))), some (V.int z)] : St)) em, rfl⟩
    · rintro σ' H' ⟨rfl, eH⟩
      subst eH
      refine ⟨_, rfl, _, rfl, m, rfl, by omega, _, _, rfl, rfl, wide_div (ten_pos m) (ten_abs m) (by omega) (by omega), _, rfl, _, rfl, _, _, rfl, rfl, (by show 2 ≤ sizeLine; decide), fun p hp => ?_⟩
      refine k _ _ lw p _ (nw hp) ?_
      rw [upd_same, show ((sc - m : Nat) : Int) = (sc : Int) - m by omega]
end
end FS
set_option Elab.async false
set_option linter.all false
set_option maxRecDepth 100000
/-! _law_figures, _law_drawn. -/
namespace FS
open PySem L2
theorem ten_le {a b : Nat} (h : a ≤ b) : (10 : Int) ^ a ≤ 10 ^ b := by
  have := Nat.pow_le_pow_right (n := 10) (by decide) h
  rw [← ten_cast, ← ten_cast]
  omega
def spFigures : Sp := fun vs H Q _ => ∃ (q : Addr) (most c : Int), vs = [.ref q, .int most] ∧ PenAt H q c ∧ 1 ≤ most ∧ most ≤ 60 ∧ c ≤ 900000 ∧
  ∀ (u : Int) H', u.natAbs < 10 ^ 80 → PenAt H' q (c + 30) → Keep q H H' → Q (.int u) H'
theorem abs_lt_pow {x : Int} {k : Nat} (h0 : 0 ≤ x) (h : x < 10 ^ k) : x.natAbs < 2 ^ (4 * k + 1) := by
  have := ten_abs k
  omega
section
variable {P : Program} {w : World} {K : PySem.W.Frag} {mg : Str → Option Value} {base : Heap} {C D : Addr}
theorem scFigures : FnScope ["_law_pen", "_law_most", "_law_many", "_law_manner", "_law_number", "_law_k", "_law_tail", "_law_head"] ["_law_pen", "_law_most"] (defScope sFigures) := ⟨rfl, rfl, rfl, by decide +kernel, rfl, by decide +kernel, by decide +kernel⟩
theorem ok_figures {f : Addr} {fd : FuncData} (F : Fun K "_law_figures" "_law_figures" sFigures f fd) (N : Names mg) (cD : Keeps P w K mg base CX0 1 "_law_draw" spDraw) (cT : Keeps P w K mg base CX0 1 "_law_ten" spLTen) : FnOk P w K mg base CX0 2 f fd ["_law_pen", "_law_most"] spFigures := by
  refine F.ok scFigures (fun vs H Q E h => ?_) (fun cdv A outer s H vs Q E hr h => ?_)
  · obtain ⟨q, most, c, rfl, _⟩ := h
    rfl
  · obtain ⟨q, most, c, rfl, hP, m0, m1, hc, k⟩ := h
    refine ⟨_, pss_cons (ps_par (i := 2) (j := 3) (by rfl) scFigures.nd rfl rfl (by decide) rfl rfl (pa_cons (pe_op op_add pe_int (pe_k cD hr pass0 (pa_cons (pv 0) (pa_cons (pv 1) pa_nil)))) (pa_cons (pe_k cD hr pass0 (pa_cons (pv 0) (pa_cons pe_int pa_nil))) pa_nil)) (by rfl))
      (pss_cons (ps_if (pt_cmpR op_eq (pv 3) pe_int (nomark _)) (pss_one (ps_ret (pe_k cD hr pass0 (pa_cons (pv 0) (pa_cons pe_int pa_nil))))) pss_nil)
      (pss_cons (ps_if (pt_cmpR op_eq (pv 3) pe_int (nomark _)) (pss_one (ps_ret (pe_op op_sub (pe_k cT hr pass0 (pa_cons (pv 2) pa_nil)) pe_int))) pss_nil)
      (pss_cons (ps_if (pt_cmpR op_eq (pv 3) pe_int (nomark _)) (pss_one (ps_ret (pe_k cT hr pass0 (pa_cons (pe_op op_sub (pv 2) pe_int) pa_nil)))) pss_nil)
      (pss_cons (ps_set (i := 4) scFigures.nd rfl (Or.inl rfl) pe_int)
      (pss_cons (ps_for PassesOwn.never rfl (pi_range1 (by rfl) N.range (pa_cons (pe_op op_add (pe_op op_fdiv (pv 2) pe_int) pe_int) pa_nil)) (pg_name (i := 5) scFigures.nd rfl (Or.inl rfl))
        (pss_one (ps_set (i := 4) scFigures.nd rfl (Or.inl rfl) (pe_op op_add (pe_op op_mul (pe_op op_pow pe_int pe_int) (pv 4)) (pe_k cD hr pass0 (pa_cons (pv 0) (pa_cons (pe_op op_pow pe_int pe_int) pa_nil)))))))
      (pss_cons (ps_set (i := 4) scFigures.nd rfl (Or.inl rfl) (pe_op op_mod (pe_callTy call_int1 (by rfl) N.int (by decide +kernel) (pa_cons (pv 4) pa_nil)) (pe_k cT hr pass0 (pa_cons (pv 2) pa_nil))))
      (pss_cons (ps_set (i := 6) scFigures.nd rfl (Or.inl rfl) (pe_op op_add pe_int (pe_k cD hr pass0 (pa_cons (pv 0) (pa_cons (pv 2) pa_nil)))))
      (pss_cons (ps_set (i := 7) scFigures.nd rfl (Or.inl rfl) (pe_op op_mulW (pe_op op_fdivW (pv 4) (pe_k cT hr pass0 (pa_cons (pv 6) pa_nil))) (pe_k cT hr pass0 (pa_cons (pv 6) pa_nil))))
      (pss_cons (ps_if (pt_cmpR op_eq (pv 3) pe_int (nomark _)) (pss_one (ps_ret (pv 7))) pss_nil)
      (pss_cons (ps_if (pt_cmpR op_eq (pv 3) pe_int (nomark _)) (pss_one (ps_ret (pe_op op_sub (pe_op op_add (pe_op op_add (pv 7) (pe_op op_mul pe_int (pe_k cT hr pass0 (pa_cons (pe_op op_sub (pv 6) pe_int) pa_nil)))) (pe_k cD hr pass0 (pa_cons (pv 0) (pa_cons pe_int pa_nil)))) pe_int))) pss_nil)
      (pss_one (ps_ret (pv 4))))))))))))), ?_⟩
    refine ⟨_, rfl, _, rfl, q, most, c, rfl, hP, by omega, by omega, by omega, fun d1 H1 a0 a1 P1 K1 => ⟨_, _, rfl, rfl, ?_⟩⟩
    refine ⟨_, rfl, q, 7, c + 1, rfl, P1, by decide, by decide, by omega, fun d2 H2 b0 b1 P2 K2 => ⟨_, _, rfl, ?_⟩⟩
    obtain ⟨m, rfl⟩ := Int.eq_ofNat_of_zero_le a0
    have hm : m + 1 ≤ 60 := by omega
    have K12 := K1.trans K2
    have tenle : ∀ j : Nat, j ≤ 60 → (10 : Int) ^ j ≤ 10 ^ 60 := fun j hj => ten_le hj
    have big : (10 : Int) ^ 60 = 1000000000000000000000000000000000000000000000000000000000000 := by decide
    have big2 : (10 : Nat) ^ 80 = 100000000000000000000000000000000000000000000000000000000000000000000000000000000 := by decide
    rw [big2] at k
    -- manner 0
    refine ⟨_, rfl, rfl, _, rfl, ?_⟩
    refine ite2 (fun _ => ?_) (fun _ => ?_)
    · exact ⟨_, rfl, q, 10, c + 1 + 1, rfl, P2, by decide, by decide, by omega, fun d3 H3 c0 c1 P3 K3 => k d3 H3 (by omega) (P3.mono (by omega)) (K12.trans K3)⟩
    -- manner 1
    refine ⟨_, rfl, rfl, _, rfl, ?_⟩
    refine ite2 (fun _ => ?_) (fun _ => ?_)
    · refine ⟨_, rfl, 1 + m, rfl, by omega, _, _, rfl, rfl, k _ H2 ?_ (P2.mono (by omega)) K12⟩
      have h1 := tenle (1 + m) (by omega)
      have h2 := ten_pos (1 + m)
      omega
    -- manner 2
    refine ⟨_, rfl, rfl, _, rfl, ?_⟩
    refine ite2 (fun _ => ?_) (fun _ => ?_)
    · refine ⟨_, rfl, _, _, rfl, rfl, m, ?_, by omega, k _ H2 ?_ (P2.mono (by omega)) K12⟩
      · show [V.int (1 + (m : Int) - 1)] = [V.int (m : Int)]
        rw [show 1 + (m : Int) - 1 = m by omega]
      · have h1 := tenle m (by omega)
        have h2 := ten_pos m
        omega
    -- the loop
    refine ⟨_, rfl, _, _, rfl, rfl, ⟨by decide, by decide⟩, _, _, rfl, rfl, _, rfl, by omega, by omega, ?_⟩
    refine for_range (lo := 0) (n := ((1 + (m : Int)) / 6 + 1).toNat) (fun i σ H' => ∃ (num : Int) (vk : Option V), σ = [some (.ref q), some (.int most), some (.int (1 + (m : Int))), some (.int d2), some (.int num), vk, none, none] ∧ 0 ≤ num ∧ num < 10 ^ (6 * i) ∧ PenAt H' q (c + 2 + i) ∧ Keep q H H')
      ⟨0, none, rfl, by decide, by decide, P2.mono (by omega), K12⟩ ?_ ?_
    · rintro i σ H3 hi ⟨num, vk, rfl, n0, n1, P3, K3⟩
      refine ⟨_, _, rfl, rfl, ⟨by decide, by decide, by decide⟩, _, rfl, _, _, rfl, rfl, .inl ⟨by decide, by decide⟩, _, rfl, _, _, rfl, rfl, ⟨by decide, by decide, by decide⟩, q, _, c + 2 + i, rfl, P3, by decide, by decide, by omega, fun d3 H4 e0 e1 P4 K4 => ⟨_, _, rfl, rfl, ?_⟩⟩
      refine ⟨10 ^ 6 * num + d3, _, rfl, by omega, ?_, P4.mono (by omega), K3.trans K4⟩
      have e1' : d3 < 1000000 := e1
      rw [show 6 * (i + 1) = 6 * i + 6 by omega, Int.pow_add]
      generalize (10 : Int) ^ (6 * i) = z at *
      omega
    · rintro σ H3 ⟨num, vk, rfl, n0, n1, P3, K3⟩
      have nb : num < 10 ^ 66 := by
        refine Int.lt_of_lt_of_le n1 (ten_le (by omega))
      refine ⟨_, rfl, .inl ⟨_, rfl, _, rfl, 1 + m, rfl, by omega, _, _, rfl, rfl, ten_pos _, ?_⟩⟩
      have v0 : 0 ≤ num % 10 ^ (1 + m) := Int.emod_nonneg _ (Int.ne_of_gt (ten_pos _))
      have v1 : num % 10 ^ (1 + m) < 10 ^ 60 := Int.lt_of_lt_of_le (Int.emod_lt_of_pos _ (ten_pos _)) (tenle _ (by omega))
      refine ⟨_, rfl, _, rfl, q, _, _, rfl, P3, by omega, by omega, by omega, fun d4 H4 e0 e1 P4 K4 => ⟨_, _, rfl, rfl, ?_⟩⟩
      obtain ⟨t, rfl⟩ := Int.eq_ofNat_of_zero_le e0
      have ht : t + 1 ≤ 60 := by omega
      have p0 := ten_pos (1 + t)
      have qle : num % 10 ^ (1 + m) / 10 ^ (1 + t) ≤ num % 10 ^ (1 + m) := Int.ediv_le_self _ v0
      have q0 : 0 ≤ num % 10 ^ (1 + m) / 10 ^ (1 + t) := Int.ediv_nonneg v0 (Int.le_of_lt p0)
      have hd : 0 ≤ num % 10 ^ (1 + m) / 10 ^ (1 + t) * 10 ^ (1 + t) ∧ num % 10 ^ (1 + m) / 10 ^ (1 + t) * 10 ^ (1 + t) ≤ num % 10 ^ (1 + m) := by
        refine ⟨Int.mul_nonneg q0 (Int.le_of_lt p0), ?_⟩
        have := Int.emod_nonneg (num % 10 ^ (1 + m)) (Int.ne_of_gt p0)
        have e := Int.mul_ediv_add_emod (num % 10 ^ (1 + m)) (10 ^ (1 + t))
        rw [Int.mul_comm] at e
        omega
      have cm : CMulW (num % 10 ^ (1 + m) / 10 ^ (1 + t)) (10 ^ (1 + t)) := wide_mul (abs_lt_pow (k := 60) q0 (by omega)) (ten_abs (1 + t)) (by omega) (by omega) (by omega)
      refine ⟨_, rfl, _, rfl, 1 + t, rfl, by omega, _, _, rfl, rfl, wide_div p0 (ten_abs _) (by omega) (by omega), _, rfl, 1 + t, rfl, by omega, _, _, rfl, rfl, cm, ?_⟩
      have KK := K3.trans K4
      have PP : PenAt H4 q (c + 30) := P4.mono (by omega)
      refine ⟨_, rfl, rfl, _, rfl, ?_⟩
      refine ite2 (fun _ => ?_) (fun _ => ?_)
      · exact ⟨_, rfl, k _ H4 (by omega) PP KK⟩
      refine ⟨_, rfl, rfl, _, rfl, ?_⟩
      refine ite2 (fun _ => ?_) (fun _ => ?_)
      · refine ⟨_, rfl, _, rfl, _, _, rfl, rfl, t, ?_, by omega, _, _, rfl, rfl, .inl ⟨by decide, by decide⟩, _, _, rfl, rfl, _, rfl, q, 3, _, rfl, P4, by decide, by decide, by omega, fun d5 H5 f0 f1 P5 K5 => ⟨_, _, rfl, rfl, _, _, rfl, rfl, k _ H5 ?_ (P5.mono (by omega)) (KK.trans K5)⟩⟩
        · show [V.int (1 + (t : Int) - 1)] = [V.int (t : Int)]
          rw [show 1 + (t : Int) - 1 = t by omega]
        · have h1 := tenle t (by omega)
          have h2 := ten_pos t
          omega
      · exact ⟨_, rfl, k _ H4 (by omega) PP KK⟩
end
end FS
set_option Elab.async false
set_option linter.all false
set_option maxRecDepth 100000
/-! _law_drawn, _law_told, _law_ways. -/
namespace FS
open PySem L2
theorem Same.new {G : Hp} {t : Addr} {o : HO} (h : G t = none) : Same G (upd G t o) := fun b o' e => by
  rw [upd_ne (ne_of_none e h)]
  exact e
def spDrawn : Sp := fun vs H Q _ => ∃ (q : Addr) (c : Int), vs = [.ref q] ∧ PenAt H q c ∧ c ≤ 800000 ∧
  ∀ (u : Int) (s : Nat) (t : Addr) H', u.natAbs < 10 ^ 80 → s ≤ 40 → PenAt H' q (c + 40) → Keep q H H' → H' t = some (.tup [.int u, .int (s : Int)]) → Q (.ref t) H'
def spTold (D : Addr) : Sp := fun vs H Q _ => ∃ (p : Addr) (u s : Int), vs = [.ref p] ∧ WorthAt D H p u s ∧ ∀ t H', Same H H' → H' t = some (.tup [.int u, .int s]) → Q (.ref t) H'
def spWays : Sp := fun vs H Q _ => vs = [] ∧ ∀ l H', Same H H' → H' l = some (.lst wayVs) → Q (.ref l) H'
section
variable {P : Program} {w : World} {K : PySem.W.Frag} {mg : Str → Option Value} {base : Heap} {C D : Addr}
theorem scDrawn : FnScope ["_law_pen", "_law_units", "_law_scale"] ["_law_pen"] (defScope sDrawn) := ⟨rfl, rfl, rfl, by decide +kernel, rfl, by decide +kernel, by decide +kernel⟩
theorem ok_drawn {f : Addr} {fd : FuncData} (F : Fun K "_law_drawn" "_law_drawn" sDrawn f fd) (cF : Keeps P w K mg base CX0 2 "_law_figures" spFigures) (cP : Keeps P w K mg base CX0 2 "_law_pick" spPick) (cD : Keeps P w K mg base CX0 1 "_law_draw" spDraw) :
    FnOk P w K mg base CX0 3 f fd ["_law_pen"] spDrawn := by
  refine F.ok scDrawn (fun vs H Q E h => ?_) (fun cdv A outer s H vs Q E hr h => ?_)
  · obtain ⟨q, c, rfl, _⟩ := h
    rfl
  · obtain ⟨q, c, rfl, hP, hc, k⟩ := h
    refine ⟨_, pss_cons (ps_par (i := 1) (j := 2) (by rfl) scDrawn.nd rfl rfl (by decide) rfl rfl (pa_cons (pe_k cF hr pass0 (pa_cons (pv 0) (pa_cons pe_int pa_nil)))
        (pa_cons (pe_k cP hr pass0 (pa_cons (pv 0) (pa_cons (pe_lst (pa_cons pe_int (pa_cons pe_int (pa_cons pe_int (pa_cons (pe_k cD hr pass0 (pa_cons (pv 0) (pa_cons pe_int pa_nil))) pa_nil))))) pa_nil))) pa_nil)) (by rfl))
      (pss_one (ps_ret (pe_tup (pa_cons (pe_op op_mul (pe_k cP hr pass0 (pa_cons (pv 0) (pa_cons (pe_lst (pa_cons pe_int (pa_cons (pe_un un_neg pe_int) pa_nil))) pa_nil))) (pv 1)) (pa_cons (pv 2) pa_nil))))), ?_⟩
    refine ⟨_, rfl, q, 60, c, rfl, hP, by omega, by omega, by omega, fun u H1 hu P1 K1 => ?_⟩
    refine ⟨_, rfl, _, rfl, q, 41, _, rfl, P1, by decide, by decide, by omega, fun d H2 d0 d1 P2 K2 => ?_⟩
    refine ⟨(by show 4 ≤ sizeLine; decide), fun l hl => ⟨q, l, _, _, rfl, P2.same (Same.new hl), upd_same, (by show 0 < 4; decide), (by show 4 ≤ 1000; decide), by omega, fun x hx H3 P3 K3 => ?_⟩⟩
    have hx' : ∃ s : Nat, x = .int (s : Int) ∧ s ≤ 40 := by
      simp only [List.mem_cons, List.mem_nil_iff, or_false] at hx
      rcases hx with rfl | rfl | rfl | rfl
      · exact ⟨0, rfl, by omega⟩
      · exact ⟨1, rfl, by omega⟩
      · exact ⟨2, rfl, by omega⟩
      · obtain ⟨m, rfl⟩ := Int.eq_ofNat_of_zero_le d0
        exact ⟨m, rfl, by omega⟩
    obtain ⟨s, rfl, hs⟩ := hx'
    have KK : Keep q H H3 := ((K1.trans K2).trans (Same.keep (Same.new hl))).trans K3
    refine ⟨_, _, rfl, ?_⟩
    refine ⟨_, rfl, _, rfl, (by show 2 ≤ sizeLine; decide), fun l2 hl2 => ⟨q, l2, _, _, rfl, P3.same (Same.new hl2), upd_same, by decide, by decide, by omega, fun x hx H4 P4 K4 => ?_⟩⟩
    have hx' : ∃ g : Int, x = .int g ∧ (g = 1 ∨ g = -1) := by
      simp only [List.mem_cons, List.mem_nil_iff, or_false] at hx
      rcases hx with rfl | rfl
      · exact ⟨1, rfl, .inl rfl⟩
      · exact ⟨-1, rfl, .inr rfl⟩
    obtain ⟨g, rfl, hg⟩ := hx'
    refine ⟨_, rfl, _, _, rfl, rfl, .inl ⟨by omega, by omega⟩, _, rfl, (by show 2 ≤ sizeLine; decide), fun t ht => ?_⟩
    refine k (g * u) s t _ ?_ hs ((P4.same (Same.new ht)).mono (by omega)) (((KK.trans (Same.keep (Same.new hl2))).trans K4).trans (Same.keep (Same.new ht))) upd_same
    rcases hg with rfl | rfl
    · rw [Int.one_mul]
      exact hu
    · rw [Int.neg_one_mul, Int.natAbs_neg]
      exact hu
theorem scTold : FnScope ["_law_worth", "_law_part"] ["_law_worth"] (defScope sTold) := ⟨rfl, rfl, rfl, by decide +kernel, rfl, by decide +kernel, by decide +kernel⟩
theorem ok_told {f : Addr} {fd : FuncData} (F : Fun K "_law_told" "_law_told" sTold f fd) (N : Names mg) (cW : WC K mg D) : FnOk P w K mg base CX0 1 f fd ["_law_worth"] (spTold D) := by
  refine F.ok scTold (fun vs H Q E h => ?_) (fun cdv A outer s H vs Q E hr h => ?_)
  · obtain ⟨p, u, s, rfl, _⟩ := h
    rfl
  · obtain ⟨p, u, s, rfl, hw, k⟩ := h
    obtain ⟨dx, hp⟩ := id hw
    refine ⟨_, pss_cons (ps_if (pt_not (pt_val (pe_callB call_isi (by rfl) N.isinstance (by decide +kernel) (pa_cons (pv 0) (pa_cons (pe_glob (v := .ref D) (by rfl) cW.g rfl) pa_nil))) (by intro _; rfl))) (pss_one (ps_ret pe_non)) pss_nil)
      (pss_cons (ps_for PassesOwn.never rfl (pi_tup (pe_tup (pa_cons (pe_fld (pv 0) rfl) (pa_cons (pe_fld (pv 0) rfl) pa_nil)))) (pg_name (i := 1) scTold.nd rfl (.inl rfl))
        (pss_one (ps_if (pw_or (pt_not (pt_val (pe_callB call_isi (by rfl) N.isinstance (by decide +kernel) (pa_cons (pv 1) (pa_cons (pe_bltn (v := .ty "int") (by rfl) N.int (by decide +kernel) rfl) pa_nil))) (by intro _; rfl)))
          (pw_or1 (pt_val (pe_callB call_isi (by rfl) N.isinstance (by decide +kernel) (pa_cons (pv 1) (pa_cons (pe_bltn (v := .ty "bool") (by rfl) N.bool (by decide +kernel) rfl) pa_nil))) (by intro _; rfl)))).pt (pss_one (ps_ret pe_non)) pss_nil)))
      (pss_one (ps_ret (pe_tup (pa_cons (pe_fld (pv 0) rfl) (pa_cons (pe_fld (pv 0) rfl) pa_nil)))))), ?_⟩
    refine ⟨_, rfl, _, _, _, _, _, rfl, .own _, cW.ty hw, if_pos (beq_self_eq_true _), _, rfl, iteF ?_⟩
    refine ⟨_, rfl, p, D, dx, _, _, rfl, hp, cW.cl, cW.nU, wF_units _ _, _, rfl, p, D, dx, _, _, rfl, hp, cW.cl, cW.nS, wF_scale _ _, (by show 2 ≤ sizeLine; decide), fun t ht => ⟨t, rfl, ⟨_, SqT.of upd_same⟩, ?_⟩⟩
    have hp1 : (upd H t (.tup [.int u, .int s])) p = some (.ins D dx (wFlds u s)) := Same.new ht _ _ hp
    have ht1 : (upd H t (.tup [.int u, .int s])) t = some (.tup [.int u, .int s]) := upd_same
    have s1 : Same H (upd H t (.tup [.int u, .int s])) := Same.new ht
    generalize upd H t (.tup [.int u, .int s]) = G at *
    refine for_tup (K := K) (a := t) (xs := [.int u, .int s]) (fun i σ H' => ∃ v : Option V, σ = [some (.ref p), v] ∧ H' = G) ⟨none, rfl, rfl⟩ (fun i σ H' _ ⟨_, _, e⟩ => SqT.of (by rw [e]; exact ht1)) ?_ ?_
    · rintro i x σ H' hi ⟨v, rfl, eH⟩
      have hx : ∃ z : Int, x = .int z := by
        have := List.mem_of_getElem? hi
        simp only [List.mem_cons, List.mem_nil_iff, or_false] at this
        rcases this with rfl | rfl
        · exact ⟨_, rfl⟩
        · exact ⟨_, rfl⟩
      obtain ⟨z, rfl⟩ := hx
      refine ⟨_, rfl, _, _, _, _, _, rfl, .ty _, .base (.int z), kit_ty (b := "int") (r := true) (by decide +kernel), _, rfl, iteF ?_⟩
      exact ⟨_, rfl, _, _, _, _, _, rfl, .ty _, .base (.int z), kit_ty (b := "bool") (r := false) (by decide +kernel), _, rfl, iteF ⟨_, rfl, eH⟩⟩
    · rintro σ H' ⟨v, rfl, eH⟩
      subst eH
      exact ⟨_, rfl, p, D, dx, _, _, rfl, hp1, cW.cl, cW.nU, wF_units _ _, _, rfl, p, D, dx, _, _, rfl, hp1, cW.cl, cW.nS, wF_scale _ _, (by show 2 ≤ sizeLine; decide), fun t2 ht2 => k t2 _ (s1.trans (Same.new ht2)) upd_same⟩
theorem scWays : FnScope [] [] (defScope sWays) := ⟨rfl, rfl, rfl, by decide +kernel, rfl, by decide +kernel, by decide +kernel⟩
theorem ok_ways {f : Addr} {fd : FuncData} (F : Fun K "_law_ways" "_law_ways" sWays f fd) : FnOk P w K mg base CX0 1 f fd [] spWays := by
  refine F.ok scWays (fun vs H Q E h => ?_) (fun cdv A outer s H vs Q E hr h => ?_)
  · obtain ⟨rfl, _⟩ := h
    rfl
  · obtain ⟨rfl, k⟩ := h
    refine ⟨_, pss_one (ps_ret (pe_lst (pa_cons pe_str (pa_cons pe_str (pa_cons pe_str (pa_cons pe_str (pa_cons pe_str (pa_cons pe_str (pa_cons pe_str (pa_cons pe_str (pa_cons pe_str pa_nil))))))))))), ?_⟩
    exact ⟨(by show 9 ≤ sizeLine; decide), fun l hl => k l _ (Same.new hl) upd_same⟩
end
end FS
set_option Elab.async false
set_option linter.all false
set_option maxRecDepth 100000
/-! _law_wrong, _law_same. -/
namespace FS
open PySem L2
def spWrong : Sp := fun vs H Q _ => ∃ (q : Addr) (c : Int), vs = [.ref q] ∧ PenAt H q c ∧ c ≤ 900000 ∧ ∀ v H', Wr H' v → PenAt H' q (c + 1) → Keep q H H' → Q v H'
def spSame : Sp := fun vs H Q _ => ∃ v : V, vs = [v, v] ∧ (Wr H v ∨ ∃ i : Int, v = .int i) ∧ Q (.bl true) H
theorem shaped_tup (ns : List Int) : SeqAt.shaped (.tuple (ns.map PyData.int)) = true := by
  obtain ⟨h1, h2⟩ := lay_ints ns
  show (PyData.canLay0 (.tuple (ns.map PyData.int)) && decide (PyData.depth (.tuple (ns.map PyData.int)) ≤ 64)) = true
  rw [Bool.and_eq_true]
  refine ⟨by simp only [PyData.canLay0]; exact h1, decide_eq_true ?_⟩
  simp only [PyData.depth]
  omega
/-- a value of the law is equal to itself -/
theorem op_eq_self {X : Cx} {j : Nat} (hr : Room j X.A) : OpR X (compareOp .Eq) (fun x y H Q => x = y ∧ (Wr H x ∨ ∃ i : Int, x = .int i) ∧ Q (.bl true) H) := by
  intro pins s σ H x y v u Q I rx ry h
  obtain ⟨rfl, h, q⟩ := h
  have sc : scal x x = true → wpAny (model X.prog X.w) X.A (compareOp .Eq v u) (EP X pins σ Q) X.xe s := fun hs =>
    op_eq pins s σ H x x v u Q I rx ry ⟨hs, by rw [decide_eq_true rfl]; exact q⟩
  rcases h with h | ⟨i, rfl⟩
  · cases h with
    | non => exact sc rfl
    | bl b => exact sc rfl
    | str z _ => exact sc rfl
    | lst a ns h =>
      exact op_eqD hr.units pins s σ H _ _ v u Q I rx ry ⟨_, _, .lst (SqL.of h) (dp_ints ns), .lst (SqL.of h) (dp_ints ns), shaped_ints ns, shaped_ints ns, by rw [SeqAt.eqv_refl _ (SeqAt.canLay_of_shaped (shaped_ints ns))]; exact q⟩
    | tup a ns h =>
      exact op_eqD hr.units pins s σ H _ _ v u Q I rx ry ⟨_, _, .tup (SqT.of h) (dp_ints ns), .tup (SqT.of h) (dp_ints ns), shaped_tup ns, shaped_tup ns, by rw [SeqAt.eqv_refl _ (SeqAt.canLay_of_shaped (shaped_tup ns))]; exact q⟩
    | dK a kvs h nd f =>
      exact op_eq_dict hr.units0 pins s σ H _ _ v u Q I rx ry ⟨a, a, kvs, rfl, rfl, h, h, nd, fun p hp => by obtain ⟨i, e⟩ := f p hp; rw [e]; rfl, q⟩
  · exact sc rfl
section
variable {P : Program} {w : World} {K : PySem.W.Frag} {mg : Str → Option Value} {base : Heap} {C D : Addr}
theorem scSame : FnScope ["_law_one", "_law_other"] ["_law_one", "_law_other"] (defScope sSame) := ⟨rfl, rfl, rfl, by decide +kernel, rfl, by decide +kernel, by decide +kernel⟩
theorem ok_same {f : Addr} {fd : FuncData} (F : Fun K "_law_same" "_law_same" sSame f fd) (N : Names mg) : FnOk P w K mg base CX0 1 f fd ["_law_one", "_law_other"] spSame := by
  refine F.ok scSame (fun vs H Q E h => ?_) (fun cdv A outer s H vs Q E hr h => ?_)
  · obtain ⟨v, rfl, _⟩ := h
    rfl
  · obtain ⟨v, rfl, hv, k⟩ := h
    refine ⟨_, pss_one (ps_ret (pe_and (pe_cmpR (op_eq_self hr) (pv 0) (pv 1) (nomark _)) (pe_one (pe_cmpR op_eq (pe_callB call_isi (by rfl) N.isinstance (by decide +kernel) (pa_cons (pv 0) (pa_cons (pe_bltn (v := .ty "bool") (by rfl) N.bool (by decide +kernel) rfl) pa_nil)))
      (pe_callB call_isi (by rfl) N.isinstance (by decide +kernel) (pa_cons (pv 1) (pa_cons (pe_bltn (v := .ty "bool") (by rfl) N.bool (by decide +kernel) rfl) pa_nil))) (nomark _))))), ?_⟩
    have ty : ∃ T : String, TyX K H v (.type T) ∧ T ∈ tyN := by
      rcases hv with h | ⟨i, rfl⟩
      · obtain ⟨T, h1, h2, _⟩ := h.ty (K := K)
        exact ⟨T, h1, h2⟩
      · exact ⟨_, .base (.int i), by decide⟩
    obtain ⟨T, ty, hT⟩ := ty
    refine ⟨_, rfl, _, rfl, rfl, hv, _, rfl, iteT ?_⟩
    refine ⟨_, rfl, _, _, _, _, _, rfl, .ty _, ty, kit_ty (kit_bool hT), _, rfl, _, _, _, _, _, rfl, .ty _, ty, kit_ty (kit_bool hT), rfl, ?_⟩
    rw [decide_eq_true rfl]
    exact k
theorem scWrong : FnScope ["_law_pen"] ["_law_pen"] (defScope sWrong) := ⟨rfl, rfl, rfl, by decide +kernel, rfl, by decide +kernel, by decide +kernel⟩
theorem ok_wrong {f : Addr} {fd : FuncData} (F : Fun K "_law_wrong" "_law_wrong" sWrong f fd) (cP : Keeps P w K mg base CX0 2 "_law_pick" spPick) : FnOk P w K mg base CX0 3 f fd ["_law_pen"] spWrong := by
  refine F.ok scWrong (fun vs H Q E h => ?_) (fun cdv A outer s H vs Q E hr h => ?_)
  · obtain ⟨q, c, rfl, _⟩ := h
    rfl
  · obtain ⟨q, c, rfl, hP, hc, k⟩ := h
    refine ⟨_, pss_one (ps_ret (pe_k cP hr pass0 (pa_cons (pv 0) (pa_cons (pe_lst (pa_cons pe_non (pa_cons pe_bl (pa_cons pe_bl (pa_cons pe_str (pa_cons pe_str (pa_cons pe_str (pa_cons (pe_tup (pa_cons pe_int (pa_cons pe_int pa_nil))) (pa_cons (pe_tup pa_nil) (pa_cons (pe_lst (pa_cons pe_int pa_nil)) (pa_cons pe_dnewK (pa_cons (pe_disp (pps_cons pe_str pe_int pps_nil) (by rfl) (by rfl) (fun z => by cases z) (by decide)) pa_nil)))))))))))) pa_nil)))), ?_⟩
    refine ⟨_, rfl, (by show 2 ≤ sizeLine; decide), fun t1 n1 => ⟨(by show 0 ≤ sizeLine; decide), fun t2 n2 => ⟨(by show 1 ≤ sizeLine; decide), fun l1 n3 => fun d1 n4 => fun d2 n5 => ?_⟩⟩⟩
    refine ⟨upd_same, [(.inr "a", .int 1)], rfl, (by show 1 ≤ 15; decide), (by show 11 ≤ sizeLine; decide), fun l n6 => ?_⟩
    rw [upd_upd] at n6 ⊢
    have m1 := Same.new (o := .tup [.int 1, .int 2]) n1
    generalize e1 : upd H t1 (.tup [.int 1, .int 2]) = H1 at *
    have a1 : H1 t1 = some (.tup [.int 1, .int 2]) := by rw [← e1, upd_same]
    have m2 := Same.new (o := .tup []) n2
    generalize e2 : upd H1 t2 (.tup []) = H2 at *
    have a2 : H2 t2 = some (.tup []) := by rw [← e2, upd_same]
    have m3 := Same.new (o := .lst [.int 1]) n3
    generalize e3 : upd H2 l1 (.lst [.int 1]) = H3 at *
    have a3 : H3 l1 = some (.lst [.int 1]) := by rw [← e3, upd_same]
    have m4 := Same.new (o := .dK []) n4
    generalize e4 : upd H3 d1 (.dK []) = H4 at *
    have a4 : H4 d1 = some (.dK []) := by rw [← e4, upd_same]
    have m5 := Same.new (o := .dK (mergeK [] [(.inr "a", .int 1)])) n5
    generalize e5 : upd H4 d2 (.dK (mergeK [] [(.inr "a", .int 1)])) = H5 at *
    have a5 : H5 d2 = some (.dK [(.inr "a", .int 1)]) := by rw [← e5, upd_same]; rfl
    have m6 : ∀ o, Same H5 (upd H5 l o) := fun o => Same.new n6
    have mA := ((((m1.trans m2).trans m3).trans m4).trans m5)
    refine ⟨q, l, _, c, rfl, (hP.same mA).same (m6 _), upd_same, (by show 0 < 11; decide), (by show 11 ≤ 1000; decide), by omega, fun x hx H' P' K' => ?_⟩
    refine k x H' ?_ P' (((Same.keep mA).trans (Same.keep (m6 _))).trans K')
    have hq : ∀ {b : Addr} {o : HO}, H5 b = some o → H b = none → H' b = some o := fun {b o} e n => by
      refine K' b o (m6 _ _ _ e) ?_
      obtain ⟨_, _, _, _, hq, _⟩ := hP
      exact fun z => by rw [z, hq] at n; cases n
    have f1 : H t1 = none := n1
    have f2 : H t2 = none := m1.free n2
    have f3 : H l1 = none := (m1.trans m2).free n3
    have f4 : H d1 = none := ((m1.trans m2).trans m3).free n4
    have f5 : H d2 = none := (((m1.trans m2).trans m3).trans m4).free n5
    simp only [List.mem_cons, List.mem_nil_iff, or_false] at hx
    rcases hx with rfl | rfl | rfl | rfl | rfl | rfl | rfl | rfl | rfl | rfl | rfl
    · exact .non
    · exact .bl _
    · exact .bl _
    · exact .str _ (by decide +kernel)
    · exact .str _ (by decide +kernel)
    · exact .str _ (by decide +kernel)
    · exact .tup _ [1, 2] (hq (m5 _ _ (m4 _ _ (m3 _ _ (m2 _ _ a1)))) f1)
    · exact .tup _ [] (hq (m5 _ _ (m4 _ _ (m3 _ _ a2))) f2)
    · exact .lst _ [1] (hq (m5 _ _ (m4 _ _ a3)) f3)
    · exact .dK _ [] (hq (m5 _ _ a4) f4) List.nodup_nil (fun p hp => by cases hp)
    · exact .dK _ [(.inr "a", .int 1)] (hq a5 f5) (by simp) (fun p hp => by
        simp only [List.mem_cons, List.mem_nil_iff, or_false] at hp
        subst hp
        exact ⟨1, rfl⟩)
end
end FS
set_option Elab.async false
set_option linter.all false
set_option maxRecDepth 100000
/-! _law_rounds. -/
namespace FS
open PySem L2
def plainL (a b c d : V) : List (Key × V) := [(.inr "floor", a), (.inr "ceiling", b), (.inr "cut", c), (.inr "away", d)]
def halfL (a b c d e : V) : List (Key × V) := [(.inr "halfup", a), (.inr "halfdown", b), (.inr "halfeven", c), (.inr "halfaway", d), (.inr "halfcut", e)]
def plainV (w : Way) (a b c d : V) : Option V := match w with
  | .floor => some a | .ceiling => some b | .cut => some c | .away => some d | _ => none
def halfV (w : Way) (a b c d e : V) : Option V := match w with
  | .halfup => some a | .halfdown => some b | .halfeven => some c | .halfaway => some d | .halfcut => some e | _ => none
theorem plain_look (w : Way) (a b c d : V) : valV (mergeK [] (plainL a b c d)) (.inr w.str : Key) = plainV w a b c d := by cases w <;> rfl
theorem half_look (w : Way) (a b c d e : V) : valV (mergeK [] (halfL a b c d e)) (.inr w.str : Key) = halfV w a b c d e := by cases w <;> rfl
theorem ediv_abs {n d : Int} (h : 0 < d) : (n / d).natAbs ≤ n.natAbs := by
  by_cases z : 0 ≤ n
  · have h1 := Int.ediv_le_self d z
    have h2 := Int.ediv_nonneg z (Int.le_of_lt h)
    omega
  · have h1 : n ≤ n / d := by
      refine (Int.le_ediv_iff_mul_le h).2 ?_
      have : n * d ≤ n * 1 := Int.mul_le_mul_of_nonpos_left (by omega) (by omega)
      omega
    have h2 : n / d < 0 := Int.ediv_neg_of_neg_of_pos (by omega) h
    omega
def spRounds : Sp := fun vs H Q _ => ∃ (n d : Int) (w : Way), vs = [.int n, .int d, .str w.str] ∧ 0 < d ∧ d.natAbs < 2 ^ 8000 ∧ n.natAbs < 2 ^ 9000 ∧ ∀ H', Same H H' → Q (.int (rounds w n d)) H'
theorem round_zero {w : Way} {n d : Int} (h : n - n / d * d = 0) : rounds w n d = n / d := by
  unfold rounds roundQ
  rw [if_pos h]
def nearI (n q : Int) : Int := if n > 0 then q else q + 1
def tieI (w : Way) (n q : Int) : Int := match w with
  | .halfup => q + 1 | .halfdown => q | .halfeven => q + q % 2 | .halfaway => q + q + 1 - nearI n q | .halfcut => nearI n q | _ => 0
theorem roundQ_tie {w : Way} {n q r d : Int} (h : w.tie = true) (ne : ¬ r = 0) : roundQ w n q r d = if 2 * r = d then tieI w n q else q + (if 2 * r > d then 1 else 0) := by
  unfold roundQ
  rw [if_neg ne]
  cases w <;> first | (exact absurd h (by decide)) | rfl
theorem half_some {w : Way} {n q : Int} (h : w.tie = true) : halfV w (.int (q + 1)) (.int q) (.int (q + q % 2)) (.int (q + q + 1 - nearI n q)) (.int (nearI n q)) = some (.int (tieI w n q)) := by
  cases w <;> first | (exact absurd h (by decide)) | rfl
theorem plain_none {w : Way} {a b c d : V} (h : w.tie = true) : plainV w a b c d = none := by
  cases w <;> first | (exact absurd h (by decide)) | rfl
def flatI (w : Way) (n q : Int) : Int := match w with
  | .floor => q | .ceiling => q + 1 | .cut => nearI n q | .away => q + q + 1 - nearI n q | _ => 0
theorem roundQ_flat {w : Way} {n q r d : Int} (h : w.tie = false) (ne : ¬ r = 0) : roundQ w n q r d = flatI w n q := by
  unfold roundQ
  rw [if_neg ne]
  cases w <;> first | (exact absurd h (by decide)) | rfl
theorem plain_some {w : Way} {n q : Int} (h : w.tie = false) : plainV w (.int q) (.int (q + 1)) (.int (nearI n q)) (.int (q + q + 1 - nearI n q)) = some (.int (flatI w n q)) := by
  cases w <;> first | (exact absurd h (by decide)) | rfl
section
variable {P : Program} {w : World} {K : PySem.W.Frag} {mg : Str → Option Value} {base : Heap} {C D : Addr}
theorem scRounds : FnScope ["_law_number", "_law_divisor", "_law_manner", "_law_low_here", "_law_left", "_law_near", "_law_far", "_law_plain", "_law_even"] ["_law_number", "_law_divisor", "_law_manner"] (defScope sRounds) := ⟨rfl, rfl, rfl, by decide +kernel, rfl, by decide +kernel, by decide +kernel⟩
theorem ok_rounds {f : Addr} {fd : FuncData} (F : Fun K "_law_rounds" "_law_rounds" sRounds f fd) (N : Names mg) : FnOk P w K mg base CX0 1 f fd ["_law_number", "_law_divisor", "_law_manner"] spRounds := by
  refine F.ok scRounds (fun vs H Q E h => ?_) (fun cdv A outer s H vs Q E hr h => ?_)
  · obtain ⟨n, d, w, rfl, _⟩ := h
    rfl
  · obtain ⟨n, d, w, rfl, hd, db, nb, k⟩ := h
    have hu := hu_of hr
    refine ⟨_, pss_cons (ps_set (i := 3) scRounds.nd rfl (Or.inl rfl) (pe_op op_fdivW (pv 0) (pv 1)))
      (pss_cons (ps_set (i := 4) scRounds.nd rfl (Or.inl rfl) (pe_op op_sub (pv 0) (pe_op op_mulW (pv 3) (pv 1))))
      (pss_cons (ps_if (pt_cmpR op_eq (pv 4) pe_int (nomark _)) (pss_one (ps_ret (pv 3))) pss_nil)
      (C8.pss_cut (ps_set (i := 5) scRounds.nd rfl (Or.inl rfl) (pe_ifExp (pt_cmpR op_gt (pv 0) pe_int (nomark _)) (pv 3) (pe_op op_add (pv 3) pe_int)))
      (pss_cons (ps_set (i := 6) scRounds.nd rfl (Or.inl rfl) (pe_op op_sub (pe_op op_add (pe_op op_add (pv 3) (pv 3)) pe_int) (pv 5)))
      (pss_cons (ps_set (i := 7) scRounds.nd rfl (Or.inl rfl) (pe_disp (pps_cons pe_str (pv 3) (pps_cons pe_str (pe_op op_add (pv 3) pe_int) (pps_cons pe_str (pv 5) (pps_cons pe_str (pv 6) pps_nil)))) (by rfl) (by rfl) (fun z => by cases z) (by decide)))
      (pss_cons (ps_if (pt_cmp (pc_din hu (pv 2) (pv 7))) (pss_one (ps_ret (pe_dget hu (pv 7) (pv 2) (fun _ _ => rfl)))) pss_nil)
      (pss_cons (ps_if (pt_cmpR op_ne (pe_op op_mul pe_int (pv 4)) (pv 1) (nomark _)) (pss_one (ps_ret (pe_op op_add (pv 3) (pe_callTy call_int1 (by rfl) N.int (by decide +kernel) (pa_cons (pe_cmpR op_gt (pe_op op_mul pe_int (pv 4)) (pv 1) (nomark _)) pa_nil))))) pss_nil)
      (pss_cons (ps_set (i := 8) scRounds.nd rfl (Or.inl rfl) (pe_op op_add (pv 3) (pe_op op_mod (pe_callTy call_int1 (by rfl) N.int (by decide +kernel) (pa_cons (pv 3) pa_nil)) pe_int)))
      (pss_one (ps_ret (pe_dget hu (pe_disp (pps_cons pe_str (pe_op op_add (pv 3) pe_int) (pps_cons pe_str (pv 3) (pps_cons pe_str (pv 8) (pps_cons pe_str (pv 6) (pps_cons pe_str (pv 5) pps_nil))))) (by rfl) (by rfl) (fun z => by cases z) (by decide)) (pv 2) (fun _ _ => rfl)))))))))))), ?_⟩
    have cd : CDivW n d := wide_div hd db (by omega) (by omega)
    have cm : CMulW (n / d) d := wide_mul (Nat.lt_of_le_of_lt (ediv_abs hd) nb) db (by omega) (by omega) (by omega)
    refine ⟨_, rfl, _, rfl, _, _, rfl, rfl, cd, ?_⟩
    refine ⟨_, rfl, _, rfl, _, rfl, _, _, rfl, rfl, cm, _, _, rfl, rfl, ?_⟩
    refine ⟨_, rfl, rfl, _, rfl, ?_⟩
    refine ite2 (fun c => ?_) (fun c => ?_)
    · have e : n - n / d * d = 0 := V.int.inj (of_decide_eq_true c)
      have := k H (Same.refl H)
      rw [round_zero e] at this
      exact ⟨_, rfl, this⟩
    have ne : ¬ n - n / d * d = 0 := fun z => c (decide_eq_true (congrArg V.int z))
    clear c
    refine ⟨fun σ' H' => σ' = [some (.int n), some (.int d), some (.str w.str), some (.int (n / d)), some (.int (n - n / d * d)), some (.int (nearI n (n / d))), none, none, none] ∧ H' = H, ?_, ?_⟩
    · refine ⟨_, rfl, _, _, rfl, rfl, _, rfl, ?_⟩
      unfold nearI
      by_cases z : n > 0
      · rw [if_pos z, decide_eq_true z]
        exact iteT ⟨_, rfl, rfl, rfl⟩
      · rw [if_neg z, decide_eq_false z]
        exact iteF ⟨_, rfl, _, _, rfl, rfl, rfl, rfl⟩
    rintro σ' H' ⟨rfl, eH⟩
    rw [← eH] at k
    clear eH
    have hR : ∀ v : Int, roundQ w n (n / d) (n - n / d * d) d = v → ∀ G, Same H' G → Q (.int v) G := fun v e G m => by
      have := k G m
      unfold rounds at this
      rw [e] at this
      exact this
    generalize n / d = q at *
    generalize n - q * d = r at *
    refine ⟨_, rfl, _, rfl, _, _, rfl, rfl, _, _, rfl, rfl, _, rfl, _, _, rfl, rfl, ?_⟩
    intro p hp
    refine ⟨_, rfl, _, rfl, _, _, rfl, rfl, _, rfl, _, rfl, upd_same, plainL (.int q) (.int (q + 1)) (.int (nearI n q)) (.int (q + q + 1 - nearI n q)), rfl, (by show 4 ≤ 15; decide), ?_⟩
    rw [upd_upd]
    have m1 := Same.new (o := .dK (mergeK [] (plainL (.int q) (.int (q + 1)) (.int (nearI n q)) (.int (q + q + 1 - nearI n q))))) hp
    generalize e1 : upd H' p (.dK (mergeK [] (plainL (.int q) (.int (q + 1)) (.int (nearI n q)) (.int (q + q + 1 - nearI n q))))) = G at *
    have a1 : G p = some (.dK (mergeK [] (plainL (.int q) (.int (q + 1)) (.int (nearI n q)) (.int (q + q + 1 - nearI n q))))) := by rw [← e1, upd_same]
    refine ⟨_, rfl, _, rfl, p, _, rfl, .inl ⟨_, .inr w.str, .inl a1, rfl, rfl⟩, _, rfl, ?_⟩
    rw [plain_look]
    cases hw : w.tie with
    | false =>
      rw [plain_some hw]
      refine iteT ?_
      exact ⟨_, rfl, _, rfl, p, .int (flatI w n q), rfl, .inl ⟨_, .inr w.str, .inl a1, rfl, by rw [plain_look, plain_some hw]⟩, hR _ (roundQ_flat hw ne) G m1⟩
    | true =>
      rw [plain_none hw]
      refine iteF ?_
      have hq := roundQ_tie (d := d) (n := n) (q := q) hw ne
      refine ⟨_, rfl, _, _, rfl, rfl, .inl ⟨by decide, by decide⟩, _, rfl, rfl, _, rfl, ?_⟩
      by_cases h2 : 2 * r = d
      · rw [if_pos h2] at hq
        have e : (!decide (V.int (2 * r) = V.int d)) = false := by rw [h2, decide_eq_true rfl]; rfl
        rw [show (!decide ((fun i j => V.int (i * j)) 2 r = V.int d)) = false from e]
        refine iteF ?_
        refine ⟨_, rfl, _, rfl, .inl ⟨_, rfl, _, _, rfl, rfl, (by show (0 : Int) < 2; decide), _, _, rfl, rfl, ?_⟩⟩
        intro p2 hp2
        refine ⟨_, rfl, _, _, rfl, rfl, _, rfl, _, rfl, _, rfl, _, rfl, upd_same, halfL (.int (q + 1)) (.int q) (.int (q + q % 2)) (.int (q + q + 1 - nearI n q)) (.int (nearI n q)), rfl, (by show 5 ≤ 15; decide), ?_⟩
        rw [upd_upd]
        refine ⟨_, rfl, p2, .int (tieI w n q), rfl, .inl ⟨_, .inr w.str, .inl upd_same, rfl, by rw [half_look, half_some hw]⟩, hR _ hq _ (m1.trans (Same.new hp2))⟩
      · rw [if_neg h2] at hq
        have e : (!decide (V.int (2 * r) = V.int d)) = true := by rw [decide_eq_false fun z => h2 (V.int.inj z)]; rfl
        rw [show (!decide ((fun i j => V.int (i * j)) 2 r = V.int d)) = true from e]
        refine iteT ?_
        refine ⟨_, rfl, _, rfl, _, _, rfl, rfl, .inl ⟨by decide, by decide⟩, _, rfl, _, _, rfl, rfl, .inr ⟨_, rfl, _, _, rfl, rfl, hR _ ?_ G m1⟩⟩
        rw [hq]
        by_cases z : 2 * r > d
        · rw [if_pos z, decide_eq_true z]
          rfl
        · rw [if_neg z, decide_eq_false z]
          rfl
end
end FS
set_option Elab.async false
set_option linter.all false
set_option maxRecDepth 100000
/-! _law_ends. -/
namespace FS
open PySem L2
def spEnds (D : Addr) : Sp := fun vs H Q _ => ∃ (t p1 p2 : Addr) (u1 u2 : Int) (s1 s2 dp : Nat), vs = [.ref t, .int (dp : Int)] ∧ H t = some (.tup [.ref p1, .ref p2]) ∧ WorthAt D H p1 u1 s1 ∧ WorthAt D H p2 u2 s2 ∧ s1 ≤ dp ∧ s2 ≤ dp ∧ dp ≤ 500 ∧ u1.natAbs < 2 ^ 8000 ∧ u2.natAbs < 2 ^ 8000 ∧
  ∀ l H', Same H H' → H' l = some (.lst [.int (u1 * 10 ^ (dp - s1)), .int (u2 * 10 ^ (dp - s2))]) → Q (.ref l) H'
section
variable {P : Program} {w : World} {K : PySem.W.Frag} {mg : Str → Option Value} {base : Heap} {C D : Addr}
theorem scEnds : FnScope ["_law_told_here", "_law_depth", "_law_found", "_law_worth", "_law_row"] ["_law_told_here", "_law_depth"] (defScope sEnds) := ⟨rfl, rfl, rfl, by decide +kernel, rfl, by decide +kernel, by decide +kernel⟩
theorem ok_ends {f : Addr} {fd : FuncData} (F : Fun K "_law_ends" "_law_ends" sEnds f fd) (N : Names mg) (cTo : Keeps P w K mg base CX0 1 "_law_told" (spTold D)) (cT : Keeps P w K mg base CX0 1 "_law_ten" spLTen) :
    FnOk P w K mg base CX0 2 f fd ["_law_told_here", "_law_depth"] (spEnds D) := by
  refine F.ok scEnds (fun vs H Q E h => ?_) (fun cdv A outer s H vs Q E hr h => ?_)
  · obtain ⟨t, p1, p2, u1, u2, s1, s2, dp, rfl, _⟩ := h
    rfl
  · obtain ⟨t, p1, p2, u1, u2, s1, s2, dp, rfl, ht, w1, w2, l1, l2, hd, b1, b2, k⟩ := h
    refine ⟨_, pss_cons (ps_if (pw_or (pt_not (pt_val (pe_callB call_isi (by rfl) N.isinstance (by decide +kernel) (pa_cons (pv 0) (pa_cons (pe_bltn (v := .ty "tuple") (by rfl) N.tuple (by decide +kernel) rfl) pa_nil))) (by intro _; rfl)))
        (pw_or1 (pt_cmpR op_ne (pe_callB call_len_seq (by rfl) N.len (by decide +kernel) (pa_cons (pv 0) pa_nil)) pe_int (nomark _)))).pt (pss_one (ps_ret pe_non)) pss_nil)
      (pss_cons (ps_set (i := 2) scEnds.nd rfl (Or.inl rfl) (pe_lst pa_nil))
      (pss_cons (ps_for PassesOwn.never rfl (pi_tup (pv 0)) (pg_name (i := 3) scEnds.nd rfl (.inl rfl))
        (pss_cons (ps_set (i := 4) scEnds.nd rfl (Or.inl rfl) (pe_k cTo hr pass0 (pa_cons (pv 3) pa_nil)))
        (pss_cons (ps_if (pw_or (pt_cmpR op_isN (pv 4) pe_non (nomark _)) (pw_or1 (pt_cmpR op_gt (pe_ix ix_tup (pv 4) pe_int (fun _ _ => rfl)) (pv 1) (nomark _)))).pt (pss_one (ps_ret pe_non)) pss_nil)
        (pss_one (ps_expr (pe_bm PySem.F.plainAttrs_list PySem.F.slot_list_append PySem.F.type_list_append mt_append (pv 2) (pa_cons (pe_op op_mulW (pe_ix ix_tup (pv 4) pe_int (fun _ _ => rfl)) (pe_k cT hr pass0 (pa_cons (pe_op op_sub (pv 1) (pe_ix ix_tup (pv 4) pe_int (fun _ _ => rfl))) pa_nil))) pa_nil)))))))
      (pss_one (ps_ret (pv 2))))), ?_⟩
    refine ⟨_, rfl, _, _, _, _, _, rfl, .ty _, .base (.tup ht), kit_ty (b := "tuple") (r := true) (by decide +kernel), _, rfl, iteF ?_⟩
    refine ⟨_, rfl, t, _, rfl, .inr (SqT.of ht), rfl, _, rfl, iteF ?_⟩
    refine ⟨(by show 0 ≤ sizeLine; decide), fun l hl => ?_⟩
    have m0 := Same.new (o := .lst []) hl
    have nl : ∀ {b : Addr} {o : HO}, H b = some o → b ≠ l := fun e => ne_of_none e hl
    refine ⟨_, rfl, t, rfl, ⟨_, SqT.of (m0 _ _ ht)⟩, for_tup (K := K) (a := t) (xs := [.ref p1, .ref p2]) (fun i σ H' => ∃ v1 v2 : Option V, σ = [some (.ref t), some (.int (dp : Int)), some (.ref l), v1, v2] ∧ Same H H' ∧ H' l = some (.lst (([.int (u1 * 10 ^ (dp - s1)), .int (u2 * 10 ^ (dp - s2))] : List V).take i)))
      ⟨none, none, rfl, m0, upd_same⟩ (fun i σ H' _ ⟨_, _, _, sm, _⟩ => SqT.of (sm _ _ ht)) ?_ ?_⟩
    · rintro i x σ H1 hi ⟨v1, v2, rfl, sm, hL⟩
      obtain ⟨p, u, sx, rfl, hw, hs, hb, htk, hi2⟩ : ∃ (p : Addr) (u : Int) (sx : Nat), x = .ref p ∧ WorthAt D H p u sx ∧ sx ≤ dp ∧ u.natAbs < 2 ^ 8000 ∧ (([.int (u1 * 10 ^ (dp - s1)), .int (u2 * 10 ^ (dp - s2))] : List V).take (i + 1)) = (([.int (u1 * 10 ^ (dp - s1)), .int (u2 * 10 ^ (dp - s2))] : List V).take i) ++ [.int (u * 10 ^ (dp - sx))] ∧ i < 2 := by
        have hi2 : i < 2 := (List.getElem?_eq_some_iff.mp hi).1
        rcases (by omega : i = 0 ∨ i = 1) with rfl | rfl
        · cases hi
          exact ⟨p1, u1, s1, rfl, w1, l1, b1, rfl, by omega⟩
        · cases hi
          exact ⟨p2, u2, s2, rfl, w2, l2, b2, rfl, by omega⟩
      refine ⟨_, rfl, p, u, _, rfl, hw.same sm, fun r H2 m2 hR => ?_⟩
      have hL2 := m2 _ _ hL
      refine ⟨_, rfl, rfl, _, rfl, iteF ?_⟩
      refine ⟨_, rfl, r, _, _, _, rfl, rfl, SqT.of hR, at_of (j := 1) rfl rfl, _, rfl, _, _, rfl, rfl, _, rfl, ?_⟩
      rw [decide_eq_false (show ¬ (dp : Int) < (sx : Int) by omega)]
      refine iteF ?_
      refine ⟨_, rfl, .inl ⟨rfl, _, SqL.of hL2⟩, _, rfl, r, _, _, _, rfl, rfl, SqT.of hR, at_of (j := 0) rfl rfl, _, rfl, _, rfl, r, _, _, _, rfl, rfl, SqT.of hR, at_of (j := 1) rfl rfl, _, _, rfl, rfl, dp - sx, ?_, by omega, _, _, rfl, rfl, wide_mul hb (ten_abs _) (by omega) (by omega) (by omega), l, _, _, rfl, rfl, hL2, ?_, ?_⟩
      · show [V.int ((dp : Int) - (sx : Int))] = [V.int ((dp - sx : Nat) : Int)]
        rw [show ((dp - sx : Nat) : Int) = (dp : Int) - sx by omega]
      · rw [List.length_take, sizeLine_eq]
        omega
      · refine ⟨_, _, rfl, fun b o e => ?_, ?_⟩
        · rw [upd_ne (nl e)]
          exact m2 _ _ (sm _ _ e)
        · rw [upd_same, htk]
    · rintro σ H1 ⟨v1, v2, rfl, sm, hL⟩
      exact ⟨_, rfl, k l H1 sm hL⟩
end
end FS
set_option Elab.async false
set_option linter.all false
set_option maxRecDepth 100000
/-! _law_right. -/
namespace FS
open PySem L2
theorem Low.abs {U : Int} {s : Nat} {u : Int} {s' : Nat} (h : Low U s u s') : u.natAbs ≤ U.natAbs := by
  have e := congrArg Int.natAbs h.eq
  rw [Int.natAbs_mul] at e
  rw [e]
  refine Nat.le_mul_of_pos_right _ ?_
  have := ten_pos (s - s')
  omega
/-- what was told of the ends is as shown_as promises -/
structure ToldOk (D : Addr) (u : Int) (own sc dp : Nat) (w : Way) (H : Hp) (v : V) : Prop where
  no : (sc < own ∨ dp < own) → v = .non
  flat : own ≤ sc → own ≤ dp → dp ≤ sc → ∃ t p : Addr, v = .ref t ∧ H t = some (.tup [.ref p, .ref p]) ∧ WorthAt D H p u own
  wide : own ≤ sc → sc < dp → ∃ (t p1 p2 : Addr) (u1 u2 : Int) (s1 s2 : Nat), v = .ref t ∧ H t = some (.tup [.ref p1, .ref p2]) ∧ WorthAt D H p1 u1 s1 ∧ WorthAt D H p2 u2 s2 ∧
    Low (u * 10 ^ (sc - own) * 10 ^ (dp - sc) - reachB w (u * 10 ^ (sc - own)) (10 ^ (dp - sc))) dp u1 s1 ∧ Low (u * 10 ^ (sc - own) * 10 ^ (dp - sc) + reachA w (u * 10 ^ (sc - own)) (10 ^ (dp - sc))) dp u2 s2
def spRight (D : Addr) : Sp := fun vs H Q _ => ∃ (v : V) (r : Addr) (u : Int) (own sc dp : Nat) (w : Way), vs = [v, .ref r, .int (sc : Int), .int (dp : Int), .str w.str] ∧ H r = some (.tup [.int u, .int (own : Int)]) ∧ sc ≤ 400 ∧ dp ≤ 400 ∧ u.natAbs < 2 ^ 1000 ∧
  ToldOk D u own sc dp w H v ∧ ∀ H', Same H H' → Q (.bl true) H'
/-- all of the law's questions at a width -/
theorem wide_ends (w : Way) (g : Int) (k : Nat) (hk : 0 < k) : ∃ lo hi : Int, lo = g * 10 ^ k - reachB w g (10 ^ k) ∧ hi = g * 10 ^ k + reachA w g (10 ^ k) ∧ lo ≤ g * 10 ^ k ∧ g * 10 ^ k ≤ hi ∧ g * 10 ^ k - 10 ^ k ≤ lo ∧ hi ≤ g * 10 ^ k + 10 ^ k ∧
    rounds w (lo - 1) (10 ^ k) ≠ g ∧ rounds w lo (10 ^ k) = g ∧ rounds w hi (10 ^ k) = g ∧ rounds w (hi + 1) (10 ^ k) ≠ g := by
  have e : (10 : Int) ^ k = 2 * (5 * 10 ^ (k - 1)) := by
    rw [show k = (k - 1) + 1 by omega, Int.pow_succ]
    rw [Nat.add_sub_cancel]
    omega
  have hh : (2 : Int) ≤ 5 * 10 ^ (k - 1) := by
    have := ten_pos (k - 1)
    omega
  have r := ends_right w g (5 * 10 ^ (k - 1)) hh
  have b1 := reachB_bounds w g (5 * 10 ^ (k - 1)) hh
  have b2 := reachA_bounds w g (5 * 10 ^ (k - 1)) hh
  rw [← e] at r b1 b2
  obtain ⟨r1, r2, r3, r4, r5, r6⟩ := r
  exact ⟨_, _, rfl, rfl, r1, r2, by omega, by omega, r3, r4, r5, r6⟩
section
variable {P : Program} {w : World} {K : PySem.W.Frag} {mg : Str → Option Value} {base : Heap} {C D : Addr}
theorem scRight : FnScope ["_law_told_here", "_law_row", "_law_scale", "_law_depth", "_law_manner", "_law_units", "_law_own", "_law_limits", "_law_goal", "_law_wide", "_law_asked", "_law_shown", "_law_number"]
    ["_law_told_here", "_law_row", "_law_scale", "_law_depth", "_law_manner"] (defScope sRight) := ⟨rfl, rfl, rfl, by decide +kernel, rfl, by decide +kernel, by decide +kernel⟩
theorem ok_right {f : Addr} {fd : FuncData} (F : Fun K "_law_right" "_law_right" sRight f fd) (N : Names mg) (cE : Keeps P w K mg base CX0 2 "_law_ends" (spEnds D)) (cT : Keeps P w K mg base CX0 1 "_law_ten" spLTen) (cR : Keeps P w K mg base CX0 1 "_law_rounds" spRounds) :
    FnOk P w K mg base CX0 4 f fd ["_law_told_here", "_law_row", "_law_scale", "_law_depth", "_law_manner"] (spRight D) := by
  refine F.ok scRight (fun vs H Q E h => ?_) (fun cdv A outer s H vs Q E hr h => ?_)
  · obtain ⟨v, r, u, own, sc, dp, w, rfl, _⟩ := h
    rfl
  · obtain ⟨v, r, u, own, sc, dp, w, rfl, hR, hsc, hdp, hu, T, k⟩ := h
    have hr1 : Room 2 _ := hr.mono (by decide)
    refine ⟨_, pss_cons (ps_asg (pv 1) (pg_tup (by rfl) (pgs_cons (pg_name (i := 5) scRight.nd rfl (.inl rfl)) (pgs_cons (pg_name (i := 6) scRight.nd rfl (.inl rfl)) pgs_nil))))
      (C8.pss_cut (ps_if (pw_or (pt_cmpR op_gt (pv 6) (pv 2) (nomark _)) (pw_or1 (pw_and (pt_cmpR op_le (pv 3) (pv 2) (nomark _)) (pw_and1 (pt_cmpR op_gt (pv 6) (pv 3) (nomark _)))).pt)).pt (pss_one (ps_ret (pe_cmpR op_isN (pv 0) pe_non (nomark _)))) pss_nil)
      (pss_cons (ps_set (i := 7) scRight.nd rfl (Or.inl rfl) (pe_k cE hr pass0 (pa_cons (pv 0) (pa_cons (pv 3) pa_nil))))
      (pss_cons (ps_if (pt_cmpR op_isN (pv 7) pe_non (nomark _)) (pss_one (ps_ret pe_bl)) pss_nil)
      (pss_cons (ps_if (pt_cmpR op_le (pv 3) (pv 2) (nomark _)) (pss_one (ps_ret (pe_cmpR (op_eqD hr.units) (pv 7) (pe_op op_rep (pe_lst (pa_cons (pe_op op_mulW (pv 5) (pe_k cT hr pass0 (pa_cons (pe_op op_sub (pv 3) (pv 6)) pa_nil))) pa_nil)) pe_int) (nomark _)))) pss_nil)
      (C8.pss_cut (ps_asg (pe_tup (pa_cons (pe_op op_mulW (pv 5) (pe_k cT hr pass0 (pa_cons (pe_op op_sub (pv 2) (pv 6)) pa_nil))) (pa_cons (pe_k cT hr pass0 (pa_cons (pe_op op_sub (pv 3) (pv 2)) pa_nil)) pa_nil)))
          (pg_tup (by rfl) (pgs_cons (pg_name (i := 8) scRight.nd rfl (.inr rfl)) (pgs_cons (pg_name (i := 9) scRight.nd rfl (.inr rfl)) pgs_nil))))
      (pss_cons (ps_if (pt_not (pt_chain op_le op_le (pe_ix ix_list (pv 7) pe_int (fun _ _ => rfl)) (pe_op op_mulW (pv 8) (pv 9)) (pe_ix ix_list (pv 7) pe_int (fun _ _ => rfl)))) (pss_one (ps_ret pe_bl)) pss_nil)
      (C8.pss_cut (ps_set (i := 10) scRight.nd rfl (Or.inl rfl) (pe_lst (pa_cons (pe_op op_sub (pe_ix ix_list (pv 7) pe_int (fun _ _ => rfl)) pe_int) (pa_cons (pe_ix ix_list (pv 7) pe_int (fun _ _ => rfl)) (pa_cons (pe_ix ix_list (pv 7) pe_int (fun _ _ => rfl)) (pa_cons (pe_op op_add (pe_ix ix_list (pv 7) pe_int (fun _ _ => rfl)) pe_int) pa_nil))))))
      (C8.pss_cut (ps_setLc (i := 11) (own := [("_law_number", 12)]) (g := gName 12) (tt := tYes) (by rfl) scRight.nd rfl rfl (sw_true rfl rfl rfl (by decide +kernel)) (pi_list (pv 10))
          (blkOk_by (own := [("_law_number", 12)]) (N := ["_law_told_here", "_law_row", "_law_scale", "_law_depth", "_law_manner", "_law_units", "_law_own", "_law_limits", "_law_goal", "_law_wide", "_law_asked", "_law_shown", "_law_number"]) (sc := defScope sRight) (by decide +kernel))
          (fun _ _ _ _ _ => pg_name (i := 12) scRight.nd rfl (Or.inl rfl) (Or.inr rfl)) (fun _ _ _ _ _ => pts_nil) (fun _ _ _ _ _ => pe_cmpR op_eq (pe_k cR hr pass0 (pa_cons (pv 12) (pa_cons (pv 9) (pa_cons (pv 4) pa_nil)))) (pv 8) (nomark _)))
      (pss_one (ps_ret (pe_cmpR (op_eqD hr.units) (pv 11) (pe_lst (pa_cons pe_bl (pa_cons pe_bl (pa_cons pe_bl (pa_cons pe_bl pa_nil))))) (nomark _)))))))))))), ?_⟩
    refine ⟨_, rfl, r, _, rfl, SqT.of hR, rfl, _, _, rfl, _, _, rfl, rfl, ?_⟩
    -- the first test
    refine ⟨fun σ' H' => σ' = [some v, some (.ref r), some (.int (sc : Int)), some (.int (dp : Int)), some (.str w.str), some (.int u), some (.int (own : Int)), none, none, none, none, none, none] ∧ H' = H ∧ own ≤ sc ∧ own ≤ dp, ?_, ?_⟩
    · refine ⟨_, rfl, _, rfl, _, _, rfl, rfl, _, rfl, ?_⟩
      have no : (sc < own ∨ dp < own) → tRet (tOp (fun x y H Q => y = .non ∧ Q (.bl (decide (x = .non))) H) (tVar 0) (tC .non)) { nx := fun _ _ => True, rt := Q } [some v, some (.ref r), some (.int (sc : Int)), some (.int (dp : Int)), some (.str w.str), some (.int u), some (.int (own : Int)), none, none, none, none, none, none] H := fun h => by
        refine ⟨_, rfl, rfl, ?_⟩
        rw [T.no h]
        exact k H (Same.refl H)
      refine ite2 (fun c => ?_) (fun c => ?_)
      · have := of_decide_eq_true c
        exact iteT (no (.inl (by omega)))
      · have c1 := of_decide_eq_false (Bool.eq_false_iff.mpr c)
        refine ⟨_, rfl, _, rfl, _, _, rfl, rfl, _, rfl, ?_⟩
        refine ite2 (fun d => ?_) (fun d => ?_)
        · refine ⟨_, rfl, _, rfl, _, _, rfl, rfl, _, rfl, ?_⟩
          refine ite2 (fun e => ?_) (fun e => ?_)
          · have := of_decide_eq_true e
            exact no (.inr (by omega))
          · have := of_decide_eq_false (Bool.eq_false_iff.mpr e)
            exact ⟨rfl, rfl, by omega, by omega⟩
        · have := of_decide_eq_false (Bool.eq_false_iff.mpr d)
          exact iteF ⟨rfl, rfl, by omega, by omega⟩
    rintro σ' H' ⟨rfl, eH, o1, o2⟩
    subst eH
    have hu2 : u.natAbs < 2 ^ 8000 := Nat.lt_of_lt_of_le hu (Nat.pow_le_pow_right (by decide) (by decide))
    by_cases e : dp ≤ sc
    · obtain ⟨t, p, rfl, ht, hw⟩ := T.flat o1 o2 e
      refine ⟨_, rfl, _, rfl, t, p, p, u, u, own, own, dp, rfl, ht, hw, hw, o2, o2, by omega, hu2, hu2, fun l G m hl => ?_⟩
      refine ⟨_, rfl, rfl, _, rfl, iteF ?_⟩
      refine ⟨_, rfl, _, rfl, _, _, rfl, rfl, _, rfl, ?_⟩
      rw [decide_eq_true (show (dp : Int) ≤ (sc : Int) by omega)]
      refine iteT ?_
      refine ⟨_, rfl, _, rfl, _, rfl, _, rfl, _, _, rfl, rfl, dp - own, ?_, by omega, _, _, rfl, rfl, wide_mul hu2 (ten_abs _) (by omega) (by omega) (by omega), (by show 1 ≤ sizeLine; decide), fun q hq => ?_⟩
      · show [V.int ((dp : Int) - (own : Int))] = [V.int ((dp - own : Nat) : Int)]
        rw [show ((dp - own : Nat) : Int) = (dp : Int) - own by omega]
      refine ⟨q, 2, _, rfl, rfl, upd_same, by decide, by decide, (by show 1 * 2 ≤ sizeLine; decide), fun q2 hq2 => ?_⟩
      have m2 := m.trans ((Same.new (o := .lst [.int (u * 10 ^ (dp - own))]) hq).trans (Same.new (o := .lst (List.replicate (2 : Int).toNat [V.int (u * 10 ^ (dp - own))]).flatten) hq2))
      have hl2 := ((Same.new (o := .lst [.int (u * 10 ^ (dp - own))]) hq).trans (Same.new (o := .lst (List.replicate (2 : Int).toNat [V.int (u * 10 ^ (dp - own))]).flatten) hq2)) _ _ hl
      refine ⟨_, _, .lst (SqL.of hl2) (dp_ints [u * 10 ^ (dp - own), u * 10 ^ (dp - own)]), .lst (SqL.of upd_same) (dp_ints [u * 10 ^ (dp - own), u * 10 ^ (dp - own)]), shaped_ints _, shaped_ints _, ?_⟩
      rw [SeqAt.eqv_refl _ (SeqAt.canLay_of_shaped (shaped_ints _))]
      exact k _ m2
    · obtain ⟨t, p1, p2, u1, u2, s1, s2, rfl, ht, hw1, hw2, l1, l2⟩ := T.wide o1 (by omega)
      obtain ⟨lo, hi, elo, ehi, g1, g2, g3, g4, r1, r2, r3, r4⟩ := wide_ends w (u * 10 ^ (sc - own)) (dp - sc) (by omega)
      rw [← elo] at l1
      rw [← ehi] at l2
      have a1 := ten_abs (sc - own)
      have a2 := ten_abs (dp - sc)
      have a0 := ten_pos (dp - sc)
      have hg : (u * 10 ^ (sc - own)).natAbs < 2 ^ 2700 := by
        rw [Int.natAbs_mul]
        calc u.natAbs * ((10 : Int) ^ (sc - own)).natAbs ≤ u.natAbs * 2 ^ (4 * (sc - own) + 1) := Nat.mul_le_mul_left _ (Nat.le_of_lt a1)
          _ ≤ u.natAbs * 2 ^ 1601 := Nat.mul_le_mul_left _ (Nat.pow_le_pow_right (by decide) (by omega))
          _ < 2 ^ 1000 * 2 ^ 1601 := Nat.mul_lt_mul_of_pos_right hu (Nat.pow_pos (by decide))
          _ ≤ 2 ^ 2700 := by rw [← Nat.pow_add]; exact Nat.pow_le_pow_right (by decide) (by decide)
      generalize eg : u * 10 ^ (sc - own) = g at *
      have hgw : (g * 10 ^ (dp - sc)).natAbs < 2 ^ 4301 := by
        rw [Int.natAbs_mul]
        calc g.natAbs * ((10 : Int) ^ (dp - sc)).natAbs ≤ g.natAbs * 2 ^ (4 * (dp - sc) + 1) := Nat.mul_le_mul_left _ (Nat.le_of_lt a2)
          _ ≤ g.natAbs * 2 ^ 1601 := Nat.mul_le_mul_left _ (Nat.pow_le_pow_right (by decide) (by omega))
          _ < 2 ^ 2700 * 2 ^ 1601 := Nat.mul_lt_mul_of_pos_right hg (Nat.pow_pos (by decide))
          _ ≤ 2 ^ 4301 := by rw [← Nat.pow_add]; exact Nat.pow_le_pow_right (by decide) (by decide)
      have a3 : ((10 : Int) ^ (dp - sc)).natAbs < 2 ^ 4301 := Nat.lt_of_lt_of_le a2 (Nat.pow_le_pow_right (by decide) (by omega))
      have e5 : (2 : Nat) ^ 4302 = 2 * 2 ^ 4301 := by rw [show 4302 = 4301 + 1 by rfl, Nat.pow_succ]; omega
      have blo : lo.natAbs < 2 ^ 4302 := by
        rw [e5]
        generalize (2 : Nat) ^ 4301 = B at *
        omega
      have bhi : hi.natAbs < 2 ^ 4302 := by
        rw [e5]
        generalize (2 : Nat) ^ 4301 = B at *
        omega
      have big : (2 : Nat) ^ 4302 < 2 ^ 8000 := Nat.pow_lt_pow_right (by decide) (by decide)
      have big2 : (2 : Nat) ^ 8000 < 2 ^ 9000 := Nat.pow_lt_pow_right (by decide) (by decide)
      have bu1 : u1.natAbs < 2 ^ 8000 := Nat.lt_of_le_of_lt l1.abs (Nat.lt_trans blo big)
      have bu2 : u2.natAbs < 2 ^ 8000 := Nat.lt_of_le_of_lt l2.abs (Nat.lt_trans bhi big)
      refine ⟨_, rfl, _, rfl, t, p1, p2, u1, u2, s1, s2, dp, rfl, ht, hw1, hw2, l1.le, l2.le, by omega, bu1, bu2, fun l G m hl => ?_⟩
      rw [← l1.eq, ← l2.eq] at hl
      refine ⟨_, rfl, rfl, _, rfl, iteF ?_⟩
      refine ⟨_, rfl, _, rfl, _, _, rfl, rfl, _, rfl, ?_⟩
      rw [decide_eq_false (show ¬ (dp : Int) ≤ (sc : Int) by omega)]
      refine iteF ?_
      clear elo ehi hw1 hw2 T ht
      refine ⟨fun σ' H2 => σ' = [some (.ref t), some (.ref r), some (.int (sc : Int)), some (.int (dp : Int)), some (.str w.str), some (.int u), some (.int (own : Int)), some (.ref l), some (.int g), some (.int (10 ^ (dp - sc))), none, none, none] ∧ Same G H2, ?_, ?_⟩
      · refine ⟨_, rfl, _, rfl, _, rfl, _, _, rfl, rfl, sc - own, ?_, by omega, _, _, rfl, rfl, wide_mul hu2 (ten_abs _) (by omega) (by omega) (by omega), ?_⟩
        · show [V.int ((sc : Int) - (own : Int))] = [V.int ((sc - own : Nat) : Int)]
          rw [show ((sc - own : Nat) : Int) = (sc : Int) - own by omega]
        refine ⟨_, rfl, _, rfl, _, _, rfl, rfl, dp - sc, ?_, by omega, (by show 2 ≤ sizeLine; decide), fun q hq => ?_⟩
        · show [V.int ((dp : Int) - (sc : Int))] = [V.int ((dp - sc : Nat) : Int)]
          rw [show ((dp - sc : Nat) : Int) = (dp : Int) - sc by omega]
        exact ⟨q, _, rfl, SqT.of upd_same, rfl, _, _, rfl, _, _, rfl, rfl, by rw [← eg]; rfl, Same.new hq⟩
      rintro σ' G1 ⟨rfl, mq⟩
      have hl1 := mq _ _ hl
      have k1 : ∀ G2, Same G1 G2 → Q (.bl true) G2 := fun G2 m2 => k G2 (m.trans (mq.trans m2))
      clear hl k m mq
      generalize (10 : Int) ^ (dp - sc) = ww at *
      refine ⟨_, rfl, l, _, 0, .int lo, rfl, rfl, SqL.of hl1, at_of (j := 0) rfl rfl, ?_⟩
      refine ⟨_, rfl, _, rfl, _, _, rfl, rfl, wide_mul hg a3 (by omega) (by omega) (by omega), ?_⟩
      refine ⟨_, _, rfl, rfl, decide (lo ≤ g * ww), rfl, ?_⟩
      rw [decide_eq_true g1]
      refine iteT ?_
      refine ⟨_, rfl, l, _, 1, .int hi, rfl, rfl, SqL.of hl1, at_of (j := 1) rfl rfl, ?_⟩
      refine ⟨_, _, rfl, rfl, decide (g * ww ≤ hi), rfl, ?_⟩
      rw [decide_eq_true g2]
      refine iteF ?_
      refine ⟨fun σ' H2 => ∃ q, σ' = [some (.ref t), some (.ref r), some (.int (sc : Int)), some (.int (dp : Int)), some (.str w.str), some (.int u), some (.int (own : Int)), some (.ref l), some (.int g), some (.int ww), some (.ref q), none, none] ∧ Same G1 H2 ∧ H2 q = some (.lst [.int (lo - 1), .int lo, .int hi, .int (hi + 1)]), ?_, ?_⟩
      · refine ⟨_, rfl, l, _, 0, .int lo, rfl, rfl, SqL.of hl1, at_of (j := 0) rfl rfl, _, _, rfl, rfl, ?_⟩
        refine ⟨_, rfl, l, _, 0, .int lo, rfl, rfl, SqL.of hl1, at_of (j := 0) rfl rfl, ?_⟩
        refine ⟨_, rfl, l, _, 1, .int hi, rfl, rfl, SqL.of hl1, at_of (j := 1) rfl rfl, ?_⟩
        refine ⟨_, rfl, l, _, 1, .int hi, rfl, rfl, SqL.of hl1, at_of (j := 1) rfl rfl, _, _, rfl, rfl, ?_⟩
        refine ⟨(by show 4 ≤ sizeLine; decide), fun q hq => ?_⟩
        exact ⟨q, rfl, Same.new hq, upd_same⟩
      rintro σ' G2 ⟨q, rfl, m2, hq⟩
      have k2 : ∀ G3, Same G2 G3 → Q (.bl true) G3 := fun G3 m3 => k1 G3 (m2.trans m3)
      clear k1 m2 hl1
      refine ⟨fun σ' H2 => ∃ L, σ' = [some (.ref t), some (.ref r), some (.int (sc : Int)), some (.int (dp : Int)), some (.str w.str), some (.int u), some (.int (own : Int)), some (.ref l), some (.int g), some (.int ww), some (.ref q), some (.ref L), none] ∧ Same G2 H2 ∧ H2 L = some (.lst [.bl false, .bl true, .bl true, .bl false]), ?_, ?_⟩
      · refine ⟨_, rfl, q, rfl, ⟨_, SqL.of hq⟩, fun L hL => ?_⟩
        have nl : ∀ {b : Addr} {o : HO}, G2 b = some o → b ≠ L := fun e => ne_of_none e hL
        have turn : ∀ (i : Nat) (x : V), ([.int (lo - 1), .int lo, .int hi, .int (hi + 1)] : List V)[i]? = some x → ∃ n : Int, x = .int n ∧ n.natAbs < 2 ^ 9000 ∧ i < 4 ∧
            (([.bl false, .bl true, .bl true, .bl false] : List V).take (i + 1)) = (([.bl false, .bl true, .bl true, .bl false] : List V).take i) ++ [.bl (decide (V.int (rounds w n ww) = V.int g))] := by
          intro i x hi
          have hi2 : i < 4 := (List.getElem?_eq_some_iff.mp hi).1
          have big3 : (2 : Nat) ^ 4302 + 1 < 2 ^ 9000 := by omega
          rcases (by omega : i = 0 ∨ i = 1 ∨ i = 2 ∨ i = 3) with rfl | rfl | rfl | rfl
          · cases hi
            refine ⟨_, rfl, by omega, hi2, ?_⟩
            rw [decide_eq_false (fun z => r1 (V.int.inj z))]
            rfl
          · cases hi
            refine ⟨_, rfl, by omega, hi2, ?_⟩
            rw [decide_eq_true (congrArg V.int r2)]
            rfl
          · cases hi
            refine ⟨_, rfl, by omega, hi2, ?_⟩
            rw [decide_eq_true (congrArg V.int r3)]
            rfl
          · cases hi
            refine ⟨_, rfl, by omega, hi2, ?_⟩
            rw [decide_eq_false (fun z => r4 (V.int.inj z))]
            rfl
        refine lc_list (K := K) (a := q) (xs := [.int (lo - 1), .int lo, .int hi, .int (hi + 1)]) (fun i H' => Same G2 H' ∧ H' L = some (.lst (([.bl false, .bl true, .bl true, .bl false] : List V).take i)))
          ⟨Same.new hL, upd_same⟩ (fun i H' _ ⟨sm, _⟩ => SqL.of (sm _ _ hq)) ?_ ?_
        · rintro i x H' hi ⟨sm, hA⟩
          obtain ⟨n, rfl, hn, hi4, htk⟩ := turn i x hi
          refine ⟨rfl, ?_⟩
          refine ⟨_, rfl, _, rfl, _, rfl, n, ww, w, rfl, a0, Nat.lt_trans a3 (Nat.pow_lt_pow_right (by decide) (by decide)), hn, fun H3 m3 => ?_⟩
          refine ⟨_, rfl, rfl, _, m3 _ _ hA, ?_, ?_, ?_⟩
          · rw [List.length_take, sizeLine_eq]
            omega
          · intro b o e
            rw [upd_ne (nl e)]
            exact m3 _ _ (sm _ _ e)
          · rw [upd_same, htk]
        · rintro H' ⟨sm, hA⟩
          exact ⟨L, rfl, sm, hA⟩
      rintro σ' G3 ⟨L, rfl, m3, hL⟩
      refine ⟨_, rfl, (by show 4 ≤ sizeLine; decide), fun p hp => ?_⟩
      have mp := Same.new (o := .lst [.bl false, .bl true, .bl true, .bl false]) hp
      have db : ∀ {H : Hp}, DpAll K H [.bl false, .bl true, .bl true, .bl false] [.bool false, .bool true, .bool true, .bool false] := .cons (.bl _) (.cons (.bl _) (.cons (.bl _) (.cons (.bl _) .nil)))
      refine ⟨_, _, .lst (SqL.of (mp _ _ hL)) db, .lst (SqL.of upd_same) db, by decide +kernel, by decide +kernel, ?_⟩
      rw [show PyData.eqv (.list [.bool false, .bool true, .bool true, .bool false]) (.list [.bool false, .bool true, .bool true, .bool false]) = true by decide +kernel]
      exact k2 _ (m3.trans mp)
end
end FS
set_option Elab.async false
set_option linter.all false
set_option maxRecDepth 100000
set_option maxHeartbeats 2000000
/-! BadValue.__init__: super().__init__(value), then the field. -/
namespace FS
open PySem L2
abbrev sBVI : Stmt := inClass (top 2) 0
/-- BadValue.__init__ as it stands behind the top -/
structure FunB (P : Program) (K : PySem.W.Frag) (C : Addr) (f : Addr) (fd : FuncData) : Prop where
  ex : ∃ (oc : Value) (od : Option Addr) (kV doc pm : Value) (an : Option Addr) (cda : Addr) (ct : Value) (osl : Array (Option Value)) (cc : Addr) (ccl : Value) (cdd : Option Addr) (vs : Array Value) (ccs : Array (Option Value)) (file : Str) (tf : Tok) (cl : Value) (cld : Option Addr) (csl : Array (Option Value)),
    fd = PySem.W.fnX "__init__" "BadValue.__init__" (defArgs sBVI) (defBody sBVI) (defScope sBVI) [("__class__", cc)] .none kV doc pm an (.ref cda) ct ∧
    K.lookup f = some ⟨oc, od, .func (PySem.W.fnX "__init__" "BadValue.__init__" (defArgs sBVI) (defBody sBVI) (defScope sBVI) [("__class__", cc)] .none kV doc pm an (.ref cda) ct), osl⟩ ∧
    PySem.W.codeIn K (.ref cda) "BadValue.__init__" = true ∧ K.lookup cda = some ⟨ccl, cdd, .fields vs, ccs⟩ ∧ vs[2]? = some (.str file tf) ∧ ((P.main.file : Str) == file) = true ∧ K.lookup cc = some ⟨cl, cld, .cell (some (.ref C)), csl⟩
/-- what the class is -/
structure ClsB (P : Program) (K : PySem.W.Frag) (mg : Str → Option Value) (C : Addr) : Prop where
  oex : OexC K C
  sub : PySem.W.mroIn K C (.ref C) = some true
  subV : PySem.W.subIn K (.ref C) (.type "ValueError") = some true
  sup : PySem.W.ks_superIn K C C "__init__" = some (some (.builtin "ValueError.__init__"))
  stat : PySem.W.nsIn K cStatics "thirdparty.any" = some none
  msup : mg "super" = none
  tsup : (P.main.scope.names.lookup ("super" : Str)).isSome = false
  nv : PySem.W.findIn K (.ref C) "value" = some none
theorem scBV : NdefX.NScope ["self", "value", "__class__"] ["self", "value"] ["__class__"] (defScope sBVI) := NdefX.nscope_by (by decide +kernel)
theorem bvBody : ∃ (p0 p1 p2 p3 p4 p5 p6 p7 p8 p9 : Pos) (pl : Sem Bool), defBody sBVI = [.Expr (.Call (.Attribute (.Call (.Name "super" p0) [] [] p1) "__init__" p2) [.Name "value" p3] [] p4) p5, .Assign [.Attribute (.Name "self" p6) "value" p7] (.Name "value" p8) p9] ∧
    ∀ env : Env, eval (.Call (.Attribute (.Call (.Name "super" p0) [] [] p1) "__init__" p2) [.Name "value" p3] [] p4) env = (do
      let ov ← attributeBase (.Call (.Name "super" p0) [] [] p1) "__init__" env (eval (.Call (.Name "super" p0) [] [] p1) env)
      standAt p2.atName
      let (f, first) ← holding [ov] (getMethod ov "__init__" pl)
      callWith p4 f first (backTo p4 (starEach [.Name "value" p3] env)) []) := ⟨_, _, _, _, _, _, _, _, _, _, _, rfl, fun _ => rfl⟩
section
variable {P : Program} {w : World} {K : PySem.W.Frag} {mg : Str → Option Value} {base : Heap} {C : Addr}
abbrev bvF (cc cda : Addr) : NdefX.NF := ⟨"__init__", "BadValue.__init__", defArgs sBVI, defBody sBVI, defScope sBVI, [("__class__", cc)], cda⟩
abbrev bvX (P : Program) (w : World) (K : PySem.W.Frag) (mg : Str → Option Value) (base : Heap) (f cc cda : Addr) (A : Around) (outer : List Env) (s : Shared) (H : Hp) (E : XK) : Cx := NdefX.ncx CX0 P w K mg base ["self", "value", "__class__"] (bvF cc cda) f A outer s H E
theorem ok_bvInit {f : Addr} {fd : FuncData} (F : FunB P K C f fd) (B : ClsB P K mg C) (hb : Binds K fd ["self", "value"] []) : FnOk P w K mg base CX0 2 f fd ["self", "value"] (spBV C) := by
  refine ⟨fun vs H Q E h => ?_, fun A outer s H args us vs Q E hr e0 hbd r hsp => ?_⟩
  · obtain ⟨a, v, rfl, _⟩ := h
    rfl
  obtain ⟨a, v, rfl, ha, q⟩ := hsp
  obtain ⟨oc, od, kV, doc, pm, an, cda, ct, osl, cc, ccl, cdd, vs, ccs, file, tf, cl, cld, csl, rfl, lk, hcd, lkc, hvs, hfile, lkk⟩ := F.ex
  obtain ⟨nm, qn, N, bs, bm, sn, sub, ab, col, dd, k0, k1, k2, k3, k5, hC, hbm⟩ := B.oex.cls
  obtain ⟨u0, u1, rfl⟩ : ∃ u0 u1, us = [u0, u1] := by
    cases r with
    | cons h1 r => cases r with
      | cons h2 r =>
        cases r
        exact ⟨_, _, rfl⟩
  have r0 : u0 = Value.ref a := by
    cases r with
    | cons h1 r => exact h1
  subst r0
  have KX : K.In s.heap := e0.mod.kin.keeps fun b o e => (e0.bs b o e).1
  have lim : s.heap.NoLimit := e0.mod.nolimit.keeps fun b o e => (e0.bs b o e).1
  obtain ⟨p0, p1, p2, p3, p4, p5, p6, p7, p8, p9, pl, hbody, hev⟩ := bvBody
  refine PySem.ks_codeAny_call_defAt (fd := PySem.W.fnX "__init__" "BadValue.__init__" (defArgs sBVI) (defBody sBVI) (defScope sBVI) [("__class__", cc)] .none kV doc pm an (.ref cda) ct) (body := defBody sBVI) (binds := (["self", "value"] : List Str).zip [Value.ref a, u1]) hr.depth (KX _ _ lk) rfl lim (PySem.W.codeRec_of KX hcd) rfl hbd
    scBV.nocell (fun x hx => scBV.par _ (List.of_mem_zip (show (x.1, x.2) ∈ _ from hx)).1) (fun h₁ hns hk => ?_)
  have cells : NdefX.CellsAt [("__class__", cc)] ["__class__"] [some (.ref C)] s.heap H := by
    have hbase := e0.bs cc _ (e0.mod.kin _ _ lkk)
    have hic : s.heap.IsCell cc (some (.ref C)) := ⟨_, hbase.1, rfl⟩
    refine ⟨rfl, fun y c e => ?_, fun x y c e1 e2 => ?_, fun i y e => ?_⟩
    · have : c = cc := by
        simp only [List.lookup] at e
        split at e
        · exact (Option.some.inj e).symm
        · cases e
      subst this
      exact ⟨hbase.2, _, hic⟩
    · simp only [List.lookup] at e1 e2
      split at e1
      · rename_i z1
        split at e2
        · rename_i z2
          rw [eq_of_beq z1, eq_of_beq z2]
        · cases e2
      · cases e1
    · have hi : i = 0 := by
        have := (List.getElem?_eq_some_iff.mp e).1
        simp at this
        exact this
      subst hi
      cases e
      refine ⟨cc, rfl, fun v hv => ?_⟩
      cases hv
      exact ⟨.ref C, rfl, hic⟩
  have I : Inv (bvX P w K mg base f cc cda A outer s H E) [] [some (.ref a), some v, some (.ref C)] H { s with heap := h₁, toks := s.toks + 2 } := NdefX.inv_startN (CX := CX0) (N := ["self", "value", "__class__"]) (ps := ["self", "value"]) (fr := ["__class__"]) (F := bvF cc cda) (f := f) (ws := [some (.ref C)]) (E := E) (tk := s.toks + 2) scBV hr.hd e0 rfl r cells hns hk
  have lkC : h₁.get? C = _ := I.kIn _ _ hC
  have fin : ∀ {pins : List (Addr × Obj)} {σ' : St} {H' : Hp} {v : V} {u : Value} {s' : Shared}, Inv (bvX P w K mg base f cc cda A outer s H E) pins σ' H' s' → RelV v u → Q v H' → CE outer P w H s Q u s' :=
    fun {pins σ' H' v u s'} J rv q => ⟨v, H', J.os, J.bare, J.base, J.hok, rv, q⟩
  show PySem.wpAt (model P w) (A.deeper (NdefX.envF (bvF cc cda) f s.heap.objs.size)) (.func (defBody sBVI) (NdefX.envF (bvF cc cda) f s.heap.objs.size)) (execs (defBody sBVI) (NdefX.envF (bvF cc cda) f s.heap.objs.size)) _ (bvX P w K mg base f cc cda A outer s H E).xe _
  have hbd2 := hbody
  generalize defBody sBVI = body at hbd2 ⊢
  subst hbd2
  refine PySem.ks_wpAt_execs_cons (PySem.ks_wpAt_Expr_any (PySem.ks_wpAt_MethodCall ?_ (hev _)))
  refine PySem.ks_wpAt_super_base (f := f) (cc := cda) (show (defScope sBVI).names.lookup ("super" : Str) = some .globalImplicit by decide +kernel) (show (defScope sBVI).names.lookup ("__class__" : Str) = some .free by decide +kernel) rfl rfl (I.kIn _ _ lk) rfl (by rfl) rfl (I.kIn _ _ lkc) rfl hvs hfile B.tsup ?_
  obtain ⟨mb, hb1, hb2⟩ := I.mod.blt
  refine PySem.W.ks_loadName_global rfl (show (defScope sBVI).names.lookup ("super" : Str) = some .globalImplicit by decide +kernel)
    (PySem.Calls.loadGlobal_builtin (I.mod.glob.keeps I.bk) B.msup (hb1.keeps I.bk) ((hb2 _ (by decide)).trans PyProof.Rows.Boot.«super») ⟨rfl, ?_⟩)
  refine PySem.wpAny_loadName_free rfl (show (defScope sBVI).names.lookup ("__class__" : Str) = some .free by decide +kernel) (c := cc) rfl ⟨_, I.kIn _ _ lkk, rfl⟩ ?_
  refine PySem.wpAny_loadName_local rfl (show (defScope sBVI).names.lookup ("self" : Str) = some .local by decide +kernel) hns rfl ?_
  refine PySem.ks_wpAny_isType_cls lkC rfl ⟨rfl, ?_⟩
  obtain ⟨t1, hx⟩ := exo_at I.hok ha
  have hx : h₁.get? a = _ := hx
  refine PySem.ks_wpAny_call_super lkC rfl hx rfl (fun c e => by cases e) (PySem.W.looks_mroIn I.kIn B.sub) (fun h2 hso k2 => ?_)
  have I2 : Inv (bvX P w K mg base f cc cda A outer s H E) [] [some (.ref a), some v, some (.ref C)] H { s with heap := h2, toks := s.toks + 2 } := I.kept (t' := s.toks + 2) k2
  have IA : PySem.W.InstAt h2 a (PySem.HandSPX.excO C t1) C none := ⟨k2 _ _ hx, rfl, rfl, trivial⟩
  have naC : a ≠ C := fun z => by
    have := I.bs C _ (I.mod.kin _ _ hC)
    rw [← z, ha] at this
    cases this.2
  have hcl : PySem.W.clsIn K C = some { name := nm, bases := bs, mro := .ref C :: bm, ns := N, qualname := qn, hasDict := true, slotNames := sn, subclasses := sub, abstract := ab, collection := col, hasDel := false } := by unfold PySem.W.clsIn; rw [hC] <;> rfl
  have hsp := B.sup
  unfold PySem.W.ks_superIn at hsp
  rw [hcl] at hsp
  refine PySem.W.kxs_getMethod PySem.W.kxs_ValueError hso (PySem.W.looks_opaque I2.kIn B.stat) (fun A Q E s k q => wpAny_bind ((PySem.W.looks_clsIn I2.kIn hcl) A _ E s k (wpAny_pure q))) rfl I2.kIn hsp (IA.type.andThen (PySem.W.looks_subIn I2.kIn B.subV)) naC rfl ?_
  have k3 : ∀ b o, h2.get? b = some o → (h2.push (PySem.W.kxs_mw "ValueError.__init__" a)).get? b = some o := fun b o e => Heap.get?_push_of_some _ e
  have hu : (h2.push (PySem.W.kxs_mw "ValueError.__init__" a)).get? h2.objs.size = some (PySem.W.kxs_mw "ValueError.__init__" a) := Heap.get?_push_at rfl rfl
  have I3 : Inv (bvX P w K mg base f cc cda A outer s H E) [] [some (.ref a), some v, some (.ref C)] H { s with heap := h2.push (PySem.W.kxs_mw "ValueError.__init__" a), toks := s.toks + 2 + 1 } := I2.kept (t' := s.toks + 2 + 1) k3
  have I4 : Inv (bvX P w K mg base f cc cda A outer s H E) [(h2.objs.size, PySem.W.kxs_mw "ValueError.__init__" a)] [some (.ref a), some v, some (.ref C)] H { s with heap := h2.push (PySem.W.kxs_mw "ValueError.__init__" a), toks := s.toks + 2 + 1 } := I3.pins_of fun p hp => by
    rcases List.mem_singleton.mp hp with rfl
    exact ⟨hu, I2.hok.fresh (Nat.le_refl _), Nat.ne_of_gt I2.lt, I2.nofs (Nat.le_refl _), fun v e => by cases e⟩
  refine PySem.W.kxs_callWith (i := "ValueError.__init__") (x := a) rfl ?_
  refine PySem.Calls.evalArgs_plain ?_
  have pa : PA (bvX P w K mg base f cc cda A outer s H E) [.Name "value" p3] (tCons (tVar 1) tNil) := pa_cons (pv 1) pa_nil
  refine thn (pa.run p4 _ _ _ H (fun vs H1 => vs = [v] ∧ H1 = H) I4 ⟨_, rfl, rfl, rfl⟩) fun us s5 ⟨vs5, H5, I5, r5, ev5, eH5⟩ => ?_
  subst ev5
  rw [eH5] at I5
  have hu5 := (I5.pin (h2.objs.size, PySem.W.kxs_mw "ValueError.__init__" a) (by simp)).1
  refine ⟨hu5, ?_⟩
  obtain ⟨t5, hx5⟩ := exo_at I5.hok ha
  have hC5 := I5.kIn _ _ hC
  have hz : us.length ≤ sizeLine := by
    rw [← Paired.length r5]
    show 1 ≤ sizeLine
    decide
  obtain ⟨hh, g5, d5, tk5, os5⟩ := s5
  refine wpAny_call (codeAny_of_tree ?_)
  show wpAny _ _ (callAny (.ref h2.objs.size) ⟨us, []⟩) _ _ _
  simp only [callAny]
  refine wpAny_bind (wpAny_load hu5 ?_)
  simp only [PySem.W.kxs_mw, show (Value.type "method-wrapper" == Value.type "method" || Value.type "method-wrapper" == Value.type "builtin_function_or_method" || Value.type "method-wrapper" == Value.type "method-wrapper") = true by decide, if_true]
  refine PySem.W.KFB.if_so (by decide) ?_
  refine wpAny_bind (PySem.W.check_bound_init PySem.F.excBase_ValueError.toExcCallFacts hC5 hx5 rfl ?_)
  refine wpAny_bind (wpAny_pure (wpAny_pure ?_))
  refine ⟨PySem.plainId_quiet PySem.F.excBase_ValueError.init.plain _, codeAny_builtin PySem.F.excBase_ValueError.initEntry ?_⟩
  refine PySem.W.exc_init_tree (cls := .ref C) (t0 := t5) (dv := none) (c2 := .none) (c3 := .none) (b4 := .bool false) hx5 hz (fun h6 k6 hx6 _ => ?_)
  have I6 := I5.write (h' := h6) (t' := tk5) (x := a) (e := a) (o := exo a C none) (by rw [ha]; exact True.intro) (.inl rfl) k6 ⟨_, hx6⟩ (exo_ok hx6)
  have eu : upd H a (exo a C none) = H := by
    funext b
    by_cases hb : b = a
    · rw [hb, upd_same, ha]
    · rw [upd_ne hb]
  rw [eu] at I6
  have I7 : Inv (bvX P w K mg base f cc cda A outer s H E) [] [some (.ref a), some v, some (.ref C)] H ⟨h6, g5, d5, tk5, os5⟩ := I6.pins_of fun p hp => absurd hp (by simp)
  have pss : PSs (bvX P w K mg base f cc cda A outer s H E) [.Assign [.Attribute (.Name "self" p6) "value" p7] (.Name "value" p8) p9] _ := pss_one (ps_ost (pv 0) (pv 1))
  refine PySem.wpAt_of_wpAny (wpAny_mono (pss.run [] _ _ H { nx := fun _ H' => Q .non H', rt := Q } I7 ?_) (fun fl s' hs => ?_) fun _ _ z => z)
  · exact ⟨v, rfl, .ref a, rfl, a, C, rfl, B.oex, B.nv, .inl ⟨ha, fun dx n ne => q dx n ne⟩⟩
  cases fl with
  | ret u =>
    obtain ⟨v, σ', H', J, rv, q⟩ := hs
    exact fin J rv q
  | next =>
    obtain ⟨σ', H', J, q⟩ := hs
    exact fin (v := V.non) (u := Value.none) J rfl q
  | brk =>
    obtain ⟨_, _, _, q⟩ := hs
    exact False.elim q
  | cont =>
    obtain ⟨_, _, _, q⟩ := hs
    exact False.elim q
end
end FS
set_option Elab.async false
set_option linter.all false
set_option maxRecDepth 100000
/-! what a deed (a lambda without parameters) promises; _law_refused. -/
namespace FS
open PySem L2
/-- the words of a lambda, what it captured, its code object -/
structure LF where
  qual : Str
  params : Arguments
  body : Expr
  scope : Scope
  cl : List (Str × Addr)
  c : Addr
/-- at f: the function that the lambda made -/
def LamO (f : Addr) (L : LF) : HO := .ext fun h => ∃ pm ctv : Value, h.get? f = some (PySem.W.kla_obj "<lambda>" L.qual L.params L.body L.scope L.cl pm L.c ctv)
theorem lamO_at {P : Program} {w : World} {H : Hp} {h : Heap} {f : Addr} {L : LF} (hok : HOk P w H h) (e : H f = some (LamO f L)) : ∃ pm ctv : Value, h.get? f = some (PySem.W.kla_obj "<lambda>" L.qual L.params L.body L.scope L.cl pm L.c ctv) := by
  obtain ⟨z, _⟩ := hok f _ e
  exact z
/-- f(), told at the heap H: BadValue(v) leaves it -/
structure Deed (P : Program) (w : World) (K : PySem.W.Frag) (mg : Str → Option Value) (base : Heap) (C : Addr) (k : Nat) (f : Addr) (v : V) (H : Hp) : Prop where
  at_ : ∃ L : LF, H f = some (LamO f L)
  run : ∀ (A : Around) (outer : List Env) (s : Shared) (Q : VK) (E : XK), Room k A → Env0 P w K mg base A outer s H → Refuse C E v H → codeAny (model P w) A (.call (.ref f) ⟨[], []⟩) (CR (L2.CX P w) outer P w H s Q E) s
/-- the reading of f(), f in slot i; W: what is wished of what leaves it -/
def tDeed (P : Program) (w : World) (K : PySem.W.Frag) (mg : Str → Option Value) (base : Heap) (C : Addr) (k i : Nat) (W : WX) : TE := fun σ H _ => ∃ (f : Addr) (v : V), σ[i]? = some (some (.ref f)) ∧ Deed P w K mg base C k f v H ∧ Refuse C (WE W σ) v H
section
variable {X : Cx} {C : Addr} {k j i : Nat} {W : WX} {x : Str} {p1 p2 : Pos}
/-- f(), f a name -/
theorem pe_deed (tk : Takes X W) (hr : Room j X.A) (hk : k ≤ j) (hN : X.N[i]? = some x) (hv : Vis X.env.scope x) (hd : (x == ("__debug__" : Str)) = false := by decide) (hcd : (x == ("__classdict__" : Str)) = false := by decide) :
    PE X (.Call (.Name x p1) [] [] p2) (tDeed X.prog X.w X.K X.mg X.base C k i W) := by
  refine ⟨fun pins s σ H Q I h => ?_⟩
  obtain ⟨f, v, hs, D, hE⟩ := h
  refine wpAny_Call_Name_kw (thn ((pe_var (pos := p1) (i := i) hN hv hd hcd).run pins s σ H (fun u H1 => u = .ref f ∧ H1 = H) I ⟨.ref f, hs, rfl, rfl⟩) fun u s1 ⟨u', H1, I1, r1, q1⟩ => ?_)
  obtain ⟨ev, eH⟩ := q1
  subst ev
  rw [eH] at I1
  obtain rfl : u = Value.ref f := r1
  obtain ⟨L, hL⟩ := D.at_
  obtain ⟨pm, ctv, ho⟩ := lamO_at I1.hok hL
  refine PySem.W.callWith_F0 (first := []) ⟨_, _, _, _, ho⟩ ?_
  show wpAny _ _ (call (.ref f) []) _ _ _
  refine wpAny_call (codeAny_mono (D.run X.A X.stack s1 (fun _ _ => False) (WE W σ) (hr.mono hk) I1.env0 hE) fun r s' hq => ?_)
  cases r with
  | error e => exact passAt tk σ pins H s1 e s' I1 hq
  | ok fl =>
    cases fl with
    | ret u =>
      obtain ⟨_, _, _, _, _, _, _, z⟩ := hq
      exact z.elim
    | next => exact False.elim hq
    | brk => exact False.elim hq
    | cont => exact False.elim hq
end
/-! ### _law_refused -/
def spRefused (P : Program) (w : World) (K : PySem.W.Frag) (mg : Str → Option Value) (base : Heap) (C : Addr) : Sp := fun vs H Q _ => ∃ (f : Addr) (v : V), vs = [.ref f, v] ∧ Deed P w K mg base C 8 f v H ∧ (Wr H v ∨ ∃ i : Int, v = .int i) ∧ ∀ H', Same H H' → Q (.bl true) H'
section
variable {P : Program} {w : World} {K : PySem.W.Frag} {mg : Str → Option Value} {base : Heap} {C : Addr}
theorem scRefused : FnScope ["_law_deed", "_law_value", "_law_told_here", "e"] ["_law_deed", "_law_value"] (defScope sRefused) := ⟨rfl, rfl, rfl, by decide +kernel, rfl, by decide +kernel, by decide +kernel⟩
theorem ok_refused {f : Addr} {fd : FuncData} (F : Fun K "_law_refused" "_law_refused" sRefused f fd) (mC : mg "BadValue" = some (.ref C)) (T : XfC K C) (hno : PySem.W.findIn K (.ref C) "value" = some none) (hex : PySem.W.exmOne K (.ref C) (.ref C) = some true) (cS : Keeps P w K mg base CX0 1 "_law_same" spSame) :
    FnOk P w K mg base CX0 9 f fd ["_law_deed", "_law_value"] (spRefused P w K mg base C) := by
  refine F.ok scRefused (fun vs H Q E h => ?_) (fun cdv A outer s H vs Q E hr h => ?_)
  · obtain ⟨f, v, rfl, _⟩ := h
    rfl
  · obtain ⟨f, v, rfl, D, hw, k⟩ := h
    refine ⟨_, pss_cons (ps_set (i := 2) scRefused.nd rfl (Or.inl rfl) pe_non)
      (pss_cons (ps_try_as (i := 3) (tb := fun W => tDrop (tDeed P w K mg base C 8 0 W)) (ts := fun a cls d => tAsg (tTup (tCons (tXf a cls d C "value" (tVar 3)) tNil)) (gName 2)) (Wout := fun _ _ _ _ => False) rfl rfl scRefused.nd rfl rfl ⟨rfl, by decide, .inl mC⟩ LamX.takes0 (fun W pn xe tk _ => pss_one (ps_expr (pe_deed (C := C) (k := 8) (i := 0) tk hr (by decide) rfl (.inl rfl))))
        (fun a oe cls d pn hz hf => pss_one (ps_set (i := 2) scRefused.nd rfl (Or.inl rfl) (pe_tup (pa_cons (pe_xf T hno hz hf (pv 3)) pa_nil)))))
      (pss_one (ps_ret (pe_and (pe_cmpR op_notN (pv 2) pe_non (nomark _)) (pe_one (pe_k cS hr pass0 (pa_cons (pe_ix ix_tup (pv 2) pe_int (fun _ _ => rfl)) (pa_cons (pv 1) pa_nil)))))))), ?_⟩
    refine ⟨f, v, rfl, D, fun d hd => ⟨true, hex, fun _ a0 _ => ?_, fun z => Bool.noConfusion z⟩⟩
    refine ⟨_, rfl, rfl, rfl, d, _, v, rfl, upd_same, rfl, (by show 1 ≤ sizeLine; decide), fun p hp => ?_⟩
    have m := (Same.new (o := .xd [("value", v)]) hd).trans (Same.new (o := .tup [v]) hp)
    refine ⟨_, rfl, rfl, _, rfl, iteT ?_⟩
    refine ⟨_, rfl, p, _, 0, v, rfl, rfl, SqT.of upd_same, at_of (j := 0) rfl rfl, _, rfl, v, rfl, ?_, k _ m⟩
    rcases hw with hw | hi
    · exact .inl (hw.same m)
    · exact .inr hi
end
end FS
set_option Elab.async false
set_option linter.all false
set_option maxRecDepth 100000
/-! The four lambdas of _law_refusals: their words; a deed by its body. -/
namespace FS
open PySem L2
/-! ### the lambdas by places -/
def pos0 : Pos := ⟨0, 0, 0, 0⟩
def noE : Expr := .Constant .none 0 pos0
def firstOf (e : Expr) : Expr := match e with
  | .Tuple (x :: _) _ _ => x
  | _ => noE
/-- the tuple that the k-th statement of _law_refusals lays into its rows -/
def rowOf (k : Nat) : Expr := match (defBody sRefusals).getD k (.Pass pos0) with
  | .Assign _ (.List (t :: _) _) _ => t
  | .Expr (.Call _ (t :: _) _ _) _ => t
  | _ => noE
def lamArgs (e : Expr) : Arguments := match e with
  | .Lambda a _ _ _ => a
  | _ => { posonlyargs := [], args := [], vararg := none, kwonlyargs := [], kw_defaults := [], kwarg := none, defaults := [] }
def lamBody (e : Expr) : Expr := match e with
  | .Lambda _ b _ _ => b
  | _ => noE
def lamScope (e : Expr) : Scope := match e with
  | .Lambda _ _ s _ => s
  | _ => { kind := .function, names := [], isGenerator := false, isCoroutine := false }
def lam (k : Nat) : Expr := firstOf (rowOf k)
end FS
set_option Elab.async false
set_option linter.all false
set_option maxRecDepth 100000
set_option maxHeartbeats 2000000
/-! A list comprehension whose element is told of the state that the block starts from. -/
namespace FS
open PySem L2 PySem.Spec PyProof.Rows
theorem pe_lcO {X : Cx} {elt tg iter : Expr} {scope : Scope} {own : List (Str × Nat)} {pos : Pos} {wi : TI} {g : TG} {te : L2.St → TE} {good : L2.St → Prop} (calm : X.calm = true) (nd : X.N.Nodup) (pi : PI X tg iter wi) (bok : BlkOk X.N X.env.scope scope own)
    (pg : ∀ (t : Shared) (G : Hp) (L : Addr) (cs : List (Str × Addr)) (fp : List Addr), PG (X.blk t G scope (compEnvC scope cs L X.env) fp) tg g)
    (pe : ∀ (σo : L2.St) (t : Shared) (G : Hp) (L : Addr) (cs : List (Str × Addr)) (fp : List Addr) (pins : List (Addr × Obj)), good σo → Inv X pins σo G t → (∀ b ∈ fp, FpOk X pins G b) → PE (X.blk t G scope (compEnvC scope cs L X.env) fp) elt (te σo))
    (fs : ∀ x, foldedSetIterable iter X.env x = pure x := by intro _; rfl) :
    PE X (.ListComp elt [⟨tg, iter, [], 0⟩] scope pos) (fun σ H Q => good σ ∧ tLc wi g tYes (te σ) (own.map (·.2)) σ H Q) := by
  constructor
  rintro pins s σ H Q I ⟨hgood, h⟩
  rw [eval_ListComp]
  have has : ∀ y ∈ scope.names, y.2 = .free → ∃ c, X.env.cells.lookup y.1 = some c := fun y hy z => (bok.free y hy z).elim (fun q => I.ok.has _ (.inl q)) fun q => I.ok.has _ (.inr q)
  refine wpAny_comprehension_free (use := none) rfl fs (closure_ok has) bok.kind (fun y hy z => (bok.uniq y hy).trans (congrArg some z)) (thn (pi.run pins s σ H _ I h) fun _ _ e1 => thn e1 ?_)
  rintro _ t ⟨it, fp, tn, J, G, rfl, It, T, at0, ff, red⟩
  refine wpAny_newObj_type (newEnv_comp ?_) (by show 0 ≤ sizeLine; decide)
  obtain ⟨D, eD⟩ : ∃ D, t.heap.objs.size = D := ⟨_, rfl⟩
  rw [eD]
  have gD : G D = none := It.hok.fresh (Nat.le_of_eq eD)
  obtain ⟨W, ⟨m0, w0⟩, turn⟩ := red D gD
  -- behind the making of the list
  obtain ⟨u, eu⟩ : ∃ u : Shared, ({ t with heap := t.heap.push { cls := .type "list", data := .seq ([] : List Value).toArray } } : Shared) = u := ⟨_, rfl⟩
  have uh : u.heap = t.heap.push { cls := .type "list", data := .seq ([] : List Value).toArray } := congrArg Shared.heap eu.symm
  have kept : ∀ b o, t.heap.get? b = some o → u.heap.get? b = some o := fun b o z => uh ▸ Heap.get?_push_of_some _ z
  obtain ⟨F, eF⟩ : ∃ F : Hp, upd G D (.lst []) = F := ⟨_, rfl⟩
  have Iu : Inv X pins σ F u := by
    rw [← eF, ← eu]
    refine It.laid (t' := t.toks) (fun b o z => Heap.get?_push_of_some _ z) (Nat.le_of_eq eD) ⟨Nat.zero_le _, [], 0, .nil, ?_⟩
    exact eD ▸ Heap.get?_push_size _ rfl
  have small : ∀ b ∈ fp, b < t.heap.objs.size := fun b hb => by
    obtain ⟨o, z, _⟩ := T.obj _ _ at0 b hb
    exact Heap.lt_size z
  have fu : ∀ b ∈ fp, FpOk X pins F b ∧ b < u.heap.objs.size := fun b hb => by
    have lt := small b hb
    have nb : b ≠ D := by
      rw [← eD]
      exact Nat.ne_of_lt lt
    refine ⟨⟨?_, (ff b hb).2⟩, ?_⟩
    · rw [← eF, upd_ne nb]
      exact (ff b hb).1
    · rw [uh, Heap.size_push]
      exact Nat.lt_succ_of_lt lt
  have atU : tn 0 u.heap := T.keep _ _ _ at0 fun b _ o z => kept b o z
  have Ib := block_start Iu bok nd fu
  obtain ⟨ce, ece⟩ : ∃ ce, compEnvC scope (cellsFrom (u.heap.objs.size + 1) scope.names (cloFrom X.env.cells scope.names [])) u.heap.objs.size X.env = ce := ⟨_, rfl⟩
  have loc : ce.locals = u.heap.objs.size := ece ▸ rfl
  have pgU := pg u F u.heap.objs.size (cellsFrom (u.heap.objs.size + 1) scope.names (cloFrom X.env.cells scope.names [])) fp
  have peU := pe σ u F u.heap.objs.size (cellsFrom (u.heap.objs.size + 1) scope.names (cloFrom X.env.cells scope.names [])) fp pins hgood Iu fun b hb => (fu b hb).1
  rw [ece] at pgU peU Ib
  obtain ⟨v, ev⟩ : ∃ v : Shared, ({ u with heap := pushCells (u.heap.push { cls := .type "dict", data := .dict #[] }) scope.names } : Shared) = v := ⟨_, rfl⟩
  rw [ev] at Ib
  have atV : tn 0 v.heap := T.keep _ _ _ atU fun b _ o z => by
    rw [← ev]
    exact pushCells_keeps _ _ _ _ (Heap.get?_push_of_some _ z)
  rw [eu]
  have still : ∀ {τ : L2.St} {M : Hp} {z : Shared}, Inv (X.blk u F scope ce fp) [] τ M z → (∀ b ∈ fp, M b = none) → ∀ b ∈ fp, FpOk (X.blk u F scope ce fp) [] M b := fun {τ M z} J e b hb =>
    ⟨e b hb, (J.ok.exf b hb).1, J.ok.exfs b hb, Or.inl hb, fun x c l => (J.ok.exf b hb).2 x c l, fun p hp => nomatch (show p ∈ ([] : List (Addr × Obj)) from hp)⟩
  have round : codeAny (model X.prog X.w) X.A (.compLoop (.ListComp elt [⟨tg, iter, [], 0⟩] scope pos) 0 (.ref it) (.ref D) ce) (compPost (model X.prog X.w) X.A X.xe none (EP X pins σ Q) (.ref D) u.heap.objs.size) v := by
    refine compLoop_any (fun m z => ∃ (i : Nat) (M : Hp), Inv (X.blk u F scope ce fp) [] (wipe σ (own.map (·.2))) M z ∧ tn i z.heap ∧ (∀ b ∈ fp, M b = none) ∧ W i m M) ?_ m0 ⟨0, F, Ib, atV, fun b hb => (fu b hb).1.1, eF ▸ w0⟩
    rintro m z ⟨i, M, J, ai, fi, wi'⟩
    cases turn i m M wi' with
    | inl fin =>
      refine thnF (T.done (X.blk u F scope ce fp) rfl rfl rfl calm i [] z _ M (fun _ _ => False) J (still J fi) ai fin.1) fun r z1 hz1 => ?_
      obtain ⟨rfl, J1⟩ := hz1
      obtain ⟨mm, ns, _⟩ := J1.loc
      have nL : M u.heap.objs.size = none := loc ▸ J1.free
      have ns' : z1.heap.Ns u.heap.objs.size mm := loc ▸ ns
      have Iz : Inv X pins σ M z1 := Iu.call' (ch := fp) J1.os J1.base J1.hok J1.bare fun b hb => ⟨(fu b hb).1.2.2.2.1, (fu b hb).1.2.1, (fu b hb).1.2.2.2.2.1, (fu b hb).1.2.2.2.2.2⟩
      obtain ⟨f0, f1, f2, f3, f4, f5⟩ := Iu.fpOk (Nat.le_refl _) nL
      exact ⟨mm, ns', fun h' sb => ⟨.ref D, M, Iz.turned (t' := z1.toks) (fun b o hb e => (sb.2 b hb).trans e) f0 f1 f3 f4 f5, rfl, fin.2⟩⟩
    | inr more =>
      obtain ⟨go, Nx, down, step⟩ := more
      refine thnF (T.item (X.blk u F scope ce fp) rfl rfl rfl calm i [] z _ M (fun _ _ => False) J (still J fi) ai go) fun r z1 hz1 => ?_
      obtain ⟨item, rfl, hz1⟩ := hz1
      refine thnF hz1 fun _ z2 hz2 => ?_
      obtain ⟨x, M2, J2, rx, yx, a2, f2⟩ := hz2
      have J2p := J2.pinned (still J2 f2) (T.obj _ _ a2)
      refine thnF (pgU.run _ z2 _ M2 x item _ J2p rx (step x M2 yx)) fun _ z3 hz3 => ?_
      obtain ⟨τ, M3, J3, wp, q3⟩ := hz3
      refine thnF ((pts_nil (X := X.blk u F scope ce fp)).run _ z3 τ M3 _ J3 q3) fun b z4 hz4 => ?_
      obtain ⟨M4, J4, q4⟩ := hz4
      have close : ∀ {z' : Shared} {M' : Hp}, Inv (X.blk u F scope ce fp) ([] ++ pinsAt fp z2.heap) τ M' z' → Nx M' → ∃ k, k < m ∧ ∃ (j : Nat) (M : Hp), Inv (X.blk u F scope ce fp) [] (wipe σ (own.map (·.2))) M z' ∧ tn j z'.heap ∧ (∀ b ∈ fp, M b = none) ∧ W j k M := fun {z' M'} J' nx => by
        obtain ⟨k, hk, wk⟩ := down M' nx
        have stays : ∀ b ∈ fp, ∀ o, z2.heap.get? b = some o → z'.heap.get? b = some o ∧ M' b = none := fun b hb o e => by
          have q := J'.pin (b, o) (List.mem_append_right _ (List.mem_append_right _ (mem_pinsAt hb e)))
          exact ⟨q.1, q.2.1⟩
        have len : (wipe σ (own.map (·.2))).length = τ.length := by rw [← wp, wipe_length]
        refine ⟨k, hk, i + 1, M', (J'.unpinned (pins := [])).weak len (fun j v e => ?_), T.keep _ _ _ a2 fun b hb o e => (stays b hb o e).1, fun b hb => ?_, wk⟩
        · exact (wipe_some (wp ▸ e)).1
        · obtain ⟨o, e, _⟩ := T.obj _ _ a2 b hb
          exact (stays b hb o e).2
      cases b with
      | false =>
        simp only [Bool.false_eq_true, if_false] at q4 ⊢
        exact close J4 q4
      | true =>
        simp only [if_true] at q4 ⊢
        refine thnF (peU.run _ z4 τ M4 _ J4 q4) fun y z5 hz5 => ?_
        obtain ⟨yv, M5, J5, ry, acc, hacc, lacc, nx⟩ := hz5
        exact app_ok (X := X.blk u F scope ce fp) J5 hacc lacc ry fun z6 J6 => close J6 nx
  subst ece
  subst ev
  exact codeAny_compStart_list round (T.self X.A 0 _ _ _ atV round)
end FS
set_option Elab.async false
set_option linter.all false
set_option maxRecDepth 100000
set_option maxHeartbeats 2000000
/-! A lambda made: its function is told of from then on. -/
namespace FS
open PySem L2 PySem.Spec PyProof.Rows
theorem lamO_ne {f : Addr} {L : LF} (ps : Array Value) : LamO f L ≠ .tbl ps := fun z => by
  unfold LamO at z
  cases z
theorem lamO_ok {P : Program} {w : World} {H : Hp} {h : Heap} {f : Addr} {L : LF} {pm ctv : Value} (e : h.get? f = some (PySem.W.kla_obj "<lambda>" L.qual L.params L.body L.scope L.cl pm L.c ctv)) : ObjOk P w H h f (LamO f L) :=
  ⟨⟨pm, ctv, e⟩, ⟨_, e⟩, fun _ _ z st => by
    obtain ⟨a, b, z⟩ := z
    exact ⟨a, b, st _ z⟩⟩
section
variable {X : Cx} {pins : List (Addr × Obj)} {σ : L2.St} {H : Hp} {s : Shared}
theorem lam_new {T : List (Addr × Str)} {c P : Addr} {params : Arguments} {body : Expr} {scope : Scope} {pos : Pos} {E Q : Value → Shared → Prop} (I : Inv X pins σ H s) (TB : LamX.TabB X.base X.mg c P) (hcode : X.env.code = .ref c) (hm : (P, X.env.qual ++ "<lambda>") ∈ T)
    (hu : ∀ p ∈ T, p.1 = P → p.2 = X.env.qual ++ "<lambda>") (hT : LamX.Tabs T H) (hdef : defaultsOf params X.env = ([], [])) (hfree : ∀ y ∈ scope.names, y.2 = .free → ∃ c, X.env.cells.lookup y.1 = some c)
    (h : ∀ (f c' : Addr) (H1 : Hp) (s' : Shared), Inv X pins σ H1 s' → LamX.ExtN H H1 → LamX.Tabs T H1 → H1 f = some (LamO f ⟨X.env.qual ++ "<lambda>", params, body, scope, cloFrom X.env.cells scope.names [], c'⟩) → H1 c' = some (LamX.CodeO c' (X.env.qual ++ "<lambda>")) → Q (.ref f) s') :
    wpAny (model X.prog X.w) X.A (eval (.Lambda params body scope pos) X.env) Q E s := by
  refine PySem.W.kla_eval hdef ?_
  obtain ⟨ps, hP, trip, all⟩ := hT _ hm
  have bm : s.heap.BuiltinsAt X.mg P := TB.bm.keeps I.bk
  have tab : s.heap.get? P = some { cls := .none, data := .fields ps } := I.hok P _ hP
  cases found : codeAmong pos ps.toList with
  | some cv =>
    obtain ⟨c', rfl, co⟩ := all pos cv found
    refine PySem.W.kla_makeFunctionHit (mg := X.mg) (c := c) (P := P) (ps := ps) (closure_ok hfree) I.ok.glob (I.mod.glob.keeps I.bk) hcode (TB.code.keeps I.bk) tab trip found bm ?_
    intro ctv g tk keep _
    have J : Inv X pins σ H { s with heap := g, toks := tk } := I.kept keep
    have nf : H g.objs.size = none := J.hok.fresh (Nat.le_refl _)
    have ne : ∀ {b : Addr} {o : HO}, H b = some o → b ≠ g.objs.size := fun e => ne_of_none e nf
    have J2 := J.laid (t' := tk) (a := g.objs.size) (o := LamO g.objs.size ⟨X.env.qual ++ "<lambda>", params, body, scope, cloFrom X.env.cells scope.names [], c'⟩) (fun b o e => Heap.get?_push_of_some _ e) (Nat.le_refl _) (lamO_ok (pm := (X.mg "__name__").getD .none) (ctv := ctv) (Heap.get?_push_size _ rfl))
    refine h _ c' _ _ J2 (fun b o e _ => (upd_ne (ne e)).trans e) (hT.ext fun b o e => (upd_ne (ne e)).trans e) upd_same ?_
    exact (upd_ne (ne co)).trans co
  | none =>
    refine PySem.W.kla_makeFunction (mg := X.mg) (c := c) (P := P) (ps := ps) (closure_ok hfree) I.ok.glob (I.mod.glob.keeps I.bk) hcode (TB.code.keeps I.bk) tab trip found TB.gP bm ?_
    intro c' ctv g tk keep old lt rec tab2
    obtain ⟨_, oc, vs, t, ec, h1, h2, h3⟩ := rec
    cases ec
    have nc : H c' = none := I.hok.fresh old
    have J := LamX.inv_table (q := X.env.qual ++ "<lambda>") (t' := tk) (more := #[rawInt pos.line, rawInt pos.col, .ref c']) (h' := g) I hP (fun b o hb e => keep b o hb e) tab2 old ⟨oc, vs, t, h1, h2, h3⟩
    generalize eG : upd (upd H P (.tbl (ps ++ #[rawInt pos.line, rawInt pos.col, .ref c']))) c' (LamX.CodeO c' (X.env.qual ++ "<lambda>")) = G at J
    have Gc : G c' = some (LamX.CodeO c' (X.env.qual ++ "<lambda>")) := by rw [← eG, upd_same]
    have GP : G P = some (.tbl (ps ++ #[rawInt pos.line, rawInt pos.col, .ref c'])) := by rw [← eG, upd_ne (ne_of_none hP nc), upd_same]
    have grow : LamX.ExtN H G := fun b o e n => by
      have nP : b ≠ P := fun z => by
        rw [z] at e
        exact n ps (Option.some.inj (e.symm.trans hP))
      rw [← eG, upd_ne (ne_of_none e nc), upd_ne nP]
      exact e
    have GT : LamX.Tabs T G := fun p hp => by
      by_cases hb : p.1 = P
      · rw [hu p hp hb, hb]
        have app : (ps ++ #[rawInt pos.line, rawInt pos.col, .ref c']).toList = ps.toList ++ [rawInt pos.line, rawInt pos.col, .ref c'] := by simp
        refine ⟨_, GP, app ▸ PySem.TriplesOk_snoc _ _ _ _ trip, fun p' cv hcv => ?_⟩
        rw [app] at hcv
        cases LamX.among_app _ trip hcv with
        | inl z =>
          obtain ⟨c0, e1, e2⟩ := all p' cv z
          exact ⟨c0, e1, grow _ _ e2 LamX.codeO_ne⟩
        | inr z => exact ⟨c', z, Gc⟩
      · obtain ⟨qs, a1, a2, a3⟩ := hT p hp
        refine ⟨qs, ?_, a2, fun p' cv hcv => ?_⟩
        · rw [← eG, upd_ne (ne_of_none a1 nc), upd_ne hb]
          exact a1
        · obtain ⟨c0, e1, e2⟩ := a3 p' cv hcv
          exact ⟨c0, e1, grow _ _ e2 LamX.codeO_ne⟩
    have nf : G g.objs.size = none := J.hok.fresh (Nat.le_refl _)
    have ne : ∀ {b : Addr} {o : HO}, G b = some o → b ≠ g.objs.size := fun e => ne_of_none e nf
    have J2 := J.laid (t' := tk) (a := g.objs.size) (o := LamO g.objs.size ⟨X.env.qual ++ "<lambda>", params, body, scope, cloFrom X.env.cells scope.names [], c'⟩) (fun b o e => Heap.get?_push_of_some _ e) (Nat.le_refl _) (lamO_ok (pm := (X.mg "__name__").getD .none) (ctv := ctv) (Heap.get?_push_size _ rfl))
    refine h _ c' _ _ J2 (fun b o e n => (upd_ne (ne (grow b o e n))).trans (grow b o e n)) (GT.ext fun b o e => (upd_ne (ne e)).trans e) upd_same ?_
    exact (upd_ne (ne Gc)).trans Gc
end
/-- the reading of a lambda; mk: its words by its code object -/
def tLamV (T : List (Addr × Str)) (mk : Addr → LF) : TE := fun _ H Q => LamX.Tabs T H ∧ ∀ (f c' : Addr) (H1 : Hp), LamX.ExtN H H1 → LamX.Tabs T H1 → H1 f = some (LamO f (mk c')) → H1 c' = some (LamX.CodeO c' (mk c').qual) → Q (.ref f) H1
theorem pe_lamV {X : Cx} {T : List (Addr × Str)} {c P : Addr} {params : Arguments} {body : Expr} {scope : Scope} {pos : Pos} (TB : LamX.TabB X.base X.mg c P) (hcode : X.env.code = .ref c) (hm : (P, X.env.qual ++ "<lambda>") ∈ T)
    (hu : ∀ p ∈ T, p.1 = P → p.2 = X.env.qual ++ "<lambda>") (hdef : defaultsOf params X.env = ([], [])) (L : LamX.LamS X.env.scope scope) :
    PE X (.Lambda params body scope pos) (tLamV T fun c' => ⟨X.env.qual ++ "<lambda>", params, body, scope, cloFrom X.env.cells scope.names [], c'⟩) := by
  constructor
  rintro pins s σ H Q I ⟨hT, h⟩
  exact lam_new I TB hcode hm hu hT hdef (L.has I.ok) fun f c' H1 s' J e t1 f1 c1 => ⟨.ref f, H1, J, rfl, h f c' H1 e t1 f1 c1⟩
end FS
set_option Elab.async false
set_option linter.all false
set_option maxRecDepth 100000
set_option maxHeartbeats 2000000
/-! A deed by its lambda's body; the four deeds of the law. -/
namespace FS
open PySem L2 PySem.Spec PyProof.Rows
abbrev nfOf (L : LF) : NdefX.NF := ⟨"<lambda>", L.qual, L.params, [], L.scope, L.cl, L.c⟩
section
variable {P : Program} {w : World} {K : PySem.W.Frag} {mg : Str → Option Value} {base : Heap} {C D : Addr}
theorem cells_up {A : Around} {outer : List Env} {s : Shared} {H : Hp} {cl : List (Str × Addr)} {fr : List Str} {ws : List (Option V)} (e0 : Env0 P w K mg base A outer s H) (c : NdefX.CellsAt cl fr ws base (fun _ => none)) : NdefX.CellsAt cl fr ws s.heap H := by
  refine ⟨c.len, fun y a e => ?_, c.inj, fun i y e => ?_⟩
  · obtain ⟨_, v, o, ho, hd⟩ := c.all y a e
    obtain ⟨h1, h2⟩ := e0.bs a o ho
    exact ⟨h2, v, o, h1, hd⟩
  · obtain ⟨a, ea, hv⟩ := c.has i y e
    refine ⟨a, ea, fun v ev => ?_⟩
    obtain ⟨u, r, o, ho, hd⟩ := hv v ev
    exact ⟨u, r, o, (e0.bs a o ho).1, hd⟩
theorem deed_of {L : LF} {fr : List Str} {ws : List (Option V)} {k : Nat} {f : Addr} {v : V} {H : Hp} (hf : H f = some (LamO f L)) (hc : H L.c = some (LamX.CodeO L.c L.qual)) (S : NdefX.NScope fr [] fr L.scope)
    (hbind : ∀ pm ctv : Value, bindArgs (PySem.W.kla_fn "<lambda>" L.qual L.params L.body L.scope L.cl pm (.ref L.c) ctv) ⟨[], []⟩ = pure []) (cs : NdefX.CellsAt L.cl fr ws base (fun _ => none))
    (hbody : ∀ (A : Around) (outer : List Env) (s : Shared) (E : XK), Room k (A.deeper (NdefX.envF (nfOf L) f s.heap.objs.size)) → ∃ t, PE (NdefX.ncx (L2.CX P w) P w K mg base fr (nfOf L) f A outer s H E) L.body t ∧ (Refuse C E v H → ∀ Q : VK, t (NdefX.startF fr [] ws) H Q)) :
    Deed P w K mg base C (k + 1) f v H := by
  refine ⟨⟨L, hf⟩, fun A outer s Q E hr e0 hE => ?_⟩
  obtain ⟨pm, ctv, ho⟩ := lamO_at e0.hok hf
  obtain ⟨⟨oc, vs, t, h1, h2, h3⟩, _⟩ := e0.hok _ _ hc
  have lim : s.heap.NoLimit := e0.mod.nolimit.keeps fun b o e => (e0.bs b o e).1
  refine PySem.W.kla_callFunE hr.depth ho rfl S.co S.gen rfl ⟨_, oc, vs, t, rfl, h1, h2, h3⟩ ?_
  rw [hbind pm ctv]
  refine wpAny_pure (wpAny_newFunctionEnv S.nocell (fun y hy => nomatch hy) (fun g ns sb => ⟨lim.fresh _ sb, ?_⟩) S.kind)
  show codeAny _ _ (.expr L.body (NdefX.envF (nfOf L) f s.heap.objs.size)) _ _
  have kp : ∀ b o, s.heap.get? b = some o → g.get? b = some o := fun b o e => sb.extBut b o (Nat.ne_of_lt (Heap.lt_size e)) (Heap.get?_push_of_some _ e)
  have J : Inv (NdefX.ncx (L2.CX P w) P w K mg base fr (nfOf L) f A outer s H E) [] (NdefX.startF fr [] ws) H { s with heap := g, toks := s.toks + ([] : List (Str × Value)).length } :=
    NdefX.inv_startN (CX := L2.CX P w) (N := fr) (ps := []) (fr := fr) (F := nfOf L) (f := f) (vs := []) (us := []) (ws := ws) (E := E) S hr.hd e0 rfl .nil (cells_up e0 cs) ns kp
  obtain ⟨rd, pe, red⟩ := hbody A outer s E (hr.deeper _)
  refine PySem.W.kla_codeExpr (wpAny_mono (pe.run [] _ _ H Q J (red hE Q)) (fun u s' hq => ?_) fun _ _ z => z)
  obtain ⟨x, H', J', rv, q⟩ := hq
  exact ⟨x, H', J'.os, J'.bare, J'.base, J'.hok, rv, q⟩
end
/-! ### the law's four -/
def LK (k : Nat) (cs : List (Str × Addr)) (c : Addr) : LF := ⟨(("_law_refusals" : Str) ++ ".<locals>.") ++ "<lambda>", lamArgs (lam k), lamBody (lam k), lamScope (lam k), cloFrom cs (lamScope (lam k)).names [], c⟩
def fr1 : List Str := ["_law_below", "_law_wrong_here"]
def fr2 : List Str := ["_law_below", "_law_worth", "_law_wrong_here"]
def fr3 : List Str := ["_law_below", "_law_scale", "_law_worth", "_law_wrong_here"]
def fr4 : List Str := ["_law_depth", "_law_scale", "_law_worth", "_law_wrong_here"]
theorem scL1 : NdefX.NScope fr1 [] fr1 (lamScope (lam 1)) := NdefX.nscope_by (by decide +kernel)
theorem scL2 : NdefX.NScope fr2 [] fr2 (lamScope (lam 2)) := NdefX.nscope_by (by decide +kernel)
theorem scL3 : NdefX.NScope fr3 [] fr3 (lamScope (lam 3)) := NdefX.nscope_by (by decide +kernel)
theorem scL4 : NdefX.NScope fr4 [] fr4 (lamScope (lam 4)) := NdefX.nscope_by (by decide +kernel)
section
variable {P : Program} {w : World} {K : PySem.W.Frag} {mg : Str → Option Value} {base : Heap} {C D : Addr} {cs : List (Str × Addr)} {c f p : Addr} {H : Hp} {v : V} {u b : Int} {so sc dp : Nat}
theorem Wr.noWhole (h : Wr H v) : NoWhole K H v := .inr (h.ty (K := K))
theorem deed1 (cSh : Keeps P w K mg base (L2.CX P w) 7 "shown_as" (spShown K C D)) (hf : H f = some (LamO f (LK 1 cs c))) (hc : H c = some (LamX.CodeO c (LK 1 cs c).qual)) (ce : NdefX.CellsAt (LK 1 cs c).cl fr1 [some (.int b), some v] base (fun _ => none)) (hv : Wr H v) :
    Deed P w K mg base C 8 f v H :=
  deed_of (L := LK 1 cs c) hf hc scL1 (fun _ _ => rfl) ce fun A outer s E hr => ⟨_, pe_ks (W := fun cls d _ H => E cls d H) cSh hr (takes_of rfl rfl rfl rfl) (pa_cons (pv 1) (pa_cons (pv 0) (pa_cons (pv 0) (pa_cons (pv 1) pa_nil)))), fun hE Q => by
    refine ⟨_, rfl, _, rfl, _, rfl, _, rfl, _, _, _, _, rfl, .inl ⟨hv, hE⟩⟩⟩
theorem deed2 (cSh : Keeps P w K mg base (L2.CX P w) 7 "shown_as" (spShown K C D)) (hf : H f = some (LamO f (LK 2 cs c))) (hc : H c = some (LamX.CodeO c (LK 2 cs c).qual)) (ce : NdefX.CellsAt (LK 2 cs c).cl fr2 [some (.int b), some (.ref p), some v] base (fun _ => none)) (hw : WorthAt D H p u so) (hb : b < 0) :
    Deed P w K mg base C 8 f (.int b) H :=
  deed_of (L := LK 2 cs c) hf hc scL2 (fun _ _ => rfl) ce fun A outer s E hr => ⟨_, pe_ks (W := fun cls d _ H => E cls d H) cSh hr (takes_of rfl rfl rfl rfl) (pa_cons (pv 1) (pa_cons (pv 0) (pa_cons (pv 2) (pa_cons (pv 2) pa_nil)))), fun hE Q => by
    refine ⟨_, rfl, _, rfl, _, rfl, _, rfl, _, _, _, _, rfl, .inr ⟨p, u, so, rfl, hw, .inl ⟨.inl ⟨b, rfl, hb⟩, hE⟩⟩⟩⟩
theorem deed3 (cSh : Keeps P w K mg base (L2.CX P w) 7 "shown_as" (spShown K C D)) (hf : H f = some (LamO f (LK 3 cs c))) (hc : H c = some (LamX.CodeO c (LK 3 cs c).qual)) (ce : NdefX.CellsAt (LK 3 cs c).cl fr3 [some (.int b), some (.int (sc : Int)), some (.ref p), some v] base (fun _ => none)) (hw : WorthAt D H p u so) (hv : Wr H v) :
    Deed P w K mg base C 8 f v H :=
  deed_of (L := LK 3 cs c) hf hc scL3 (fun _ _ => rfl) ce fun A outer s E hr => ⟨_, pe_ks (W := fun cls d _ H => E cls d H) cSh hr (takes_of rfl rfl rfl rfl) (pa_cons (pv 2) (pa_cons (pv 1) (pa_cons (pv 3) (pa_cons (pv 0) pa_nil)))), fun hE Q => by
    refine ⟨_, rfl, _, rfl, _, rfl, _, rfl, _, _, _, _, rfl, .inr ⟨p, u, so, rfl, hw, .inr ⟨sc, rfl, .inl ⟨hv.noWhole, hE⟩⟩⟩⟩⟩
theorem deed4 (cSh : Keeps P w K mg base (L2.CX P w) 7 "shown_as" (spShown K C D)) (hf : H f = some (LamO f (LK 4 cs c))) (hc : H c = some (LamX.CodeO c (LK 4 cs c).qual)) (ce : NdefX.CellsAt (LK 4 cs c).cl fr4 [some (.int (dp : Int)), some (.int (sc : Int)), some (.ref p), some v] base (fun _ => none)) (hw : WorthAt D H p u so) (hv : Wr H v) :
    Deed P w K mg base C 8 f v H :=
  deed_of (L := LK 4 cs c) hf hc scL4 (fun _ _ => rfl) ce fun A outer s E hr => ⟨_, pe_ks (W := fun cls d _ H => E cls d H) cSh hr (takes_of rfl rfl rfl rfl) (pa_cons (pv 2) (pa_cons (pv 1) (pa_cons (pv 0) (pa_cons (pv 3) pa_nil)))), fun hE Q => by
    refine ⟨_, rfl, _, rfl, _, rfl, _, rfl, _, _, _, _, rfl, .inr ⟨p, u, so, rfl, hw, .inr ⟨sc, rfl, .inr ⟨dp, rfl, .inl ⟨.inl hv, hE⟩⟩⟩⟩⟩⟩
end
end FS
set_option Elab.async false
set_option linter.all false
set_option maxRecDepth 100000
set_option maxHeartbeats 2000000
/-! The captured cells laid into the ground: a call from a comprehension's block is told what they hold. -/
namespace FS
open PySem L2 PySem.Spec PyProof.Rows
open Classical in
theorem cut_base (h : Heap) (p : Addr → Prop) : ∃ G : Heap, G.objs.size = h.objs.size ∧ (∀ b, p b → G.get? b = h.get? b) ∧ ∀ b o, G.get? b = some o → p b ∧ h.get? b = some o := by
  obtain ⟨l, hl⟩ : ∃ l : List Addr, l = (List.range h.objs.size).filter fun b => decide (¬ p b) := ⟨_, rfl⟩
  have out : ∀ b, b ∈ l → ¬ p b := fun b hb => by
    rw [hl] at hb
    exact of_decide_eq_true (List.mem_filter.mp hb).2
  have into : ∀ b o, h.get? b = some o → ¬ p b → b ∈ l := fun b o e np => by
    rw [hl]
    exact List.mem_filter.mpr ⟨List.mem_range.mpr (Heap.lt_size e), decide_eq_true np⟩
  refine ⟨PySem.W.hideAll h l, PySem.W.hideAll_size l h, fun b pb => ?_, fun b o e => ?_⟩
  · cases e : h.get? b with
    | some o => exact PySem.W.hideAll_get l e fun hm => out b hm pb
    | none =>
      cases e2 : (PySem.W.hideAll h l).get? b with
      | none => rfl
      | some o =>
        have := PySem.W.of_hideAll l e2
        rw [e] at this
        cases this
  · have e2 := PySem.W.of_hideAll l e
    refine ⟨Classical.byContradiction fun np => ?_, e2⟩
    rw [PySem.W.hideAll_none l (into b o e2 np)] at e
    cases e
theorem frames_off {B base h : Heap} : ∀ {l : List Env}, h.FunFrames base l → (∀ b ∈ frs l, B.get? b = none) → h.FunFrames B l
  | [], _, _ => True.intro
  | env :: rest, ⟨hk, ⟨L, o, hf, hn, ho, hd⟩, hr⟩, hb => by
    have hm : ∀ b ∈ frs rest, b ∈ frs (env :: rest) := fun b hb => by
      unfold frs at hb ⊢
      rw [List.filterMap_cons, hf]
      exact List.mem_cons_of_mem _ hb
    have hL : L ∈ frs (env :: rest) := by
      unfold frs
      rw [List.filterMap_cons, hf]
      exact List.mem_cons_self
    exact ⟨hk, ⟨L, o, hf, hb L hL, ho, hd⟩, frames_off hr fun b z => hb b (hm b z)⟩
/-- the ground with the running frame's cells -/
structure Ground (X : Cx) (G : Hp) (t : Shared) (B : Heap) : Prop where
  size : B.objs.size = t.heap.objs.size
  low : ∀ b o, X.base.get? b = some o → B.get? b = some o
  cell : ∀ x c, X.env.cells.lookup x = some c → B.get? c = t.heap.get? c
  at_ : ∀ b o, B.get? b = some o → t.heap.get? b = some o ∧ G b = none ∧ b ∉ frs X.stack ∧ ((∃ o', X.base.get? b = some o') ∨ ∃ x, X.env.cells.lookup x = some b)
section
variable {X : Cx} {pins : List (Addr × Obj)} {σ : L2.St} {G : Hp} {t : Shared}
theorem ground (I : Inv X pins σ G t) (hfn : ∀ x, X.fn x = true) : ∃ B : Heap, Ground X G t B := by
  obtain ⟨B, h1, h2, h3⟩ := cut_base t.heap fun b => (∃ o', X.base.get? b = some o') ∨ ∃ x, X.env.cells.lookup x = some b
  refine ⟨B, h1, fun b o e => ?_, fun x c e => h2 c (.inr ⟨x, e⟩), fun b o e => ?_⟩
  · rw [h2 b (.inl ⟨o, e⟩)]
    exact I.bk b o e
  · obtain ⟨pb, ho⟩ := h3 b o e
    refine ⟨ho, ?_, ?_, pb⟩
    · rcases pb with ⟨o', e'⟩ | ⟨x, ex⟩
      · exact (I.bs b o' e').2
      · exact I.freeC x b ex
    · intro hm
      rcases pb with ⟨o', e'⟩ | ⟨x, ex⟩
      · have := (I.stack.mem hm).1
        rw [e'] at this
        cases this
      · rcases List.mem_cons.mp (I.stkSub b hm) with z | z
        · exact I.cne x b ex z
        · have h4 := I.ok.cab x b (hfn x) ex
          obtain ⟨_, o2, e2, _⟩ := I.ok.funs.mem z
          exact absurd (Nat.lt_of_lt_of_le (Heap.lt_size e2) h4) (Nat.lt_irrefl _)
theorem Ground.env0 {B : Heap} (g : Ground X G t B) (I : Inv X pins σ G t) {scope : Scope} {ce : Env} {fp : List Addr} (hfp : ∀ b ∈ fp, FpOk X pins G b) {pins' : List (Addr × Obj)} {τ : L2.St} {M : Hp} {z : Shared} (J : Inv (X.blk t G scope ce fp) pins' τ M z) :
    Env0 X.prog X.w X.K X.mg B X.A X.stack z M := by
  have e := J.env0
  have fr : z.heap.FunFrames X.base X.stack := e.funs
  refine ⟨e.frames, ?_, fun b o hb => ?_, ?_, frames_off fr fun b hb => ?_, e.frf, e.hok, e.bare⟩
  · obtain ⟨mb, m1, m2⟩ := I.mod.blt
    exact ⟨I.mod.kin.keeps g.low, I.mod.glob.keeps g.low, ⟨mb, m1.keeps g.low, m2⟩, I.mod.nolimit.keeps g.low⟩
  · obtain ⟨h1, h2, h3, h4⟩ := g.at_ b o hb
    have nfp : b ∉ fp := fun hm => by
      rcases h4 with ⟨o', e'⟩ | ⟨x, ex⟩
      · exact J.ok.noex b o' e' hm
      · exact (hfp b hm).2.2.2.2.1 x b ex rfl
    exact ⟨J.base.keep b o h1 h2 h3 nfp, J.base.free b o h1 h2 nfp⟩
  · rw [g.size]
    exact J.sz
  · cases hq : B.get? b with
    | none => rfl
    | some o => exact absurd hb (g.at_ b o hq).2.2.1
theorem Ground.cells {B : Heap} (g : Ground X G t B) {cl : List (Str × Addr)} {fr : List Str} {ws : List (Option V)} (c : NdefX.CellsAt cl fr ws t.heap G) (hs : ∀ y a, cl.lookup y = some a → X.env.cells.lookup y = some a) : NdefX.CellsAt cl fr ws B (fun _ => none) := by
  refine ⟨c.len, fun y a e => ?_, c.inj, fun i y e => ?_⟩
  · obtain ⟨_, v, o, ho, hd⟩ := c.all y a e
    exact ⟨rfl, v, o, (g.cell y a (hs y a e)).trans ho, hd⟩
  · obtain ⟨a, ea, hv⟩ := c.has i y e
    refine ⟨a, ea, fun v ev => ?_⟩
    obtain ⟨u, r, o, ho, hd⟩ := hv v ev
    exact ⟨u, r, o, (g.cell y a (hs y a ea)).trans ho, hd⟩
end
end FS
set_option Elab.async false
set_option linter.all false
set_option maxRecDepth 100000
set_option maxHeartbeats 2000000
/-! A row of _law_refusals: _law_refused(row[0], row[1]) from the comprehension's block. -/
namespace FS
open PySem L2 PySem.Spec PyProof.Rows
abbrev NR : List Str := ["_law_pen", "_law_worth", "_law_scale", "_law_depth", "_law_wrong_here", "_law_below", "_law_rows", "_law_row"]
theorem scRefusals : FnScope NR ["_law_pen", "_law_worth", "_law_scale", "_law_depth"] (defScope sRefusals) := ⟨rfl, rfl, rfl, by decide +kernel, rfl, by decide +kernel, by decide +kernel⟩
abbrev qL : Str := (("_law_refusals" : Str) ++ ".<locals>.") ++ "<lambda>"
/-- a row's lambda at f, its value x -/
def isRow (cs : List (Str × Addr)) (f : Addr) (x v : V) (b : Int) (H : Hp) : Prop := ∃ c, H c = some (LamX.CodeO c qL) ∧
  ((H f = some (LamO f (LK 1 cs c)) ∧ x = v) ∨ (H f = some (LamO f (LK 2 cs c)) ∧ x = .int b) ∨ (H f = some (LamO f (LK 3 cs c)) ∧ x = v) ∨ (H f = some (LamO f (LK 4 cs c)) ∧ x = v))
def tRow (D : Addr) (cs : List (Str × Addr)) (p : Addr) (u : Int) (so : Nat) (v : V) (b : Int) (ta : TA) : TE := fun σ H Q => ta σ H fun vs H1 => ∃ (f : Addr) (x : V), vs = [.ref f, x] ∧ isRow cs f x v b H1 ∧ Wr H1 v ∧ WorthAt D H1 p u so ∧ b < 0 ∧ ∀ H', Same H1 H' → Q (.bl true) H'
theorem lam_look (k : Nat) (fr : List Str) {sc : Scope} (h : NdefX.ndefB sc (lamScope (lam k)) fr = true) {X : Cx} (hsc : X.env.scope = sc) (ok : X.Ok) {js : List Nat} (hjs : js.map (fun j => X.N[j]?) = fr.map some) : NdefX.Caps X (cloFrom X.env.cells (lamScope (lam k)).names []) fr js :=
  NdefX.Caps.made ok (by rw [hsc]; exact NdefX.ndef_free h) (NdefX.ndef_fr h) hjs
theorem lam1_in : NdefX.ndefB (defScope sRefusals) (lamScope (lam 1)) fr1 = true := by decide +kernel
theorem lam2_in : NdefX.ndefB (defScope sRefusals) (lamScope (lam 2)) fr2 = true := by decide +kernel
theorem lam3_in : NdefX.ndefB (defScope sRefusals) (lamScope (lam 3)) fr3 = true := by decide +kernel
theorem lam4_in : NdefX.ndefB (defScope sRefusals) (lamScope (lam 4)) fr4 = true := by decide +kernel
section
variable {X : Cx} {C D p l : Addr} {pins : List (Addr × Obj)} {G : Hp} {t : Shared} {pen v : V} {sc dp so : Nat} {b u : Int} {r : Option V} {scope : Scope} {ce : Env} {fp : List Addr} {e : Expr} {es : List Expr} {ta : TA} {p1 pos : Pos}
theorem pe_row (I : Inv X pins [some pen, some (.ref p), some (.int (sc : Int)), some (.int (dp : Int)), some v, some (.int b), some (.ref l), r] G t) (hfn : ∀ x, X.fn x = true) (hN : X.N = NR) (hsc : X.env.scope = defScope sRefusals)
    (cSh : ∀ base, Keeps X.prog X.w X.K X.mg base (L2.CX X.prog X.w) 7 "shown_as" (spShown X.K C D)) (cRf : ∀ base, Keeps X.prog X.w X.K X.mg base CX0 9 "_law_refused" (spRefused X.prog X.w X.K X.mg base C)) (hr : Room 9 X.A) (hfp : ∀ b ∈ fp, FpOk X pins G b)
    (hg : Gl (X.blk t G scope ce fp) "_law_refused") (ha : PA (X.blk t G scope ce fp) (e :: es) ta) (he : starEach (e :: es) ce = (false, eval e ce) :: starEach es ce := by rfl) (hpl : (backTo pos (starEach es ce)).any (·.1) = false := by rfl) :
    PE (X.blk t G scope ce fp) (.Call (.Name "_law_refused" p1) (e :: es) [] pos) (tRow D X.env.cells p u so v b ta) := by
  obtain ⟨B, gr⟩ := ground I hfn
  obtain ⟨f, fd, ps, F, hm, kp, hb⟩ := (cRf B).ex
  constructor
  intro pins' z τ M Q J h
  refine wpAny_Call_Name_kw (ld_glob J hg hm ?_ (by decide))
  refine PySem.W.callWith_K (h₀ := X.base) J.ok.mod.kin kp (thn (ha.run pos pins' z τ M _ J h) fun us z1 hz => ?_) he hpl
  obtain ⟨vs, M1, J1, rv, f', x, rfl, hrow, hw, hwo, hneg, k⟩ := hz
  refine ⟨J1.kIn, ?_⟩
  have e0 := gr.env0 I hfp J1
  have D8 : Deed X.prog X.w X.K X.mg B C 8 f' x M1 := by
    obtain ⟨c, hc, hrow⟩ := hrow
    have cells : ∀ {k : Nat} {fr : List Str} {js : List Nat}, NdefX.ndefB (defScope sRefusals) (lamScope (lam k)) fr = true → js.map (fun j => NR[j]?) = fr.map some →
        NdefX.CellsAt (LK k X.env.cells c).cl fr (js.map (NdefX.slotAt [some pen, some (.ref p), some (.int (sc : Int)), some (.int (dp : Int)), some v, some (.int b), some (.ref l), r])) B (fun _ => none) := fun {k fr js} hin hjs => by
      have cp := lam_look k fr hin hsc I.ok (js := js) (by rw [hN]; exact hjs)
      exact gr.cells (NdefX.cells_of I cp) cp.sub
    rcases hrow with ⟨hf, rfl⟩ | ⟨hf, rfl⟩ | ⟨hf, rfl⟩ | ⟨hf, rfl⟩
    · exact deed1 (cSh B) hf hc (cells (js := [5, 4]) lam1_in (by decide +kernel)) hw
    · exact deed2 (cSh B) hf hc (cells (js := [5, 1, 4]) lam2_in (by decide +kernel)) hwo hneg
    · exact deed3 (cSh B) hf hc (cells (js := [5, 2, 1, 4]) lam3_in (by decide +kernel)) hwo hw
    · exact deed4 (cSh B) hf hc (cells (js := [3, 2, 1, 4]) lam4_in (by decide +kernel)) hwo hw
  have val : Wr M1 x ∨ ∃ i : Int, x = .int i := by
    obtain ⟨_, _, hrow⟩ := hrow
    rcases hrow with ⟨_, rfl⟩ | ⟨_, rfl⟩ | ⟨_, rfl⟩ | ⟨_, rfl⟩
    · exact .inl hw
    · exact .inr ⟨b, rfl⟩
    · exact .inl hw
    · exact .inl hw
  have sp : spRefused X.prog X.w X.K X.mg B C [.ref f', x] M1 Q E0 := ⟨f', x, rfl, D8, val, k⟩
  have len : us.length = ps.length := by
    rw [← rv.length]
    exact F.len _ _ _ _ sp
  have bind := hb z1 us J1.kIn (by rw [List.append_nil]; exact len)
  rw [List.append_nil] at bind
  show wpAny _ _ (call (.ref f) us) _ _ _
  refine wpAny_call (codeAny_mono (F.run X.A X.stack z1 M1 ⟨us, []⟩ us [.ref f', x] Q E0 hr e0 bind rv sp) fun r s' hq => ?_)
  cases r with
  | error er => exact (show False from hq).elim
  | ok fl =>
    cases fl with
    | ret u => exact J1.after hq
    | next => exact False.elim hq
    | brk => exact False.elim hq
    | cont => exact False.elim hq
/-- .. whatever the slots hold -/
def teR (D : Addr) (cs : List (Str × Addr)) (ta : TA) (σ : L2.St) : TE := fun τ M Q => ∃ (pen v : V) (p l : Addr) (sc dp so : Nat) (b u : Int) (r : Option V), σ = [some pen, some (.ref p), some (.int (sc : Int)), some (.int (dp : Int)), some v, some (.int b), some (.ref l), r] ∧ tRow D cs p u so v b ta τ M Q
theorem pe_rowR {σo : L2.St} (I : Inv X pins σo G t) (hfn : ∀ x, X.fn x = true) (hN : X.N = NR) (hsc : X.env.scope = defScope sRefusals)
    (cSh : ∀ base, Keeps X.prog X.w X.K X.mg base (L2.CX X.prog X.w) 7 "shown_as" (spShown X.K C D)) (cRf : ∀ base, Keeps X.prog X.w X.K X.mg base CX0 9 "_law_refused" (spRefused X.prog X.w X.K X.mg base C)) (hr : Room 9 X.A) (hfp : ∀ b ∈ fp, FpOk X pins G b)
    (hg : Gl (X.blk t G scope ce fp) "_law_refused") (ha : PA (X.blk t G scope ce fp) (e :: es) ta) (he : starEach (e :: es) ce = (false, eval e ce) :: starEach es ce := by rfl) (hpl : (backTo pos (starEach es ce)).any (·.1) = false := by rfl) :
    PE (X.blk t G scope ce fp) (.Call (.Name "_law_refused" p1) (e :: es) [] pos) (teR D X.env.cells ta σo) := by
  constructor
  rintro pins' z τ M Q J ⟨pen, v, p, l, sc, dp, so, b, u, r, rfl, h⟩
  exact (pe_row (pos := pos) (p1 := p1) I hfn hN hsc cSh cRf hr hfp hg ha he hpl).run pins' z τ M Q J h
end
end FS
set_option Elab.async false
set_option linter.all false
set_option maxRecDepth 100000
set_option maxHeartbeats 2000000
/-! _law_refusals. -/
namespace FS
open PySem L2
/-- a def as it stands behind the top, its code object told -/
structure FunAt (K : PySem.W.Frag) (x qual : Str) (st : Stmt) (f : Addr) (fd : FuncData) (cd : Value) : Prop where
  ex : ∃ (oc : Value) (od : Option Addr) (kV doc pm : Value) (an : Option Addr) (ct : Value) (osl : Array (Option Value)),
    fd = PySem.W.fnOf x qual (defArgs st) (defBody st) (defScope st) .none kV doc pm an cd ct ∧ K.lookup f = some ⟨oc, od, .func (PySem.W.fnOf x qual (defArgs st) (defBody st) (defScope st) .none kV doc pm an cd ct), osl⟩ ∧ PySem.W.codeIn K cd qual = true
abbrev TL (T0 : Addr) : List (Addr × Str) := [(T0, qL)]
def spRefusals (D T0 : Addr) : Sp := fun vs H Q _ => ∃ (q p : Addr) (c u : Int) (so sc dp : Nat), vs = [.ref q, .ref p, .int (sc : Int), .int (dp : Int)] ∧ PenAt H q c ∧ c ≤ 890000 ∧ WorthAt D H p u so ∧ H T0 = some (.tbl #[]) ∧ ∀ H', Q (.bl true) H'
/-! ### what the rows keep -/
/-- all but the list at l and the tables stays -/
def Off (l : Addr) (H H' : Hp) : Prop := ∀ b o, H b = some o → b ≠ l → (∀ ps, o ≠ .tbl ps) → H' b = some o
theorem Off.ofN {l : Addr} {H H' : Hp} (e : LamX.ExtN H H') : Off l H H' := fun b o h _ n => e b o h n
theorem Off.ofSame {l : Addr} {H H' : Hp} (e : Same H H') : Off l H H' := fun b o h _ _ => e b o h
theorem Off.trans {l : Addr} {H H1 H2 : Hp} (a : Off l H H1) (b : Off l H1 H2) : Off l H H2 := fun c o h n t => b c o (a c o h n t) n t
theorem Off.put {l : Addr} {H : Hp} (o : HO) : Off l H (upd H l o) := fun _ _ h n _ => (upd_ne n).trans h
theorem Wr.off {l : Addr} {H H' : Hp} {v : V} (w : Wr H v) (nv : v ≠ .ref l) (e : Off l H H') : Wr H' v := by
  have ne : ∀ {a : Addr}, (V.ref a : V) ≠ .ref l → a ≠ l := fun h z => h (congrArg V.ref z)
  cases w with
  | non => exact .non
  | bl b => exact .bl b
  | str x h => exact .str x h
  | lst a xs h => exact .lst a xs (e _ _ h (ne nv) (fun _ z => by cases z))
  | tup a xs h => exact .tup a xs (e _ _ h (ne nv) (fun _ z => by cases z))
  | dK a kvs h nd f => exact .dK a kvs (e _ _ h (ne nv) (fun _ z => by cases z)) nd f
theorem WorthAt.off {D l p : Addr} {H H' : Hp} {u s : Int} (h : WorthAt D H p u s) (nl : p ≠ l) (e : Off l H H') : WorthAt D H' p u s := by
  obtain ⟨dx, h⟩ := h
  exact ⟨dx, e _ _ h nl (fun _ z => by cases z)⟩
theorem codeO_lst {c : Addr} {q : Str} {ts : List V} : LamX.CodeO c q ≠ .lst ts := fun z => by
  unfold LamX.CodeO at z
  cases z
theorem lamO_lst {f : Addr} {L : LF} {ts : List V} : LamO f L ≠ .lst ts := fun z => by
  unfold LamO at z
  cases z
theorem not_l {H : Hp} {l b : Addr} {o : HO} (hl : H l = none ∨ ∃ ts, H l = some (.lst ts)) (hb : H b = some o) (no : ∀ ts, o ≠ .lst ts) : b ≠ l := fun z => by
  rw [z] at hb
  rcases hl with hl | ⟨ts, hl⟩
  · rw [hl] at hb
    cases hb
  · rw [hl] at hb
    exact no ts (Option.some.inj hb).symm
theorem isRow.off {cs : List (Str × Addr)} {f l : Addr} {x v : V} {b : Int} {H H' : Hp} (h : isRow cs f x v b H) (hl : H l = none ∨ ∃ ts, H l = some (.lst ts)) (e : Off l H H') : isRow cs f x v b H' := by
  obtain ⟨c, hc, h⟩ := h
  have up : ∀ {L : LF}, H f = some (LamO f L) → H' f = some (LamO f L) := fun z => e _ _ z (not_l hl z fun _ => lamO_lst) lamO_ne
  refine ⟨c, e _ _ hc (not_l hl hc fun _ => codeO_lst) LamX.codeO_ne, ?_⟩
  rcases h with ⟨h, e⟩ | ⟨h, e⟩ | ⟨h, e⟩ | ⟨h, e⟩
  · exact .inl ⟨up h, e⟩
  · exact .inr (.inl ⟨up h, e⟩)
  · exact .inr (.inr (.inl ⟨up h, e⟩))
  · exact .inr (.inr (.inr ⟨up h, e⟩))
theorem tabs_off {T0 l : Addr} {H H' : Hp} (t : LamX.Tabs (TL T0) H) (hl : H l = none ∨ ∃ ts, H l = some (.lst ts)) (e : ∀ b o, H b = some o → b ≠ l → H' b = some o) : LamX.Tabs (TL T0) H' := fun p hp => by
  obtain ⟨ps, h1, h2, h3⟩ := t p hp
  refine ⟨ps, e _ _ h1 (not_l hl h1 fun _ z => by cases z), h2, fun pos cv hc => ?_⟩
  obtain ⟨c, e1, e2⟩ := h3 pos cv hc
  exact ⟨c, e1, e _ _ e2 (not_l hl e2 fun _ => codeO_lst)⟩
/-- n rows stand in the list at l -/
structure RowSt (D T0 : Addr) (cs : List (Str × Addr)) (p : Addr) (u : Int) (so : Nat) (v : V) (b : Int) (l : Addr) (n : Nat) (H : Hp) : Prop where
  rows : ∃ ts : List V, H l = some (.lst ts) ∧ ts.length = n ∧ ∀ t ∈ ts, ∃ (a f : Addr) (x : V), t = .ref a ∧ H a = some (.tup [.ref f, x]) ∧ isRow cs f x v b H
  wr : Wr H v
  nv : v ≠ .ref l
  wo : WorthAt D H p u so
  tab : LamX.Tabs (TL T0) H
theorem RowSt.add {D T0 p l f tp : Addr} {cs : List (Str × Addr)} {u b : Int} {so n : Nat} {v x : V} {H H1 : Hp} (r : RowSt D T0 cs p u so v b l n H) (e : LamX.ExtN H H1) (t1 : LamX.Tabs (TL T0) H1) (hr : isRow cs f x v b H1) (ht : H1 tp = none) :
    ∃ ts : List V, upd H1 tp (.tup [.ref f, x]) l = some (.lst ts) ∧ ts.length = n ∧ RowSt D T0 cs p u so v b l (n + 1) (upd (upd H1 tp (.tup [.ref f, x])) l (.lst (ts ++ [.ref tp]))) := by
  obtain ⟨ts, hl, len, all⟩ := r.rows
  have hl1 : H1 l = some (.lst ts) := e _ _ hl (fun _ z => by cases z)
  have m := Same.new (o := .tup [.ref f, x]) ht
  have hl2 := m _ _ hl1
  have hl2' : upd H1 tp (.tup [.ref f, x]) l = none ∨ ∃ ts, upd H1 tp (.tup [.ref f, x]) l = some (.lst ts) := .inr ⟨ts, hl2⟩
  have oA : Off l H (upd H1 tp (.tup [.ref f, x])) := (Off.ofN e).trans (Off.ofSame m)
  have oB : Off l (upd H1 tp (.tup [.ref f, x])) (upd (upd H1 tp (.tup [.ref f, x])) l (.lst (ts ++ [.ref tp]))) := Off.put _
  have oC := oA.trans oB
  have ntp : tp ≠ l := fun z => by
    rw [z, hl1] at ht
    cases ht
  refine ⟨ts, hl2, len, ⟨_, upd_same, by rw [List.length_append, len]; rfl, fun t hm => ?_⟩, r.wr.off r.nv oC, r.nv, ?_, ?_⟩
  · rcases List.mem_append.mp hm with hm | hm
    · obtain ⟨a, f', x', rfl, ha, hrow⟩ := all t hm
      exact ⟨a, f', x', rfl, oC _ _ ha (not_l (.inr ⟨ts, hl⟩) ha fun _ z => by cases z) (fun _ z => by cases z), hrow.off (.inr ⟨ts, hl⟩) oC⟩
    · rcases List.mem_singleton.mp hm with rfl
      refine ⟨tp, f, x, rfl, ?_, ?_⟩
      · rw [upd_ne ntp, upd_same]
      · exact (hr.off (l := l) (.inr ⟨ts, hl1⟩) (Off.ofSame m)).off hl2' oB
  · obtain ⟨dx, hp⟩ := r.wo
    exact WorthAt.off ⟨dx, hp⟩ (not_l (.inr ⟨ts, hl⟩) hp fun _ z => by cases z) oC
  · exact tabs_off (t1.ext fun b o z => m _ _ z) hl2' fun b o z nb => (upd_ne nb).trans z
section
variable {P : Program} {w : World} {K : PySem.W.Frag} {mg : Str → Option Value} {base : Heap} {C D : Addr}
theorem ok_refusals {f cR T0 : Addr} {fd : FuncData} (F : FunAt K "_law_refusals" "_law_refusals" sRefusals f fd (.ref cR)) (N : Names mg) (TB : LamX.TabB base mg cR T0) (cWr : Keeps P w K mg base CX0 3 "_law_wrong" spWrong) (cDr : Keeps P w K mg base CX0 1 "_law_draw" spDraw)
    (cSh : ∀ base, Keeps P w K mg base (L2.CX P w) 7 "shown_as" (spShown K C D)) (cRf : ∀ base, Keeps P w K mg base CX0 9 "_law_refused" (spRefused P w K mg base C)) :
    FnOk P w K mg base CX0 10 f fd ["_law_pen", "_law_worth", "_law_scale", "_law_depth"] (spRefusals D T0) := by
  obtain ⟨oc, od, kV, doc, pm, an, ct, osl, rfl, lk, hcd⟩ := F.ex
  refine fn_of lk hcd scRefusals (fun vs H Q E h => ?_) fun A outer s H vs Q E hr h => ?_
  · obtain ⟨q, p, c, u, so, sc, dp, rfl, _⟩ := h
    rfl
  · obtain ⟨q, p, c, u, so, sc, dp, rfl, hP, hc, hW, hT0, k⟩ := h
    have lamP : ∀ (n : Nat) (X : Cx), X = (cxOf CX0 P w K mg base NR "_law_refusals" (defScope sRefusals) f (.ref cR) A outer s H E) → LamX.lamSB (defScope sRefusals) (lamScope (lam n)) = true → defaultsOf (lamArgs (lam n)) X.env = ([], []) → ∀ pos, PE X (.Lambda (lamArgs (lam n)) (lamBody (lam n)) (lamScope (lam n)) pos) (tLamV (TL T0) (LK n X.env.cells)) := fun n X hX hl hd pos => by
      subst hX
      exact pe_lamV TB rfl (List.mem_singleton.mpr rfl) (fun p hp _ => by rw [List.mem_singleton.mp hp]; rfl) hd (LamX.lamS_by hl)
    have T : ∃ t, PSs (cxOf CX0 P w K mg base NR "_law_refusals" (defScope sRefusals) f (.ref cR) A outer s H E) (defBody sRefusals) t ∧ t { nx := fun _ H' => Q .non H', rt := Q } (L2.start NR [.ref q, .ref p, .int (sc : Int), .int (dp : Int)]) H := by
      refine ⟨_, C8.pss_cut (ps_asg (pe_tup (pa_cons (pe_k cWr hr pass0 (pa_cons (pv 0) pa_nil)) (pa_cons (pe_op op_sub (pe_un un_neg pe_int) (pe_k cDr hr pass0 (pa_cons (pv 0) (pa_cons pe_int pa_nil)))) pa_nil))) (pg_tup (by rfl) (pgs_cons (pg_name (i := 4) scRefusals.nd rfl (.inr rfl)) (pgs_cons (pg_name (i := 5) scRefusals.nd rfl (.inr rfl)) pgs_nil))))
        (C8.pss_cut (ps_set (i := 6) scRefusals.nd rfl (Or.inl rfl) (pe_lst (pa_cons (pe_tup (pa_cons (lamP 1 _ rfl (by decide +kernel) rfl _) (pa_cons (pv 4) pa_nil))) pa_nil)))
        (C8.pss_cut (ps_expr (pe_bm PySem.F.plainAttrs_list PySem.F.slot_list_append PySem.F.type_list_append mt_append (pv 6) (pa_cons (pe_tup (pa_cons (lamP 2 _ rfl (by decide +kernel) rfl _) (pa_cons (pv 5) pa_nil))) pa_nil)))
        (C8.pss_cut (ps_expr (pe_bm PySem.F.plainAttrs_list PySem.F.slot_list_append PySem.F.type_list_append mt_append (pv 6) (pa_cons (pe_tup (pa_cons (lamP 3 _ rfl (by decide +kernel) rfl _) (pa_cons (pv 4) pa_nil))) pa_nil)))
        (C8.pss_cut (ps_expr (pe_bm PySem.F.plainAttrs_list PySem.F.slot_list_append PySem.F.type_list_append mt_append (pv 6) (pa_cons (pe_tup (pa_cons (lamP 4 _ rfl (by decide +kernel) rfl _) (pa_cons (pv 4) pa_nil))) pa_nil)))
        (pss_one (ps_ret (pe_callB (cr_all rfl) (by rfl) N.all (by decide +kernel) (pa_cons (pe_lcO (own := [("_law_row", 7)]) (g := gName 7) (good := fun _ => True) (te := teR D (cxOf CX0 P w K mg base NR "_law_refusals" (defScope sRefusals) f (.ref cR) A outer s H E).env.cells (tCons (tOp (rIxT K) (tVar 7) (tC (.int 0))) (tCons (tOp (rIxT K) (tVar 7) (tC (.int 1))) tNil))) rfl scRefusals.nd (pi_list (pv 6))
          (blkOk_by (own := [("_law_row", 7)]) (N := NR) (sc := defScope sRefusals) (by decide +kernel)) (fun _ _ _ _ _ => pg_name (i := 7) scRefusals.nd rfl (Or.inl rfl))
          (fun _ _ _ _ _ _ _ _ I hfp => pe_rowR I (fun _ => rfl) rfl rfl cSh cRf hr hfp rfl (pa_cons (pe_ix ix_tup (pv 7) pe_int (fun _ _ => rfl)) (pa_cons (pe_ix ix_tup (pv 7) pe_int (fun _ _ => rfl)) pa_nil)))) pa_nil)))))))), ?_⟩
      have hcs : ∃ cs, (cxOf CX0 P w K mg base NR "_law_refusals" (defScope sRefusals) f (.ref cR) A outer s H E).env.cells = cs := ⟨_, rfl⟩
      obtain ⟨cs, ecs⟩ := hcs
      have npq : p ≠ q := fun z => by
        obtain ⟨dx, hp⟩ := hW
        obtain ⟨a, ns, n, y, h1, _⟩ := hP
        rw [z, h1] at hp
        cases hp
      have nT : T0 ≠ q := fun z => by
        obtain ⟨a, ns, n, y, h1, _⟩ := hP
        rw [z, h1] at hT0
        cases hT0
      -- the two drawn
      refine ⟨fun σ' H' => ∃ (v : V) (b : Int), σ' = [some (.ref q), some (.ref p), some (.int (sc : Int)), some (.int (dp : Int)), some v, some (.int b), none, none] ∧ b < 0 ∧ Wr H' v ∧ WorthAt D H' p u so ∧ H' T0 = some (.tbl #[]), ?_, ?_⟩
      · refine ⟨_, rfl, q, c, rfl, hP, by omega, fun v H1 hv hP1 k1 => ?_⟩
        refine ⟨1, rfl, _, rfl, q, 9, _, rfl, hP1, by decide, by decide, by omega, fun d H2 d0 d9 hP2 k2 => ?_⟩
        refine ⟨_, _, rfl, rfl, (by show 2 ≤ sizeLine; decide), fun t ht => ?_⟩
        have m := Same.new (o := .tup [v, .int (-1 - d)]) ht
        have o1 : Off q H H1 := fun b o h n _ => k1 b o h n
        have o2 : Off q H1 H2 := fun b o h n _ => k2 b o h n
        have n1 : v ≠ .ref q := fun z => by
          obtain ⟨a, ns, n, y, h1, _⟩ := hP1
          subst z
          cases hv with
          | lst a xs h => rw [h1] at h; cases h
          | tup a xs h => rw [h1] at h; cases h
          | dK a kvs h nd f =>
            rw [h1] at h
            cases h
            obtain ⟨i, e⟩ := f (.inr "cells", .ref a) (List.mem_cons_self)
            cases e
        refine ⟨t, _, rfl, SqT.of upd_same, rfl, _, _, rfl, _, _, rfl, rfl, v, -1 - d, rfl, by omega, (hv.off n1 o2).same m, ((hW.off npq o1).off npq o2).same m, m _ _ (k2 _ _ (k1 _ _ hT0 nT) nT)⟩
      rintro σ1 H1 ⟨v, b, rfl, nb, hv, hW1, hT1⟩
      have tab1 : LamX.Tabs (TL T0) H1 := fun p hp => by
        rw [List.mem_singleton.mp hp]
        exact LamX.TabS.nil hT1
      clear hW hT0 hP
      -- the first row
      refine ⟨fun σ' H' => ∃ l, σ' = [some (.ref q), some (.ref p), some (.int (sc : Int)), some (.int (dp : Int)), some v, some (.int b), some (.ref l), none] ∧ RowSt D T0 cs p u so v b l 1 H', ?_, ?_⟩
      · refine ⟨tab1, fun f1 c1 G eG tG hf hc => ⟨_, rfl, (by show 2 ≤ sizeLine; decide), fun t ht => ⟨(by show 1 ≤ sizeLine; decide), fun l hl => ?_⟩⟩⟩
        have m1 := Same.new (o := .tup [.ref f1, v]) ht
        have m2 := Same.new (o := .lst [.ref t]) hl
        have m := m1.trans m2
        have oA : Off l H1 (upd (upd G t (.tup [.ref f1, v])) l (.lst [.ref t])) := (Off.ofN eG).trans (Off.ofSame m)
        have nv : v ≠ .ref l := fun z => by
          subst z
          have up : ∀ {o : HO}, H1 l = some o → (∀ ps, o ≠ .tbl ps) → False := fun {o} e n => by
            have := m1 _ _ (eG _ _ e n)
            rw [hl] at this
            cases this
          cases hv with
          | lst a xs h => exact up h fun _ z => by cases z
          | tup a xs h => exact up h fun _ z => by cases z
          | dK a kvs h nd f => exact up h fun _ z => by cases z
        have np : p ≠ l := fun z => by
          obtain ⟨dx, hp⟩ := hW1
          have := m1 _ _ (eG _ _ hp fun _ z => by cases z)
          rw [z, hl] at this
          cases this
        refine ⟨l, rfl, ⟨_, upd_same, rfl, fun y hy => ?_⟩, hv.off nv oA, nv, hW1.off np oA, tG.ext fun b o e => m _ _ e⟩
        rcases List.mem_singleton.mp hy with rfl
        rw [ecs] at hf
        exact ⟨t, f1, v, rfl, m2 _ _ upd_same, c1, m _ _ hc, .inl ⟨m _ _ hf, rfl⟩⟩
      rintro σ2 H2 ⟨l, rfl, r1⟩
      clear hv hW1 hT1 tab1
      -- three more
      refine ⟨fun σ' H' => σ' = [some (.ref q), some (.ref p), some (.int (sc : Int)), some (.int (dp : Int)), some v, some (.int b), some (.ref l), none] ∧ RowSt D T0 cs p u so v b l 2 H', ?_, ?_⟩
      · obtain ⟨ts0, hl0, len0, _⟩ := r1.rows
        refine ⟨_, rfl, .inl ⟨rfl, _, SqL.of hl0⟩, r1.tab, fun f1 c1 G eG tG hf hc => ⟨_, rfl, (by show 2 ≤ sizeLine; decide), fun t ht => ?_⟩⟩
        rw [ecs] at hf
        obtain ⟨ts, hl2, len, r⟩ := r1.add eG tG ⟨c1, hc, .inr (.inl ⟨hf, rfl⟩)⟩ ht
        exact ⟨l, _, _, rfl, rfl, hl2, by rw [len, sizeLine_eq]; omega, rfl, r⟩
      rintro σ3 H3 ⟨rfl, r2⟩
      refine ⟨fun σ' H' => σ' = [some (.ref q), some (.ref p), some (.int (sc : Int)), some (.int (dp : Int)), some v, some (.int b), some (.ref l), none] ∧ RowSt D T0 cs p u so v b l 3 H', ?_, ?_⟩
      · obtain ⟨ts0, hl0, len0, _⟩ := r2.rows
        refine ⟨_, rfl, .inl ⟨rfl, _, SqL.of hl0⟩, r2.tab, fun f1 c1 G eG tG hf hc => ⟨_, rfl, (by show 2 ≤ sizeLine; decide), fun t ht => ?_⟩⟩
        rw [ecs] at hf
        obtain ⟨ts, hl2, len, r⟩ := r2.add eG tG ⟨c1, hc, .inr (.inr (.inl ⟨hf, rfl⟩))⟩ ht
        exact ⟨l, _, _, rfl, rfl, hl2, by rw [len, sizeLine_eq]; omega, rfl, r⟩
      rintro σ4 H4 ⟨rfl, r3⟩
      refine ⟨fun σ' H' => σ' = [some (.ref q), some (.ref p), some (.int (sc : Int)), some (.int (dp : Int)), some v, some (.int b), some (.ref l), none] ∧ RowSt D T0 cs p u so v b l 4 H', ?_, ?_⟩
      · obtain ⟨ts0, hl0, len0, _⟩ := r3.rows
        refine ⟨_, rfl, .inl ⟨rfl, _, SqL.of hl0⟩, r3.tab, fun f1 c1 G eG tG hf hc => ⟨_, rfl, (by show 2 ≤ sizeLine; decide), fun t ht => ?_⟩⟩
        rw [ecs] at hf
        obtain ⟨ts, hl2, len, r⟩ := r3.add eG tG ⟨c1, hc, .inr (.inr (.inr ⟨hf, rfl⟩))⟩ ht
        exact ⟨l, _, _, rfl, rfl, hl2, by rw [len, sizeLine_eq]; omega, rfl, r⟩
      rintro σ5 H5 ⟨rfl, r4⟩
      clear r1 r2 r3
      obtain ⟨ts, hl, len, all⟩ := r4.rows
      refine ⟨trivial, _, rfl, l, rfl, ⟨_, SqL.of hl⟩, fun L hL => ?_⟩
      have nL : ∀ {b : Addr} {o : HO}, H5 b = some o → b ≠ L := fun e => ne_of_none e hL
      refine lc_list (K := K) (a := l) (xs := ts) (fun i H' => Same H5 H' ∧ H' L = some (.lst ((List.replicate i true).map V.bl))) ⟨Same.new hL, upd_same⟩ (fun i H' _ ⟨sm, _⟩ => SqL.of (sm _ _ hl)) ?_ ?_
      · rintro i y H' hi ⟨sm, hA⟩
        have hi4 : i < 4 := by
          have := (List.getElem?_eq_some_iff.mp hi).1
          omega
        obtain ⟨a, f1, x1, rfl, ha, hrow⟩ := all y (List.mem_of_getElem? hi)
        have hx : H5 l = none ∨ ∃ ts, H5 l = some (.lst ts) := .inr ⟨ts, hl⟩
        have nlp : p ≠ l := by
          obtain ⟨dx, hp⟩ := r4.wo
          exact not_l hx hp fun _ z => by cases z
        have hx' : H' l = none ∨ ∃ ts, H' l = some (.lst ts) := .inr ⟨ts, sm _ _ hl⟩
        refine ⟨rfl, ?_⟩
        refine ⟨.ref q, v, p, l, sc, dp, so, b, u, none, rfl, ?_⟩
        refine ⟨_, rfl, a, _, 0, .ref f1, rfl, rfl, SqT.of (sm _ _ ha), at_of (j := 0) rfl rfl, _, rfl, a, _, 1, x1, rfl, rfl, SqT.of (sm _ _ ha), at_of (j := 1) rfl rfl, f1, x1, rfl, ?_, r4.wr.same sm, r4.wo.same sm, nb, fun H3 m3 => ?_⟩
        · rw [ecs]
          exact hrow.off hx (Off.ofSame sm)
        · refine ⟨_, m3 _ _ hA, ?_, ?_, ?_⟩
          · rw [List.length_map, List.length_replicate, sizeLine_eq]
            omega
          · intro c o e
            rw [upd_ne (nL e)]
            exact m3 _ _ (sm _ _ e)
          · rw [upd_same, show List.replicate (i + 1) true = List.replicate i true ++ [true] from List.replicate_succ', List.map_append]
            rfl
      · rintro H' ⟨sm, hA⟩
        refine ⟨L, _, rfl, SqL.of hA, ?_⟩
        rw [show (List.replicate ts.length true).all id = true from ?_]
        · exact k H'
        · rw [len]
          rfl
    exact T
end
end FS
set_option Elab.async false
set_option linter.all false
set_option maxRecDepth 100000
set_option maxHeartbeats 2000000
/-! law. -/
namespace FS
open PySem L2
section
variable {X : Cx} {CX : CXT} {k j : Nat} {x : Str} {sp : Sp} {p pos : Pos}
/-- x() -/
theorem pe_k0 {E : XK} (c : Keeps X.prog X.w X.K X.mg X.base CX k x sp) (hr : Room j X.A) (hx : Passes CX X E) (hk : k ≤ j := by decide) (hg : Gl X x := by rfl) (hdb : (x == ("__debug__" : Str)) = false := by decide) :
    PE X (.Call (.Name x p) [] [] pos) (tCall sp [] E tNil) := by
  obtain ⟨f, fd, ps, h, hm, kp, hb⟩ := c.ex
  exact pe_call0 h (hr.mono hk) hg hm kp hb .nil hx hdb
end
theorem Keep.tup {q t : Addr} {c : Int} {H H' : Hp} {xs : List V} (hP : PenAt H q c) (k : Keep q H H') (h : H t = some (.tup xs)) : H' t = some (.tup xs) := k _ _ h fun z => by
  obtain ⟨a, ns, n, y, h1, _⟩ := hP
  rw [z, h1] at h
  cases h
theorem Keep.tbl {q t : Addr} {c : Int} {H H' : Hp} {ps : Array Value} (hP : PenAt H q c) (k : Keep q H H') (h : H t = some (.tbl ps)) : H' t = some (.tbl ps) := k _ _ h fun z => by
  obtain ⟨a, ns, n, y, h1, _⟩ := hP
  rw [z, h1] at h
  cases h
theorem Keep.worth {D q p : Addr} {c u s : Int} {H H' : Hp} (hP : PenAt H q c) (k : Keep q H H') (h : WorthAt D H p u s) : WorthAt D H' p u s := by
  obtain ⟨dx, h⟩ := h
  refine ⟨dx, k _ _ h fun z => ?_⟩
  obtain ⟨a, ns, n, y, h1, _⟩ := hP
  rw [z, h1] at h
  cases h
def spLaw (K : PySem.W.Frag) (T0 : Addr) : Sp := fun vs H Q _ => ∃ (a : Addr) (ns : List Int), vs = [.ref a] ∧ SqL K H a (ns.map V.int) ∧ ns.length ≤ 63 ∧ H T0 = some (.tbl #[]) ∧ ∀ H', Q (.bl true) H'
section
variable {P : Program} {w : World} {K : PySem.W.Frag} {mg : Str → Option Value} {base : Heap} {C D : Addr}
theorem scLaw : FnScope ["_law_script", "_law_pen", "_law_units", "_law_scale", "_law_row", "_law_worth", "_law_depth", "_law_manner"] ["_law_script"] (defScope sLaw) := ⟨rfl, rfl, rfl, by decide +kernel, rfl, by decide +kernel, by decide +kernel⟩
theorem ok_law {f T0 : Addr} {fd : FuncData} (F : Fun K "law" "law" sLaw f fd) (N : Names mg) (M : MkW P w K mg base D) (mW : mg "Worth" = some (.ref D)) (cB : Keeps P w K mg base CX0 1 "_law_begin" (spBegin K)) (cDn : Keeps P w K mg base CX0 3 "_law_drawn" spDrawn) (cP : Keeps P w K mg base CX0 2 "_law_pick" spPick)
    (cD : Keeps P w K mg base CX0 1 "_law_draw" spDraw) (cL : Keeps P w K mg base CX0 2 "_law_low" spLow) (cW : Keeps P w K mg base CX0 1 "_law_ways" spWays) (cR : Keeps P w K mg base CX0 4 "_law_right" (spRight D)) (cSh : Keeps P w K mg base (L2.CX P w) 7 "shown_as" (spShown K C D))
    (cRf : Keeps P w K mg base CX0 10 "_law_refusals" (spRefusals D T0)) : FnOk P w K mg base CX0 11 f fd ["_law_script"] (spLaw K T0) := by
  refine F.ok scLaw (fun vs H Q E h => ?_) (fun cdv A outer s H vs Q E hr h => ?_)
  · obtain ⟨a, ns, rfl, _⟩ := h
    rfl
  · obtain ⟨a, ns, rfl, hS, hl, hT, k⟩ := h
    refine ⟨_, C8.pss_cut (ps_set (i := 1) scLaw.nd rfl (Or.inl rfl) (pe_k cB hr pass0 (pa_cons (pv 0) pa_nil)))
      (C8.pss_cut (ps_asg (pe_k cDn hr pass0 (pa_cons (pv 1) pa_nil)) (pg_tup (by rfl) (pgs_cons (pg_name (i := 2) scLaw.nd rfl (.inl rfl)) (pgs_cons (pg_name (i := 3) scLaw.nd rfl (.inl rfl)) pgs_nil))))
      (C8.pss_cut (ps_set (i := 2) scLaw.nd rfl (Or.inl rfl) (pe_k cP hr pass0 (pa_cons (pv 1) (pa_cons (pe_lst (pa_cons (pv 2) (pa_cons (pv 2) (pa_cons (pe_op op_sub (pe_k cD hr pass0 (pa_cons (pv 1) (pa_cons pe_int pa_nil))) pe_int) pa_nil)))) pa_nil))))
      (C8.pss_cut (ps_par (i := 4) (j := 5) (by rfl) scLaw.nd rfl rfl (by decide) rfl rfl (pa_cons (pe_k cL hr pass0 (pa_cons (pv 2) (pa_cons (pv 3) pa_nil))) (pa_cons (pe_worth M mW hr (pa_cons (pv 2) (pa_cons (pv 3) pa_nil))) pa_nil)) (by rfl))
      (C8.pss_cut (ps_set (i := 3) scLaw.nd rfl (Or.inl rfl) (pe_k cP hr pass0 (pa_cons (pv 1) (pa_cons (pe_lst (pa_cons (pv 3) (pa_cons (pe_ix ix_tup (pv 4) pe_int (fun _ _ => rfl)) (pa_cons (pe_callB (call_max2 (by rfl)) (by rfl) N.max (by decide +kernel) (pa_cons (pe_op op_sub (pv 3) pe_int) (pa_cons pe_int pa_nil))) (pa_cons (pe_k cD hr pass0 (pa_cons (pv 1) (pa_cons pe_int pa_nil))) pa_nil))))) pa_nil))))
      (C8.pss_cut (ps_set (i := 6) scLaw.nd rfl (Or.inl rfl) (pe_k cP hr pass0 (pa_cons (pv 1) (pa_cons (pe_lst (pa_cons (pe_op op_add (pv 3) pe_int) (pa_cons (pe_op op_add (pv 3) pe_int) (pa_cons (pe_k cD hr pass0 (pa_cons (pv 1) (pa_cons pe_int pa_nil))) (pa_cons (pe_op op_add (pv 3) (pe_k cD hr pass0 (pa_cons (pv 1) (pa_cons pe_int pa_nil)))) (pa_cons (pe_ix ix_tup (pv 4) pe_int (fun _ _ => rfl)) pa_nil)))))) pa_nil))))
      (pss_cons (ps_for PassesOwn.never rfl (pi_list (pe_k0 (E := E0) cW hr pass0)) (pg_name (i := 7) scLaw.nd rfl (Or.inl rfl))
        (pss_one (ps_if (pt_not (pt_val (pe_k cR hr pass0 (pa_cons (pe_k (E := E0) cSh hr passL (pa_cons (pv 5) (pa_cons (pv 3) (pa_cons (pv 6) (pa_cons (pv 7) pa_nil))))) (pa_cons (pv 4) (pa_cons (pv 3) (pa_cons (pv 6) (pa_cons (pv 7) pa_nil)))))) (by intro _; rfl))) (pss_one (ps_ret pe_bl)) pss_nil)))
      (pss_one (ps_ret (pe_k cRf hr pass0 (pa_cons (pv 1) (pa_cons (pv 5) (pa_cons (pv 3) (pa_cons (pv 6) pa_nil))))))))))))), ?_⟩
    -- the pen
    refine ⟨fun σ' H' => ∃ q, σ' = [some (.ref a), some (.ref q), none, none, none, none, none, none] ∧ PenAt H' q 0 ∧ H' T0 = some (.tbl #[]), ?_, ?_⟩
    · exact ⟨_, rfl, a, ns, rfl, hS, hl, fun q H1 hP m => ⟨q, rfl, hP, m _ _ hT⟩⟩
    rintro σ1 H1 ⟨q, rfl, hP1, hT1⟩
    clear hS hT
    -- units, scale
    refine ⟨fun σ' H' => ∃ (u : Int) (so : Nat), σ' = [some (.ref a), some (.ref q), some (.int u), some (.int (so : Int)), none, none, none, none] ∧ u.natAbs < 10 ^ 80 ∧ so ≤ 40 ∧ PenAt H' q 40 ∧ H' T0 = some (.tbl #[]), ?_, ?_⟩
    · exact ⟨_, rfl, q, 0, rfl, hP1, by decide, fun u so t H2 hu hso hP2 k2 ht => ⟨t, _, rfl, SqT.of ht, rfl, _, _, rfl, _, _, rfl, rfl, u, so, rfl, hu, hso, hP2, k2.tbl hP1 hT1⟩⟩
    rintro σ2 H2 ⟨u0, so, rfl, hu0, hso, hP2, hT2⟩
    clear hP1 hT1
    -- units again
    refine ⟨fun σ' H' => ∃ (u : Int), σ' = [some (.ref a), some (.ref q), some (.int u), some (.int (so : Int)), none, none, none, none] ∧ u.natAbs < 10 ^ 80 ∧ PenAt H' q 42 ∧ H' T0 = some (.tbl #[]), ?_, ?_⟩
    · refine ⟨_, rfl, _, rfl, _, rfl, _, rfl, q, 5, 40, rfl, hP2, by decide, by decide, by decide, fun d H3 d0 d5 hP3 k3 => ⟨_, _, rfl, rfl, (by show 3 ≤ sizeLine; decide), fun l hl => ?_⟩⟩
      have m := Same.new (o := .lst [.int u0, .int u0, .int (d - 2)]) hl
      have hP4 := hP3.same m
      refine ⟨q, l, _, _, rfl, hP4, upd_same, (by show 0 < 3; decide), (by show 3 ≤ 1000; decide), by decide, fun x hx H5 hP5 k5 => ?_⟩
      have big : (2 : Nat) < 10 ^ 80 := by decide
      have hT5 := k5.tbl hP4 (m _ _ (k3.tbl hP2 hT2))
      rcases List.mem_cons.mp hx with rfl | hx
      · exact ⟨u0, rfl, hu0, hP5, hT5⟩
      rcases List.mem_cons.mp hx with rfl | hx
      · exact ⟨u0, rfl, hu0, hP5, hT5⟩
      rcases List.mem_singleton.mp hx with rfl
      exact ⟨d - 2, rfl, by omega, hP5, hT5⟩
    rintro σ3 H3 ⟨u, rfl, hu, hP3, hT3⟩
    clear hP2 hT2 hu0
    -- row, worth
    refine ⟨fun σ' H' => ∃ (r p : Addr) (u1 : Int) (s1 : Nat), σ' = [some (.ref a), some (.ref q), some (.int u), some (.int (so : Int)), some (.ref r), some (.ref p), none, none] ∧ H' r = some (.tup [.int u1, .int (s1 : Int)]) ∧ WorthAt D H' p u1 s1 ∧ u1.natAbs < 10 ^ 80 ∧ s1 ≤ 40 ∧ PenAt H' q 42 ∧ H' T0 = some (.tbl #[]), ?_, ?_⟩
    · refine ⟨_, rfl, _, rfl, u, so, rfl, Nat.lt_trans hu (Nat.pow_lt_pow_right (by decide) (by decide)), by omega, fun u1 s1 l1 r H4 m4 hr4 => ?_⟩
      refine ⟨_, rfl, _, rfl, fun p1 d1 n1 nd1 _ => worth_init (s := so) n1 nd1 fun u2 s2 l2 H5 m5 w5 => ⟨rfl, ?_⟩⟩
      obtain ⟨e1, e2⟩ := Low.one l2 l1
      subst e1
      subst e2
      have m := m4.trans m5
      exact ⟨_, _, rfl, r, p1, u2, s2, rfl, m5 _ _ hr4, w5, Nat.lt_of_le_of_lt l1.abs hu, Nat.le_trans l1.le hso, hP3.same m, m _ _ hT3⟩
    rintro σ4 H4 ⟨r, p, u1, s1, rfl, hr4, hW4, hu1, hs1, hP4, hT4⟩
    clear hP3 hT3 hu
    -- scale
    refine ⟨fun σ' H' => ∃ (sc : Nat), σ' = [some (.ref a), some (.ref q), some (.int u), some (.int (sc : Int)), some (.ref r), some (.ref p), none, none] ∧ sc ≤ 44 ∧ H' r = some (.tup [.int u1, .int (s1 : Int)]) ∧ WorthAt D H' p u1 s1 ∧ PenAt H' q 44 ∧ H' T0 = some (.tbl #[]), ?_, ?_⟩
    · refine ⟨_, rfl, _, rfl, _, rfl, r, _, 1, .int (s1 : Int), rfl, rfl, SqT.of hr4, at_of (j := 1) rfl rfl, _, rfl, _, _, rfl, rfl, _, _, rfl, _, rfl, q, 45, 42, rfl, hP4, by decide, by decide, by decide, fun d H5 d0 d9 hP5 k5 => ⟨(by show 4 ≤ sizeLine; decide), fun l hl => ?_⟩⟩
      generalize ex : (if (0 : Int) > (so : Int) - 1 then (0 : Int) else (so : Int) - 1) = x0
      have hx0 : 0 ≤ x0 ∧ x0 ≤ 40 := by
        rw [← ex]
        split <;> omega
      have m := Same.new (o := .lst [.int (so : Int), .int (s1 : Int), .int x0, .int d]) hl
      have hP6 := hP5.same m
      have nn : ∀ (y : Int) (H' : Hp), 0 ≤ y → y ≤ 44 → PenAt H' q (42 + 1 + 1) → Keep q (upd H5 l (.lst [.int (so : Int), .int (s1 : Int), .int x0, .int d])) H' →
          ∃ (sc : Nat), V.int y = V.int (sc : Int) ∧ sc ≤ 44 ∧ H' r = some (.tup [.int u1, .int (s1 : Int)]) ∧ WorthAt D H' p u1 s1 ∧ PenAt H' q 44 ∧ H' T0 = some (.tbl #[]) := fun y H' y0 y4 hP7 k7 =>
        ⟨y.toNat, by rw [Int.toNat_of_nonneg y0], by omega, k7.tup hP6 (m _ _ (k5.tup hP4 hr4)), k7.worth hP6 ((k5.worth hP4 hW4).same m), hP7, k7.tbl hP6 (m _ _ (k5.tbl hP4 hT4))⟩
      refine ⟨q, l, [.int (so : Int), .int (s1 : Int), .int x0, .int d], 42 + 1, ?_, hP6, upd_same, (by show 0 < 4; decide), (by show 4 ≤ 1000; decide), by decide, fun x hx H7 hP7 k7 => ?_⟩
      · rfl
      obtain ⟨y, rfl, y0, y4⟩ : ∃ y : Int, x = .int y ∧ 0 ≤ y ∧ y ≤ 44 := by
        rcases List.mem_cons.mp hx with rfl | hx
        · exact ⟨_, rfl, by omega, by omega⟩
        rcases List.mem_cons.mp hx with rfl | hx
        · exact ⟨_, rfl, by omega, by omega⟩
        rcases List.mem_cons.mp hx with rfl | hx
        · exact ⟨_, rfl, by omega, by omega⟩
        rcases List.mem_singleton.mp hx with rfl
        exact ⟨_, rfl, by omega, by omega⟩
      obtain ⟨sc, e, hsc, z⟩ := nn y H7 y0 y4 hP7 k7
      refine ⟨sc, ?_, hsc, z⟩
      rw [e]
      rfl
    rintro σ5 H5 ⟨sc, rfl, hsc, hr5, hW5, hP5, hT5⟩
    clear hP4 hT4 hr4 hW4 hso
    -- depth
    refine ⟨fun σ' H' => ∃ (dp : Nat), σ' = [some (.ref a), some (.ref q), some (.int u), some (.int (sc : Int)), some (.ref r), some (.ref p), some (.int (dp : Int)), none] ∧ dp ≤ 100 ∧ H' r = some (.tup [.int u1, .int (s1 : Int)]) ∧ WorthAt D H' p u1 s1 ∧ PenAt H' q 47 ∧ H' T0 = some (.tbl #[]), ?_, ?_⟩
    · refine ⟨_, rfl, _, rfl, _, _, rfl, rfl, _, rfl, _, _, rfl, rfl, _, rfl, q, 85, 44, rfl, hP5, by decide, by decide, by decide, fun d H6 d0 d9 hP6 k6 => ?_⟩
      refine ⟨_, rfl, _, rfl, q, 41, 44 + 1, rfl, hP6, by decide, by decide, by decide, fun c H7 c0 c9 hP7 k7 => ?_⟩
      have hr7 := k7.tup hP6 (k6.tup hP5 hr5)
      have hW7 := k7.worth hP6 (k6.worth hP5 hW5)
      have hT7 := k7.tbl hP6 (k6.tbl hP5 hT5)
      refine ⟨_, _, rfl, rfl, _, rfl, r, _, 1, .int (s1 : Int), rfl, rfl, SqT.of hr7, at_of (j := 1) rfl rfl, (by show 5 ≤ sizeLine; decide), fun l hl => ?_⟩
      have m := Same.new (o := .lst [.int ((sc : Int) + 1), .int ((sc : Int) + 2), .int d, .int ((sc : Int) + c), .int (s1 : Int)]) hl
      have hP8 := hP7.same m
      refine ⟨q, l, [.int ((sc : Int) + 1), .int ((sc : Int) + 2), .int d, .int ((sc : Int) + c), .int (s1 : Int)], 44 + 1 + 1, rfl, hP8, upd_same, (by show 0 < 5; decide), (by show 5 ≤ 1000; decide), by decide, fun x hx H9 hP9 k9 => ?_⟩
      obtain ⟨y, rfl, y0, y4⟩ : ∃ y : Int, x = .int y ∧ 0 ≤ y ∧ y ≤ 100 := by
        rcases List.mem_cons.mp hx with rfl | hx
        · exact ⟨_, rfl, by omega, by omega⟩
        rcases List.mem_cons.mp hx with rfl | hx
        · exact ⟨_, rfl, by omega, by omega⟩
        rcases List.mem_cons.mp hx with rfl | hx
        · exact ⟨_, rfl, by omega, by omega⟩
        rcases List.mem_cons.mp hx with rfl | hx
        · exact ⟨_, rfl, by omega, by omega⟩
        rcases List.mem_singleton.mp hx with rfl
        exact ⟨_, rfl, by omega, by omega⟩
      have ey : V.int y = V.int ((y.toNat : Nat) : Int) := by rw [Int.toNat_of_nonneg y0]
      refine ⟨y.toNat, ?_, by omega, k9.tup hP8 (m _ _ hr7), k9.worth hP8 (hW7.same m), hP9, k9.tbl hP8 (m _ _ hT7)⟩
      rw [← ey]
      rfl
    rintro σ6 H6 ⟨dp, rfl, hdp, hr6, hW6, hP6, hT6⟩
    clear hP5 hT5 hr5 hW5
    -- the ways
    have hu6 : u1.natAbs < 2 ^ 1000 := Nat.lt_trans hu1 (by decide +kernel)
    refine ⟨rfl, fun l H7 m7 hl7 => ?_⟩
    refine ⟨l, rfl, ⟨_, SqL.of hl7⟩, for_list (K := K) (a := l) (xs := wayVs) (fun i σ' H' => ∃ o : Option V, σ' = [some (.ref a), some (.ref q), some (.int u), some (.int (sc : Int)), some (.ref r), some (.ref p), some (.int (dp : Int)), o] ∧ Same H7 H')
      ⟨none, rfl, Same.refl H7⟩ (fun i σ' H' _ ⟨_, _, sm⟩ => SqL.of (sm _ _ hl7)) ?_ ?_⟩
    · rintro i x σ' H8 hi ⟨o, rfl, sm⟩
      obtain ⟨w, rfl⟩ : ∃ w : Way, x = .str w.str := by
        obtain ⟨w, _, e⟩ := List.mem_map.mp (List.mem_of_getElem? hi)
        exact ⟨w, e.symm⟩
      have hr8 := sm _ _ (m7 _ _ hr6)
      refine ⟨_, rfl, _, rfl, _, rfl, _, rfl, _, _, _, _, rfl, .inr ⟨p, u1, s1, rfl, (hW6.same m7).same sm, .inr ⟨sc, rfl, .inr ⟨dp, rfl, .inr ⟨w, rfl, by omega, by omega, hu6, ?_, ?_, ?_⟩⟩⟩⟩⟩
      · intro hno H9 m9
        exact ⟨_, rfl, _, rfl, _, rfl, _, rfl, .non, r, u1, s1, sc, dp, w, rfl, m9 _ _ hr8, by omega, by omega, hu6, ⟨fun _ => rfl, fun c1 c2 _ => by omega, fun c1 c2 => by omega⟩, fun H10 m10 => ⟨_, rfl, iteF ⟨_, rfl, (sm.trans m9).trans m10⟩⟩⟩
      · intro c1 c2 c3 t H9 m9 ht
        exact ⟨_, rfl, _, rfl, _, rfl, _, rfl, .ref t, r, u1, s1, sc, dp, w, rfl, m9 _ _ hr8, by omega, by omega, hu6, ⟨fun z => by omega, fun _ _ _ => ⟨t, p, rfl, ht, ((hW6.same m7).same sm).same m9⟩, fun _ z => by omega⟩, fun H10 m10 => ⟨_, rfl, iteF ⟨_, rfl, (sm.trans m9).trans m10⟩⟩⟩
      · intro c1 c2 t p1 p2 v1 v2 t1 t2 H9 m9 ht w1 w2 l1 l2
        exact ⟨_, rfl, _, rfl, _, rfl, _, rfl, .ref t, r, u1, s1, sc, dp, w, rfl, m9 _ _ hr8, by omega, by omega, hu6, ⟨fun z => by omega, fun _ _ z => by omega, fun _ _ => ⟨t, p1, p2, v1, v2, t1, t2, rfl, ht, w1, w2, l1, l2⟩⟩, fun H10 m10 => ⟨_, rfl, iteF ⟨_, rfl, (sm.trans m9).trans m10⟩⟩⟩
    · rintro σ' H8 ⟨o, rfl, sm⟩
      have m8 := m7.trans sm
      exact ⟨_, rfl, _, rfl, _, rfl, _, rfl, q, p, 47, u1, s1, sc, dp, rfl, hP6.same m8, by decide, hW6.same m8, m8 _ _ hT6, k⟩
end
end FS
set_option Elab.async false
set_option linter.all false
set_option maxRecDepth 100000
set_option maxHeartbeats 4000000
/-! What the program's top has left, collected (printed by gen_g2.py). -/
namespace FS
open PySem L2
/-- a def of the module, as the written part tells it -/
abbrev FF (K : PySem.W.Frag) (x : Str) (st : Stmt) : Prop := ∃ (f : Addr) (oc : Value) (od : Option Addr) (kV doc pm : Value) (an : Option Addr) (cd ct : Value) (sl : Array (Option Value)),
  PySem.W.nsIn K mainGlobals x = some (some (.ref f)) ∧ K.lookup f = some ⟨oc, od, .func (PySem.W.fnOf x x (defArgs st) (defBody st) (defScope st) .none kV doc pm an cd ct), sl⟩ ∧ PySem.W.codeIn K cd x = true ∧ PySem.W.keepIn K (.ref f) = true
/-- the same, its code object at cR -/
abbrev FFc (K : PySem.W.Frag) (x : Str) (st : Stmt) (cR : Addr) : Prop := ∃ (f : Addr) (oc : Value) (od : Option Addr) (kV doc pm : Value) (an : Option Addr) (ct : Value) (sl : Array (Option Value)),
  PySem.W.nsIn K mainGlobals x = some (some (.ref f)) ∧ K.lookup f = some ⟨oc, od, .func (PySem.W.fnOf x x (defArgs st) (defBody st) (defScope st) .none kV doc pm an (.ref cR) ct), sl⟩ ∧ PySem.W.codeIn K (.ref cR) x = true ∧ PySem.W.keepIn K (.ref f) = true
/-- BadValue -/
abbrev FB (P : Program) (K : PySem.W.Frag) (C : Addr) : Prop := ∃ (f : Addr) (oc : Value) (od : Option Addr) (kV doc pm : Value) (an : Option Addr) (cda : Addr) (ct : Value) (osl : Array (Option Value)) (cc : Addr) (ccl : Value) (cdd : Option Addr) (vs : Array Value) (ccs : Array (Option Value)) (file : Str) (tf : Tok) (cl : Value) (cld : Option Addr) (csl : Array (Option Value)),
  PySem.W.findIn K (.ref C) "__init__" = some (some (.ref f)) ∧
  K.lookup f = some ⟨oc, od, .func (PySem.W.fnX "__init__" "BadValue.__init__" (defArgs sBVI) (defBody sBVI) (defScope sBVI) [("__class__", cc)] .none kV doc pm an (.ref cda) ct), osl⟩ ∧
  PySem.W.codeIn K (.ref cda) "BadValue.__init__" = true ∧ K.lookup cda = some ⟨ccl, cdd, .fields vs, ccs⟩ ∧ vs[2]? = some (.str file tf) ∧ ((P.main.file : Str) == file) = true ∧ K.lookup cc = some ⟨cl, cld, .cell (some (.ref C)), csl⟩ ∧ PySem.W.typeIn K (.ref f) = some (.type "function")
abbrev FBc (K : PySem.W.Frag) (C : Addr) : Prop := ∃ (nm q : Str) (N : Addr) (bs bm : List Value) (sn : List Str) (sub : List Value) (ab : Bool) (col : Option Bool) (dd : Option Addr) (k0 k1 k2 k3 k5 : Option Value),
  K.lookup C = some (excClassObj nm q C N bs bm true sn sub ab col dd k0 k1 k2 k3 k5 "ValueError.__new__") ∧ PySem.HandSPX.refsVE bm = true
/-- Worth.__init__ and Worth.units_at -/
abbrev FWi (K : PySem.W.Frag) (D : Addr) : Prop := ∃ (f : Addr) (oc : Value) (od : Option Addr) (T : Addr) (kV doc pm : Value) (an : Option Addr) (cd ct : Value) (sl : Array (Option Value)) (o : Obj) (t : Tok) (n : Nat),
  PySem.W.findIn K (.ref D) "__init__" = some (some (.ref f)) ∧ K.lookup f = some ⟨oc, od, .func (PySem.W.fnOf "__init__" "Worth.__init__" (defArgs sWInit) (defBody sWInit) (defScope sWInit) (.ref T) kV doc pm an cd ct), sl⟩ ∧ PySem.W.codeIn K cd "Worth.__init__" = true ∧
  PySem.W.keepIn K (.ref f) = true ∧ PySem.W.isFn K (.ref f) = true ∧ K.lookup T = some o ∧ o.data = .seq #[.int 0 t] n
abbrev FWu (K : PySem.W.Frag) (D : Addr) : Prop := ∃ (f : Addr) (oc : Value) (od : Option Addr) (kV doc pm : Value) (an : Option Addr) (cd ct : Value) (sl : Array (Option Value)),
  PySem.W.findIn K (.ref D) "units_at" = some (some (.ref f)) ∧ K.lookup f = some ⟨oc, od, .func (PySem.W.fnOf "units_at" "Worth.units_at" (defArgs sUnitsAt) (defBody sUnitsAt) (defScope sUnitsAt) .none kV doc pm an cd ct), sl⟩ ∧ PySem.W.codeIn K cd "Worth.units_at" = true ∧
  PySem.W.keepIn K (.ref f) = true ∧ PySem.W.isFn K (.ref f) = true
abbrev FWs (K : PySem.W.Frag) : Prop := ∃ (a : Addr) (o : Obj) (its : Array Value) (n : Nat), PySem.W.nsIn K mainGlobals "WAYS" = some (some (.ref a)) ∧ K.lookup a = some o ∧ o.cls = .type "tuple" ∧ o.data = .seq its n ∧ its.size ≤ sizeLine ∧ Vals wayVs its.toList
theorem FF.get {K : PySem.W.Frag} {h : Heap} {mg : Str → Option Value} {x : Str} {st : Stmt} (ff : FF K x st) (X : K.In h) (G : h.Ns mainGlobals mg) : ∃ (f : Addr) (fd : FuncData), mg x = some (.ref f) ∧ Fun K x x st f fd := by
  obtain ⟨f, oc, od, kV, doc, pm, an, cd, ct, sl, a, l, c, k⟩ := ff
  exact ⟨f, _, PySem.W.mg_of X G a, fun_mk (st := st) l c k⟩

theorem FF.mk {K : PySem.W.Frag} {x : Str} {st : Stmt} {f : Addr} {oc : Value} {od : Option Addr} {kV doc pm : Value} {an : Option Addr} {cd ct : Value} {sl : Array (Option Value)} (q0 : PySem.W.nsIn K mainGlobals x = some (some (.ref f))) (q1 : K.lookup f = some ⟨oc, od, .func (PySem.W.fnOf x x (defArgs st) (defBody st) (defScope st) .none kV doc pm an cd ct), sl⟩) (q2 : PySem.W.codeIn K cd x = true) (q3 : PySem.W.keepIn K (.ref f) = true) : FF K x st := ⟨_, _, _, _, _, _, _, _, _, _, q0, q1, q2, q3⟩
theorem FFc.mk {K : PySem.W.Frag} {x : Str} {st : Stmt} {cR : Addr} {f : Addr} {oc : Value} {od : Option Addr} {kV doc pm : Value} {an : Option Addr} {ct : Value} {sl : Array (Option Value)} (q0 : PySem.W.nsIn K mainGlobals x = some (some (.ref f))) (q1 : K.lookup f = some ⟨oc, od, .func (PySem.W.fnOf x x (defArgs st) (defBody st) (defScope st) .none kV doc pm an (.ref cR) ct), sl⟩) (q2 : PySem.W.codeIn K (.ref cR) x = true) (q3 : PySem.W.keepIn K (.ref f) = true) : FFc K x st cR := ⟨_, _, _, _, _, _, _, _, _, q0, q1, q2, q3⟩
theorem FB.mk {P : Program} {K : PySem.W.Frag} {C : Addr} {f : Addr} {oc : Value} {od : Option Addr} {kV doc pm : Value} {an : Option Addr} {cda : Addr} {ct : Value} {osl : Array (Option Value)} {cc : Addr} {ccl : Value} {cdd : Option Addr} {vs : Array Value} {ccs : Array (Option Value)} {file : Str} {tf : Tok} {cl : Value} {cld : Option Addr} {csl : Array (Option Value)} (q0 : PySem.W.findIn K (.ref C) "__init__" = some (some (.ref f))) (q1 : K.lookup f = some ⟨oc, od, .func (PySem.W.fnX "__init__" "BadValue.__init__" (defArgs sBVI) (defBody sBVI) (defScope sBVI) [("__class__", cc)] .none kV doc pm an (.ref cda) ct), osl⟩) (q2 : PySem.W.codeIn K (.ref cda) "BadValue.__init__" = true) (q3 : K.lookup cda = some ⟨ccl, cdd, .fields vs, ccs⟩) (q4 : vs[2]? = some (.str file tf)) (q5 : ((P.main.file : Str) == file) = true) (q6 : K.lookup cc = some ⟨cl, cld, .cell (some (.ref C)), csl⟩) (q7 : PySem.W.typeIn K (.ref f) = some (.type "function")) : FB P K C := ⟨_, _, _, _, _, _, _, _, _, _, _, _, _, _, _, _, _, _, _, _, q0, q1, q2, q3, q4, q5, q6, q7⟩
theorem FBc.mk {K : PySem.W.Frag} {C : Addr} {nm q : Str} {N : Addr} {bs bm : List Value} {sn : List Str} {sub : List Value} {ab : Bool} {col : Option Bool} {dd : Option Addr} {k0 k1 k2 k3 k5 : Option Value} (q0 : K.lookup C = some (excClassObj nm q C N bs bm true sn sub ab col dd k0 k1 k2 k3 k5 "ValueError.__new__")) (q1 : PySem.HandSPX.refsVE bm = true) : FBc K C := ⟨_, _, _, _, _, _, _, _, _, _, _, _, _, _, _, q0, q1⟩
theorem FWi.mk {K : PySem.W.Frag} {D : Addr} {f : Addr} {oc : Value} {od : Option Addr} {T : Addr} {kV doc pm : Value} {an : Option Addr} {cd ct : Value} {sl : Array (Option Value)} {o : Obj} {t : Tok} {n : Nat} (q0 : PySem.W.findIn K (.ref D) "__init__" = some (some (.ref f))) (q1 : K.lookup f = some ⟨oc, od, .func (PySem.W.fnOf "__init__" "Worth.__init__" (defArgs sWInit) (defBody sWInit) (defScope sWInit) (.ref T) kV doc pm an cd ct), sl⟩) (q2 : PySem.W.codeIn K cd "Worth.__init__" = true) (q3 : PySem.W.keepIn K (.ref f) = true) (q4 : PySem.W.isFn K (.ref f) = true) (q5 : K.lookup T = some o) (q6 : o.data = .seq #[.int 0 t] n) : FWi K D := ⟨_, _, _, _, _, _, _, _, _, _, _, _, _, _, q0, q1, q2, q3, q4, q5, q6⟩
theorem FWu.mk {K : PySem.W.Frag} {D : Addr} {f : Addr} {oc : Value} {od : Option Addr} {kV doc pm : Value} {an : Option Addr} {cd ct : Value} {sl : Array (Option Value)} (q0 : PySem.W.findIn K (.ref D) "units_at" = some (some (.ref f))) (q1 : K.lookup f = some ⟨oc, od, .func (PySem.W.fnOf "units_at" "Worth.units_at" (defArgs sUnitsAt) (defBody sUnitsAt) (defScope sUnitsAt) .none kV doc pm an cd ct), sl⟩) (q2 : PySem.W.codeIn K cd "Worth.units_at" = true) (q3 : PySem.W.keepIn K (.ref f) = true) (q4 : PySem.W.isFn K (.ref f) = true) : FWu K D := ⟨_, _, _, _, _, _, _, _, _, _, q0, q1, q2, q3, q4⟩
theorem FWs.mk {K : PySem.W.Frag} {a : Addr} {o : Obj} {its : Array Value} {n : Nat} (q0 : PySem.W.nsIn K mainGlobals "WAYS" = some (some (.ref a))) (q1 : K.lookup a = some o) (q2 : o.cls = .type "tuple") (q3 : o.data = .seq its n) (q4 : its.size ≤ sizeLine) (q5 : Vals wayVs its.toList) : FWs K := ⟨_, _, _, _, q0, q1, q2, q3, q4, q5⟩
theorem all_mk {P : Program} {w : World} {K : PySem.W.Frag} {h : Heap} {mg : Str → Option Value} {fa C D cR T0 : Addr} (KX : K.In h) (G : h.Ns mainGlobals mg) (hfa : mg "law" = some (.ref fa))
    (n_isinstance : PySem.W.nsIn K mainGlobals "isinstance" = some none)
    (n_int : PySem.W.nsIn K mainGlobals "int" = some none)
    (n_bool : PySem.W.nsIn K mainGlobals "bool" = some none)
    (n_tuple : PySem.W.nsIn K mainGlobals "tuple" = some none)
    (n_list : PySem.W.nsIn K mainGlobals "list" = some none)
    (n_str : PySem.W.nsIn K mainGlobals "str" = some none)
    (n_min : PySem.W.nsIn K mainGlobals "min" = some none)
    (n_max : PySem.W.nsIn K mainGlobals "max" = some none)
    (n_len : PySem.W.nsIn K mainGlobals "len" = some none)
    (n_range : PySem.W.nsIn K mainGlobals "range" = some none)
    (n_all : PySem.W.nsIn K mainGlobals "all" = some none)
    (n_super : PySem.W.nsIn K mainGlobals "super" = some none)
    (aC : PySem.W.nsIn K mainGlobals "BadValue" = some (some (.ref C)))
    (fbc : FBc K C)
    (c_sa : PySem.W.findIn K (.ref C) "__setattr__" = some (some (.builtin "object.__setattr__")))
    (c_ex : PySem.W.subIn K (.ref C) (.type "BaseException") = some true)
    (c_ty : PySem.W.typeIn K (.ref C) = some (.type "type"))
    (c_k : PySem.W.keepIn K (.ref C) = true)
    (fb : FB P K C)
    (c_sub : PySem.W.mroIn K C (.ref C) = some true)
    (c_subV : PySem.W.subIn K (.ref C) (.type "ValueError") = some true)
    (c_sup : PySem.W.ks_superIn K C C "__init__" = some (some (.builtin "ValueError.__init__")))
    (c_stat : PySem.W.nsIn K cStatics "thirdparty.any" = some none)
    (c_nv : PySem.W.findIn K (.ref C) "value" = some none)
    (c_ga : PySem.W.findIn K (.ref C) "__getattribute__" = some (some (.builtin "BaseException.__getattribute__")))
    (c_gg : PySem.W.findIn K (.ref C) "__getattr__" = some none)
    (c_hd : PySem.W.hasDictIn K C = true)
    (hex : PySem.W.exmOne K (.ref C) (.ref C) = some true)
    (tsup : (P.main.scope.names.lookup ("super" : Str)).isSome = false)
    (aD : PySem.W.nsIn K mainGlobals "Worth" = some (some (.ref D)))
    (d_pg : PySem.W.plainGet K D Str.empty = true)
    (d_hd : PySem.W.hasDictIn K D = true)
    (d_po : PySem.W.plainOver K D = true)
    (d_sa : PySem.W.findIn K (.ref D) "__setattr__" = some (some (.builtin "object.__setattr__")))
    (d_nU : PySem.W.findIn K (.ref D) "units" = some none)
    (d_nS : PySem.W.findIn K (.ref D) "scale" = some none)
    (d_ha : PySem.W.findIn K (.ref D) "__class__" = some (some (.builtin "object.__class__")))
    (d_hn : PySem.W.specialIn K (.builtin "object.__class__") "__get__" = some (some (.builtin "getset_descriptor.__get__")))
    (d_htk : PySem.W.takesIn K (.builtin "object.__class__") = some true)
    (d_hm : PySem.W.mroIn K D (.type "object") = some true)
    (d_no : ∀ T ∈ tyN, PySem.W.kitOne K (.type T) (.ref D) = some false)
    (d_mk : PySem.W.makesIn K D = true)
    (d_kp : PySem.W.keepIn K (.ref D) = true)
    (fwi : FWi K D)
    (fwu : FWu K D)
    (fws : FWs K)
    (f_ten_to : FF K "ten_to" sTen)
    (f_is_integer : FF K "is_integer" sIsInt)
    (f_is_whole : FF K "is_whole" sIsWhole)
    (f_need_integer : FF K "need_integer" sNeedInt)
    (f_need_whole : FF K "need_whole" sNeedWhole)
    (f_lowered : FF K "lowered" sLowered)
    (f_need_worth : FF K "need_worth" sNeedWorth)
    (f_need_way : FF K "need_way" sNeedWay)
    (f_lift : FF K "lift" sLift)
    (f_reach_below : FF K "reach_below" sBelow)
    (f_reach_above : FF K "reach_above" sAbove)
    (f_shown_as : FF K "shown_as" sShown)
    (f__law_begin : FF K "_law_begin" sBegin)
    (f__law_draw : FF K "_law_draw" sDraw)
    (f__law_pick : FF K "_law_pick" sPick)
    (f__law_ten : FF K "_law_ten" sLTen)
    (f__law_figures : FF K "_law_figures" sFigures)
    (f__law_drawn : FF K "_law_drawn" sDrawn)
    (f__law_low : FF K "_law_low" sLow)
    (f__law_told : FF K "_law_told" sTold)
    (f__law_wrong : FF K "_law_wrong" sWrong)
    (f__law_same : FF K "_law_same" sSame)
    (f__law_refused : FF K "_law_refused" sRefused)
    (f__law_ways : FF K "_law_ways" sWays)
    (f__law_rounds : FF K "_law_rounds" sRounds)
    (f__law_ends : FF K "_law_ends" sEnds)
    (f__law_right : FF K "_law_right" sRight)
    (f__law_refusals : FFc K "_law_refusals" sRefusals cR)
    (f_law : FF K "law" sLaw)
    : ∃ fd : FuncData, (∀ (s : Shared) (u : Value), BindsTo s fd ⟨[u], []⟩ [("_law_script", u)]) ∧ ∀ base : Heap, LamX.TabB base mg cR T0 → FnOk P w K mg base CX0 11 fa fd ["_law_script"] (spLaw K T0) := by
  have N : Names mg := ⟨PySem.W.mg_none_of KX G n_isinstance, PySem.W.mg_none_of KX G n_int, PySem.W.mg_none_of KX G n_bool, PySem.W.mg_none_of KX G n_tuple, PySem.W.mg_none_of KX G n_list, PySem.W.mg_none_of KX G n_str, PySem.W.mg_none_of KX G n_min, PySem.W.mg_none_of KX G n_max, PySem.W.mg_none_of KX G n_len, PySem.W.mg_none_of KX G n_range, PySem.W.mg_none_of KX G n_all⟩
  have gC : mg "BadValue" = some (.ref C) := PySem.W.mg_of KX G aC
  have gD : mg "Worth" = some (.ref D) := PySem.W.mg_of KX G aD
  have oex : OexC K C := ⟨fbc, c_sa, c_ex, c_ty, c_k⟩
  have cb : ClsB P K mg C := ⟨oex, c_sub, c_subV, c_sup, c_stat, PySem.W.mg_none_of KX G n_super, tsup, c_nv⟩
  have xf : XfC K C := ⟨c_ga, c_gg, c_ex, c_hd⟩
  have wc : WC K mg D := ⟨gD, ⟨d_pg, d_hd, d_po, d_sa⟩, d_nU, d_nS, .inr trivial, d_ha, d_hn, d_htk, d_hm, d_no⟩
  have hways : WaysIn K mg := by
    obtain ⟨a, o, its, n, h1, h2, h3, h4, h5, h6⟩ := fws
    exact ⟨a, o, its, n, PySem.W.mg_of KX G h1, h2, h3, h4, h5, h6⟩
  have bad : ∀ base : Heap, BadV P w K mg base C := fun base => by
    obtain ⟨f, oc, od, kV, doc, pm, an, cda, ct, osl, cc, ccl, cdd, vs, ccs, file, tf, cl, cld, csl, h0, h1, h2, h3, h4, h5, h6, h7⟩ := fb
    have F : FunB P K C f (PySem.W.fnX "__init__" "BadValue.__init__" (defArgs sBVI) (defBody sBVI) (defScope sBVI) [("__class__", cc)] .none kV doc pm an (.ref cda) ct) := ⟨⟨oc, od, kV, doc, pm, an, cda, ct, osl, cc, ccl, cdd, vs, ccs, file, tf, cl, cld, csl, rfl, h1, h2, h3, h4, h5, h6⟩⟩
    have b : Binds K (PySem.W.fnX "__init__" "BadValue.__init__" (defArgs sBVI) (defBody sBVI) (defScope sBVI) [("__class__", cc)] .none kV doc pm an (.ref cda) ct) ["self", "value"] [] := .all fun us hu => match us, hu with | [_, _], _ => rfl
    exact ⟨gC, oex, f, _, h0, h7, ok_bvInit F cb b, b⟩
  obtain ⟨f_ten_to', fd_ten_to, g_ten_to, F_ten_to⟩ := f_ten_to.get KX G
  have b_ten_to : Binds K fd_ten_to ["number"] [] := F_ten_to.binds fun _ _ _ _ _ _ us hl => match us, hl with | [_], _ => rfl
  have k_ten_to : ∀ base : Heap, Keeps P w K mg base CX0 1 "ten_to" spTen := fun base => ⟨f_ten_to', fd_ten_to, _, ok_ten F_ten_to, g_ten_to, F_ten_to.kp, b_ten_to⟩
  obtain ⟨f_is_integer', fd_is_integer, g_is_integer, F_is_integer⟩ := f_is_integer.get KX G
  have b_is_integer : Binds K fd_is_integer ["value"] [] := F_is_integer.binds fun _ _ _ _ _ _ us hl => match us, hl with | [_], _ => rfl
  have k_is_integer : ∀ base : Heap, Keeps P w K mg base CX0 1 "is_integer" (spIsInt K) := fun base => ⟨f_is_integer', fd_is_integer, _, ok_isInt F_is_integer N, g_is_integer, F_is_integer.kp, b_is_integer⟩
  obtain ⟨f_is_whole', fd_is_whole, g_is_whole, F_is_whole⟩ := f_is_whole.get KX G
  have b_is_whole : Binds K fd_is_whole ["value"] [] := F_is_whole.binds fun _ _ _ _ _ _ us hl => match us, hl with | [_], _ => rfl
  have k_is_whole : ∀ base : Heap, Keeps P w K mg base CX0 2 "is_whole" (spIsWhole K) := fun base => ⟨f_is_whole', fd_is_whole, _, ok_isWhole F_is_whole (k_is_integer base), g_is_whole, F_is_whole.kp, b_is_whole⟩
  obtain ⟨f_need_integer', fd_need_integer, g_need_integer, F_need_integer⟩ := f_need_integer.get KX G
  have b_need_integer : Binds K fd_need_integer ["value"] [] := F_need_integer.binds fun _ _ _ _ _ _ us hl => match us, hl with | [_], _ => rfl
  have k_need_integer : ∀ base : Heap, Keeps P w K mg base (L2.CX P w) 4 "need_integer" (spNeedInt K C) := fun base => ⟨f_need_integer', fd_need_integer, _, ok_needInt F_need_integer (k_is_integer base) (bad base), g_need_integer, F_need_integer.kp, b_need_integer⟩
  obtain ⟨f_need_whole', fd_need_whole, g_need_whole, F_need_whole⟩ := f_need_whole.get KX G
  have b_need_whole : Binds K fd_need_whole ["value"] [] := F_need_whole.binds fun _ _ _ _ _ _ us hl => match us, hl with | [_], _ => rfl
  have k_need_whole : ∀ base : Heap, Keeps P w K mg base (L2.CX P w) 4 "need_whole" (spNeedWhole K C) := fun base => ⟨f_need_whole', fd_need_whole, _, ok_needWhole F_need_whole (k_is_whole base) (bad base), g_need_whole, F_need_whole.kp, b_need_whole⟩
  obtain ⟨f_lowered', fd_lowered, g_lowered, F_lowered⟩ := f_lowered.get KX G
  have b_lowered : Binds K fd_lowered ["units", "scale"] [] := F_lowered.binds fun _ _ _ _ _ _ us hl => match us, hl with | [_, _], _ => rfl
  have k_lowered : ∀ base : Heap, Keeps P w K mg base CX0 1 "lowered" spLowered := fun base => ⟨f_lowered', fd_lowered, _, ok_lowered F_lowered, g_lowered, F_lowered.kp, b_lowered⟩
  obtain ⟨f_need_worth', fd_need_worth, g_need_worth, F_need_worth⟩ := f_need_worth.get KX G
  have b_need_worth : Binds K fd_need_worth ["value"] [] := F_need_worth.binds fun _ _ _ _ _ _ us hl => match us, hl with | [_], _ => rfl
  have k_need_worth : ∀ base : Heap, Keeps P w K mg base (L2.CX P w) 4 "need_worth" (spNeedWorth K C D) := fun base => ⟨f_need_worth', fd_need_worth, _, ok_needWorth F_need_worth N wc (bad base), g_need_worth, F_need_worth.kp, b_need_worth⟩
  obtain ⟨f_need_way', fd_need_way, g_need_way, F_need_way⟩ := f_need_way.get KX G
  have b_need_way : Binds K fd_need_way ["value"] [] := F_need_way.binds fun _ _ _ _ _ _ us hl => match us, hl with | [_], _ => rfl
  have k_need_way : ∀ base : Heap, Keeps P w K mg base (L2.CX P w) 4 "need_way" (spNeedWay C) := fun base => ⟨f_need_way', fd_need_way, _, ok_needWay F_need_way hways (bad base), g_need_way, F_need_way.kp, b_need_way⟩
  obtain ⟨f_lift', fd_lift, g_lift, F_lift⟩ := f_lift.get KX G
  have b_lift : Binds K fd_lift ["way", "part", "negative", "odd"] [] := F_lift.binds fun _ _ _ _ _ _ us hl => match us, hl with | [_, _, _, _], _ => rfl
  have k_lift : ∀ base : Heap, Keeps P w K mg base CX0 1 "lift" spLift := fun base => ⟨f_lift', fd_lift, _, ok_lift F_lift N, g_lift, F_lift.kp, b_lift⟩
  obtain ⟨f_reach_below', fd_reach_below, g_reach_below, F_reach_below⟩ := f_reach_below.get KX G
  have b_reach_below : Binds K fd_reach_below ["way", "units", "wide"] [] := F_reach_below.binds fun _ _ _ _ _ _ us hl => match us, hl with | [_, _, _], _ => rfl
  have k_reach_below : ∀ base : Heap, Keeps P w K mg base CX0 2 "reach_below" spReachB := fun base => ⟨f_reach_below', fd_reach_below, _, ok_below F_reach_below (k_lift base), g_reach_below, F_reach_below.kp, b_reach_below⟩
  obtain ⟨f_reach_above', fd_reach_above, g_reach_above, F_reach_above⟩ := f_reach_above.get KX G
  have b_reach_above : Binds K fd_reach_above ["way", "units", "wide"] [] := F_reach_above.binds fun _ _ _ _ _ _ us hl => match us, hl with | [_, _, _], _ => rfl
  have k_reach_above : ∀ base : Heap, Keeps P w K mg base CX0 2 "reach_above" spReachA := fun base => ⟨f_reach_above', fd_reach_above, _, ok_above F_reach_above (k_lift base), g_reach_above, F_reach_above.kp, b_reach_above⟩
  have mkw : ∀ base : Heap, MkW P w K mg base D := fun base => by
    obtain ⟨f, oc, od, T, kV, doc, pm, an, cd, ct, sl, o, t, n, h0, h1, h2, h3, h4, h5, h6⟩ := fwi
    have F : FunW K f (PySem.W.fnOf "__init__" "Worth.__init__" (defArgs sWInit) (defBody sWInit) (defScope sWInit) (.ref T) kV doc pm an cd ct) :=
      ⟨⟨oc, od, .ref T, kV, doc, pm, an, cd, ct, sl, rfl, h1, h2, .inr ⟨by simp, T, o, [.int 0 t], n, rfl, h5, h6, .cons ⟨t, rfl⟩ .nil⟩, .inl rfl⟩, h3⟩
    exact ⟨f, _, ⟨d_mk, h0, h4, d_kp⟩, ok_wInit F wc (k_need_integer base) (k_need_whole base) (k_lowered base), bWInit F⟩
  have metu : ∀ base : Heap, MetU P w K mg base D := fun base => by
    obtain ⟨f, oc, od, kV, doc, pm, an, cd, ct, sl, h0, h1, h2, h3, h4⟩ := fwu
    have F := fun_mk (x := "units_at") (qual := "Worth.units_at") (st := sUnitsAt) h1 h2 h3
    exact ⟨f, _, ⟨h0, h4, h3⟩, ok_unitsAt F wc (k_need_whole base) (k_ten_to base), F.binds fun _ _ _ _ _ _ us hl => match us, hl with | [_, _], _ => rfl⟩
  obtain ⟨f_shown_as', fd_shown_as, g_shown_as, F_shown_as⟩ := f_shown_as.get KX G
  have b_shown_as : Binds K fd_shown_as ["worth", "scale", "places", "way"] [] := F_shown_as.binds fun _ _ _ _ _ _ us hl => match us, hl with | [_, _, _, _], _ => rfl
  have k_shown_as : ∀ base : Heap, Keeps P w K mg base (L2.CX P w) 7 "shown_as" (spShown K C D) := fun base => ⟨f_shown_as', fd_shown_as, _, ok_shown F_shown_as N wc (mkw base) (metu base) (k_need_worth base) (k_need_whole base) (k_need_way base) (k_ten_to base) (k_reach_below base) (k_reach_above base), g_shown_as, F_shown_as.kp, b_shown_as⟩
  obtain ⟨f__law_begin', fd__law_begin, g__law_begin, F__law_begin⟩ := f__law_begin.get KX G
  have b__law_begin : Binds K fd__law_begin ["_law_script"] [] := F__law_begin.binds fun _ _ _ _ _ _ us hl => match us, hl with | [_], _ => rfl
  have k__law_begin : ∀ base : Heap, Keeps P w K mg base CX0 1 "_law_begin" (spBegin K) := fun base => ⟨f__law_begin', fd__law_begin, _, ok_begin F__law_begin N, g__law_begin, F__law_begin.kp, b__law_begin⟩
  obtain ⟨f__law_draw', fd__law_draw, g__law_draw, F__law_draw⟩ := f__law_draw.get KX G
  have b__law_draw : Binds K fd__law_draw ["_law_pen", "_law_span"] [] := F__law_draw.binds fun _ _ _ _ _ _ us hl => match us, hl with | [_, _], _ => rfl
  have k__law_draw : ∀ base : Heap, Keeps P w K mg base CX0 1 "_law_draw" spDraw := fun base => ⟨f__law_draw', fd__law_draw, _, ok_draw F__law_draw N, g__law_draw, F__law_draw.kp, b__law_draw⟩
  obtain ⟨f__law_pick', fd__law_pick, g__law_pick, F__law_pick⟩ := f__law_pick.get KX G
  have b__law_pick : Binds K fd__law_pick ["_law_pen", "_law_some"] [] := F__law_pick.binds fun _ _ _ _ _ _ us hl => match us, hl with | [_, _], _ => rfl
  have k__law_pick : ∀ base : Heap, Keeps P w K mg base CX0 2 "_law_pick" spPick := fun base => ⟨f__law_pick', fd__law_pick, _, ok_pick F__law_pick N (k__law_draw base), g__law_pick, F__law_pick.kp, b__law_pick⟩
  obtain ⟨f__law_ten', fd__law_ten, g__law_ten, F__law_ten⟩ := f__law_ten.get KX G
  have b__law_ten : Binds K fd__law_ten ["_law_number"] [] := F__law_ten.binds fun _ _ _ _ _ _ us hl => match us, hl with | [_], _ => rfl
  have k__law_ten : ∀ base : Heap, Keeps P w K mg base CX0 1 "_law_ten" spLTen := fun base => ⟨f__law_ten', fd__law_ten, _, ok_lten F__law_ten N, g__law_ten, F__law_ten.kp, b__law_ten⟩
  obtain ⟨f__law_figures', fd__law_figures, g__law_figures, F__law_figures⟩ := f__law_figures.get KX G
  have b__law_figures : Binds K fd__law_figures ["_law_pen", "_law_most"] [] := F__law_figures.binds fun _ _ _ _ _ _ us hl => match us, hl with | [_, _], _ => rfl
  have k__law_figures : ∀ base : Heap, Keeps P w K mg base CX0 2 "_law_figures" spFigures := fun base => ⟨f__law_figures', fd__law_figures, _, ok_figures F__law_figures N (k__law_draw base) (k__law_ten base), g__law_figures, F__law_figures.kp, b__law_figures⟩
  obtain ⟨f__law_drawn', fd__law_drawn, g__law_drawn, F__law_drawn⟩ := f__law_drawn.get KX G
  have b__law_drawn : Binds K fd__law_drawn ["_law_pen"] [] := F__law_drawn.binds fun _ _ _ _ _ _ us hl => match us, hl with | [_], _ => rfl
  have k__law_drawn : ∀ base : Heap, Keeps P w K mg base CX0 3 "_law_drawn" spDrawn := fun base => ⟨f__law_drawn', fd__law_drawn, _, ok_drawn F__law_drawn (k__law_figures base) (k__law_pick base) (k__law_draw base), g__law_drawn, F__law_drawn.kp, b__law_drawn⟩
  obtain ⟨f__law_low', fd__law_low, g__law_low, F__law_low⟩ := f__law_low.get KX G
  have b__law_low : Binds K fd__law_low ["_law_units", "_law_scale"] [] := F__law_low.binds fun _ _ _ _ _ _ us hl => match us, hl with | [_, _], _ => rfl
  have k__law_low : ∀ base : Heap, Keeps P w K mg base CX0 2 "_law_low" spLow := fun base => ⟨f__law_low', fd__law_low, _, ok_low F__law_low N (k__law_ten base), g__law_low, F__law_low.kp, b__law_low⟩
  obtain ⟨f__law_told', fd__law_told, g__law_told, F__law_told⟩ := f__law_told.get KX G
  have b__law_told : Binds K fd__law_told ["_law_worth"] [] := F__law_told.binds fun _ _ _ _ _ _ us hl => match us, hl with | [_], _ => rfl
  have k__law_told : ∀ base : Heap, Keeps P w K mg base CX0 1 "_law_told" (spTold D) := fun base => ⟨f__law_told', fd__law_told, _, ok_told F__law_told N wc, g__law_told, F__law_told.kp, b__law_told⟩
  obtain ⟨f__law_wrong', fd__law_wrong, g__law_wrong, F__law_wrong⟩ := f__law_wrong.get KX G
  have b__law_wrong : Binds K fd__law_wrong ["_law_pen"] [] := F__law_wrong.binds fun _ _ _ _ _ _ us hl => match us, hl with | [_], _ => rfl
  have k__law_wrong : ∀ base : Heap, Keeps P w K mg base CX0 3 "_law_wrong" spWrong := fun base => ⟨f__law_wrong', fd__law_wrong, _, ok_wrong F__law_wrong (k__law_pick base), g__law_wrong, F__law_wrong.kp, b__law_wrong⟩
  obtain ⟨f__law_same', fd__law_same, g__law_same, F__law_same⟩ := f__law_same.get KX G
  have b__law_same : Binds K fd__law_same ["_law_one", "_law_other"] [] := F__law_same.binds fun _ _ _ _ _ _ us hl => match us, hl with | [_, _], _ => rfl
  have k__law_same : ∀ base : Heap, Keeps P w K mg base CX0 1 "_law_same" spSame := fun base => ⟨f__law_same', fd__law_same, _, ok_same F__law_same N, g__law_same, F__law_same.kp, b__law_same⟩
  obtain ⟨f__law_refused', fd__law_refused, g__law_refused, F__law_refused⟩ := f__law_refused.get KX G
  have b__law_refused : Binds K fd__law_refused ["_law_deed", "_law_value"] [] := F__law_refused.binds fun _ _ _ _ _ _ us hl => match us, hl with | [_, _], _ => rfl
  have k__law_refused : ∀ base : Heap, Keeps P w K mg base CX0 9 "_law_refused" (spRefused P w K mg base C) := fun base => ⟨f__law_refused', fd__law_refused, _, ok_refused F__law_refused gC xf cb.nv hex (k__law_same base), g__law_refused, F__law_refused.kp, b__law_refused⟩
  obtain ⟨f__law_ways', fd__law_ways, g__law_ways, F__law_ways⟩ := f__law_ways.get KX G
  have b__law_ways : Binds K fd__law_ways [] [] := F__law_ways.binds fun _ _ _ _ _ _ us hl => match us, hl with | [], _ => rfl
  have k__law_ways : ∀ base : Heap, Keeps P w K mg base CX0 1 "_law_ways" spWays := fun base => ⟨f__law_ways', fd__law_ways, _, ok_ways F__law_ways, g__law_ways, F__law_ways.kp, b__law_ways⟩
  obtain ⟨f__law_rounds', fd__law_rounds, g__law_rounds, F__law_rounds⟩ := f__law_rounds.get KX G
  have b__law_rounds : Binds K fd__law_rounds ["_law_number", "_law_divisor", "_law_manner"] [] := F__law_rounds.binds fun _ _ _ _ _ _ us hl => match us, hl with | [_, _, _], _ => rfl
  have k__law_rounds : ∀ base : Heap, Keeps P w K mg base CX0 1 "_law_rounds" spRounds := fun base => ⟨f__law_rounds', fd__law_rounds, _, ok_rounds F__law_rounds N, g__law_rounds, F__law_rounds.kp, b__law_rounds⟩
  obtain ⟨f__law_ends', fd__law_ends, g__law_ends, F__law_ends⟩ := f__law_ends.get KX G
  have b__law_ends : Binds K fd__law_ends ["_law_told_here", "_law_depth"] [] := F__law_ends.binds fun _ _ _ _ _ _ us hl => match us, hl with | [_, _], _ => rfl
  have k__law_ends : ∀ base : Heap, Keeps P w K mg base CX0 2 "_law_ends" (spEnds D) := fun base => ⟨f__law_ends', fd__law_ends, _, ok_ends F__law_ends N (k__law_told base) (k__law_ten base), g__law_ends, F__law_ends.kp, b__law_ends⟩
  obtain ⟨f__law_right', fd__law_right, g__law_right, F__law_right⟩ := f__law_right.get KX G
  have b__law_right : Binds K fd__law_right ["_law_told_here", "_law_row", "_law_scale", "_law_depth", "_law_manner"] [] := F__law_right.binds fun _ _ _ _ _ _ us hl => match us, hl with | [_, _, _, _, _], _ => rfl
  have k__law_right : ∀ base : Heap, Keeps P w K mg base CX0 4 "_law_right" (spRight D) := fun base => ⟨f__law_right', fd__law_right, _, ok_right F__law_right N (k__law_ends base) (k__law_ten base) (k__law_rounds base), g__law_right, F__law_right.kp, b__law_right⟩
  obtain ⟨fR, ocR, odR, kVR, docR, pmR, anR, ctR, slR, aR, lR, cRc, kR⟩ := f__law_refusals
  have FR : FunAt K "_law_refusals" "_law_refusals" sRefusals fR (PySem.W.fnOf "_law_refusals" "_law_refusals" (defArgs sRefusals) (defBody sRefusals) (defScope sRefusals) .none kVR docR pmR anR (.ref cR) ctR) (.ref cR) := ⟨⟨ocR, odR, kVR, docR, pmR, anR, ctR, slR, rfl, lR, cRc⟩⟩
  have bR : Binds K (PySem.W.fnOf "_law_refusals" "_law_refusals" (defArgs sRefusals) (defBody sRefusals) (defScope sRefusals) .none kVR docR pmR anR (.ref cR) ctR) ["_law_pen", "_law_worth", "_law_scale", "_law_depth"] [] := .all fun us hu => match us, hu with | [_, _, _, _], _ => rfl
  have k_ref : ∀ base : Heap, LamX.TabB base mg cR T0 → Keeps P w K mg base CX0 10 "_law_refusals" (spRefusals D T0) := fun base TB => ⟨fR, _, _, ok_refusals FR N TB (k__law_wrong base) (k__law_draw base) k_shown_as k__law_refused, PySem.W.mg_of KX G aR, kR, bR⟩
  obtain ⟨fL, ocL, odL, kVL, docL, pmL, anL, cdL, ctL, slL, aL, lL, cL, kL⟩ := f_law
  have e := hfa.symm.trans (PySem.W.mg_of KX G aL)
  cases e
  have FL := fun_mk (x := "law") (qual := "law") (st := sLaw) lL cL kL
  refine ⟨_, fun s u => .of_eq rfl, fun base TB => ok_law FL N (mkw base) gD (k__law_begin base) (k__law_drawn base) (k__law_pick base) (k__law_draw base) (k__law_low base) (k__law_ways base) (k__law_right base) (k_shown_as base) (k_ref base TB)⟩
/-- the same at the end of the row -/
theorem law_at {l : PySem.W.OpenLaw} {w : World} {K : PySem.W.Frag} {h : Heap} {mg : Str → Option Value} {fa C D cR T0 : Addr} (KX : K.In h) (G : h.Ns mainGlobals mg) (hfa : mg "law" = some (.ref fa))
    (n_isinstance : PySem.W.nsIn K mainGlobals "isinstance" = some none)
    (n_int : PySem.W.nsIn K mainGlobals "int" = some none)
    (n_bool : PySem.W.nsIn K mainGlobals "bool" = some none)
    (n_tuple : PySem.W.nsIn K mainGlobals "tuple" = some none)
    (n_list : PySem.W.nsIn K mainGlobals "list" = some none)
    (n_str : PySem.W.nsIn K mainGlobals "str" = some none)
    (n_min : PySem.W.nsIn K mainGlobals "min" = some none)
    (n_max : PySem.W.nsIn K mainGlobals "max" = some none)
    (n_len : PySem.W.nsIn K mainGlobals "len" = some none)
    (n_range : PySem.W.nsIn K mainGlobals "range" = some none)
    (n_all : PySem.W.nsIn K mainGlobals "all" = some none)
    (n_super : PySem.W.nsIn K mainGlobals "super" = some none)
    (aC : PySem.W.nsIn K mainGlobals "BadValue" = some (some (.ref C)))
    (fbc : FBc K C)
    (c_sa : PySem.W.findIn K (.ref C) "__setattr__" = some (some (.builtin "object.__setattr__")))
    (c_ex : PySem.W.subIn K (.ref C) (.type "BaseException") = some true)
    (c_ty : PySem.W.typeIn K (.ref C) = some (.type "type"))
    (c_k : PySem.W.keepIn K (.ref C) = true)
    (fb : FB l.prog K C)
    (c_sub : PySem.W.mroIn K C (.ref C) = some true)
    (c_subV : PySem.W.subIn K (.ref C) (.type "ValueError") = some true)
    (c_sup : PySem.W.ks_superIn K C C "__init__" = some (some (.builtin "ValueError.__init__")))
    (c_stat : PySem.W.nsIn K cStatics "thirdparty.any" = some none)
    (c_nv : PySem.W.findIn K (.ref C) "value" = some none)
    (c_ga : PySem.W.findIn K (.ref C) "__getattribute__" = some (some (.builtin "BaseException.__getattribute__")))
    (c_gg : PySem.W.findIn K (.ref C) "__getattr__" = some none)
    (c_hd : PySem.W.hasDictIn K C = true)
    (hex : PySem.W.exmOne K (.ref C) (.ref C) = some true)
    (tsup : (l.prog.main.scope.names.lookup ("super" : Str)).isSome = false)
    (aD : PySem.W.nsIn K mainGlobals "Worth" = some (some (.ref D)))
    (d_pg : PySem.W.plainGet K D Str.empty = true)
    (d_hd : PySem.W.hasDictIn K D = true)
    (d_po : PySem.W.plainOver K D = true)
    (d_sa : PySem.W.findIn K (.ref D) "__setattr__" = some (some (.builtin "object.__setattr__")))
    (d_nU : PySem.W.findIn K (.ref D) "units" = some none)
    (d_nS : PySem.W.findIn K (.ref D) "scale" = some none)
    (d_ha : PySem.W.findIn K (.ref D) "__class__" = some (some (.builtin "object.__class__")))
    (d_hn : PySem.W.specialIn K (.builtin "object.__class__") "__get__" = some (some (.builtin "getset_descriptor.__get__")))
    (d_htk : PySem.W.takesIn K (.builtin "object.__class__") = some true)
    (d_hm : PySem.W.mroIn K D (.type "object") = some true)
    (d_no : ∀ T ∈ tyN, PySem.W.kitOne K (.type T) (.ref D) = some false)
    (d_mk : PySem.W.makesIn K D = true)
    (d_kp : PySem.W.keepIn K (.ref D) = true)
    (fwi : FWi K D)
    (fwu : FWu K D)
    (fws : FWs K)
    (f_ten_to : FF K "ten_to" sTen)
    (f_is_integer : FF K "is_integer" sIsInt)
    (f_is_whole : FF K "is_whole" sIsWhole)
    (f_need_integer : FF K "need_integer" sNeedInt)
    (f_need_whole : FF K "need_whole" sNeedWhole)
    (f_lowered : FF K "lowered" sLowered)
    (f_need_worth : FF K "need_worth" sNeedWorth)
    (f_need_way : FF K "need_way" sNeedWay)
    (f_lift : FF K "lift" sLift)
    (f_reach_below : FF K "reach_below" sBelow)
    (f_reach_above : FF K "reach_above" sAbove)
    (f_shown_as : FF K "shown_as" sShown)
    (f__law_begin : FF K "_law_begin" sBegin)
    (f__law_draw : FF K "_law_draw" sDraw)
    (f__law_pick : FF K "_law_pick" sPick)
    (f__law_ten : FF K "_law_ten" sLTen)
    (f__law_figures : FF K "_law_figures" sFigures)
    (f__law_drawn : FF K "_law_drawn" sDrawn)
    (f__law_low : FF K "_law_low" sLow)
    (f__law_told : FF K "_law_told" sTold)
    (f__law_wrong : FF K "_law_wrong" sWrong)
    (f__law_same : FF K "_law_same" sSame)
    (f__law_refused : FF K "_law_refused" sRefused)
    (f__law_ways : FF K "_law_ways" sWays)
    (f__law_rounds : FF K "_law_rounds" sRounds)
    (f__law_ends : FF K "_law_ends" sEnds)
    (f__law_right : FF K "_law_right" sRight)
    (f__law_refusals : FFc K "_law_refusals" sRefusals cR)
    (f_law : FF K "law" sLaw)
    (hT : h.get? T0 = some { cls := .none, data := .fields #[] }) (nT : K.lookup T0 = none) (hC : PySem.W.CodeHd h cR T0) : LamX.LawAtS l w K L2.CX0 11 63 "_law_script" mg fa h := by
  obtain ⟨fd, hb, hF⟩ := all_mk (P := l.prog) (w := w) (T0 := T0) KX G hfa n_isinstance n_int n_bool n_tuple n_list n_str n_min n_max n_len n_range n_all n_super aC fbc c_sa c_ex c_ty c_k fb c_sub c_subV c_sup c_stat c_nv c_ga c_gg c_hd hex tsup aD d_pg d_hd d_po d_sa d_nU d_nS d_ha d_hn d_htk d_hm d_no d_mk d_kp fwi fwu fws f_ten_to f_is_integer f_is_whole f_need_integer f_need_whole f_lowered f_need_worth f_need_way f_lift f_reach_below f_reach_above f_shown_as f__law_begin f__law_draw f__law_pick f__law_ten f__law_figures f__law_drawn f__law_low f__law_told f__law_wrong f__law_same f__law_refused f__law_ways f__law_rounds f__law_ends f__law_right f__law_refusals f_law
  have one : ∀ {Q : Addr × Addr → Prop}, Q (cR, T0) → ∀ p ∈ [(cR, T0)], Q p := fun q p hp => by
    rw [List.mem_singleton.mp hp]
    exact q
  refine ⟨fd, [(cR, T0)], spLaw K T0, one hT, one nT, one hC, hb, fun H a ns hl _ hH hS => ⟨a, ns, rfl, hS, hl, hH _ (List.mem_singleton.mpr rfl), fun _ => rfl⟩, fun base _ _ TB => hF base (TB _ (List.mem_singleton.mpr rfl))⟩
end FS
set_option Elab.async false
set_option linter.all false
set_option maxRecDepth 100000
open PySem PySem.W PyProof.Rows
set_option maxRecDepth 100000 in
set_option maxHeartbeats 0 in
theorem PySem.Challenge.cw_figurestay_k08_whole_shown_as_holds : PySem.Challenge.rw_figurestay_k08_whole_shown_as.Holds := by
  w_on; o_law; k_head; (case hw => w_witness2)
  k_fill
  refine LamX.walk_ofTs (n := 63) (k := 11) (x := "_law_script") (CX := fun _ => L2.CX0) ?most (by decide) rfl ⟨rfl, by decide, by decide⟩ (fun w h Y => PySem.W.km_in_of Y) ?F (fun _ _ _ _ _ z => z)
  case most => first | rfl | decide +kernel
  case F =>
    intro w mg fa h Y KX G hmg
    have hmg2 : mg "law" = some (.ref fa) := hmg
    clear hmg
    refine' FS.law_at (T0 := 393) KX G hmg2 ?n_isinstance ?n_int ?n_bool ?n_tuple ?n_list ?n_str ?n_min ?n_max ?n_len ?n_range ?n_all ?n_super ?aC ?fbc ?c_sa ?c_ex ?c_ty ?c_k ?fb ?c_sub ?c_subV ?c_sup ?c_stat ?c_nv ?c_ga ?c_gg ?c_hd ?hex ?tsup ?aD ?d_pg ?d_hd ?d_po ?d_sa ?d_nU ?d_nS ?d_ha ?d_hn ?d_htk ?d_hm ?d_no ?d_mk ?d_kp ?fwi ?fwu ?fws ?f_ten_to ?f_is_integer ?f_is_whole ?f_need_integer ?f_need_whole ?f_lowered ?f_need_worth ?f_need_way ?f_lift ?f_reach_below ?f_reach_above ?f_shown_as ?f__law_begin ?f__law_draw ?f__law_pick ?f__law_ten ?f__law_figures ?f__law_drawn ?f__law_low ?f__law_told ?f__law_wrong ?f__law_same ?f__law_refused ?f__law_ways ?f__law_rounds ?f__law_ends ?f__law_right ?f__law_refusals ?f_law ?hT ?nT ?hC
    case n_isinstance => first | k_is | kernel_rfl | rfl | decide +kernel
    case n_int => first | k_is | kernel_rfl | rfl | decide +kernel
    case n_bool => first | k_is | kernel_rfl | rfl | decide +kernel
    case n_tuple => first | k_is | kernel_rfl | rfl | decide +kernel
    case n_list => first | k_is | kernel_rfl | rfl | decide +kernel
    case n_str => first | k_is | kernel_rfl | rfl | decide +kernel
    case n_min => first | k_is | kernel_rfl | rfl | decide +kernel
    case n_max => first | k_is | kernel_rfl | rfl | decide +kernel
    case n_len => first | k_is | kernel_rfl | rfl | decide +kernel
    case n_range => first | k_is | kernel_rfl | rfl | decide +kernel
    case n_all => first | k_is | kernel_rfl | rfl | decide +kernel
    case n_super => first | k_is | kernel_rfl | rfl | decide +kernel
    case aC => first | k_is | kernel_rfl | rfl | decide +kernel
    case fbc =>
      refine' FS.FBc.mk ?l ?r
      (case l => k_is); (case r => first | rfl | decide +kernel)
    case c_sa => first | k_is | kernel_rfl | rfl | decide +kernel
    case c_ex => first | k_is | kernel_rfl | rfl | decide +kernel
    case c_ty => first | k_is | kernel_rfl | rfl | decide +kernel
    case c_k => first | k_is | kernel_rfl | rfl | decide +kernel
    case fb =>
      refine' FS.FB.mk ?i ?l ?c ?d ?v ?m ?e ?t
      (case i => k_is); (case l => k_is); (case c => k_is); (case d => k_is); (case v => rfl); (case m => decide +kernel); (case e => k_is); (case t => k_is)
    case c_sub => first | k_is | kernel_rfl | rfl | decide +kernel
    case c_subV => first | k_is | kernel_rfl | rfl | decide +kernel
    case c_sup => first | k_is | kernel_rfl | rfl | decide +kernel
    case c_stat => first | k_is | kernel_rfl | rfl | decide +kernel
    case c_nv => first | k_is | kernel_rfl | rfl | decide +kernel
    case c_ga => first | k_is | kernel_rfl | rfl | decide +kernel
    case c_gg => first | k_is | kernel_rfl | rfl | decide +kernel
    case c_hd => first | k_is | kernel_rfl | rfl | decide +kernel
    case hex => first | k_is | kernel_rfl | rfl | decide +kernel
    case tsup => first | k_is | kernel_rfl | rfl | decide +kernel
    case aD => first | k_is | kernel_rfl | rfl | decide +kernel
    case d_pg => first | k_is | kernel_rfl | rfl | decide +kernel
    case d_hd => first | k_is | kernel_rfl | rfl | decide +kernel
    case d_po => first | k_is | kernel_rfl | rfl | decide +kernel
    case d_sa => first | k_is | kernel_rfl | rfl | decide +kernel
    case d_nU => first | k_is | kernel_rfl | rfl | decide +kernel
    case d_nS => first | k_is | kernel_rfl | rfl | decide +kernel
    case d_ha => first | k_is | kernel_rfl | rfl | decide +kernel
    case d_hn => first | k_is | kernel_rfl | rfl | decide +kernel
    case d_htk => first | k_is | kernel_rfl | rfl | decide +kernel
    case d_hm => first | k_is | kernel_rfl | rfl | decide +kernel
    case d_no =>
      intro T hT
      simp only [FS.tyN, List.mem_cons, List.mem_nil_iff, or_false] at hT
      rcases hT with rfl | rfl | rfl | rfl | rfl | rfl | rfl <;> (first | k_is | kernel_rfl | rfl | decide +kernel)
    case d_mk => first | k_is | kernel_rfl | rfl | decide +kernel
    case d_kp => first | k_is | kernel_rfl | rfl | decide +kernel
    case fwi =>
      refine' FS.FWi.mk ?i ?l ?c ?k ?f ?t ?d
      (case i => k_is); (case l => k_is); (case c => k_is); (case k => k_is); (case f => first | k_is | kernel_rfl | rfl | decide +kernel); (case t => k_is); (case d => rfl)
    case fwu =>
      refine' FS.FWu.mk ?i ?l ?c ?k ?f
      (case i => k_is); (case l => k_is); (case c => k_is); (case k => k_is); (case f => first | k_is | kernel_rfl | rfl | decide +kernel)
    case fws =>
      refine' FS.FWs.mk ?a ?l ?c ?d ?z ?v
      (case a => k_is); (case l => k_is); (case c => rfl); (case d => rfl); (case z => decide +kernel)
      (case v => exact .cons ⟨_, rfl⟩ (.cons ⟨_, rfl⟩ (.cons ⟨_, rfl⟩ (.cons ⟨_, rfl⟩ (.cons ⟨_, rfl⟩ (.cons ⟨_, rfl⟩ (.cons ⟨_, rfl⟩ (.cons ⟨_, rfl⟩ (.cons ⟨_, rfl⟩ .nil)))))))))
    case f_ten_to =>
      refine' FS.FF.mk ?a ?l ?c ?k
      (case a => k_is); (case l => k_is); (case c => k_is); (case k => k_is)
    case f_is_integer =>
      refine' FS.FF.mk ?a ?l ?c ?k
      (case a => k_is); (case l => k_is); (case c => k_is); (case k => k_is)
    case f_is_whole =>
      refine' FS.FF.mk ?a ?l ?c ?k
      (case a => k_is); (case l => k_is); (case c => k_is); (case k => k_is)
    case f_need_integer =>
      refine' FS.FF.mk ?a ?l ?c ?k
      (case a => k_is); (case l => k_is); (case c => k_is); (case k => k_is)
    case f_need_whole =>
      refine' FS.FF.mk ?a ?l ?c ?k
      (case a => k_is); (case l => k_is); (case c => k_is); (case k => k_is)
    case f_lowered =>
      refine' FS.FF.mk ?a ?l ?c ?k
      (case a => k_is); (case l => k_is); (case c => k_is); (case k => k_is)
    case f_need_worth =>
      refine' FS.FF.mk ?a ?l ?c ?k
      (case a => k_is); (case l => k_is); (case c => k_is); (case k => k_is)
    case f_need_way =>
      refine' FS.FF.mk ?a ?l ?c ?k
      (case a => k_is); (case l => k_is); (case c => k_is); (case k => k_is)
    case f_lift =>
      refine' FS.FF.mk ?a ?l ?c ?k
      (case a => k_is); (case l => k_is); (case c => k_is); (case k => k_is)
    case f_reach_below =>
      refine' FS.FF.mk ?a ?l ?c ?k
      (case a => k_is); (case l => k_is); (case c => k_is); (case k => k_is)
    case f_reach_above =>
      refine' FS.FF.mk ?a ?l ?c ?k
      (case a => k_is); (case l => k_is); (case c => k_is); (case k => k_is)
    case f_shown_as =>
      refine' FS.FF.mk ?a ?l ?c ?k
      (case a => k_is); (case l => k_is); (case c => k_is); (case k => k_is)
    case f__law_begin =>
      refine' FS.FF.mk ?a ?l ?c ?k
      (case a => k_is); (case l => k_is); (case c => k_is); (case k => k_is)
    case f__law_draw =>
      refine' FS.FF.mk ?a ?l ?c ?k
      (case a => k_is); (case l => k_is); (case c => k_is); (case k => k_is)
    case f__law_pick =>
      refine' FS.FF.mk ?a ?l ?c ?k
      (case a => k_is); (case l => k_is); (case c => k_is); (case k => k_is)
    case f__law_ten =>
      refine' FS.FF.mk ?a ?l ?c ?k
      (case a => k_is); (case l => k_is); (case c => k_is); (case k => k_is)
    case f__law_figures =>
      refine' FS.FF.mk ?a ?l ?c ?k
      (case a => k_is); (case l => k_is); (case c => k_is); (case k => k_is)
    case f__law_drawn =>
      refine' FS.FF.mk ?a ?l ?c ?k
      (case a => k_is); (case l => k_is); (case c => k_is); (case k => k_is)
    case f__law_low =>
      refine' FS.FF.mk ?a ?l ?c ?k
      (case a => k_is); (case l => k_is); (case c => k_is); (case k => k_is)
    case f__law_told =>
      refine' FS.FF.mk ?a ?l ?c ?k
      (case a => k_is); (case l => k_is); (case c => k_is); (case k => k_is)
    case f__law_wrong =>
      refine' FS.FF.mk ?a ?l ?c ?k
      (case a => k_is); (case l => k_is); (case c => k_is); (case k => k_is)
    case f__law_same =>
      refine' FS.FF.mk ?a ?l ?c ?k
      (case a => k_is); (case l => k_is); (case c => k_is); (case k => k_is)
    case f__law_refused =>
      refine' FS.FF.mk ?a ?l ?c ?k
      (case a => k_is); (case l => k_is); (case c => k_is); (case k => k_is)
    case f__law_ways =>
      refine' FS.FF.mk ?a ?l ?c ?k
      (case a => k_is); (case l => k_is); (case c => k_is); (case k => k_is)
    case f__law_rounds =>
      refine' FS.FF.mk ?a ?l ?c ?k
      (case a => k_is); (case l => k_is); (case c => k_is); (case k => k_is)
    case f__law_ends =>
      refine' FS.FF.mk ?a ?l ?c ?k
      (case a => k_is); (case l => k_is); (case c => k_is); (case k => k_is)
    case f__law_right =>
      refine' FS.FF.mk ?a ?l ?c ?k
      (case a => k_is); (case l => k_is); (case c => k_is); (case k => k_is)
    case f__law_refusals =>
      refine' FS.FFc.mk ?a ?l ?c ?k
      (case a => k_is); (case l => k_is); (case c => k_is); (case k => k_is)
    case f_law =>
      refine' FS.FF.mk ?a ?l ?c ?k
      (case a => k_is); (case l => k_is); (case c => k_is); (case k => k_is)
    case hT => exact PySem.W.km_tabs_of Y 393 (by simp)
    case nT => first | k_is | kernel_rfl | rfl | decide +kernel
    case hC => exact PySem.W.codeHd_of_K KX (by kernel_rfl)
