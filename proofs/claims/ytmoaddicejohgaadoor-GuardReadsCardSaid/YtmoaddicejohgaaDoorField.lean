/- The field of 2^128 elements over numbers: sums of marks, the product, its laws, and that it has no divisors of nought. No conditions. -/
import Derived.KernelRfl
set_option linter.unusedSimpArgs false
set_option linter.unusedVariables false
set_option maxRecDepth 100000
namespace Go.Proofs.YtmoaddicejohgaaDoor
open Go

/-- Numbers put together, mark by mark. -/
def xs (f : Nat → Nat) : Nat → Nat
  | 0 => 0
  | n + 1 => xs f n ^^^ f n
def sel (b : Bool) (v : Nat) : Nat := if b then v else 0
theorem sel_t (v : Nat) : sel true v = v := rfl
theorem sel_f (v : Nat) : sel false v = 0 := rfl
theorem sel_zero (b : Bool) : sel b 0 = 0 := by cases b <;> rfl
theorem sel_xor (b : Bool) (u v : Nat) : sel b (u ^^^ v) = sel b u ^^^ sel b v := by cases b <;> simp [sel]
theorem sel_bxor (b c : Bool) (v : Nat) : sel (b ^^ c) v = sel b v ^^^ sel c v := by cases b <;> cases c <;> simp [sel]
theorem sel_sel (b c : Bool) (v : Nat) : sel b (sel c v) = sel c (sel b v) := by cases b <;> cases c <;> simp [sel]
theorem xs_congr {f g : Nat → Nat} {n : Nat} (h : ∀ i, i < n → f i = g i) : xs f n = xs g n := by
  induction n with
  | zero => rfl
  | succ n ih => rw [xs, xs, ih fun i hi => h i (by omega), h n (by omega)]
theorem xs_zero (n : Nat) : xs (fun _ => 0) n = 0 := by
  induction n with
  | zero => rfl
  | succ n ih => rw [xs, ih]; rfl
theorem xor_swap4 (a b c d : Nat) : a ^^^ b ^^^ (c ^^^ d) = a ^^^ c ^^^ (b ^^^ d) := by
  rw [Nat.xor_assoc, Nat.xor_assoc, ← Nat.xor_assoc b c d, Nat.xor_comm b c, Nat.xor_assoc c b d]
theorem xs_xor (f g : Nat → Nat) (n : Nat) : xs (fun i => f i ^^^ g i) n = xs f n ^^^ xs g n := by
  induction n with
  | zero => simp [xs]
  | succ n ih => rw [xs, xs, xs, ih, xor_swap4]
theorem xs_swap (f : Nat → Nat → Nat) (n m : Nat) : xs (fun i => xs (fun j => f i j) m) n = xs (fun j => xs (fun i => f i j) n) m := by
  induction n with
  | zero => simp only [xs]; exact (xs_zero m).symm
  | succ n ih => simp only [xs]; rw [ih, ← xs_xor]
theorem xs_sel (b : Bool) (f : Nat → Nat) (n : Nat) : xs (fun i => sel b (f i)) n = sel b (xs f n) := by
  cases b
  · simp only [sel_f]; exact xs_zero n
  · simp only [sel_t]
theorem xs_bound {f : Nat → Nat} {n k : Nat} (h : ∀ i, i < n → f i < 2 ^ k) : xs f n < 2 ^ k := by
  induction n with
  | zero => exact Nat.two_pow_pos k
  | succ n ih => exact Nat.xor_lt_two_pow (ih fun i hi => h i (by omega)) (h n (by omega))
/-- What keeps sums keeps long ones. -/
theorem xs_map {g : Nat → Nat} (h0 : g 0 = 0) (h : ∀ a b, g (a ^^^ b) = g a ^^^ g b) (f : Nat → Nat) (n : Nat) : g (xs f n) = xs (fun i => g (f i)) n := by
  induction n with
  | zero => exact h0
  | succ n ih => simp only [xs]; rw [h, ih]
theorem map_sel {g : Nat → Nat} (h0 : g 0 = 0) (b : Bool) (v : Nat) : g (sel b v) = sel b (g v) := by cases b <;> simp [sel, h0]
theorem xs_testBit (f : Nat → Nat) (n k : Nat) (h : ∀ i, i < n → (f i).testBit k = false) : (xs f n).testBit k = false := by
  induction n with
  | zero => simp [xs]
  | succ n ih => rw [xs, Nat.testBit_xor, ih fun i hi => h i (by omega), h n (by omega)]; rfl

/-- The field's wrap. -/
def WRAP : Nat := 0xE1 * 2 ^ 120
/-- A number of the field times x. -/
def gx (v : Nat) : Nat := v >>> 1 ^^^ sel (v.testBit 0) WRAP
theorem gx_xor (a b : Nat) : gx (a ^^^ b) = gx a ^^^ gx b := by
  unfold gx
  rw [Nat.shiftRight_xor_distrib, Nat.testBit_xor, sel_bxor, xor_swap4]
theorem gx_zero : gx 0 = 0 := rfl
theorem gx_lt {v : Nat} (h : v < 2 ^ 128) : gx v < 2 ^ 128 := by
  refine Nat.xor_lt_two_pow ?_ ?_
  · rw [Nat.shiftRight_eq_div_pow]; omega
  · cases v.testBit 0 <;> simp [sel, WRAP]
/-- n times x. -/
def gp : Nat → Nat → Nat
  | 0, v => v
  | n + 1, v => gx (gp n v)
theorem gp_xor (n a b : Nat) : gp n (a ^^^ b) = gp n a ^^^ gp n b := by
  induction n with
  | zero => rfl
  | succ n ih => rw [gp, gp, gp, ih, gx_xor]
theorem gp_zero (n : Nat) : gp n 0 = 0 := by
  induction n with
  | zero => rfl
  | succ n ih => rw [gp, ih]; rfl
theorem gp_lt {n v : Nat} (h : v < 2 ^ 128) : gp n v < 2 ^ 128 := by
  induction n with
  | zero => exact h
  | succ n ih => exact gx_lt ih
theorem gp_add (m n v : Nat) : gp (m + n) v = gp m (gp n v) := by
  induction m with
  | zero => rw [Nat.zero_add]; rfl
  | succ m ih => rw [Nat.succ_add, gp, gp, ih]
theorem gp_in (n v : Nat) : gp n (gx v) = gx (gp n v) := by
  have := gp_add n 1 v
  have h2 := gp_add 1 n v
  rw [show gx v = gp 1 v from rfl, ← this, Nat.add_comm, h2]; rfl
def cf (a i : Nat) : Bool := a.testBit (127 - i)
theorem cf_xor (a b i : Nat) : cf (a ^^^ b) i = (cf a i ^^ cf b i) := Nat.testBit_xor _ _ _
/-- The product. -/
def gm (a b : Nat) : Nat := xs (fun i => sel (cf a i) (gp i b)) 128
theorem gm_lt (a : Nat) {b : Nat} (h : b < 2 ^ 128) : gm a b < 2 ^ 128 := xs_bound fun i _ => by
  cases cf a i
  · exact Nat.two_pow_pos _
  · exact gp_lt h
theorem gm_xor_l (a a' b : Nat) : gm (a ^^^ a') b = gm a b ^^^ gm a' b := by
  unfold gm
  rw [← xs_xor]
  exact xs_congr fun i _ => by rw [cf_xor, sel_bxor]
theorem gm_xor_r (a b b' : Nat) : gm a (b ^^^ b') = gm a b ^^^ gm a b' := by
  unfold gm
  rw [← xs_xor]
  exact xs_congr fun i _ => by rw [gp_xor, sel_xor]
theorem gm_zero_l (b : Nat) : gm 0 b = 0 := by
  have := gm_xor_l 0 0 b
  rw [Nat.xor_self, Nat.xor_self] at this; exact this
theorem gm_zero_r (a : Nat) : gm a 0 = 0 := by
  have := gm_xor_r a 0 0
  rw [Nat.xor_self, Nat.xor_self] at this; exact this
theorem gp_gm (k a b : Nat) : gp k (gm a b) = gm a (gp k b) := by
  unfold gm
  rw [xs_map (gp_zero k) (gp_xor k)]
  exact xs_congr fun i _ => by rw [map_sel (gp_zero k), ← gp_add, ← gp_add, Nat.add_comm]
theorem gm_swap (a b v : Nat) : gm a (gm b v) = gm b (gm a v) := by
  have e : ∀ a b, gm a (gm b v) = xs (fun i => xs (fun j => sel (cf a i) (sel (cf b j) (gp (i + j) v))) 128) 128 := fun a b => by
    show xs _ _ = _
    refine xs_congr fun i _ => ?_
    rw [gp_gm, xs_sel]
    refine congrArg _ (xs_congr fun j _ => ?_)
    rw [← gp_add, Nat.add_comm]
  rw [e, e, xs_swap]
  exact xs_congr fun i _ => xs_congr fun j _ => by rw [sel_sel, Nat.add_comm]
/-- The field's one. -/
def e0 : Nat := 2 ^ 127
theorem gp_e0 : ∀ i, i < 128 → gp i e0 = 2 ^ (127 - i)
  | 0, _ => rfl
  | i + 1, h => by
    rw [gp, gp_e0 i (by omega)]
    unfold gx
    rw [Nat.testBit_two_pow_of_ne (by omega : 127 - i ≠ 0), sel_f, Nat.xor_zero, Nat.shiftRight_eq_div_pow, show 127 - i = 127 - (i + 1) + 1 by omega, Nat.pow_succ]
    omega
/-- The number of marks. -/
theorem xs_pow {a : Nat} : ∀ n, n ≤ 128 → ∀ k, (xs (fun i => sel (cf a i) (2 ^ (127 - i))) n).testBit k = (decide (k < 128 ∧ 128 ≤ k + n) && a.testBit k)
  | 0, _, k => by simp [xs]; intros; omega
  | n + 1, h, k => by
    rw [xs, Nat.testBit_xor, xs_pow n (by omega) k]
    by_cases hk : k = 127 - n
    · subst hk
      rw [show (decide (127 - n < 128 ∧ 128 ≤ 127 - n + n)) = false by simp; omega, show (decide (127 - n < 128 ∧ 128 ≤ 127 - n + (n + 1))) = true by simp; omega]
      unfold cf
      cases h1 : a.testBit (127 - n)
      · simp [sel]
      · rw [sel_t, Nat.testBit_two_pow_self]; rfl
    · have : (sel (cf a n) (2 ^ (127 - n))).testBit k = false := by
        cases cf a n
        · simp [sel]
        · rw [sel_t]; exact Nat.testBit_two_pow_of_ne (fun e => hk e.symm)
      rw [this, Bool.xor_false]
      congr 1
      rw [decide_eq_decide]
      omega
theorem xs_marks {a : Nat} (h : a < 2 ^ 128) : xs (fun i => sel (cf a i) (gp i e0)) 128 = a := by
  rw [xs_congr fun i hi => by rw [gp_e0 i hi]]
  apply Nat.eq_of_testBit_eq
  intro k
  rw [xs_pow 128 (Nat.le_refl _) k]
  by_cases hk : k < 128
  · simp [hk]
  · rw [Nat.testBit_lt_two_pow (Nat.lt_of_lt_of_le h (Nat.pow_le_pow_right (by decide) (by omega)))]; simp
theorem gm_one {a : Nat} (h : a < 2 ^ 128) : gm a e0 = a := xs_marks h
theorem gm_comm {a b : Nat} (ha : a < 2 ^ 128) (hb : b < 2 ^ 128) : gm a b = gm b a := by
  have h1 : gm a b = gm a (gm b e0) := by rw [gm_one hb]
  rw [h1, gm_swap, gm_one ha]
theorem e0_lt : e0 < 2 ^ 128 := by unfold e0; exact Nat.pow_lt_pow_right (by decide) (by decide)
theorem one_gm {a : Nat} (h : a < 2 ^ 128) : gm e0 a = a := by rw [gm_comm e0_lt h, gm_one h]
theorem gm_assoc {a b c : Nat} (ha : a < 2 ^ 128) (hb : b < 2 ^ 128) (hc : c < 2 ^ 128) : gm (gm a b) c = gm a (gm b c) := by
  rw [gm_comm (gm_lt a hb) hc, gm_swap, gm_comm hc hb]

/-! ### No divisors of nought -/
/-- The square. -/
def sqr (a : Nat) : Nat := gm a a
theorem sqr_lt {a : Nat} (h : a < 2 ^ 128) : sqr a < 2 ^ 128 := gm_lt a h
theorem sqr_xor {a b : Nat} (ha : a < 2 ^ 128) (hb : b < 2 ^ 128) : sqr (a ^^^ b) = sqr a ^^^ sqr b := by
  unfold sqr
  rw [gm_xor_l, gm_xor_r, gm_xor_r, gm_comm hb ha, Nat.xor_assoc, ← Nat.xor_assoc (gm a b) (gm a b), Nat.xor_self, Nat.zero_xor]
theorem sqr_gm {a b : Nat} (ha : a < 2 ^ 128) (hb : b < 2 ^ 128) : sqr (gm a b) = gm (sqr a) (sqr b) := by
  unfold sqr
  rw [gm_assoc ha hb (gm_lt a hb), gm_swap b a b, gm_assoc ha ha (gm_lt b hb)]
def sqrN : Nat → Nat → Nat
  | 0, a => a
  | n + 1, a => sqr (sqrN n a)
theorem sqrN_lt {n a : Nat} (h : a < 2 ^ 128) : sqrN n a < 2 ^ 128 := by
  induction n with
  | zero => exact h
  | succ n ih => exact sqr_lt ih
theorem sqrN_xor {n a b : Nat} (ha : a < 2 ^ 128) (hb : b < 2 ^ 128) : sqrN n (a ^^^ b) = sqrN n a ^^^ sqrN n b := by
  induction n with
  | zero => rfl
  | succ n ih => rw [sqrN, ih, sqr_xor (sqrN_lt ha) (sqrN_lt hb)]; rfl
theorem sqrN_gm {n a b : Nat} (ha : a < 2 ^ 128) (hb : b < 2 ^ 128) : sqrN n (gm a b) = gm (sqrN n a) (sqrN n b) := by
  induction n with
  | zero => rfl
  | succ n ih => rw [sqrN, ih, sqr_gm (sqrN_lt ha) (sqrN_lt hb)]; rfl
theorem sqrN_zero (n : Nat) : sqrN n 0 = 0 := by
  induction n with
  | zero => rfl
  | succ n ih => rw [sqrN, ih]; exact gm_zero_l 0
theorem sqrN_e0 (n : Nat) : sqrN n e0 = e0 := by
  induction n with
  | zero => rfl
  | succ n ih => rw [sqrN, ih]; exact gm_one e0_lt
/-- The product, reckoned on and on. -/
def fgm (a : Nat) : Nat → Nat → Nat → Nat → Nat
  | 0, _, z, _ => z
  | n + 1, i, z, b => fgm a n (i + 1) (z ^^^ sel (cf a i) b) (gx b)
theorem fgm_is (a : Nat) : ∀ (n i z b v : Nat), z = xs (fun i => sel (cf a i) (gp i v)) i → b = gp i v → fgm a n i z b = xs (fun i => sel (cf a i) (gp i v)) (i + n)
  | 0, i, z, b, v, hz, hb => hz
  | n + 1, i, z, b, v, hz, hb => by
    rw [fgm, show i + (n + 1) = i + 1 + n by omega]
    exact fgm_is a n (i + 1) _ _ v (by rw [hz, hb]; rfl) (by rw [hb]; rfl)
theorem gm_fast (a b : Nat) : gm a b = fgm a 128 0 0 b := (fgm_is a 128 0 0 b b rfl rfl).symm
def e1 : Nat := 2 ^ 126
def fsq : Nat → Nat → Nat
  | 0, a => a
  | n + 1, a => fsq n (fgm a 128 0 0 a)
theorem sqrN_in (n a : Nat) : sqrN n (sqr a) = sqr (sqrN n a) := by
  induction n with
  | zero => rfl
  | succ n ih => rw [sqrN, ih]; rfl
theorem fsq_is (n a : Nat) : fsq n a = sqrN n a := by
  induction n generalizing a with
  | zero => rfl
  | succ n ih => rw [fsq, ih, ← gm_fast]; exact sqrN_in n a
theorem sqr128_e1 : sqrN 128 e1 = e1 := by
  rw [← fsq_is]
  kernel_rfl
theorem gx_is {v : Nat} (h : v < 2 ^ 128) : gx v = gm e1 v := by
  have h1 : gx v = gp 1 (gm e0 v) := by rw [one_gm h]; rfl
  have hv : v = gm v e0 := (gm_one h).symm
  have e : gm e1 v = gm v e1 := gm_comm (by unfold e1; exact Nat.pow_lt_pow_right (by decide) (by decide)) h
  rw [e, show e1 = gp 1 e0 by rw [gp_e0 1 (by decide)]; rfl, ← gp_gm, gm_one h]; rfl
theorem gp_lt' (i : Nat) : gp i e0 < 2 ^ 128 := gp_lt e0_lt
theorem sqr128_gp : ∀ i, sqrN 128 (gp i e0) = gp i e0
  | 0 => sqrN_e0 128
  | i + 1 => by
    rw [gp, gx_is (gp_lt' i), sqrN_gm (by unfold e1; exact Nat.pow_lt_pow_right (by decide) (by decide)) (gp_lt' i), sqr128_e1, sqr128_gp i]
theorem sqr128_xs {f : Nat → Nat} (h : ∀ i, f i < 2 ^ 128) (hf : ∀ i, sqrN 128 (f i) = f i) : ∀ n, sqrN 128 (xs f n) = xs f n
  | 0 => sqrN_zero 128
  | n + 1 => by rw [xs, sqrN_xor (xs_bound fun i _ => h i) (h n), sqr128_xs h hf n, hf]
theorem sqr128 {a : Nat} (h : a < 2 ^ 128) : sqrN 128 a = a := by
  rw [← xs_marks h]
  refine sqr128_xs (fun i => ?_) (fun i => ?_) 128
  · cases cf a i
    · exact Nat.two_pow_pos _
    · exact gp_lt' i
  · cases cf a i
    · exact sqrN_zero 128
    · exact sqr128_gp i
/-- The rows of the map that undoes 'the square, and the number'. -/
def UNDO : List Nat := [0, 6161591008139076202154902373133594561, 71430717218983613641036104277415506289, 87518597585245962833849474628053070758, 72921817864677867521778898634038080609, 163309321578052146879237778733101511783, 126814247099887467207929949960147586332, 133487668004820722767044853458355047125, 108887185710678174598840578861931466132, 72978216601350599296199603180564021825, 126976600203468727039316187211004055892, 49689517519420395515082114066310337331, 12764899024296983899235621676887115841, 59792954277794326371429463258526948146, 275464514806027128612938827324864, 33882886127255646541338116557250298163, 133385434108064708788808215410435911893, 153238470225796905537047657204766862374, 127777348636302309636952298273557535380, 58594334107495617071392172125656399538, 5725366257701666555538562805218717057, 159324042485362592547018579093184240551, 149021274876537960721224429182834492454, 94333773739946854309780815578084996199, 161752945482599484730126084874801441767, 115575792119390728221592460023876181333, 133436244703473040169882794575366898389, 34751610155981195849944733847405496627, 100972845268357601278728964017462078439, 44935323831972008745566419208193456946, 132003651752985294974180122299820886164, 45594221442569777339127844318073854322, 100983558286137050684044238585428660711, 140308235276559149970208740923126577813, 92325303522414418149753570460923091879, 26944628100264108509229864938392397555, 81071795988965022717357904530596407232, 58275656592719279154056000246173111091, 51613027339492204128265575524803459891, 142140898696765075202304690604976981845, 53639910565545342273528145980335791795, 4726979706490419237355323591502507968, 161542955870533464563010084267448332775, 65334779303751560239471195525024588352, 122557457634345817322758110469731963540, 79569572988994598121356082874814992321, 9537274821874957483351388617584152641, 109427184872331881977228478262674814292, 96504253903287235160744645914913229863, 35809052500294759256374056413191545715, 63089105448741488643398279942380763954, 84108490886122099842324906724524496768, 161537358671016203777973217828391545831, 49921000058860506912943830473554996979, 113870918609522322281985099445019275925, 45994406431766860863727072382817147250, 6116654749483988959971426010360459777, 88394181539591460295416373139500891046, 93226277353508642900164249188457535015, 123506241354959402090274531190302866772, 72992884249465865451566362034747193217, 123492369307601207700488716387690115284, 67288019353279926038130604499846823936, 96617416833907240315124182200439430055, 6161591008139076220601646446843146177, 87518597585245962796955986480633967526, 163309321578052146805450802438263305319, 133487668004820722619470900868678634197, 72978216601350599591347508359916847681, 49689517519420396105377924425015989043, 59792954277794325190837842541115644722, 33882886127255648902521357992072905011, 153238470225796900814681174335121648678, 58594334107495626516125137864946826930, 159324042485362573657552647614603385767, 94333773739946892088712678535246705767, 115575792119390803779456185938199600469, 34751610155981346965672185676052334899, 44935323831971706514111515550899780402, 45594221442570381802037651632661207410, 140308235276560358896028355552301283989, 26944628100266526360869094196741809907, 58275656592714443450777541729474286387, 142140898696755403795747773571579332437, 4726979706471076424241489524707209152, 65334779303712874613243527391433990720, 79569572989071969373811419141996187585, 109427184872177139472317805728312423764, 35809052500604244266195401481916326771, 84108490886741069861967596861974058880, 49921000057622566873658450198655872755, 45994406429290980785156311833018898802, 88394181544543220452557894239097387942, 123506241345055881775991488991109872980, 123492369287794167071922631989304127700, 96617416873521321572256350997211405223, 87518597506017800282691648887090017190, 133487668163277047647999576055766534869, 49689517202507746048320574050840187699, 33882886761080949016636058740424507699, 58594332839845026287895736368243621554, 94333771204645691632253875541840295015, 34751615226583747878589791662865156403, 45594211301365579976202439659035564402, 26944648382676130012539518143993095923, 142140858131936196492406925677076760405, 65334698174074460006561831602428846656, 109427022612900310258954414150302135636, 84108166368187411435240813705953482624, 45993757392183663931702745520977746290, 123504943270841248069084356367027567956, 96614820725092054158442085749046795175, 133492860460135582475628106552095754965, 33893271354798018671893119733082947891, 94354540392079830942767997527157175399, 45552672926497301355174195688401803634, 142223934881672753734463413618344281941, 109593176112373424743067390032837178708, 46326064391129892899928697286047832434, 95950206727199596221990182218906622887, 32564043359013102798989312672802603315, 42894216934927469609366581567841114482, 114910088095513088234682618273958557012, 85316382760920269238759725736663866279, 64161864867486123575827494532326627698, 127851678626037577171681551665634892711, 42781086895802961305837899807692839847, 22349210433241643211303706255459310228]
def lin (t : List Nat) (v : Nat) : Nat → Nat → Nat
  | z, b => match t with
    | [] => z
    | m :: t => lin t v (z ^^^ sel (v.testBit b) m) (b + 1)
theorem lin_xor (t : List Nat) (u v : Nat) : ∀ (z y b : Nat), lin t (u ^^^ v) (z ^^^ y) b = lin t u z b ^^^ lin t v y b := by
  induction t with
  | nil => intro z y b; rfl
  | cons m t ih =>
    intro z y b
    simp only [lin]
    rw [Nat.testBit_xor, sel_bxor, xor_swap4, ih]
def undo (v : Nat) : Nat := lin UNDO v 0 0
theorem undo_xor (u v : Nat) : undo (u ^^^ v) = undo u ^^^ undo v := by
  have := lin_xor UNDO u v 0 0 0
  rwa [Nat.xor_zero] at this
theorem undo_zero : undo 0 = 0 := by
  have := undo_xor 0 0
  rwa [Nat.xor_self, Nat.xor_self] at this
/-- All marks: their squares, undone. a = x^i, b = x^2i. -/
def undoAll : Nat → Nat → Nat → Bool
  | 0, _, _ => true
  | n + 1, a, b => undo (b ^^^ a) == a && undoAll n (gx a) (gx (gx b))
theorem undoAll_is : undoAll 127 (gp 1 e0) (gp 2 e0) = true := by kernel_rfl
theorem undoAll_at : ∀ (n k : Nat), undoAll n (gp k e0) (gp (2 * k) e0) = true → ∀ i, k ≤ i → i < k + n → undo (gp (2 * i) e0 ^^^ gp i e0) = gp i e0
  | 0, k, _, i, h1, h2 => by omega
  | n + 1, k, h, i, h1, h2 => by
    simp only [undoAll, Bool.and_eq_true, beq_iff_eq] at h
    by_cases hk : i = k
    · subst hk; exact h.1
    · have e : gx (gx (gp (2 * k) e0)) = gp (2 * (k + 1)) e0 := rfl
      exact undoAll_at n (k + 1) (by rw [← e]; exact h.2) i (by omega) (by omega)
theorem sqr_gp (i : Nat) (h : i < 128) : sqr (gp i e0) = gp (2 * i) e0 := by
  unfold sqr
  rw [← gp_gm, gm_one (gp_lt' i), ← gp_add]
  congr 1; omega
theorem undo_sqr {v : Nat} (h : v < 2 ^ 128) : undo (sqr v ^^^ v) = v ^^^ sel (cf v 0) e0 := by
  have hf : ∀ i, sel (cf v i) (gp i e0) < 2 ^ 128 := fun i => by
    cases cf v i
    · exact Nat.two_pow_pos _
    · exact gp_lt' i
  have key : ∀ n, n ≤ 127 → undo (sqr (xs (fun i => sel (cf v i) (gp i e0)) (n + 1)) ^^^ xs (fun i => sel (cf v i) (gp i e0)) (n + 1)) = xs (fun i => sel (cf v i) (gp i e0)) (n + 1) ^^^ sel (cf v 0) e0 := by
    intro n
    induction n with
    | zero =>
      intro _
      simp only [xs, Nat.zero_xor]
      cases cf v 0
      · simp only [sel_f, Nat.xor_zero]
        rw [show sqr 0 = 0 from gm_zero_l 0]; exact undo_zero
      · simp only [sel_t]
        rw [show gp 0 e0 = e0 from rfl, show sqr e0 = e0 from gm_one e0_lt, Nat.xor_self]; exact undo_zero
    | succ n ih =>
      intro hn
      rw [xs, sqr_xor (xs_bound fun i _ => hf i) (hf _), xor_swap4, undo_xor, ih (by omega)]
      have : undo (sqr (sel (cf v (n + 1)) (gp (n + 1) e0)) ^^^ sel (cf v (n + 1)) (gp (n + 1) e0)) = sel (cf v (n + 1)) (gp (n + 1) e0) := by
        cases cf v (n + 1)
        · simp only [sel_f, Nat.xor_zero]
          rw [show sqr 0 = 0 from gm_zero_l 0]; exact undo_zero
        · simp only [sel_t]
          rw [sqr_gp _ (by omega)]
          exact undoAll_at 127 1 undoAll_is (n + 1) (by omega) (by omega)
      rw [this, Nat.xor_assoc, Nat.xor_comm (sel (cf v 0) e0), ← Nat.xor_assoc]
  have := key 127 (Nat.le_refl _)
  rwa [xs_marks h] at this
/-- What is its own square is nought or one. -/
theorem sqr_self {e : Nat} (h : e < 2 ^ 128) (hs : sqr e = e) : e = 0 ∨ e = e0 := by
  have := undo_sqr h
  rw [hs, Nat.xor_self, undo_zero] at this
  cases hc : cf e 0 with
  | true =>
    rw [hc, sel_t] at this
    refine .inr ?_
    have h2 := congrArg (· ^^^ e0) this
    simp only [Nat.zero_xor, Nat.xor_assoc, Nat.xor_self, Nat.xor_zero] at h2
    exact h2.symm
  | false =>
    rw [hc, sel_f, Nat.xor_zero] at this
    exact .inl this.symm
/-- a to the power 2^n - 1. -/
def pws (a : Nat) : Nat → Nat
  | 0 => e0
  | n + 1 => gm (sqr (pws a n)) a
theorem pws_lt {a : Nat} (h : a < 2 ^ 128) : ∀ n, pws a n < 2 ^ 128
  | 0 => e0_lt
  | n + 1 => gm_lt _ h
theorem pws_gm {a : Nat} (h : a < 2 ^ 128) : ∀ n, gm (pws a n) a = sqrN n a
  | 0 => one_gm h
  | n + 1 => by
    rw [pws, gm_assoc (sqr_lt (pws_lt h n)) h h, show gm a a = sqr a from rfl, ← sqr_gm (pws_lt h n) h, pws_gm h n]; rfl
theorem gm_nought {a b : Nat} (ha : a < 2 ^ 128) (hb : b < 2 ^ 128) (h : gm a b = 0) : a = 0 ∨ b = 0 := by
  have h1 : gm (pws a 128) a = a := (pws_gm ha 128).trans (sqr128 ha)
  have he := pws_lt ha 128
  have hc : sqr (pws a 127) < 2 ^ 128 := sqr_lt (pws_lt ha 127)
  have e : pws a 128 = gm (sqr (pws a 127)) a := rfl
  have hid : sqr (pws a 128) = pws a 128 := by
    show gm (pws a 128) (pws a 128) = _
    rw [show gm (pws a 128) (pws a 128) = gm (pws a 128) (gm (sqr (pws a 127)) a) from rfl, gm_swap, h1]; rfl
  rcases sqr_self he hid with h2 | h2
  · left; rw [h2, gm_zero_l] at h1; exact h1.symm
  · right
    have : gm (pws a 128) b = 0 := by rw [e, gm_assoc hc ha hb, h, gm_zero_r]
    rw [h2, one_gm hb] at this; exact this
end Go.Proofs.YtmoaddicejohgaaDoor
