/- Packed: Field, GcmP, Aes3, Aes4, Aes5, Aes9, GcmR, GcmS, GcmL, as far as guardBacksCard_holds needs them. No conditions but those that stand in the statements. -/
import Derived.Test.YtmoaddicejohgaaDoorKB1
import Derived.KernelRfl
set_option linter.unusedSimpArgs false
set_option linter.unusedVariables false
set_option maxRecDepth 100000
namespace Go.Proofs.YtmoaddicejohgaaDoor
open Go
def xs (f : Nat → Nat) : Nat → Nat
  | 0 => 0
  | n + 1 => xs f n ^^^ f n
def sel (b : Bool) (v : Nat) : Nat := if b then v else 0
theorem sel_t (v : Nat) : sel true v = v := rfl
theorem sel_f (v : Nat) : sel false v = 0 := rfl
theorem sel_zero (b : Bool) : sel b 0 = 0 := by cases b <;> rfl
theorem sel_xor (b : Bool) (u v : Nat) : sel b (u ^^^ v) = sel b u ^^^ sel b v := by cases b <;> simp [sel]
theorem sel_bxor (b c : Bool) (v : Nat) : sel (b ^^ c) v = sel b v ^^^ sel c v := by cases b <;> cases c <;> simp [sel]
theorem sel_sel (b c : Bool) (v : Nat) : sel b (sel c v) = sel c (sel b v) := by cases b <;> cases c <;> simp [sel]
theorem xs_congr {f g : Nat → Nat} {n : Nat} (h : ∀ i, i < n → f i = g i) : xs f n = xs g n := by
  induction n with
  | zero => rfl
  | succ n ih => rw [xs, xs, ih fun i hi => h i (by omega), h n (by omega)]
theorem xs_zero (n : Nat) : xs (fun _ => 0) n = 0 := by
  induction n with
  | zero => rfl
  | succ n ih => rw [xs, ih]; rfl
theorem xor_swap4 (a b c d : Nat) : a ^^^ b ^^^ (c ^^^ d) = a ^^^ c ^^^ (b ^^^ d) := by
  rw [Nat.xor_assoc, Nat.xor_assoc, ← Nat.xor_assoc b c d, Nat.xor_comm b c, Nat.xor_assoc c b d]
theorem xs_xor (f g : Nat → Nat) (n : Nat) : xs (fun i => f i ^^^ g i) n = xs f n ^^^ xs g n := by
  induction n with
  | zero => simp [xs]
  | succ n ih => rw [xs, xs, xs, ih, xor_swap4]
theorem xs_swap (f : Nat → Nat → Nat) (n m : Nat) : xs (fun i => xs (fun j => f i j) m) n = xs (fun j => xs (fun i => f i j) n) m := by
  induction n with
  | zero => simp only [xs]; exact (xs_zero m).symm
  | succ n ih => simp only [xs]; rw [ih, ← xs_xor]
theorem xs_sel (b : Bool) (f : Nat → Nat) (n : Nat) : xs (fun i => sel b (f i)) n = sel b (xs f n) := by
  cases b
  · simp only [sel_f]; exact xs_zero n
  · simp only [sel_t]
theorem xs_bound {f : Nat → Nat} {n k : Nat} (h : ∀ i, i < n → f i < 2 ^ k) : xs f n < 2 ^ k := by
  induction n with
  | zero => exact Nat.two_pow_pos k
  | succ n ih => exact Nat.xor_lt_two_pow (ih fun i hi => h i (by omega)) (h n (by omega))
theorem xs_map {g : Nat → Nat} (h0 : g 0 = 0) (h : ∀ a b, g (a ^^^ b) = g a ^^^ g b) (f : Nat → Nat) (n : Nat) : g (xs f n) = xs (fun i => g (f i)) n := by
  induction n with
  | zero => exact h0
  | succ n ih => simp only [xs]; rw [h, ih]
theorem map_sel {g : Nat → Nat} (h0 : g 0 = 0) (b : Bool) (v : Nat) : g (sel b v) = sel b (g v) := by cases b <;> simp [sel, h0]
theorem xs_testBit (f : Nat → Nat) (n k : Nat) (h : ∀ i, i < n → (f i).testBit k = false) : (xs f n).testBit k = false := by
  induction n with
  | zero => simp [xs]
  | succ n ih => rw [xs, Nat.testBit_xor, ih fun i hi => h i (by omega), h n (by omega)]; rfl
def WRAP : Nat := 0xE1 * 2 ^ 120
def gx (v : Nat) : Nat := v >>> 1 ^^^ sel (v.testBit 0) WRAP
theorem gx_xor (a b : Nat) : gx (a ^^^ b) = gx a ^^^ gx b := by
  unfold gx
  rw [Nat.shiftRight_xor_distrib, Nat.testBit_xor, sel_bxor, xor_swap4]
theorem gx_lt {v : Nat} (h : v < 2 ^ 128) : gx v < 2 ^ 128 := by
  refine Nat.xor_lt_two_pow ?_ ?_
  · rw [Nat.shiftRight_eq_div_pow]; omega
  · cases v.testBit 0 <;> simp [sel, WRAP]
def gp : Nat → Nat → Nat
  | 0, v => v
  | n + 1, v => gx (gp n v)
theorem gp_xor (n a b : Nat) : gp n (a ^^^ b) = gp n a ^^^ gp n b := by
  induction n with
  | zero => rfl
  | succ n ih => rw [gp, gp, gp, ih, gx_xor]
theorem gp_zero (n : Nat) : gp n 0 = 0 := by
  induction n with
  | zero => rfl
  | succ n ih => rw [gp, ih]; rfl
theorem gp_lt {n v : Nat} (h : v < 2 ^ 128) : gp n v < 2 ^ 128 := by
  induction n with
  | zero => exact h
  | succ n ih => exact gx_lt ih
theorem gp_add (m n v : Nat) : gp (m + n) v = gp m (gp n v) := by
  induction m with
  | zero => rw [Nat.zero_add]; rfl
  | succ m ih => rw [Nat.succ_add, gp, gp, ih]
def cf (a i : Nat) : Bool := a.testBit (127 - i)
theorem cf_xor (a b i : Nat) : cf (a ^^^ b) i = (cf a i ^^ cf b i) := Nat.testBit_xor _ _ _
def gm (a b : Nat) : Nat := xs (fun i => sel (cf a i) (gp i b)) 128
theorem gm_lt (a : Nat) {b : Nat} (h : b < 2 ^ 128) : gm a b < 2 ^ 128 := xs_bound fun i _ => by
  cases cf a i
  · exact Nat.two_pow_pos _
  · exact gp_lt h
theorem gm_xor_l (a a' b : Nat) : gm (a ^^^ a') b = gm a b ^^^ gm a' b := by
  unfold gm
  rw [← xs_xor]
  exact xs_congr fun i _ => by rw [cf_xor, sel_bxor]
theorem gm_xor_r (a b b' : Nat) : gm a (b ^^^ b') = gm a b ^^^ gm a b' := by
  unfold gm
  rw [← xs_xor]
  exact xs_congr fun i _ => by rw [gp_xor, sel_xor]
theorem gm_zero_l (b : Nat) : gm 0 b = 0 := by
  have := gm_xor_l 0 0 b
  rw [Nat.xor_self, Nat.xor_self] at this; exact this
theorem gm_zero_r (a : Nat) : gm a 0 = 0 := by
  have := gm_xor_r a 0 0
  rw [Nat.xor_self, Nat.xor_self] at this; exact this
theorem gp_gm (k a b : Nat) : gp k (gm a b) = gm a (gp k b) := by
  unfold gm
  rw [xs_map (gp_zero k) (gp_xor k)]
  exact xs_congr fun i _ => by rw [map_sel (gp_zero k), ← gp_add, ← gp_add, Nat.add_comm]
theorem gm_swap (a b v : Nat) : gm a (gm b v) = gm b (gm a v) := by
  have e : ∀ a b, gm a (gm b v) = xs (fun i => xs (fun j => sel (cf a i) (sel (cf b j) (gp (i + j) v))) 128) 128 := fun a b => by
    show xs _ _ = _
    refine xs_congr fun i _ => ?_
    rw [gp_gm, xs_sel]
    refine congrArg _ (xs_congr fun j _ => ?_)
    rw [← gp_add, Nat.add_comm]
  rw [e, e, xs_swap]
  exact xs_congr fun i _ => xs_congr fun j _ => by rw [sel_sel, Nat.add_comm]
def e0 : Nat := 2 ^ 127
theorem gp_e0 : ∀ i, i < 128 → gp i e0 = 2 ^ (127 - i)
  | 0, _ => rfl
  | i + 1, h => by
    rw [gp, gp_e0 i (by omega)]
    unfold gx
    rw [Nat.testBit_two_pow_of_ne (by omega : 127 - i ≠ 0), sel_f, Nat.xor_zero, Nat.shiftRight_eq_div_pow, show 127 - i = 127 - (i + 1) + 1 by omega, Nat.pow_succ]
    omega
theorem xs_pow {a : Nat} : ∀ n, n ≤ 128 → ∀ k, (xs (fun i => sel (cf a i) (2 ^ (127 - i))) n).testBit k = (decide (k < 128 ∧ 128 ≤ k + n) && a.testBit k)
  | 0, _, k => by simp [xs]; intros; omega
  | n + 1, h, k => by
    rw [xs, Nat.testBit_xor, xs_pow n (by omega) k]
    by_cases hk : k = 127 - n
    · subst hk
      rw [show (decide (127 - n < 128 ∧ 128 ≤ 127 - n + n)) = false by simp; omega, show (decide (127 - n < 128 ∧ 128 ≤ 127 - n + (n + 1))) = true by simp; omega]
      unfold cf
      cases h1 : a.testBit (127 - n)
      · simp [sel]
      · rw [sel_t, Nat.testBit_two_pow_self]; rfl
    · have : (sel (cf a n) (2 ^ (127 - n))).testBit k = false := by
        cases cf a n
        · simp [sel]
        · rw [sel_t]; exact Nat.testBit_two_pow_of_ne (fun e => hk e.symm)
      rw [this, Bool.xor_false]
      congr 1
      rw [decide_eq_decide]
      omega
theorem xs_marks {a : Nat} (h : a < 2 ^ 128) : xs (fun i => sel (cf a i) (gp i e0)) 128 = a := by
  rw [xs_congr fun i hi => by rw [gp_e0 i hi]]
  apply Nat.eq_of_testBit_eq
  intro k
  rw [xs_pow 128 (Nat.le_refl _) k]
  by_cases hk : k < 128
  · simp [hk]
  · rw [Nat.testBit_lt_two_pow (Nat.lt_of_lt_of_le h (Nat.pow_le_pow_right (by decide) (by omega)))]; simp
theorem gm_one {a : Nat} (h : a < 2 ^ 128) : gm a e0 = a := xs_marks h
theorem gm_comm {a b : Nat} (ha : a < 2 ^ 128) (hb : b < 2 ^ 128) : gm a b = gm b a := by
  have h1 : gm a b = gm a (gm b e0) := by rw [gm_one hb]
  rw [h1, gm_swap, gm_one ha]
theorem e0_lt : e0 < 2 ^ 128 := by unfold e0; exact Nat.pow_lt_pow_right (by decide) (by decide)
theorem one_gm {a : Nat} (h : a < 2 ^ 128) : gm e0 a = a := by rw [gm_comm e0_lt h, gm_one h]
theorem gm_assoc {a b c : Nat} (ha : a < 2 ^ 128) (hb : b < 2 ^ 128) (hc : c < 2 ^ 128) : gm (gm a b) c = gm a (gm b c) := by
  rw [gm_comm (gm_lt a hb) hc, gm_swap, gm_comm hc hb]
def sqr (a : Nat) : Nat := gm a a
theorem sqr_lt {a : Nat} (h : a < 2 ^ 128) : sqr a < 2 ^ 128 := gm_lt a h
theorem sqr_xor {a b : Nat} (ha : a < 2 ^ 128) (hb : b < 2 ^ 128) : sqr (a ^^^ b) = sqr a ^^^ sqr b := by
  unfold sqr
  rw [gm_xor_l, gm_xor_r, gm_xor_r, gm_comm hb ha, Nat.xor_assoc, ← Nat.xor_assoc (gm a b) (gm a b), Nat.xor_self, Nat.zero_xor]
theorem sqr_gm {a b : Nat} (ha : a < 2 ^ 128) (hb : b < 2 ^ 128) : sqr (gm a b) = gm (sqr a) (sqr b) := by
  unfold sqr
  rw [gm_assoc ha hb (gm_lt a hb), gm_swap b a b, gm_assoc ha ha (gm_lt b hb)]
def sqrN : Nat → Nat → Nat
  | 0, a => a
  | n + 1, a => sqr (sqrN n a)
theorem sqrN_lt {n a : Nat} (h : a < 2 ^ 128) : sqrN n a < 2 ^ 128 := by
  induction n with
  | zero => exact h
  | succ n ih => exact sqr_lt ih
theorem sqrN_xor {n a b : Nat} (ha : a < 2 ^ 128) (hb : b < 2 ^ 128) : sqrN n (a ^^^ b) = sqrN n a ^^^ sqrN n b := by
  induction n with
  | zero => rfl
  | succ n ih => rw [sqrN, ih, sqr_xor (sqrN_lt ha) (sqrN_lt hb)]; rfl
theorem sqrN_gm {n a b : Nat} (ha : a < 2 ^ 128) (hb : b < 2 ^ 128) : sqrN n (gm a b) = gm (sqrN n a) (sqrN n b) := by
  induction n with
  | zero => rfl
  | succ n ih => rw [sqrN, ih, sqr_gm (sqrN_lt ha) (sqrN_lt hb)]; rfl
theorem sqrN_zero (n : Nat) : sqrN n 0 = 0 := by
  induction n with
  | zero => rfl
  | succ n ih => rw [sqrN, ih]; exact gm_zero_l 0
theorem sqrN_e0 (n : Nat) : sqrN n e0 = e0 := by
  induction n with
  | zero => rfl
  | succ n ih => rw [sqrN, ih]; exact gm_one e0_lt
def fgm (a : Nat) : Nat → Nat → Nat → Nat → Nat
  | 0, _, z, _ => z
  | n + 1, i, z, b => fgm a n (i + 1) (z ^^^ sel (cf a i) b) (gx b)
theorem fgm_is (a : Nat) : ∀ (n i z b v : Nat), z = xs (fun i => sel (cf a i) (gp i v)) i → b = gp i v → fgm a n i z b = xs (fun i => sel (cf a i) (gp i v)) (i + n)
  | 0, i, z, b, v, hz, hb => hz
  | n + 1, i, z, b, v, hz, hb => by
    rw [fgm, show i + (n + 1) = i + 1 + n by omega]
    exact fgm_is a n (i + 1) _ _ v (by rw [hz, hb]; rfl) (by rw [hb]; rfl)
theorem gm_fast (a b : Nat) : gm a b = fgm a 128 0 0 b := (fgm_is a 128 0 0 b b rfl rfl).symm
def e1 : Nat := 2 ^ 126
def fsq : Nat → Nat → Nat
  | 0, a => a
  | n + 1, a => fsq n (fgm a 128 0 0 a)
theorem sqrN_in (n a : Nat) : sqrN n (sqr a) = sqr (sqrN n a) := by
  induction n with
  | zero => rfl
  | succ n ih => rw [sqrN, ih]; rfl
theorem fsq_is (n a : Nat) : fsq n a = sqrN n a := by
  induction n generalizing a with
  | zero => rfl
  | succ n ih => rw [fsq, ih, ← gm_fast]; exact sqrN_in n a
theorem sqr128_e1 : sqrN 128 e1 = e1 := by
  rw [← fsq_is]
  kernel_rfl
theorem gx_is {v : Nat} (h : v < 2 ^ 128) : gx v = gm e1 v := by
  have h1 : gx v = gp 1 (gm e0 v) := by rw [one_gm h]; rfl
  have hv : v = gm v e0 := (gm_one h).symm
  have e : gm e1 v = gm v e1 := gm_comm (by unfold e1; exact Nat.pow_lt_pow_right (by decide) (by decide)) h
  rw [e, show e1 = gp 1 e0 by rw [gp_e0 1 (by decide)]; rfl, ← gp_gm, gm_one h]; rfl
theorem gp_lt' (i : Nat) : gp i e0 < 2 ^ 128 := gp_lt e0_lt
theorem sqr128_gp : ∀ i, sqrN 128 (gp i e0) = gp i e0
  | 0 => sqrN_e0 128
  | i + 1 => by
    rw [gp, gx_is (gp_lt' i), sqrN_gm (by unfold e1; exact Nat.pow_lt_pow_right (by decide) (by decide)) (gp_lt' i), sqr128_e1, sqr128_gp i]
theorem sqr128_xs {f : Nat → Nat} (h : ∀ i, f i < 2 ^ 128) (hf : ∀ i, sqrN 128 (f i) = f i) : ∀ n, sqrN 128 (xs f n) = xs f n
  | 0 => sqrN_zero 128
  | n + 1 => by rw [xs, sqrN_xor (xs_bound fun i _ => h i) (h n), sqr128_xs h hf n, hf]
theorem sqr128 {a : Nat} (h : a < 2 ^ 128) : sqrN 128 a = a := by
  rw [← xs_marks h]
  refine sqr128_xs (fun i => ?_) (fun i => ?_) 128
  · cases cf a i
    · exact Nat.two_pow_pos _
    · exact gp_lt' i
  · cases cf a i
    · exact sqrN_zero 128
    · exact sqr128_gp i
def UNDO : List Nat := [0, 6161591008139076202154902373133594561, 71430717218983613641036104277415506289, 87518597585245962833849474628053070758, 72921817864677867521778898634038080609, 163309321578052146879237778733101511783, 126814247099887467207929949960147586332, 133487668004820722767044853458355047125, 108887185710678174598840578861931466132, 72978216601350599296199603180564021825, 126976600203468727039316187211004055892, 49689517519420395515082114066310337331, 12764899024296983899235621676887115841, 59792954277794326371429463258526948146, 275464514806027128612938827324864, 33882886127255646541338116557250298163, 133385434108064708788808215410435911893, 153238470225796905537047657204766862374, 127777348636302309636952298273557535380, 58594334107495617071392172125656399538, 5725366257701666555538562805218717057, 159324042485362592547018579093184240551, 149021274876537960721224429182834492454, 94333773739946854309780815578084996199, 161752945482599484730126084874801441767, 115575792119390728221592460023876181333, 133436244703473040169882794575366898389, 34751610155981195849944733847405496627, 100972845268357601278728964017462078439, 44935323831972008745566419208193456946, 132003651752985294974180122299820886164, 45594221442569777339127844318073854322, 100983558286137050684044238585428660711, 140308235276559149970208740923126577813, 92325303522414418149753570460923091879, 26944628100264108509229864938392397555, 81071795988965022717357904530596407232, 58275656592719279154056000246173111091, 51613027339492204128265575524803459891, 142140898696765075202304690604976981845, 53639910565545342273528145980335791795, 4726979706490419237355323591502507968, 161542955870533464563010084267448332775, 65334779303751560239471195525024588352, 122557457634345817322758110469731963540, 79569572988994598121356082874814992321, 9537274821874957483351388617584152641, 109427184872331881977228478262674814292, 96504253903287235160744645914913229863, 35809052500294759256374056413191545715, 63089105448741488643398279942380763954, 84108490886122099842324906724524496768, 161537358671016203777973217828391545831, 49921000058860506912943830473554996979, 113870918609522322281985099445019275925, 45994406431766860863727072382817147250, 6116654749483988959971426010360459777, 88394181539591460295416373139500891046, 93226277353508642900164249188457535015, 123506241354959402090274531190302866772, 72992884249465865451566362034747193217, 123492369307601207700488716387690115284, 67288019353279926038130604499846823936, 96617416833907240315124182200439430055, 6161591008139076220601646446843146177, 87518597585245962796955986480633967526, 163309321578052146805450802438263305319, 133487668004820722619470900868678634197, 72978216601350599591347508359916847681, 49689517519420396105377924425015989043, 59792954277794325190837842541115644722, 33882886127255648902521357992072905011, 153238470225796900814681174335121648678, 58594334107495626516125137864946826930, 159324042485362573657552647614603385767, 94333773739946892088712678535246705767, 115575792119390803779456185938199600469, 34751610155981346965672185676052334899, 44935323831971706514111515550899780402, 45594221442570381802037651632661207410, 140308235276560358896028355552301283989, 26944628100266526360869094196741809907, 58275656592714443450777541729474286387, 142140898696755403795747773571579332437, 4726979706471076424241489524707209152, 65334779303712874613243527391433990720, 79569572989071969373811419141996187585, 109427184872177139472317805728312423764, 35809052500604244266195401481916326771, 84108490886741069861967596861974058880, 49921000057622566873658450198655872755, 45994406429290980785156311833018898802, 88394181544543220452557894239097387942, 123506241345055881775991488991109872980, 123492369287794167071922631989304127700, 96617416873521321572256350997211405223, 87518597506017800282691648887090017190, 133487668163277047647999576055766534869, 49689517202507746048320574050840187699, 33882886761080949016636058740424507699, 58594332839845026287895736368243621554, 94333771204645691632253875541840295015, 34751615226583747878589791662865156403, 45594211301365579976202439659035564402, 26944648382676130012539518143993095923, 142140858131936196492406925677076760405, 65334698174074460006561831602428846656, 109427022612900310258954414150302135636, 84108166368187411435240813705953482624, 45993757392183663931702745520977746290, 123504943270841248069084356367027567956, 96614820725092054158442085749046795175, 133492860460135582475628106552095754965, 33893271354798018671893119733082947891, 94354540392079830942767997527157175399, 45552672926497301355174195688401803634, 142223934881672753734463413618344281941, 109593176112373424743067390032837178708, 46326064391129892899928697286047832434, 95950206727199596221990182218906622887, 32564043359013102798989312672802603315, 42894216934927469609366581567841114482, 114910088095513088234682618273958557012, 85316382760920269238759725736663866279, 64161864867486123575827494532326627698, 127851678626037577171681551665634892711, 42781086895802961305837899807692839847, 22349210433241643211303706255459310228]
def lin (t : List Nat) (v : Nat) : Nat → Nat → Nat
  | z, b => match t with
    | [] => z
    | m :: t => lin t v (z ^^^ sel (v.testBit b) m) (b + 1)
theorem lin_xor (t : List Nat) (u v : Nat) : ∀ (z y b : Nat), lin t (u ^^^ v) (z ^^^ y) b = lin t u z b ^^^ lin t v y b := by
  induction t with
  | nil => intro z y b; rfl
  | cons m t ih =>
    intro z y b
    simp only [lin]
    rw [Nat.testBit_xor, sel_bxor, xor_swap4, ih]
def undo (v : Nat) : Nat := lin UNDO v 0 0
theorem undo_xor (u v : Nat) : undo (u ^^^ v) = undo u ^^^ undo v := by
  have := lin_xor UNDO u v 0 0 0
  rwa [Nat.xor_zero] at this
theorem undo_zero : undo 0 = 0 := by
  have := undo_xor 0 0
  rwa [Nat.xor_self, Nat.xor_self] at this
def undoAll : Nat → Nat → Nat → Bool
  | 0, _, _ => true
  | n + 1, a, b => undo (b ^^^ a) == a && undoAll n (gx a) (gx (gx b))
theorem undoAll_is : undoAll 127 (gp 1 e0) (gp 2 e0) = true := by kernel_rfl
theorem undoAll_at : ∀ (n k : Nat), undoAll n (gp k e0) (gp (2 * k) e0) = true → ∀ i, k ≤ i → i < k + n → undo (gp (2 * i) e0 ^^^ gp i e0) = gp i e0
  | 0, k, _, i, h1, h2 => by omega
  | n + 1, k, h, i, h1, h2 => by
    simp only [undoAll, Bool.and_eq_true, beq_iff_eq] at h
    by_cases hk : i = k
    · subst hk; exact h.1
    · have e : gx (gx (gp (2 * k) e0)) = gp (2 * (k + 1)) e0 := rfl
      exact undoAll_at n (k + 1) (by rw [← e]; exact h.2) i (by omega) (by omega)
theorem sqr_gp (i : Nat) (h : i < 128) : sqr (gp i e0) = gp (2 * i) e0 := by
  unfold sqr
  rw [← gp_gm, gm_one (gp_lt' i), ← gp_add]
  congr 1; omega
theorem undo_sqr {v : Nat} (h : v < 2 ^ 128) : undo (sqr v ^^^ v) = v ^^^ sel (cf v 0) e0 := by
  have hf : ∀ i, sel (cf v i) (gp i e0) < 2 ^ 128 := fun i => by
    cases cf v i
    · exact Nat.two_pow_pos _
    · exact gp_lt' i
  have key : ∀ n, n ≤ 127 → undo (sqr (xs (fun i => sel (cf v i) (gp i e0)) (n + 1)) ^^^ xs (fun i => sel (cf v i) (gp i e0)) (n + 1)) = xs (fun i => sel (cf v i) (gp i e0)) (n + 1) ^^^ sel (cf v 0) e0 := by
    intro n
    induction n with
    | zero =>
      intro _
      simp only [xs, Nat.zero_xor]
      cases cf v 0
      · simp only [sel_f, Nat.xor_zero]
        rw [show sqr 0 = 0 from gm_zero_l 0]; exact undo_zero
      · simp only [sel_t]
        rw [show gp 0 e0 = e0 from rfl, show sqr e0 = e0 from gm_one e0_lt, Nat.xor_self]; exact undo_zero
    | succ n ih =>
      intro hn
      rw [xs, sqr_xor (xs_bound fun i _ => hf i) (hf _), xor_swap4, undo_xor, ih (by omega)]
      have : undo (sqr (sel (cf v (n + 1)) (gp (n + 1) e0)) ^^^ sel (cf v (n + 1)) (gp (n + 1) e0)) = sel (cf v (n + 1)) (gp (n + 1) e0) := by
        cases cf v (n + 1)
        · simp only [sel_f, Nat.xor_zero]
          rw [show sqr 0 = 0 from gm_zero_l 0]; exact undo_zero
        · simp only [sel_t]
          rw [sqr_gp _ (by omega)]
          exact undoAll_at 127 1 undoAll_is (n + 1) (by omega) (by omega)
      rw [this, Nat.xor_assoc, Nat.xor_comm (sel (cf v 0) e0), ← Nat.xor_assoc]
  have := key 127 (Nat.le_refl _)
  rwa [xs_marks h] at this
theorem sqr_self {e : Nat} (h : e < 2 ^ 128) (hs : sqr e = e) : e = 0 ∨ e = e0 := by
  have := undo_sqr h
  rw [hs, Nat.xor_self, undo_zero] at this
  cases hc : cf e 0 with
  | true =>
    rw [hc, sel_t] at this
    refine .inr ?_
    have h2 := congrArg (· ^^^ e0) this
    simp only [Nat.zero_xor, Nat.xor_assoc, Nat.xor_self, Nat.xor_zero] at h2
    exact h2.symm
  | false =>
    rw [hc, sel_f, Nat.xor_zero] at this
    exact .inl this.symm
def pws (a : Nat) : Nat → Nat
  | 0 => e0
  | n + 1 => gm (sqr (pws a n)) a
theorem pws_lt {a : Nat} (h : a < 2 ^ 128) : ∀ n, pws a n < 2 ^ 128
  | 0 => e0_lt
  | n + 1 => gm_lt _ h
theorem pws_gm {a : Nat} (h : a < 2 ^ 128) : ∀ n, gm (pws a n) a = sqrN n a
  | 0 => one_gm h
  | n + 1 => by
    rw [pws, gm_assoc (sqr_lt (pws_lt h n)) h h, show gm a a = sqr a from rfl, ← sqr_gm (pws_lt h n) h, pws_gm h n]; rfl
theorem gm_nought {a b : Nat} (ha : a < 2 ^ 128) (hb : b < 2 ^ 128) (h : gm a b = 0) : a = 0 ∨ b = 0 := by
  have h1 : gm (pws a 128) a = a := (pws_gm ha 128).trans (sqr128 ha)
  have he := pws_lt ha 128
  have hc : sqr (pws a 127) < 2 ^ 128 := sqr_lt (pws_lt ha 127)
  have e : pws a 128 = gm (sqr (pws a 127)) a := rfl
  have hid : sqr (pws a 128) = pws a 128 := by
    show gm (pws a 128) (pws a 128) = _
    rw [show gm (pws a 128) (pws a 128) = gm (pws a 128) (gm (sqr (pws a 127)) a) from rfl, gm_swap, h1]; rfl
  rcases sqr_self he hid with h2 | h2
  · left; rw [h2, gm_zero_l] at h1; exact h1.symm
  · right
    have : gm (pws a 128) b = 0 := by rw [e, gm_assoc hc ha hb, h, gm_zero_r]
    rw [h2, one_gm hb] at this; exact this
end Go.Proofs.YtmoaddicejohgaaDoor
set_option linter.unusedSimpArgs false
set_option linter.unusedVariables false
set_option maxRecDepth 100000
set_option maxHeartbeats 4000000
namespace Go.Proofs.YtmoaddicejohgaaDoor
open Go
open List (getD_cons_zero getD_cons_succ set_cons_zero set_cons_succ)
def pw (p : P2) : Nat := p.1.toNat <<< 64 ||| p.2.toNat
theorem pw_lt (p : P2) : pw p < 2 ^ 128 := by
  unfold pw
  refine Nat.or_lt_two_pow ?_ (Nat.lt_of_lt_of_le p.2.toNat_lt (by decide))
  rw [Nat.shiftLeft_eq]
  have := p.1.toNat_lt
  omega
theorem bit64 (x : UInt64) {k : Nat} (h : 64 ≤ k) : x.toNat.testBit k = false := Nat.testBit_lt_two_pow (Nat.lt_of_lt_of_le x.toNat_lt (Nat.pow_le_pow_right (by decide) h))
theorem bit8 (x : UInt8) {k : Nat} (h : 8 ≤ k) : x.toNat.testBit k = false := Nat.testBit_lt_two_pow (Nat.lt_of_lt_of_le x.toNat_lt (Nat.pow_le_pow_right (by decide) h))
theorem pw_bit (p : P2) (k : Nat) : (pw p).testBit k = if k < 64 then p.2.toNat.testBit k else p.1.toNat.testBit (k - 64) := by
  unfold pw
  rw [Nat.testBit_or, Nat.testBit_shiftLeft]
  by_cases h : k < 64
  · rw [if_pos h, decide_eq_false (by omega)]; simp
  · rw [if_neg h, bit64 p.2 (by omega), decide_eq_true (by omega)]; simp
theorem pw_inj {p q : P2} (h : pw p = pw q) : p = q := by
  have hb : ∀ k, (pw p).testBit k = (pw q).testBit k := fun k => by rw [h]
  have h2 : p.2 = q.2 := UInt64.toNat_inj.1 (Nat.eq_of_testBit_eq fun k => by
    by_cases hk : k < 64
    · have := hb k
      rw [pw_bit, pw_bit, if_pos hk, if_pos hk] at this; exact this
    · rw [bit64 _ (by omega), bit64 _ (by omega)])
  have h1 : p.1 = q.1 := UInt64.toNat_inj.1 (Nat.eq_of_testBit_eq fun k => by
    have := hb (k + 64)
    rw [pw_bit, pw_bit, if_neg (by omega), if_neg (by omega), Nat.add_sub_cancel] at this; exact this)
  exact Prod.ext h1 h2
theorem pw_xor (a b : P2) : pw (a.1 ^^^ b.1, a.2 ^^^ b.2) = pw a ^^^ pw b := by
  apply Nat.eq_of_testBit_eq
  intro k
  rw [Nat.testBit_xor, pw_bit, pw_bit, pw_bit]
  by_cases h : k < 64
  · rw [if_pos h, if_pos h, if_pos h, UInt64.toNat_xor, Nat.testBit_xor]
  · rw [if_neg h, if_neg h, if_neg h, UInt64.toNat_xor, Nat.testBit_xor]
theorem pw_zero : pw (0, 0) = 0 := rfl
theorem neg_one (x : UInt64) : -(x &&& 1) = if x.toNat.testBit 0 then 18446744073709551615 else 0 := by
  have h : (x &&& 1).toNat = x.toNat % 2 := by
    rw [UInt64.toNat_and]
    exact Nat.and_one_is_mod _
  have h2 : x.toNat.testBit 0 = decide (x.toNat % 2 = 1) := by rw [Nat.testBit_zero]
  rw [h2]
  rcases Nat.mod_two_eq_zero_or_one x.toNat with h3 | h3
  · have : x &&& 1 = 0 := UInt64.toNat_inj.1 (by rw [h, h3]; rfl)
    rw [this, h3]; rfl
  · have : x &&& 1 = 1 := UInt64.toNat_inj.1 (by rw [h, h3]; rfl)
    rw [this, h3]; rfl
theorem and_all (x : UInt64) (b : Bool) : (x &&& if b then 18446744073709551615 else 0) = if b then x else 0 := by
  cases b
  · exact UInt64.and_zero
  · apply UInt64.toNat_inj.1
    apply Nat.eq_of_testBit_eq
    intro k
    simp only [if_true]
    rw [UInt64.toNat_and, Nat.testBit_and]
    by_cases h : k < 64
    · rw [show (18446744073709551615 : UInt64).toNat = 2 ^ 64 - 1 from rfl, Nat.testBit_two_pow_sub_one, decide_eq_true h, Bool.and_true]
    · rw [bit64 x (by omega), Bool.false_and]
theorem all_and (x : UInt64) (b : Bool) : ((if b then 18446744073709551615 else 0) &&& x) = if b then x else 0 := by rw [UInt64.and_comm, and_all]
theorem shr_bit (x : UInt64) (s : UInt64) (hs : s.toNat < 64) (k : Nat) : (x >>> s).toNat.testBit k = x.toNat.testBit (s.toNat + k) := by
  rw [UInt64.toNat_shiftRight, Nat.mod_eq_of_lt hs, Nat.testBit_shiftRight]
theorem shl_bit (x : UInt64) (s : UInt64) (hs : s.toNat < 64) (k : Nat) : (x <<< s).toNat.testBit k = (decide (k < 64) && (decide (s.toNat ≤ k) && x.toNat.testBit (k - s.toNat))) := by
  rw [UInt64.toNat_shiftLeft, Nat.mod_eq_of_lt hs, Nat.testBit_mod_two_pow, Nat.testBit_shiftLeft]
theorem wrap_bit (k : Nat) : WRAP.testBit k = (decide (64 ≤ k) && (16212958658533785600 : UInt64).toNat.testBit (k - 64)) := by
  have : WRAP = (16212958658533785600 : UInt64).toNat <<< 64 := rfl
  rw [this, Nat.testBit_shiftLeft]
theorem pw_gx (p : P2) : pw (p.1 >>> 1 ^^^ (-(p.2 &&& 1)) &&& 16212958658533785600, p.2 >>> 1 ||| p.1 <<< 63) = gx (pw p) := by
  rw [neg_one, all_and]
  have h0 : (pw p).testBit 0 = p.2.toNat.testBit 0 := by rw [pw_bit]; rfl
  unfold gx
  rw [h0]
  apply Nat.eq_of_testBit_eq
  intro k
  rw [Nat.testBit_xor, Nat.testBit_shiftRight, pw_bit, pw_bit]
  have hw : (sel (p.2.toNat.testBit 0) WRAP).testBit k = (p.2.toNat.testBit 0 && WRAP.testBit k) := by cases p.2.toNat.testBit 0 <;> simp [sel]
  rw [hw, wrap_bit]
  by_cases h : k < 64
  · rw [if_pos h, UInt64.toNat_or, Nat.testBit_or, shr_bit _ 1 (by decide), shl_bit _ 63 (by decide), decide_eq_true h, decide_eq_false (by omega : ¬ 64 ≤ k)]
    simp only [Bool.true_and, Bool.false_and, Bool.and_false, Bool.xor_false]
    show (p.2.toNat.testBit (1 + k) || (decide (63 ≤ k) && p.1.toNat.testBit (k - 63))) = _
    by_cases h2 : k = 63
    · subst h2
      rw [bit64 p.2 (show 64 ≤ 1 + 63 by omega), if_neg (show ¬ (1 + 63 < 64) by omega)]; rfl
    · rw [if_pos (show 1 + k < 64 by omega), decide_eq_false (show ¬ 63 ≤ k by omega)]; simp
  · rw [if_neg h, if_neg (show ¬ (1 + k < 64) by omega), UInt64.toNat_xor, Nat.testBit_xor, shr_bit _ 1 (by decide), decide_eq_true (by omega : 64 ≤ k)]
    show (p.1.toNat.testBit (1 + (k - 64)) ^^ _) = _
    rw [show 1 + (k - 64) = 1 + k - 64 by omega]
    cases p.2.toNat.testBit 0
    · simp
    · simp
theorem pw_bW (b : P2) : ∀ n, pw (bW b n) = gp n (pw b)
  | 0 => rfl
  | n + 1 => by rw [bW, pw_gx, pw_bW b n]; rfl
theorem msk_is (a : P2) (i : Nat) (hi : i < 128) : mskW a i = if cf (pw a) i then 18446744073709551615 else 0 := by
  have e : (63 - i % 64) < 64 := by omega
  unfold mskW
  rw [if_pos e, neg_one]
  have ho : (UInt64.ofNat (63 - i % 64)).toNat = 63 - i % 64 := ofNat_toNat64 _ (by omega)
  rw [shr_bit _ _ (by rw [ho]; exact e), ho]
  unfold cf
  rw [pw_bit]
  by_cases h : 64 ≤ i
  · rw [if_pos h, if_pos (show 127 - i < 64 by omega), show 63 - i % 64 + 0 = 127 - i by omega]
  · rw [if_neg h, if_neg (show ¬ 127 - i < 64 by omega), show 63 - i % 64 + 0 = 127 - i - 64 by omega]
theorem pw_zW (a b : P2) : ∀ n, n ≤ 128 → pw (zW a b n) = xs (fun i => sel (cf (pw a) i) (gp i (pw b))) n
  | 0, _ => by rw [zW, pw_zero]; rfl
  | n + 1, h => by
    rw [zW, xs, ← pw_zW a b n (by omega), msk_is a n (by omega), and_all, and_all, ← pw_bW]
    cases cf (pw a) n
    · simp [sel]
    · simp only [if_true, sel_t]
      exact pw_xor _ _
theorem pw_mul (a b : P2) : pw (mulP a b) = gm (pw a) (pw b) := pw_zW a b 128 (Nat.le_refl _)
theorem word_bit (f : Nat → UInt8) : ∀ n, n ≤ 8 → ∀ k, (wordF f n).toNat.testBit k = (decide (k < 8 * n) && (f (n - 1 - k / 8)).toNat.testBit (k % 8))
  | 0, _, k => by simp [wordF]
  | n + 1, h, k => by
    rw [wordF, UInt64.toNat_or, Nat.testBit_or, shl_bit _ 8 (by decide), UInt8.toNat_toUInt64]
    show ((decide (k < 64) && (decide (8 ≤ k) && (wordF f n).toNat.testBit (k - 8))) || _) = _
    rw [word_bit f n (by omega)]
    by_cases h1 : k < 8
    · rw [decide_eq_false (by omega : ¬ 8 ≤ k), decide_eq_true (by omega : k < 8 * (n + 1)), show n + 1 - 1 - k / 8 = n by omega, Nat.mod_eq_of_lt h1]
      simp
    · rw [decide_eq_true (by omega : 8 ≤ k), bit8 (f n) (show 8 ≤ k by omega), show (k - 8) / 8 = k / 8 - 1 by omega, show (k - 8) % 8 = k % 8 by omega, show n - 1 - (k / 8 - 1) = n + 1 - 1 - k / 8 by omega]
      by_cases h2 : k < 8 * (n + 1)
      · rw [decide_eq_true h2, decide_eq_true (by omega : k < 64), decide_eq_true (by omega : k - 8 < 8 * n)]; simp
      · rw [decide_eq_false h2, decide_eq_false (by omega : ¬ k - 8 < 8 * n)]; simp
def bitF (f : Nat → UInt8) (i : Nat) : Bool := (if 7 - i % 8 < 8 then f (i / 8) >>> UInt8.ofNat (7 - i % 8) else 0) % 2 == 1
theorem bitF_is (f : Nat → UInt8) (i : Nat) : bitF f i = (f (i / 8)).toNat.testBit (7 - i % 8) := by
  unfold bitF
  rw [if_pos (by omega), Nat.testBit_eq_decide_div_mod_eq]
  have h : ((f (i / 8) >>> UInt8.ofNat (7 - i % 8)) % 2).toNat = (f (i / 8)).toNat / 2 ^ (7 - i % 8) % 2 := by
    rw [UInt8.toNat_mod, UInt8.toNat_shiftRight, ofNat_toNat8 _ (by omega), Nat.mod_eq_of_lt (by omega : 7 - i % 8 < 8), Nat.shiftRight_eq_div_pow]; rfl
  rw [Bool.eq_iff_iff, beq_iff_eq, decide_eq_true_eq, ← h]
  constructor
  · intro h1; rw [h1]; rfl
  · intro h1; exact UInt8.toNat_inj.1 h1
theorem cf_of (f : Nat → UInt8) (i : Nat) (h : i < 128) : cf (pw (ofP f)) i = bitF f i := by
  unfold cf
  rw [pw_bit, bitF_is]
  show (if 127 - i < 64 then (wordF (fun i => f (8 + i)) 8).toNat.testBit (127 - i) else (wordF f 8).toNat.testBit (127 - i - 64)) = _
  by_cases h1 : 64 ≤ i
  · rw [if_pos (by omega), word_bit _ 8 (by omega), decide_eq_true (by omega), Bool.true_and, show 8 + (8 - 1 - (127 - i) / 8) = i / 8 by omega, show (127 - i) % 8 = 7 - i % 8 by omega]
  · rw [if_neg (by omega), word_bit _ 8 (by omega), decide_eq_true (by omega), Bool.true_and, show 8 - 1 - (127 - i - 64) / 8 = i / 8 by omega, show (127 - i - 64) % 8 = 7 - i % 8 by omega]
def nbN (n j : Nat) : UInt8 := UInt8.ofNat (n >>> (8 * (15 - j)))
theorem nbN_bit (n j k : Nat) : (nbN n j).toNat.testBit k = (decide (k < 8) && n.testBit (8 * (15 - j) + k)) := by
  unfold nbN
  rw [UInt8.toNat_ofNat', Nat.testBit_mod_two_pow, Nat.testBit_shiftRight]
theorem nb_is (p : P2) (j : Nat) (h : j < 16) : nbP p j = nbN (pw p) j := by
  apply UInt8.toNat_inj.1
  apply Nat.eq_of_testBit_eq
  intro k
  rw [nbN_bit, pw_bit]
  have hb : ∀ (x : UInt64) (i : Nat), i < 8 → (byteW x i).toNat.testBit k = (decide (k < 8) && x.toNat.testBit (56 - 8 * i + k)) := fun x i hi => by
    unfold byteW
    rw [if_pos (by omega), UInt64.toNat_toUInt8, Nat.testBit_mod_two_pow (j := 8), shr_bit _ _ (by rw [ofNat_toNat64 _ (by omega)]; omega), ofNat_toNat64 _ (by omega)]
  unfold nbP
  by_cases h1 : j < 8
  · rw [if_pos h1, hb _ _ h1]
    by_cases hk : k < 8
    · rw [if_neg (by omega), show 8 * (15 - j) + k - 64 = 56 - 8 * j + k by omega]
    · rw [decide_eq_false hk]; simp
  · rw [if_neg h1, hb _ _ (by omega)]
    by_cases hk : k < 8
    · rw [if_pos (by omega), show 8 * (15 - j) + k = 56 - 8 * (j - 8) + k by omega]
    · rw [decide_eq_false hk]; simp
def vN (p : Nat → Bool) (n : Nat) : Nat := xs (fun j => sel (p j) (gp j e0)) n
theorem vN_congr {p q : Nat → Bool} {n : Nat} (h : ∀ j, j < n → p j = q j) : vN p n = vN q n := xs_congr fun j hj => by rw [h j hj]
theorem vN_flip {p : Nat → Bool} {j n : Nat} (h : j < n) : vN (upd p j (!p j)) n = vN p n ^^^ gp j e0 := by
  induction n with
  | zero => omega
  | succ n ih =>
    unfold vN at *
    rw [xs, xs]
    by_cases e : j = n
    · subst e
      rw [upd_same, xs_congr (g := fun i => sel (p i) (gp i e0)) fun i hi => by rw [upd_other _ _ _ (by omega)]]
      rw [Nat.xor_assoc]
      cases p j <;> simp [sel]
    · rw [ih (by omega), upd_other _ _ _ (fun h => e h.symm), Nat.xor_assoc, Nat.xor_comm (gp j e0), ← Nat.xor_assoc]
theorem vN_bits (f : Nat → UInt8) : vN (bitF f) 128 = pw (ofP f) := by
  have := xs_marks (pw_lt (ofP f))
  rw [← this]
  exact xs_congr fun i hi => by rw [cf_of f i hi]
theorem gp128 : gp 128 e0 = gp 0 e0 ^^^ gp 1 e0 ^^^ gp 2 e0 ^^^ gp 7 e0 := by kernel_rfl
theorem gp_back (i : Nat) (h : 128 ≤ i) : gp i e0 = gp (i - 128) e0 ^^^ gp (i - 127) e0 ^^^ gp (i - 126) e0 ^^^ gp (i - 121) e0 := by
  have e : gp i e0 = gp (i - 128) (gp 128 e0) := by rw [← gp_add]; congr 1; omega
  rw [e, gp128, gp_xor, gp_xor, gp_xor, ← gp_add, ← gp_add, ← gp_add, ← gp_add]
  rw [show i - 128 + 0 = i - 128 by omega, show i - 128 + 1 = i - 127 by omega, show i - 128 + 2 = i - 126 by omega, show i - 128 + 7 = i - 121 by omega]
theorem vN_back {p : Nat → Bool} {i : Nat} (h : 128 ≤ i) (hp : p i = true) :
    vN (upd (upd (upd (upd p (i - 128) (!p (i - 128))) (i - 127) (!(upd p (i - 128) (!p (i - 128))) (i - 127))) (i - 126) (!(upd (upd p (i - 128) (!p (i - 128))) (i - 127) (!(upd p (i - 128) (!p (i - 128))) (i - 127))) (i - 126)))
      (i - 121) (!(upd (upd (upd p (i - 128) (!p (i - 128))) (i - 127) (!(upd p (i - 128) (!p (i - 128))) (i - 127))) (i - 126) (!(upd (upd p (i - 128) (!p (i - 128))) (i - 127) (!(upd p (i - 128) (!p (i - 128))) (i - 127))) (i - 126))) (i - 121))) i = vN p (i + 1) := by
  rw [vN_flip (by omega), vN_flip (by omega), vN_flip (by omega), vN_flip (by omega)]
  show _ = vN p i ^^^ sel (p i) (gp i e0)
  rw [hp, sel_t, gp_back i h]
  simp only [Nat.xor_assoc]
theorem vN_drop {p : Nat → Bool} {i : Nat} (hp : p i = false) : vN p i = vN p (i + 1) := by
  show _ = vN p i ^^^ sel (p i) (gp i e0)
  rw [hp, sel_f, Nat.xor_zero]
def rowsN (x y : Nat → Bool) (i : Nat) : Nat := xs (fun i => sel (x i) (gp i (vN y 128))) i
def partN (x y : Nat → Bool) (i k : Nat) : Nat := rowsN x y i ^^^ sel (x i) (gp i (vN y k))
theorem vN_map (i : Nat) (y : Nat → Bool) (k : Nat) : gp i (vN y k) = xs (fun j => sel (y j) (gp (i + j) e0)) k := by
  unfold vN
  rw [xs_map (gp_zero i) (gp_xor i)]
  exact xs_congr fun j _ => by rw [map_sel (gp_zero i), ← gp_add]
theorem part_zero (x y : Nat → Bool) (i : Nat) : partN x y i 0 = rowsN x y i := by
  unfold partN
  rw [show vN y 0 = 0 from rfl, gp_zero, sel_zero, Nat.xor_zero]
theorem part_off (x y : Nat → Bool) (i k : Nat) (h : x i = false) : partN x y i k = rowsN x y (i + 1) := by
  unfold partN
  show _ = rowsN x y i ^^^ sel (x i) _
  rw [h, sel_f, sel_f]
theorem part_end (x y : Nat → Bool) (i : Nat) : partN x y i 128 = rowsN x y (i + 1) := rfl
theorem part_step (x y : Nat → Bool) (i k : Nat) (hx : x i = true) (hy : y k = true) : partN x y i k ^^^ gp (i + k) e0 = partN x y i (k + 1) := by
  unfold partN
  rw [hx, sel_t, sel_t, vN_map, vN_map, xs, hy, sel_t, Nat.xor_assoc]
theorem part_same (x y : Nat → Bool) (i k : Nat) (hy : y k = false) : partN x y i k = partN x y i (k + 1) := by
  unfold partN
  rw [vN_map, vN_map, xs, hy, sel_f, Nat.xor_zero]
theorem rows_all (f g : Nat → UInt8) : rowsN (bitF f) (bitF g) 128 = pw (mulP (ofP f) (ofP g)) := by
  rw [pw_mul]
  unfold rowsN gm
  rw [vN_bits]
  exact xs_congr fun i hi => by rw [cf_of f i hi]
theorem add_mark : ((List.range 256).all fun n => (List.range 8).all fun r => n.testBit (7 - r) || (UInt8.ofNat n + (128 : UInt8) >>> UInt8.ofNat r == UInt8.ofNat n ^^^ UInt8.ofNat (2 ^ (7 - r)))) = true := by kernel_rfl
theorem add_mark_is (a : UInt8) (r : Nat) (hr : r < 8) (h : a.toNat.testBit (7 - r) = false) : a + (128 : UInt8) >>> UInt8.ofNat r = a ^^^ UInt8.ofNat (2 ^ (7 - r)) := by
  have h1 := List.all_eq_true.1 (List.all_eq_true.1 add_mark a.toNat (List.mem_range.2 a.toNat_lt)) r (List.mem_range.2 hr)
  rw [h, Bool.false_or, beq_iff_eq, UInt8.ofNat_toNat] at h1
  exact h1
theorem nbN_step (p : Nat → Bool) (i : Nat) (hi : i < 128) (hp : p i = true) (j : Nat) (hj : j < 16) :
    nbN (vN p (i + 1)) j = if i / 8 = j then nbN (vN p i) j + (if i % 8 < 8 then (128 : UInt8) >>> UInt8.ofNat (i % 8) else 0) else nbN (vN p i) j := by
  have e : vN p (i + 1) = vN p i ^^^ 2 ^ (127 - i) := by
    show vN p i ^^^ sel (p i) (gp i e0) = _
    rw [hp, sel_t, gp_e0 i hi]
  have hz : ∀ k, k ≤ 127 - i → (vN p i).testBit k = false := fun k hk => xs_testBit _ _ _ fun m hm => by
    cases p m
    · simp [sel]
    · rw [sel_t, gp_e0 m (by omega)]; exact Nat.testBit_two_pow_of_ne (by omega)
  have hx : ∀ (a : UInt8) (r : Nat), r < 8 → ∀ k, (a ^^^ UInt8.ofNat (2 ^ (7 - r))).toNat.testBit k = (a.toNat.testBit k ^^ decide (7 - r = k)) := fun a r hr k => by
    rw [UInt8.toNat_xor, Nat.testBit_xor, UInt8.toNat_ofNat', Nat.mod_eq_of_lt (Nat.pow_lt_pow_right (by decide) (by omega : 7 - r < 8)), Nat.testBit_two_pow]
  apply UInt8.toNat_inj.1
  apply Nat.eq_of_testBit_eq
  intro k
  rw [nbN_bit, e, Nat.testBit_xor, Nat.testBit_two_pow]
  by_cases h : i / 8 = j
  · rw [if_pos h, if_pos (by omega), add_mark_is _ _ (by omega) (by rw [nbN_bit, hz _ (by omega)]; simp), hx _ _ (by omega), nbN_bit]
    by_cases hk : k < 8
    · rw [decide_eq_true hk, Bool.true_and, Bool.true_and]
      congr 1
      rw [decide_eq_decide]; omega
    · rw [decide_eq_false hk, decide_eq_false (by omega : ¬ 7 - i % 8 = k)]; rfl
  · rw [if_neg h, nbN_bit]
    by_cases hk : k < 8
    · rw [decide_eq_true hk, decide_eq_false (by omega : ¬ 127 - i = 8 * (15 - j) + k), Bool.xor_false]
    · rw [decide_eq_false hk]; rfl
def outL (p : Nat → Bool) (i : Nat) : List UInt8 := (List.range 16).map (nbN (vN p i))
theorem outL_step (p : Nat → Bool) (i : Nat) (hi : i < 128) (hp : p i = true) : (outL p i).set (i / 8) ((outL p i).getD (i / 8) 0 + (if i % 8 < 8 then (128 : UInt8) >>> UInt8.ofNat (i % 8) else 0)) = outL p (i + 1) := by
  unfold outL
  apply List.ext_getElem (by simp)
  intro j h1 h2
  have hj : j < 16 := by simpa using h2
  have e := nbN_step p i hi hp j hj
  rw [List.getElem_set]
  simp only [List.getElem_map, List.getElem_range]
  rw [e]
  by_cases h : i / 8 = j
  · subst h
    rw [if_pos rfl, if_pos rfl]
    congr 1
    simp [List.getD, show i / 8 < 16 by omega]
  · rw [if_neg h, if_neg h]
theorem outL_same (p : Nat → Bool) (i : Nat) (hp : p i = false) : outL p i = outL p (i + 1) := by
  unfold outL; rw [vN_drop hp]
theorem outL_end (p : Nat → Bool) (q : P2) (h : vN p 128 = pw q) : outL p 128 = (List.range 16).map (nbP q) := by
  unfold outL
  rw [h]
  exact List.map_congr_left fun j hj => (nb_is q j (List.mem_range.1 hj)).symm
theorem outL_zero (p : Nat → Bool) : (List.range 16).map (fun _ => (0 : UInt8)) = outL p 0 := by
  unfold outL
  refine List.map_congr_left fun j _ => ?_
  show _ = nbN 0 j
  unfold nbN; rw [Nat.zero_shiftRight]; rfl
end Go.Proofs.YtmoaddicejohgaaDoor
set_option linter.unusedSimpArgs false
set_option linter.unusedVariables false
set_option maxRecDepth 100000
set_option maxHeartbeats 4000000
namespace Go.Proofs.YtmoaddicejohgaaDoor
open Go
open List (getD_cons_zero getD_cons_succ set_cons_zero set_cons_succ)
theorem dbl_hi {x : UInt8} (h : 128 ≤ x) : x <<< 1 ^^^ 27 = dbl x := by
  have h1 : x >>> 7 = 1 := UInt8.toNat_inj.1 (by
    rw [UInt8.toNat_shiftRight]; have := x.toNat_lt; have h2 : 128 ≤ x.toNat := UInt8.le_iff_toNat_le.1 h
    show x.toNat >>> 7 = 1
    rw [Nat.shiftRight_eq_div_pow]; omega)
  unfold dbl; rw [h1]; rfl
theorem dbl_lo {x : UInt8} (h : ¬ 128 ≤ x) : x <<< 1 = dbl x := by
  have h1 : x >>> 7 = 0 := UInt8.toNat_inj.1 (by
    rw [UInt8.toNat_shiftRight]; have h2 : ¬ 128 ≤ x.toNat := fun h3 => h (UInt8.le_iff_toNat_le.2 h3)
    show x.toNat >>> 7 = 0
    rw [Nat.shiftRight_eq_div_pow]; omega)
  unfold dbl; rw [h1]; simp
def tmsN : Nat → UInt8 → UInt8 → UInt8 → UInt8
  | 0, o, _, _ => o
  | n + 1, o, x, y => if 0 < y then tmsN n (if y % 2 = 1 then o ^^^ x else o) (dbl x) (y / 2) else o
def tms (x y : UInt8) : UInt8 := tmsN 8 0 x y
theorem tms_odd {n : Nat} {o x y : UInt8} (h : 0 < y) (h1 : y % 2 = 1) : tmsN (n + 1) o x y = tmsN n (o ^^^ x) (dbl x) (y / 2) := by
  rw [tmsN, if_pos h, if_pos h1]
theorem tms_even {n : Nat} {o x y : UInt8} (h : 0 < y) (h1 : ¬ y % 2 = 1) : tmsN (n + 1) o x y = tmsN n o (dbl x) (y / 2) := by
  rw [tmsN, if_pos h, if_neg h1]
theorem tms_end {n : Nat} {o x y : UInt8} (h : ¬ 0 < y) : tmsN n o x y = o := by
  cases n with
  | zero => rfl
  | succ n => rw [tmsN, if_neg h]
theorem tms_half {n : Nat} {y : UInt8} (h : y.toNat < 2 ^ (n + 1)) : (y / 2).toNat < 2 ^ n := by
  rw [UInt8.toNat_div, Nat.pow_succ] at *
  show y.toNat / 2 < _
  omega
theorem tms_some {n : Nat} {y : UInt8} (h : y.toNat < 2 ^ n) (h0 : 0 < y) : ∃ m, n = m + 1 := by
  cases n with
  | zero =>
    have : 0 < y.toNat := UInt8.lt_iff_toNat_lt.1 h0
    simp at h; omega
  | succ n => exact ⟨n, rfl⟩
def pN (x : UInt8) : Nat → UInt8
  | 0 => x
  | k + 1 => tms (pN x k) (pN x k)
def invN (x : UInt8) : Nat → UInt8
  | 0 => 1
  | k + 1 => tms (invN x k) (pN x (k + 1))
def outN (v : UInt8) : Nat → UInt8
  | 0 => 99
  | k + 1 => outN v k ^^^ ((if k < 8 then v <<< UInt8.ofNat k else 0) ||| (if 8 - k < 8 then v >>> UInt8.ofNat (8 - k) else 0))
theorem tab_is {g : UInt8 → UInt8} {l : List UInt8} (h : ((List.range 256).all fun n => g (UInt8.ofNat n) == l.getD n 0) = true) (x : UInt8) : g x = l.getD x.toNat 0 := by
  have := eq_of_beq (List.all_eq_true.1 h x.toNat (List.mem_range.2 x.toNat_lt))
  rwa [UInt8.ofNat_toNat] at this
theorem p_step {k : Nat} {l l' : List UInt8} (h : ∀ x, pN x k = l.getD x.toNat 0) (h' : ((List.range 256).all fun n => tms (l.getD n 0) (l.getD n 0) == l'.getD n 0) = true) (x : UInt8) : pN x (k + 1) = l'.getD x.toNat 0 := by
  show tms (pN x k) (pN x k) = _
  rw [h]
  exact eq_of_beq (List.all_eq_true.1 h' x.toNat (List.mem_range.2 x.toNat_lt))
theorem inv_step {k : Nat} {l l' l'' : List UInt8} (h : ∀ x, invN x k = l.getD x.toNat 0) (hp : ∀ x, pN x (k + 1) = l'.getD x.toNat 0) (h' : ((List.range 256).all fun n => tms (l.getD n 0) (l'.getD n 0) == l''.getD n 0) = true) (x : UInt8) : invN x (k + 1) = l''.getD x.toNat 0 := by
  show tms (invN x k) (pN x (k + 1)) = _
  rw [h, hp]
  exact eq_of_beq (List.all_eq_true.1 h' x.toNat (List.mem_range.2 x.toNat_lt))
def pL0 : List UInt8 := [0, 1, 2, 3, 4, 5, 6, 7, 8, 9, 10, 11, 12, 13, 14, 15, 16, 17, 18, 19, 20, 21, 22, 23, 24, 25, 26, 27, 28, 29, 30, 31, 32, 33, 34, 35, 36, 37, 38, 39, 40, 41, 42, 43, 44, 45, 46, 47, 48, 49, 50, 51, 52, 53, 54, 55, 56, 57, 58, 59, 60, 61, 62, 63, 64, 65, 66, 67, 68, 69, 70, 71, 72, 73, 74, 75, 76, 77, 78, 79, 80, 81, 82, 83, 84, 85, 86, 87, 88, 89, 90, 91, 92, 93, 94, 95, 96, 97, 98, 99, 100, 101, 102, 103, 104, 105, 106, 107, 108, 109, 110, 111, 112, 113, 114, 115, 116, 117, 118, 119, 120, 121, 122, 123, 124, 125, 126, 127, 128, 129, 130, 131, 132, 133, 134, 135, 136, 137, 138, 139, 140, 141, 142, 143, 144, 145, 146, 147, 148, 149, 150, 151, 152, 153, 154, 155, 156, 157, 158, 159, 160, 161, 162, 163, 164, 165, 166, 167, 168, 169, 170, 171, 172, 173, 174, 175, 176, 177, 178, 179, 180, 181, 182, 183, 184, 185, 186, 187, 188, 189, 190, 191, 192, 193, 194, 195, 196, 197, 198, 199, 200, 201, 202, 203, 204, 205, 206, 207, 208, 209, 210, 211, 212, 213, 214, 215, 216, 217, 218, 219, 220, 221, 222, 223, 224, 225, 226, 227, 228, 229, 230, 231, 232, 233, 234, 235, 236, 237, 238, 239, 240, 241, 242, 243, 244, 245, 246, 247, 248, 249, 250, 251, 252, 253, 254, 255]
def iL0 : List UInt8 := [1, 1, 1, 1, 1, 1, 1, 1, 1, 1, 1, 1, 1, 1, 1, 1, 1, 1, 1, 1, 1, 1, 1, 1, 1, 1, 1, 1, 1, 1, 1, 1, 1, 1, 1, 1, 1, 1, 1, 1, 1, 1, 1, 1, 1, 1, 1, 1, 1, 1, 1, 1, 1, 1, 1, 1, 1, 1, 1, 1, 1, 1, 1, 1, 1, 1, 1, 1, 1, 1, 1, 1, 1, 1, 1, 1, 1, 1, 1, 1, 1, 1, 1, 1, 1, 1, 1, 1, 1, 1, 1, 1, 1, 1, 1, 1, 1, 1, 1, 1, 1, 1, 1, 1, 1, 1, 1, 1, 1, 1, 1, 1, 1, 1, 1, 1, 1, 1, 1, 1, 1, 1, 1, 1, 1, 1, 1, 1, 1, 1, 1, 1, 1, 1, 1, 1, 1, 1, 1, 1, 1, 1, 1, 1, 1, 1, 1, 1, 1, 1, 1, 1, 1, 1, 1, 1, 1, 1, 1, 1, 1, 1, 1, 1, 1, 1, 1, 1, 1, 1, 1, 1, 1, 1, 1, 1, 1, 1, 1, 1, 1, 1, 1, 1, 1, 1, 1, 1, 1, 1, 1, 1, 1, 1, 1, 1, 1, 1, 1, 1, 1, 1, 1, 1, 1, 1, 1, 1, 1, 1, 1, 1, 1, 1, 1, 1, 1, 1, 1, 1, 1, 1, 1, 1, 1, 1, 1, 1, 1, 1, 1, 1, 1, 1, 1, 1, 1, 1, 1, 1, 1, 1, 1, 1, 1, 1, 1, 1, 1, 1, 1, 1, 1, 1, 1, 1]
def pL1 : List UInt8 := [0, 1, 4, 5, 16, 17, 20, 21, 64, 65, 68, 69, 80, 81, 84, 85, 27, 26, 31, 30, 11, 10, 15, 14, 91, 90, 95, 94, 75, 74, 79, 78, 108, 109, 104, 105, 124, 125, 120, 121, 44, 45, 40, 41, 60, 61, 56, 57, 119, 118, 115, 114, 103, 102, 99, 98, 55, 54, 51, 50, 39, 38, 35, 34, 171, 170, 175, 174, 187, 186, 191, 190, 235, 234, 239, 238, 251, 250, 255, 254, 176, 177, 180, 181, 160, 161, 164, 165, 240, 241, 244, 245, 224, 225, 228, 229, 199, 198, 195, 194, 215, 214, 211, 210, 135, 134, 131, 130, 151, 150, 147, 146, 220, 221, 216, 217, 204, 205, 200, 201, 156, 157, 152, 153, 140, 141, 136, 137, 154, 155, 158, 159, 138, 139, 142, 143, 218, 219, 222, 223, 202, 203, 206, 207, 129, 128, 133, 132, 145, 144, 149, 148, 193, 192, 197, 196, 209, 208, 213, 212, 246, 247, 242, 243, 230, 231, 226, 227, 182, 183, 178, 179, 166, 167, 162, 163, 237, 236, 233, 232, 253, 252, 249, 248, 173, 172, 169, 168, 189, 188, 185, 184, 49, 48, 53, 52, 33, 32, 37, 36, 113, 112, 117, 116, 97, 96, 101, 100, 42, 43, 46, 47, 58, 59, 62, 63, 106, 107, 110, 111, 122, 123, 126, 127, 93, 92, 89, 88, 77, 76, 73, 72, 29, 28, 25, 24, 13, 12, 9, 8, 70, 71, 66, 67, 86, 87, 82, 83, 6, 7, 2, 3, 22, 23, 18, 19]
def iL1 : List UInt8 := [0, 1, 4, 5, 16, 17, 20, 21, 64, 65, 68, 69, 80, 81, 84, 85, 27, 26, 31, 30, 11, 10, 15, 14, 91, 90, 95, 94, 75, 74, 79, 78, 108, 109, 104, 105, 124, 125, 120, 121, 44, 45, 40, 41, 60, 61, 56, 57, 119, 118, 115, 114, 103, 102, 99, 98, 55, 54, 51, 50, 39, 38, 35, 34, 171, 170, 175, 174, 187, 186, 191, 190, 235, 234, 239, 238, 251, 250, 255, 254, 176, 177, 180, 181, 160, 161, 164, 165, 240, 241, 244, 245, 224, 225, 228, 229, 199, 198, 195, 194, 215, 214, 211, 210, 135, 134, 131, 130, 151, 150, 147, 146, 220, 221, 216, 217, 204, 205, 200, 201, 156, 157, 152, 153, 140, 141, 136, 137, 154, 155, 158, 159, 138, 139, 142, 143, 218, 219, 222, 223, 202, 203, 206, 207, 129, 128, 133, 132, 145, 144, 149, 148, 193, 192, 197, 196, 209, 208, 213, 212, 246, 247, 242, 243, 230, 231, 226, 227, 182, 183, 178, 179, 166, 167, 162, 163, 237, 236, 233, 232, 253, 252, 249, 248, 173, 172, 169, 168, 189, 188, 185, 184, 49, 48, 53, 52, 33, 32, 37, 36, 113, 112, 117, 116, 97, 96, 101, 100, 42, 43, 46, 47, 58, 59, 62, 63, 106, 107, 110, 111, 122, 123, 126, 127, 93, 92, 89, 88, 77, 76, 73, 72, 29, 28, 25, 24, 13, 12, 9, 8, 70, 71, 66, 67, 86, 87, 82, 83, 6, 7, 2, 3, 22, 23, 18, 19]
def pL2 : List UInt8 := [0, 1, 16, 17, 27, 26, 11, 10, 171, 170, 187, 186, 176, 177, 160, 161, 94, 95, 78, 79, 69, 68, 85, 84, 245, 244, 229, 228, 238, 239, 254, 255, 151, 150, 135, 134, 140, 141, 156, 157, 60, 61, 44, 45, 39, 38, 55, 54, 201, 200, 217, 216, 210, 211, 194, 195, 98, 99, 114, 115, 121, 120, 105, 104, 179, 178, 163, 162, 168, 169, 184, 185, 24, 25, 8, 9, 3, 2, 19, 18, 237, 236, 253, 252, 246, 247, 230, 231, 70, 71, 86, 87, 93, 92, 77, 76, 36, 37, 52, 53, 63, 62, 47, 46, 143, 142, 159, 158, 148, 149, 132, 133, 122, 123, 106, 107, 97, 96, 113, 112, 209, 208, 193, 192, 202, 203, 218, 219, 197, 196, 213, 212, 222, 223, 206, 207, 110, 111, 126, 127, 117, 116, 101, 100, 155, 154, 139, 138, 128, 129, 144, 145, 48, 49, 32, 33, 43, 42, 59, 58, 82, 83, 66, 67, 73, 72, 89, 88, 249, 248, 233, 232, 226, 227, 242, 243, 12, 13, 28, 29, 23, 22, 7, 6, 167, 166, 183, 182, 188, 189, 172, 173, 118, 119, 102, 103, 109, 108, 125, 124, 221, 220, 205, 204, 198, 199, 214, 215, 40, 41, 56, 57, 51, 50, 35, 34, 131, 130, 147, 146, 152, 153, 136, 137, 225, 224, 241, 240, 250, 251, 234, 235, 74, 75, 90, 91, 81, 80, 65, 64, 191, 190, 175, 174, 164, 165, 180, 181, 20, 21, 4, 5, 15, 14, 31, 30]
def iL2 : List UInt8 := [0, 1, 64, 85, 171, 161, 156, 130, 99, 137, 213, 43, 12, 237, 205, 56, 179, 247, 59, 107, 209, 158, 46, 117, 45, 130, 83, 232, 139, 47, 130, 50, 57, 195, 137, 103, 66, 179, 133, 96, 202, 219, 140, 137, 117, 111, 68, 74, 181, 10, 205, 102, 7, 179, 8, 168, 187, 239, 53, 117, 205, 146, 52, 127, 194, 219, 38, 43, 59, 41, 168, 174, 43, 217, 57, 223, 22, 239, 115, 158, 80, 12, 124, 52, 96, 55, 59, 120, 68, 243, 158, 61, 176, 12, 29, 181, 162, 64, 182, 64, 139, 98, 232, 21, 219, 210, 57, 36, 54, 52, 163, 181, 15, 168, 211, 96, 239, 67, 68, 252, 139, 199, 161, 249, 175, 232, 242, 161, 102, 56, 124, 54, 67, 22, 46, 111, 66, 247, 174, 15, 163, 29, 56, 146, 46, 53, 252, 243, 194, 210, 103, 99, 247, 7, 211, 55, 223, 36, 140, 99, 199, 98, 45, 156, 50, 156, 175, 21, 115, 61, 111, 53, 66, 7, 41, 120, 176, 80, 146, 102, 140, 103, 217, 38, 249, 242, 45, 50, 1, 1, 162, 182, 21, 83, 171, 249, 98, 47, 171, 242, 187, 22, 243, 74, 8, 174, 55, 133, 124, 127, 10, 29, 194, 202, 195, 223, 47, 199, 175, 83, 85, 182, 162, 85, 237, 80, 163, 10, 74, 252, 115, 209, 211, 133, 107, 41, 176, 237, 127, 54, 187, 67, 61, 209, 213, 38, 36, 195, 120, 107, 8, 15, 210, 202, 213, 217]
def pL3 : List UInt8 := [0, 1, 27, 26, 94, 95, 69, 68, 179, 178, 168, 169, 237, 236, 246, 247, 228, 229, 255, 254, 186, 187, 161, 160, 87, 86, 76, 77, 9, 8, 18, 19, 148, 149, 143, 142, 202, 203, 209, 208, 39, 38, 60, 61, 121, 120, 98, 99, 112, 113, 107, 106, 46, 47, 53, 52, 195, 194, 216, 217, 157, 156, 134, 135, 232, 233, 243, 242, 182, 183, 173, 172, 91, 90, 64, 65, 5, 4, 30, 31, 12, 13, 23, 22, 82, 83, 73, 72, 191, 190, 164, 165, 225, 224, 250, 251, 124, 125, 103, 102, 34, 35, 57, 56, 207, 206, 212, 213, 145, 144, 138, 139, 152, 153, 131, 130, 198, 199, 221, 220, 43, 42, 48, 49, 117, 116, 110, 111, 32, 33, 59, 58, 126, 127, 101, 100, 147, 146, 136, 137, 205, 204, 214, 215, 196, 197, 223, 222, 154, 155, 129, 128, 119, 118, 108, 109, 41, 40, 50, 51, 180, 181, 175, 174, 234, 235, 241, 240, 7, 6, 28, 29, 89, 88, 66, 67, 80, 81, 75, 74, 14, 15, 21, 20, 227, 226, 248, 249, 189, 188, 166, 167, 200, 201, 211, 210, 150, 151, 141, 140, 123, 122, 96, 97, 37, 36, 62, 63, 44, 45, 55, 54, 114, 115, 105, 104, 159, 158, 132, 133, 193, 192, 218, 219, 92, 93, 71, 70, 2, 3, 25, 24, 239, 238, 244, 245, 177, 176, 170, 171, 184, 185, 163, 162, 230, 231, 253, 252, 11, 10, 16, 17, 85, 84, 78, 79]
def iL3 : List UInt8 := [0, 1, 154, 19, 197, 30, 214, 243, 102, 167, 174, 35, 176, 225, 178, 217, 32, 79, 24, 165, 62, 67, 115, 170, 144, 20, 254, 108, 191, 99, 231, 91, 198, 42, 192, 23, 223, 106, 55, 207, 104, 210, 34, 103, 135, 46, 96, 64, 86, 71, 61, 77, 202, 74, 179, 36, 199, 171, 228, 45, 143, 56, 253, 153, 211, 227, 85, 181, 162, 105, 136, 229, 150, 248, 194, 184, 78, 145, 245, 72, 237, 92, 238, 213, 233, 107, 186, 196, 222, 26, 11, 129, 81, 236, 151, 18, 133, 114, 124, 232, 221, 82, 239, 117, 49, 14, 4, 156, 37, 40, 152, 68, 73, 172, 250, 38, 58, 111, 190, 164, 98, 100, 25, 226, 127, 131, 112, 7, 116, 121, 209, 16, 48, 168, 84, 118, 220, 21, 119, 182, 137, 159, 160, 200, 39, 203, 187, 193, 141, 60, 44, 125, 90, 89, 204, 157, 195, 215, 43, 27, 28, 130, 22, 247, 169, 33, 5, 132, 66, 142, 88, 47, 3, 147, 252, 161, 12, 224, 240, 57, 9, 59, 175, 206, 110, 251, 134, 242, 189, 188, 76, 218, 241, 244, 29, 140, 208, 97, 216, 139, 185, 230, 219, 212, 51, 146, 246, 113, 63, 52, 205, 8, 94, 41, 180, 123, 2, 120, 122, 10, 234, 166, 201, 249, 177, 13, 17, 138, 148, 31, 183, 109, 54, 70, 6, 149, 93, 80, 173, 53, 126, 95, 15, 83, 69, 155, 75, 158, 101, 163, 128, 255, 50, 65, 235, 87]
def pL4 : List UInt8 := [0, 1, 94, 95, 228, 229, 186, 187, 232, 233, 182, 183, 12, 13, 82, 83, 77, 76, 19, 18, 169, 168, 247, 246, 165, 164, 251, 250, 65, 64, 31, 30, 145, 144, 207, 206, 117, 116, 43, 42, 121, 120, 39, 38, 157, 156, 195, 194, 220, 221, 130, 131, 56, 57, 102, 103, 52, 53, 106, 107, 208, 209, 142, 143, 29, 28, 67, 66, 249, 248, 167, 166, 245, 244, 171, 170, 17, 16, 79, 78, 80, 81, 14, 15, 180, 181, 234, 235, 184, 185, 230, 231, 92, 93, 2, 3, 140, 141, 210, 211, 104, 105, 54, 55, 100, 101, 58, 59, 128, 129, 222, 223, 193, 192, 159, 158, 37, 36, 123, 122, 41, 40, 119, 118, 205, 204, 147, 146, 108, 109, 50, 51, 136, 137, 214, 215, 132, 133, 218, 219, 96, 97, 62, 63, 33, 32, 127, 126, 197, 196, 155, 154, 201, 200, 151, 150, 45, 44, 115, 114, 253, 252, 163, 162, 25, 24, 71, 70, 21, 20, 75, 74, 241, 240, 175, 174, 176, 177, 238, 239, 84, 85, 10, 11, 88, 89, 6, 7, 188, 189, 226, 227, 113, 112, 47, 46, 149, 148, 203, 202, 153, 152, 199, 198, 125, 124, 35, 34, 60, 61, 98, 99, 216, 217, 134, 135, 212, 213, 138, 139, 48, 49, 110, 111, 224, 225, 190, 191, 4, 5, 90, 91, 8, 9, 86, 87, 236, 237, 178, 179, 173, 172, 243, 242, 73, 72, 23, 22, 69, 68, 27, 26, 161, 160, 255, 254]
def iL4 : List UInt8 := [0, 1, 57, 102, 54, 211, 53, 8, 74, 29, 171, 211, 1, 1, 211, 179, 99, 47, 179, 239, 102, 64, 171, 102, 57, 8, 57, 194, 171, 179, 8, 232, 232, 74, 29, 8, 8, 99, 64, 47, 53, 74, 194, 29, 102, 239, 53, 102, 54, 194, 211, 64, 54, 99, 47, 211, 102, 211, 8, 102, 211, 8, 239, 232, 239, 74, 99, 211, 179, 47, 211, 29, 211, 74, 232, 179, 194, 211, 29, 64, 1, 1, 99, 239, 47, 232, 179, 194, 53, 179, 64, 54, 1, 1, 53, 54, 74, 57, 47, 57, 171, 29, 194, 99, 74, 64, 232, 54, 29, 239, 171, 54, 53, 211, 171, 47, 211, 232, 53, 99, 171, 57, 211, 57, 64, 194, 239, 211, 64, 179, 99, 29, 232, 194, 171, 239, 8, 47, 29, 53, 171, 53, 179, 8, 171, 8, 99, 179, 239, 64, 8, 74, 47, 54, 171, 232, 179, 54, 194, 74, 57, 29, 57, 53, 232, 53, 64, 99, 29, 54, 239, 8, 8, 54, 47, 194, 1, 1, 8, 64, 194, 8, 74, 99, 57, 239, 57, 232, 1, 1, 74, 47, 99, 57, 54, 57, 29, 179, 54, 239, 102, 194, 179, 102, 47, 29, 232, 64, 99, 232, 194, 53, 239, 53, 74, 179, 179, 57, 64, 57, 102, 47, 74, 102, 1, 1, 171, 194, 102, 99, 29, 102, 171, 64, 239, 47, 1, 1, 232, 29, 102, 232, 54, 102, 171, 99, 54, 74, 194, 239, 47, 53, 64, 53, 171, 74]
def pL5 : List UInt8 := [0, 1, 228, 229, 77, 76, 169, 168, 29, 28, 249, 248, 80, 81, 180, 181, 250, 251, 30, 31, 183, 182, 83, 82, 231, 230, 3, 2, 170, 171, 78, 79, 128, 129, 100, 101, 205, 204, 41, 40, 157, 156, 121, 120, 208, 209, 52, 53, 122, 123, 158, 159, 55, 54, 211, 210, 103, 102, 131, 130, 42, 43, 206, 207, 74, 75, 174, 175, 7, 6, 227, 226, 87, 86, 179, 178, 26, 27, 254, 255, 176, 177, 84, 85, 253, 252, 25, 24, 173, 172, 73, 72, 224, 225, 4, 5, 202, 203, 46, 47, 135, 134, 99, 98, 215, 214, 51, 50, 154, 155, 126, 127, 48, 49, 212, 213, 125, 124, 153, 152, 45, 44, 201, 200, 96, 97, 132, 133, 151, 150, 115, 114, 218, 219, 62, 63, 138, 139, 110, 111, 199, 198, 35, 34, 109, 108, 137, 136, 32, 33, 196, 197, 112, 113, 148, 149, 61, 60, 217, 216, 23, 22, 243, 242, 90, 91, 190, 191, 10, 11, 238, 239, 71, 70, 163, 162, 237, 236, 9, 8, 160, 161, 68, 69, 240, 241, 20, 21, 189, 188, 89, 88, 221, 220, 57, 56, 144, 145, 116, 117, 192, 193, 36, 37, 141, 140, 105, 104, 39, 38, 195, 194, 106, 107, 142, 143, 58, 59, 222, 223, 119, 118, 147, 146, 93, 92, 185, 184, 16, 17, 244, 245, 64, 65, 164, 165, 13, 12, 233, 232, 167, 166, 67, 66, 234, 235, 14, 15, 186, 187, 94, 95, 247, 246, 19, 18]
def iL5 : List UInt8 := [0, 1, 216, 178, 106, 233, 185, 55, 211, 87, 195, 166, 80, 81, 79, 111, 131, 28, 173, 240, 172, 98, 219, 30, 147, 113, 75, 159, 24, 194, 70, 167, 16, 112, 248, 5, 50, 108, 174, 244, 234, 163, 73, 175, 25, 243, 83, 171, 63, 214, 21, 204, 85, 239, 232, 252, 181, 179, 116, 7, 90, 67, 3, 183, 47, 165, 205, 124, 52, 226, 149, 180, 218, 118, 53, 91, 65, 51, 227, 191, 176, 177, 78, 223, 254, 146, 153, 222, 109, 246, 221, 132, 224, 225, 212, 238, 213, 197, 22, 29, 186, 76, 8, 161, 6, 17, 37, 187, 27, 220, 121, 209, 135, 105, 97, 10, 128, 130, 62, 34, 162, 86, 207, 142, 115, 151, 44, 38, 250, 48, 168, 125, 208, 41, 26, 20, 60, 120, 42, 45, 217, 148, 95, 11, 193, 77, 43, 157, 228, 152, 122, 94, 100, 206, 2, 119, 242, 164, 182, 141, 18, 133, 202, 199, 192, 126, 84, 196, 210, 241, 231, 57, 14, 155, 140, 96, 237, 236, 72, 54, 255, 127, 46, 71, 129, 23, 89, 103, 189, 188, 253, 144, 101, 215, 74, 15, 201, 4, 32, 59, 35, 104, 107, 145, 154, 158, 229, 69, 230, 66, 247, 64, 203, 249, 251, 169, 198, 68, 39, 156, 143, 134, 40, 61, 93, 92, 160, 33, 58, 9, 49, 136, 99, 235, 200, 110, 13, 12, 245, 102, 150, 82, 117, 36, 123, 138, 31, 139, 190, 56, 114, 170, 137, 19, 184, 88]
def pL6 : List UInt8 := [0, 1, 77, 76, 250, 251, 183, 182, 74, 75, 7, 6, 176, 177, 253, 252, 2, 3, 79, 78, 248, 249, 181, 180, 72, 73, 5, 4, 178, 179, 255, 254, 154, 155, 215, 214, 96, 97, 45, 44, 208, 209, 157, 156, 42, 43, 103, 102, 152, 153, 213, 212, 98, 99, 47, 46, 210, 211, 159, 158, 40, 41, 101, 100, 239, 238, 162, 163, 21, 20, 88, 89, 165, 164, 232, 233, 95, 94, 18, 19, 237, 236, 160, 161, 23, 22, 90, 91, 167, 166, 234, 235, 93, 92, 16, 17, 117, 116, 56, 57, 143, 142, 194, 195, 63, 62, 114, 115, 197, 196, 136, 137, 119, 118, 58, 59, 141, 140, 192, 193, 61, 60, 112, 113, 199, 198, 138, 139, 148, 149, 217, 216, 110, 111, 35, 34, 222, 223, 147, 146, 36, 37, 105, 104, 150, 151, 219, 218, 108, 109, 33, 32, 220, 221, 145, 144, 38, 39, 107, 106, 14, 15, 67, 66, 244, 245, 185, 184, 68, 69, 9, 8, 190, 191, 243, 242, 12, 13, 65, 64, 246, 247, 187, 186, 70, 71, 11, 10, 188, 189, 241, 240, 123, 122, 54, 55, 129, 128, 204, 205, 49, 48, 124, 125, 203, 202, 134, 135, 121, 120, 52, 53, 131, 130, 206, 207, 51, 50, 126, 127, 201, 200, 132, 133, 225, 224, 172, 173, 27, 26, 86, 87, 171, 170, 230, 231, 81, 80, 28, 29, 227, 226, 174, 175, 25, 24, 84, 85, 169, 168, 228, 229, 83, 82, 30, 31]
def iL6 : List UInt8 := [0, 1, 179, 96, 232, 199, 168, 139, 53, 107, 127, 249, 12, 237, 83, 174, 29, 36, 137, 133, 182, 223, 67, 247, 21, 139, 124, 74, 50, 54, 139, 219, 99, 66, 107, 163, 46, 29, 59, 181, 161, 130, 85, 107, 247, 158, 43, 8, 140, 209, 83, 47, 120, 29, 171, 45, 41, 64, 211, 247, 83, 213, 175, 217, 102, 130, 68, 249, 137, 7, 45, 52, 249, 146, 99, 115, 117, 64, 111, 223, 80, 12, 15, 175, 181, 162, 137, 187, 43, 98, 223, 10, 176, 12, 239, 140, 103, 179, 61, 179, 50, 242, 74, 156, 130, 243, 99, 22, 194, 175, 55, 140, 205, 45, 57, 181, 64, 195, 43, 202, 50, 252, 199, 38, 56, 74, 210, 199, 47, 174, 15, 194, 195, 117, 67, 158, 46, 36, 52, 205, 55, 239, 174, 213, 67, 211, 202, 98, 102, 243, 163, 53, 36, 120, 57, 162, 115, 22, 85, 53, 252, 242, 21, 168, 219, 168, 56, 156, 111, 10, 158, 211, 46, 120, 7, 187, 176, 80, 213, 47, 85, 163, 146, 68, 38, 210, 21, 219, 1, 1, 103, 61, 156, 124, 232, 38, 242, 54, 232, 210, 41, 117, 98, 8, 171, 52, 162, 59, 15, 217, 209, 239, 102, 161, 66, 115, 54, 252, 56, 124, 96, 61, 103, 96, 237, 80, 55, 209, 8, 202, 111, 182, 57, 59, 133, 7, 176, 237, 217, 194, 41, 195, 10, 182, 127, 68, 22, 66, 187, 133, 171, 205, 243, 161, 127, 146]
def pL7 : List UInt8 := [0, 1, 250, 251, 2, 3, 248, 249, 239, 238, 21, 20, 237, 236, 23, 22, 4, 5, 254, 255, 6, 7, 252, 253, 235, 234, 17, 16, 233, 232, 19, 18, 197, 196, 63, 62, 199, 198, 61, 60, 42, 43, 208, 209, 40, 41, 210, 211, 193, 192, 59, 58, 195, 194, 57, 56, 46, 47, 212, 213, 44, 45, 214, 215, 8, 9, 242, 243, 10, 11, 240, 241, 231, 230, 29, 28, 229, 228, 31, 30, 12, 13, 246, 247, 14, 15, 244, 245, 227, 226, 25, 24, 225, 224, 27, 26, 205, 204, 55, 54, 207, 206, 53, 52, 34, 35, 216, 217, 32, 33, 218, 219, 201, 200, 51, 50, 203, 202, 49, 48, 38, 39, 220, 221, 36, 37, 222, 223, 145, 144, 107, 106, 147, 146, 105, 104, 126, 127, 132, 133, 124, 125, 134, 135, 149, 148, 111, 110, 151, 150, 109, 108, 122, 123, 128, 129, 120, 121, 130, 131, 84, 85, 174, 175, 86, 87, 172, 173, 187, 186, 65, 64, 185, 184, 67, 66, 80, 81, 170, 171, 82, 83, 168, 169, 191, 190, 69, 68, 189, 188, 71, 70, 153, 152, 99, 98, 155, 154, 97, 96, 118, 119, 140, 141, 116, 117, 142, 143, 157, 156, 103, 102, 159, 158, 101, 100, 114, 115, 136, 137, 112, 113, 138, 139, 92, 93, 166, 167, 94, 95, 164, 165, 179, 178, 73, 72, 177, 176, 75, 74, 88, 89, 162, 163, 90, 91, 160, 161, 183, 182, 77, 76, 181, 180, 79, 78]
def iL7 : List UInt8 := [0, 1, 141, 246, 203, 82, 123, 209, 232, 79, 41, 192, 176, 225, 229, 199, 116, 180, 170, 75, 153, 43, 96, 95, 88, 63, 253, 204, 255, 64, 238, 178, 58, 110, 90, 241, 85, 77, 168, 201, 193, 10, 152, 21, 48, 68, 162, 194, 44, 69, 146, 108, 243, 57, 102, 66, 242, 53, 32, 111, 119, 187, 89, 25, 29, 254, 55, 103, 45, 49, 245, 105, 167, 100, 171, 19, 84, 37, 233, 9, 237, 92, 5, 202, 76, 36, 135, 191, 24, 62, 34, 240, 81, 236, 97, 23, 22, 94, 175, 211, 73, 166, 54, 67, 244, 71, 145, 223, 51, 147, 33, 59, 121, 183, 151, 133, 16, 181, 186, 60, 182, 112, 208, 6, 161, 250, 129, 130, 131, 126, 127, 128, 150, 115, 190, 86, 155, 158, 149, 217, 247, 2, 185, 164, 222, 106, 50, 109, 216, 138, 132, 114, 42, 20, 159, 136, 249, 220, 137, 154, 251, 124, 46, 195, 143, 184, 101, 72, 38, 200, 18, 74, 206, 231, 210, 98, 12, 224, 31, 239, 17, 117, 120, 113, 165, 142, 118, 61, 189, 188, 134, 87, 11, 40, 47, 163, 218, 212, 228, 15, 169, 39, 83, 4, 27, 252, 172, 230, 122, 7, 174, 99, 197, 219, 226, 234, 148, 139, 196, 213, 157, 248, 144, 107, 177, 13, 214, 235, 198, 14, 207, 173, 8, 78, 215, 227, 93, 80, 30, 179, 91, 35, 56, 52, 104, 70, 3, 140, 221, 156, 125, 160, 205, 26, 65, 28]
theorem p_0 (x : UInt8) : pN x 0 = pL0.getD x.toNat 0 := tab_is (g := fun x => x) (by kernel_rfl) x
theorem inv_0 (x : UInt8) : invN x 0 = iL0.getD x.toNat 0 := tab_is (g := fun _ => 1) (by kernel_rfl) x
theorem p_1 (x : UInt8) : pN x 1 = pL1.getD x.toNat 0 := p_step p_0 (by kernel_rfl) x
theorem inv_1 (x : UInt8) : invN x 1 = iL1.getD x.toNat 0 := inv_step inv_0 p_1 (by kernel_rfl) x
theorem p_2 (x : UInt8) : pN x 2 = pL2.getD x.toNat 0 := p_step p_1 (by kernel_rfl) x
theorem inv_2 (x : UInt8) : invN x 2 = iL2.getD x.toNat 0 := inv_step inv_1 p_2 (by kernel_rfl) x
theorem p_3 (x : UInt8) : pN x 3 = pL3.getD x.toNat 0 := p_step p_2 (by kernel_rfl) x
theorem inv_3 (x : UInt8) : invN x 3 = iL3.getD x.toNat 0 := inv_step inv_2 p_3 (by kernel_rfl) x
theorem p_4 (x : UInt8) : pN x 4 = pL4.getD x.toNat 0 := p_step p_3 (by kernel_rfl) x
theorem inv_4 (x : UInt8) : invN x 4 = iL4.getD x.toNat 0 := inv_step inv_3 p_4 (by kernel_rfl) x
theorem p_5 (x : UInt8) : pN x 5 = pL5.getD x.toNat 0 := p_step p_4 (by kernel_rfl) x
theorem inv_5 (x : UInt8) : invN x 5 = iL5.getD x.toNat 0 := inv_step inv_4 p_5 (by kernel_rfl) x
theorem p_6 (x : UInt8) : pN x 6 = pL6.getD x.toNat 0 := p_step p_5 (by kernel_rfl) x
theorem inv_6 (x : UInt8) : invN x 6 = iL6.getD x.toNat 0 := inv_step inv_5 p_6 (by kernel_rfl) x
theorem p_7 (x : UInt8) : pN x 7 = pL7.getD x.toNat 0 := p_step p_6 (by kernel_rfl) x
theorem inv_7 (x : UInt8) : invN x 7 = iL7.getD x.toNat 0 := inv_step inv_6 p_7 (by kernel_rfl) x
theorem sub_is (x : UInt8) : outN (invN x 7) 5 = sbox x.toNat := by
  rw [inv_7]
  have h : ((List.range 256).all fun n => outN (iL7.getD n 0) 5 == sbox n) = true := by kernel_rfl
  exact eq_of_beq (List.all_eq_true.1 h x.toNat (List.mem_range.2 x.toNat_lt))
theorem twice_calls (x : UInt8) (w : World) : Ret Tryd.prog 54 #[V8 x] w fun v w' => v = V8 (dbl x) ∧ Chg [] w w' := by
 refine Ret.enter Tryd.func54 rfl ?_
 simp only [Tryd.ntmps54, fe, Nat.reduceAdd, Nat.reduceSub]
 have hH := Hp.start [] w
 refine wp_seq_k ?_
 intro K1 hK1
 refine wrt [.p 0] ?_
 refine pa ?_;simp only [nf]
 refine plan_nil hH ?_
 clear hH
 intro w2 hH
 refine hK1 _ _ ?_
 (try clear hK1 K1)
 refine wp_seq_k ?_
 intro K3 hK3
 refine wp_seq_k ?_
 intro K4 hK4
 refine wrt [.p 0, .p 1] ?_
 refine pm ?_;simp only [nf]
 refine pp rfl rfl (pr_bin rfl rfl (bin_geq_u8 _ 128)) ?_;simp only [nf]
 refine plan_nil hH ?_
 clear hH
 intro w5 hH
 refine hK4 _ _ ?_
 (try clear hK4 K4)
 refine wp_cond_split rfl (fun hc6 => ?_) (fun hc6 => ?_)
 ·
  (try simp only [cnd] at hc6)
  refine wp_seq_k ?_
  intro K7 hK7
  refine wrt [.p 0, .p 1, .p 2, .p 3] ?_
  refine pm ?_;simp only [nf]
  refine pp rfl rfl (pr_bin rfl rfl (bin_shlc_u8 1 1 (by decide) rfl _)) ?_;simp only [nf]
  refine pp rfl rfl (pr_bin rfl rfl (bin_xor_u8 _ 27)) ?_;simp only [nf]
  refine pa ?_;simp only [nf]
  refine plan_nil hH ?_
  clear hH
  intro w8 hH
  refine hK7 _ _ ?_
  (try clear hK7 K7)
  refine wp_ret ?_
  (try simp only [Exit.then, Exit.inBlock, ↓reduceIte, Nat.reduceEqDiff])
  refine BP.ret1 rfl rfl ?_
  exact ⟨congrArg V8 (dbl_hi (by assumption)), hH.chg⟩
 ·
  (try simp only [cnd] at hc6)
  refine wp_skip ?_
  refine hK3 _ _ ?_
  (try clear hK3 K3)
  refine wp_seq_k ?_
  intro K9 hK9
  refine wrt [.p 0, .p 1, .p 2] ?_
  refine pm ?_;simp only [nf]
  refine pp rfl rfl (pr_bin rfl rfl (bin_shlc_u8 1 1 (by decide) rfl _)) ?_;simp only [nf]
  refine pa ?_;simp only [nf]
  refine plan_nil hH ?_
  clear hH
  intro w10 hH
  refine hK9 _ _ ?_
  (try clear hK9 K9)
  refine wp_ret ?_
  (try simp only [Exit.then, Exit.inBlock, ↓reduceIte, Nat.reduceEqDiff])
  refine BP.ret1 rfl rfl ?_
  exact ⟨congrArg V8 (dbl_lo (by assumption)), hH.chg⟩
theorem times_calls (x y : UInt8) (w : World) : Ret Tryd.prog 77 #[V8 x, V8 y] w fun v w' => v = V8 (tms x y) ∧ Chg [] w w' := by
 refine Ret.enter Tryd.func77 rfl ?_
 simp only [Tryd.ntmps77, fe, Nat.reduceAdd, Nat.reduceSub]
 have hH := Hp.start [] w
 refine wp_seq_k ?_
 intro K1 hK1
 refine wrt [.p 0] ?_
 refine pa ?_;simp only [nf]
 refine plan_nil hH ?_
 clear hH
 intro w2 hH
 refine hK1 _ _ ?_
 (try clear hK1 K1)
 refine wp_seq_k ?_
 intro K3 hK3
 refine wrt [.p 0] ?_
 refine pa ?_;simp only [nf]
 refine plan_nil hH ?_
 clear hH
 intro w4 hH
 refine hK3 _ _ ?_
 (try clear hK3 K3)
 refine wp_seq_k ?_
 intro K5 hK5
 refine wp_block ?_
 refine wp_loopT [0, 1, 5] [6, 7, 8, 9, 10, 11, 12, 13, 14, 15, 16, 17] (fun (n6 : Nat) (vs : List Value) (w' : World) => ∃ (n : Nat) (x' y' o' : UInt8), vs = [V8 x', V8 y', V8 o'] ∧ Hp [] w w' [] ∧ n6 = n ∧ tmsN n o' x' y' = tms x y ∧ y'.toNat < 2 ^ n) (8) (by kernel_rfl) ?_ ?_
 ·
  simp only [ga]
  refine ⟨8, x, y, 0, rfl, ?_, rfl, ?_, ?_⟩
  ·
   exact hH
  · first | omega | (rfl)
  · first | omega | (exact y.toNat_lt)
 clear hH
 intro n6 vs7 w8 hR9 d0
 obtain ⟨n, x', y', o', rfl, hH, hn10, hE, hY⟩ := hR9
 simp only [putAll, putD, List.set_cons_zero, List.set_cons_succ, Nat.zero_add, Nat.reduceAdd]
 refine wp_seq_k ?_
 intro K11 hK11
 refine wp_seq_k ?_
 intro K12 hK12
 refine wrt [.p 0, .p 1] ?_
 refine pm ?_;simp only [nf]
 refine pp rfl rfl (pr_bin rfl rfl (bin_gtr_u8 _ 0)) ?_;simp only [nf]
 refine plan_nil hH ?_
 clear hH
 intro w13 hH
 refine hK12 _ _ ?_
 (try clear hK12 K12)
 refine wp_cond_split rfl (fun hc14 => ?_) (fun hc14 => ?_)
 ·
  (try simp only [cnd] at hc14)
  obtain ⟨m, rfl⟩ := tms_some hY (by assumption)
  refine wp_skip ?_
  refine hK11 _ _ ?_
  (try clear hK11 K11)
  refine wp_block ?_
  refine wp_seq_k ?_
  intro K15 hK15
  refine wp_seq_k ?_
  intro K16 hK16
  refine wrt [.p 0, .p 1, .p 2] ?_
  refine pm ?_;simp only [nf]
  refine pp rfl rfl (pr_bin rfl rfl (bin_rem_u8 _ 2 (by decide))) ?_;simp only [nf]
  refine pp rfl rfl (pr_bin rfl rfl (bin_eql_u8 _ 1)) ?_;simp only [nf]
  refine plan_nil hH ?_
  clear hH
  intro w17 hH
  refine hK16 _ _ ?_
  (try clear hK16 K16)
  refine wp_cond_split rfl (fun hc18 => ?_) (fun hc18 => ?_)
  ·
   (try simp only [cnd] at hc18)
   refine wrt [.p 0, .p 1, .p 2, .p 3] ?_
   refine pm (pm ?_);simp only [nf]
   refine pp rfl rfl (pr_bin rfl rfl (bin_xor_u8 _ _)) ?_;simp only [nf]
   refine pa ?_;simp only [nf]
   refine plan_nil hH ?_
   clear hH
   intro w19 hH
   refine hK15 _ _ ?_
   (try clear hK15 K15)
   refine wp_seq_k ?_
   intro K20 hK20
   refine wrt [.p 0, .q 1, .p 2] ?_
   refine pm ?_;simp only [nf]
   refine pq rfl rfl (qr_call cf54 (fun w' hw => twice_calls _ w') rfl) ?_;simp only [nf]
   refine pa ?_;simp only [nf]
   refine plan_nil hH ?_
   clear hH
   intro w21 hH
   refine hK20 _ _ ?_
   (try clear hK20 K20)
   refine wrt [.p 0, .p 1, .p 2] ?_
   refine pm ?_;simp only [nf]
   refine pp rfl rfl (pr_bin rfl rfl (bin_quo_u8 _ 2 (by decide))) ?_;simp only [nf]
   refine pa ?_;simp only [nf]
   refine plan_nil hH ?_
   clear hH
   intro w22 hH
   (try simp only [Exit.then, Exit.inBlock, ↓reduceIte, Nat.reduceEqDiff])
   refine ⟨m, ?_, _, rfl, by kernel_rfl, ?_⟩
   · first | omega | (omega)
   simp only [ga]
   refine ⟨m, dbl x', y' / 2, o' ^^^ x', rfl, ?_, rfl, ?_, ?_⟩
   ·
    exact hH
   · first | omega | (first | exact (tms_odd (by assumption) (by assumption)).symm.trans hE | exact (tms_even (by assumption) (by assumption)).symm.trans hE)
   · first | omega | (exact tms_half hY)
  ·
   (try simp only [cnd] at hc18)
   refine wp_skip ?_
   refine hK15 _ _ ?_
   (try clear hK15 K15)
   refine wp_seq_k ?_
   intro K23 hK23
   refine wrt [.p 0, .q 1, .p 2] ?_
   refine pm ?_;simp only [nf]
   refine pq rfl rfl (qr_call cf54 (fun w' hw => twice_calls _ w') rfl) ?_;simp only [nf]
   refine pa ?_;simp only [nf]
   refine plan_nil hH ?_
   clear hH
   intro w24 hH
   refine hK23 _ _ ?_
   (try clear hK23 K23)
   refine wrt [.p 0, .p 1, .p 2] ?_
   refine pm ?_;simp only [nf]
   refine pp rfl rfl (pr_bin rfl rfl (bin_quo_u8 _ 2 (by decide))) ?_;simp only [nf]
   refine pa ?_;simp only [nf]
   refine plan_nil hH ?_
   clear hH
   intro w25 hH
   (try simp only [Exit.then, Exit.inBlock, ↓reduceIte, Nat.reduceEqDiff])
   refine ⟨m, ?_, _, rfl, by kernel_rfl, ?_⟩
   · first | omega | (omega)
   simp only [ga]
   refine ⟨m, dbl x', y' / 2, o', rfl, ?_, rfl, ?_, ?_⟩
   ·
    exact hH
   · first | omega | (first | exact (tms_odd (by assumption) (by assumption)).symm.trans hE | exact (tms_even (by assumption) (by assumption)).symm.trans hE)
   · first | omega | (exact tms_half hY)
 ·
  (try simp only [cnd] at hc14)
  refine wp_exit ?_
  (try simp only [Exit.then, Exit.inBlock, ↓reduceIte, Nat.reduceEqDiff])
  refine hK5 _ _ ?_
  (try clear hK5 K5)
  refine wp_seq_k ?_
  intro K26 hK26
  refine wrt [.p 0, .p 1] ?_
  refine pm (pa ?_);simp only [nf]
  refine plan_nil hH ?_
  clear hH
  intro w27 hH
  refine hK26 _ _ ?_
  (try clear hK26 K26)
  refine wp_ret ?_
  (try simp only [Exit.then, Exit.inBlock, ↓reduceIte, Nat.reduceEqDiff])
  refine BP.ret1 rfl rfl ?_
  exact ⟨congrArg V8 ((tms_end (by assumption)).symm.trans hE), hH.chg⟩
theorem refsub_calls (x : UInt8) (w : World) : Ret Tryd.prog 72 #[V8 x] w fun v w' => v = V8 (sbox x.toNat) ∧ Chg [] w w' := by
 refine Ret.enter Tryd.func72 rfl ?_
 simp only [Tryd.ntmps72, fe, Nat.reduceAdd, Nat.reduceSub]
 have hH := Hp.start [] w
 refine wp_seq_k ?_
 intro K1 hK1
 refine wrt [.p 0] ?_
 refine pa ?_;simp only [nf]
 refine plan_nil hH ?_
 clear hH
 intro w2 hH
 refine hK1 _ _ ?_
 (try clear hK1 K1)
 refine wp_seq_k ?_
 intro K3 hK3
 refine wrt [.p 0, .p 1, .p 2] ?_
 refine pm (pa (pa ?_));simp only [nf]
 refine plan_nil hH ?_
 clear hH
 intro w4 hH
 refine hK3 _ _ ?_
 (try clear hK3 K3)
 refine wp_seq_k ?_
 intro K5 hK5
 refine wp_seq_k ?_
 intro K6 hK6
 refine wrt [.p 0] ?_
 refine pka 0 ?_;simp only [nf]
 refine plan_nil hH ?_
 clear hH
 intro w7 hH
 refine hK6 _ _ ?_
 (try clear hK6 K6)
 refine wp_block ?_
 refine wp_loopT [3, 4, 5] [9, 10, 11, 12, 13, 14, 15, 16, 17, 18] (fun (n8 : Nat) (vs : List Value) (w' : World) => ∃ (k : Nat), vs = [V8 (invN x k), V8 (pN x k), I64 (k : Nat)] ∧ Hp [] w w' [] ∧ n8 = 7 - k ∧ k ≤ 7) (7 - 0) (by kernel_rfl) ?_ ?_
 ·
  simp only [ga]
  refine ⟨0, rfl, ?_, rfl, ?_⟩
  ·
   exact hH
  · first | omega | (omega)
 clear hH
 intro n8 vs9 w10 hR11 d0
 obtain ⟨k, rfl, hH, hn12, hf13⟩ := hR11
 simp only [putAll, putD, List.set_cons_zero, List.set_cons_succ, Nat.zero_add, Nat.reduceAdd]
 refine wp_seq_k ?_
 intro K14 hK14
 refine wp_seq_k ?_
 intro K15 hK15
 refine wrt [.p 0, .p 1] ?_
 refine pm ?_;simp only [nf]
 refine pp rfl rfl (pr_bin rfl rfl (by first | exact bin_lss_n (n := 7)  | exact bin_lss_i)) ?_;simp only [nf]
 refine plan_nil hH ?_
 clear hH
 intro w16 hH
 refine hK15 _ _ ?_
 (try clear hK15 K15)
 refine wp_cond_split rfl (fun hc17 => ?_) (fun hc17 => ?_)
 ·
  (try simp only [cnd] at hc17)
  refine wp_skip ?_
  refine hK14 _ _ ?_
  (try clear hK14 K14)
  refine wp_seq_k ?_
  intro K18 hK18
  refine wp_block ?_
  refine wp_seq_k ?_
  intro K19 hK19
  refine wrt [.p 0, .p 1, .q 2, .p 3] ?_
  refine pm (pm ?_);simp only [nf]
  refine pq rfl rfl (qr_call cf77 (fun w' hw => times_calls _ _ w') rfl) ?_;simp only [nf]
  refine pa ?_;simp only [nf]
  refine plan_nil hH ?_
  clear hH
  intro w20 hH
  refine hK19 _ _ ?_
  (try clear hK19 K19)
  refine wrt [.p 0, .p 1, .q 2, .p 3] ?_
  refine pm (pm ?_);simp only [nf]
  refine pq rfl rfl (qr_call cf77 (fun w' hw => times_calls _ _ w') rfl) ?_;simp only [nf]
  refine pa ?_;simp only [nf]
  refine plan_nil hH ?_
  clear hH
  intro w21 hH
  refine hK18 _ _ ?_
  (try clear hK18 K18)
  refine wrt [.p 0, .p 1, .p 2] ?_
  refine pm ?_;simp only [nf]
  refine pp rfl rfl (pr_bin rfl rfl (by first | exact bin_add_n (n := 1) (by omega) | exact bin_add_i (by omega) (by omega))) ?_;simp only [nf]
  refine pa ?_;simp only [nf]
  refine plan_nil hH ?_
  clear hH
  intro w22 hH
  (try simp only [Exit.then, Exit.inBlock, ↓reduceIte, Nat.reduceEqDiff])
  refine ⟨7 - (k + 1), ?_, _, rfl, by kernel_rfl, ?_⟩
  · first | omega | (omega)
  simp only [ga]
  refine ⟨k + 1, rfl, ?_, rfl, ?_⟩
  ·
   exact hH
  · first | omega | (omega)
 ·
  (try simp only [cnd] at hc17)
  obtain rfl : k = 7 := by omega
  refine wp_exit ?_
  (try simp only [Exit.then, Exit.inBlock, ↓reduceIte, Nat.reduceEqDiff])
  refine hK5 _ _ ?_
  (try clear hK5 K5)
  refine wp_seq_k ?_
  intro K23 hK23
  refine wrt [.p 0] ?_
  refine pa ?_;simp only [nf]
  refine plan_nil hH ?_
  clear hH
  intro w24 hH
  refine hK23 _ _ ?_
  (try clear hK23 K23)
  refine wp_seq_k ?_
  intro K25 hK25
  refine wp_seq_k ?_
  intro K26 hK26
  refine wrt [.p 0] ?_
  refine pka 0 ?_;simp only [nf]
  refine plan_nil hH ?_
  clear hH
  intro w27 hH
  refine hK26 _ _ ?_
  (try clear hK26 K26)
  refine wp_block ?_
  refine wp_loopT [6, 7] [19, 20, 21, 22, 23, 24, 25, 26, 27, 28, 29, 30, 31, 32] (fun (n28 : Nat) (vs : List Value) (w' : World) => ∃ (j : Nat), vs = [V8 (outN (invN x 7) j), I64 (j : Nat)] ∧ Hp [] w w' [] ∧ n28 = 5 - j ∧ j ≤ 5) (5 - 0) (by kernel_rfl) ?_ ?_
  ·
   simp only [ga]
   refine ⟨0, rfl, ?_, rfl, ?_⟩
   ·
    exact hH
   · first | omega | (omega)
  clear hH
  intro n28 vs29 w30 hR31 d1
  obtain ⟨j, rfl, hH, hn32, hf33⟩ := hR31
  simp only [putAll, putD, List.set_cons_zero, List.set_cons_succ, Nat.zero_add, Nat.reduceAdd]
  refine wp_seq_k ?_
  intro K34 hK34
  refine wp_seq_k ?_
  intro K35 hK35
  refine wrt [.p 0, .p 1] ?_
  refine pm ?_;simp only [nf]
  refine pp rfl rfl (pr_bin rfl rfl (by first | exact bin_lss_n (n := 5)  | exact bin_lss_i)) ?_;simp only [nf]
  refine plan_nil hH ?_
  clear hH
  intro w36 hH
  refine hK35 _ _ ?_
  (try clear hK35 K35)
  refine wp_cond_split rfl (fun hc37 => ?_) (fun hc37 => ?_)
  ·
   (try simp only [cnd] at hc37)
   refine wp_skip ?_
   refine hK34 _ _ ?_
   (try clear hK34 K34)
   refine wp_seq_k ?_
   intro K38 hK38
   refine wp_block ?_
   refine wrp [.p 0, .p 1, .p 2, .p 3, .p 4, .p 5, .p 6, .p 7, .p 8, .p 9, .p 10] ?_
   refine pm (pm (pm ?_));simp only [nf]
   refine pp rfl rfl (pr_bin rfl rfl (bin_shl_u8 _ _ _)) ?_;simp only [nf]
   refine pm (pm ?_);simp only [nf]
   refine pp rfl rfl (pr_bin rfl rfl (by first | exact bin_sub_n (m := 8) (by omega) (by omega) | exact bin_sub_i (by omega) (by omega))) ?_;simp only [nf]
   refine pp rfl rfl (pr_bin rfl rfl (bin_shr_u8 _ _ _)) ?_;simp only [nf]
   refine pp rfl rfl (pr_bin rfl rfl (bin_or_u8 _ _)) ?_;simp only [nf]
   refine pp rfl rfl (pr_bin rfl rfl (bin_xor_u8 _ _)) ?_;simp only [nf]
   refine pa ?_;simp only [nf]
   refine plan_nil hH ?_
   clear hH
   intro w39 hH
   refine hK38 _ _ ?_
   (try clear hK38 K38)
   refine wrt [.p 0, .p 1, .p 2] ?_
   refine pm ?_;simp only [nf]
   refine pp rfl rfl (pr_bin rfl rfl (by first | exact bin_add_n (n := 1) (by omega) | exact bin_add_i (by omega) (by omega))) ?_;simp only [nf]
   refine pa ?_;simp only [nf]
   refine plan_nil hH ?_
   clear hH
   intro w40 hH
   (try simp only [Exit.then, Exit.inBlock, ↓reduceIte, Nat.reduceEqDiff])
   refine ⟨5 - (j + 1), ?_, _, rfl, by kernel_rfl, ?_⟩
   · first | omega | (omega)
   simp only [ga]
   refine ⟨j + 1, rfl, ?_, rfl, ?_⟩
   ·
    exact hH
   · first | omega | (omega)
  ·
   (try simp only [cnd] at hc37)
   refine wp_exit ?_
   (try simp only [Exit.then, Exit.inBlock, ↓reduceIte, Nat.reduceEqDiff])
   refine hK25 _ _ ?_
   (try clear hK25 K25)
   refine wp_seq_k ?_
   intro K41 hK41
   refine wrt [.p 0, .p 1] ?_
   refine pm (pa ?_);simp only [nf]
   refine plan_nil hH ?_
   clear hH
   intro w42 hH
   refine hK41 _ _ ?_
   (try clear hK41 K41)
   refine wp_ret ?_
   (try simp only [Exit.then, Exit.inBlock, ↓reduceIte, Nat.reduceEqDiff])
   refine BP.ret1 rfl rfl ?_
   obtain rfl : j = 5 := by omega
   exact ⟨congrArg V8 (sub_is x), hH.chg⟩
theorem table_calls (w : World) : Ret Tryd.prog 53 #[] w fun v w' => v = .agg (arr8 256 sbox) ∧ Chg [] w w' := by
 refine Ret.enter Tryd.func53 rfl ?_
 simp only [Tryd.ntmps53, fe, Nat.reduceAdd, Nat.reduceSub]
 have hH := Hp.start [] w
 refine wp_seq_k ?_
 intro K1 hK1
 refine wrt [.x 0] ?_
 refine plan_alloc rfl rfl hH zc99 ?_
 clear hH
 intro b2 w3 hH
 (try simp only [nf, nh, Value.cells] at hH ⊢)
 refine plan_nil hH ?_
 clear hH
 intro w4 hH
 refine hK1 _ _ ?_
 (try clear hK1 K1)
 refine wp_seq_k ?_
 intro K5 hK5
 refine wrt [.x 0] ?_
 refine plan_alloc rfl rfl hH zc99 ?_
 clear hH
 intro b6 w7 hH
 (try simp only [nf, nh, Value.cells] at hH ⊢)
 refine plan_nil hH ?_
 clear hH
 intro w8 hH
 refine hK5 _ _ ?_
 (try clear hK5 K5)
 refine wp_seq_k ?_
 intro K9 hK9
 refine wp_seq_k ?_
 intro K10 hK10
 refine wrt [.p 0] ?_
 refine pka 0 ?_;simp only [nf]
 refine plan_nil hH ?_
 clear hH
 intro w11 hH
 refine hK10 _ _ ?_
 (try clear hK10 K10)
 refine wp_block ?_
 refine wp_loopT [2] [3, 4, 5, 6, 7, 8, 9, 10, 11] (fun (n12 : Nat) (vs : List Value) (w' : World) => ∃ (k : Nat), vs = [I64 (k : Nat)] ∧ Hp [] w w' [(some b2, 99, arr8 256 fun _ => 0), (some b6, 99, arr8 256 fun i => if i < k then sbox i else 0)] ∧ n12 = 256 - k ∧ k ≤ 256) (256 - 0) (by kernel_rfl) ?_ ?_
 ·
  simp only [ga]
  refine ⟨0, rfl, ?_, rfl, ?_⟩
  ·
   exact hH.say 1 rfl (arr8_congr fun i hi => by rw [if_neg (by omega)])
  · first | omega | (omega)
 clear hH
 intro n12 vs13 w14 hR15 d0
 obtain ⟨k, rfl, hH, hn16, hf17⟩ := hR15
 simp only [putAll, putD, List.set_cons_zero, List.set_cons_succ, Nat.zero_add, Nat.reduceAdd]
 refine wp_seq_k ?_
 intro K18 hK18
 refine wp_seq_k ?_
 intro K19 hK19
 refine wrt [.p 0, .p 1] ?_
 refine pm ?_;simp only [nf]
 refine pp rfl rfl (pr_bin rfl rfl (by first | exact bin_lss_n (n := 256)  | exact bin_lss_i)) ?_;simp only [nf]
 refine plan_nil hH ?_
 clear hH
 intro w20 hH
 refine hK19 _ _ ?_
 (try clear hK19 K19)
 refine wp_cond_split rfl (fun hc21 => ?_) (fun hc21 => ?_)
 ·
  (try simp only [cnd] at hc21)
  refine wp_skip ?_
  refine hK18 _ _ ?_
  (try clear hK18 K18)
  refine wp_seq_k ?_
  intro K22 hK22
  refine wp_block ?_
  refine wrt [.p 0, .p 1, .p 2, .q 3, .p 4, .e 5] ?_
  refine pm (pm ?_);simp only [nf]
  refine pp rfl rfl (pr_conv rfl (by first | exact cnv_n_u8 Tryd.underlying3 Tryd.underlying5 | exact cnv_i_u8 Tryd.underlying3 Tryd.underlying5)) ?_;simp only [nf]
  refine pq rfl rfl (qr_call cf72 (fun w' hw => refsub_calls _ w') rfl) ?_;simp only [nf]
  refine pp rfl rfl (pr_idxA1 rfl rfl Tryd.underlying99 sz5 (by omega)) ?_;simp only [nf]
  refine plan_store1 1 rfl rfl hH rfl rfl rfl rfl sz5 (by simp <;> omega) ?_
  clear hH
  intro w23 hH
  (try simp only [nf, nh, Value.cells] at hH ⊢)
  refine plan_nil hH ?_
  clear hH
  intro w24 hH
  refine hK22 _ _ ?_
  (try clear hK22 K22)
  refine wrt [.p 0, .p 1, .p 2] ?_
  refine pm ?_;simp only [nf]
  refine pp rfl rfl (pr_bin rfl rfl (by first | exact bin_add_n (n := 1) (by omega) | exact bin_add_i (by omega) (by omega))) ?_;simp only [nf]
  refine pa ?_;simp only [nf]
  refine plan_nil hH ?_
  clear hH
  intro w25 hH
  (try simp only [Exit.then, Exit.inBlock, ↓reduceIte, Nat.reduceEqDiff])
  refine ⟨256 - (k + 1), ?_, _, rfl, by kernel_rfl, ?_⟩
  · first | omega | (omega)
  simp only [ga]
  refine ⟨k + 1, rfl, ?_, rfl, ?_⟩
  ·
   rw [ofNat_toNat8 k (by omega)] at hH
   exact hH.say 1 rfl (arr8_congr fun i hi => upd_lt (g := sbox) (z := fun _ => 0) rfl i)
  · first | omega | (omega)
 ·
  (try simp only [cnd] at hc21)
  refine wp_exit ?_
  (try simp only [Exit.then, Exit.inBlock, ↓reduceIte, Nat.reduceEqDiff])
  refine hK9 _ _ ?_
  (try clear hK9 K9)
  refine wp_seq_k ?_
  intro K26 hK26
  refine wrt [.q 0, .e 1] ?_
  refine pq rfl rfl (qr_loadW rfl (hH.blk 1 rfl) Tryd.underlying99 rfl sz99 (by simp)) ?_;simp only [nf]
  refine plan_storeW 0 rfl rfl hH rfl rfl rfl one_arr8 sz99 (by simp) (by simp) ?_
  clear hH
  intro w27 hH
  (try simp only [nf, nh, Value.cells] at hH ⊢)
  refine plan_nil hH ?_
  clear hH
  intro w28 hH
  refine hK26 _ _ ?_
  (try clear hK26 K26)
  refine wp_ret ?_
  (try simp only [Exit.then, Exit.inBlock, ↓reduceIte, Nat.reduceEqDiff])
  refine BP.retc rfl rfl (hH.blk 0 rfl) Tryd.underlying99 rfl sz99 (by simp) ?_
  exact ⟨by rw [arr8_congr fun i hi => if_pos (by omega)], hH.chg⟩
end Go.Proofs.YtmoaddicejohgaaDoor
set_option linter.unusedSimpArgs false
set_option linter.unusedVariables false
set_option maxRecDepth 100000
set_option maxHeartbeats 4000000
namespace Go.Proofs.YtmoaddicejohgaaDoor
open Go
open List (getD_cons_zero getD_cons_succ set_cons_zero set_cons_succ)
def readyF (key : Nat → UInt8) (n i : Nat) : UInt8 := if i < 256 then sbox i else if i - 256 < n then kexp key (i - 256) else 0
def keyF (key : Nat → UInt8) (i : Nat) : UInt8 := if i < 256 then sbox i else kexp key (i - 256)
def wF (key : Nat → UInt8) (i j : Nat) : UInt8 :=
  if i % 16 = 0 then sbox (kexp key (i - 4 + (j + 1) % 4)).toNat ^^^ (if j = 0 then conN (i / 16 - 1) else 0) else kexp key (i - 4 + j)
theorem readyF_w (key : Nat → UInt8) {n i : Nat} (h : i < n) : readyF key n (256 + i) = kexp key i := by
  unfold readyF
  rw [if_neg (by omega), if_pos (by omega), Nat.add_sub_cancel_left]
theorem readyF_t (key : Nat → UInt8) {n i : Nat} (h : i < 256) : readyF key n i = sbox i := if_pos h
theorem ready_step (key : Nat → UInt8) {i j : Nat} (hi : 16 ≤ i) (h4 : i % 4 = 0) (hj : j < 4) : kexp key (i + j - 16) ^^^ wF key i j = kexp key (i + j) := by
  unfold wF
  by_cases h : i % 16 = 0
  · rw [if_pos h, kexp_a (n := i + j) _ (by omega) (by omega)]
    rw [show i + j - (i + j) % 16 - 4 + ((i + j) % 16 + 1) % 4 = i - 4 + (j + 1) % 4 by omega]
    by_cases h0 : j = 0
    · rw [if_pos h0, if_pos (by omega), show (i + j) / 16 - 1 = i / 16 - 1 by omega]
    · rw [if_neg h0, if_neg (by omega)]
  · rw [if_neg h, kexp_b (n := i + j) _ (by omega) (by omega), show i + j - 4 = i - 4 + j by omega]
theorem ready_upd (key : Nat → UInt8) {i j : Nat} (hi : 16 ≤ i) (h4 : i % 4 = 0) (hj : j < 4) (n : Nat) :
    upd (readyF key (i + j)) (256 + (i + j)) (readyF key (i + j) (256 + (i + j - 16)) ^^^ wF key i j) n = readyF key (i + (j + 1)) n := by
  rw [readyF_w _ (by omega), ready_step _ hi h4 hj]
  simp only [upd]
  by_cases h : n = 256 + (i + j)
  · subst h; rw [if_pos rfl, readyF_w _ (by omega)]
  · rw [if_neg h]
    unfold readyF
    by_cases h1 : n < 256
    · rw [if_pos h1, if_pos h1]
    · rw [if_neg h1, if_neg h1]
      by_cases h2 : n - 256 < i + j
      · rw [if_pos h2, if_pos (by omega)]
      · rw [if_neg h2, if_neg (by omega)]
theorem quad_row (key : Nat → UInt8) (i : Nat) (hi : 16 ≤ i) :
    arr8 4 (fun n => [readyF key i (256 + (i - 4)), readyF key i (256 + (i - 3)), readyF key i (256 + (i - 2)), readyF key i (256 + (i - 1))].getD n 0) = arr8 4 fun j => kexp key (i - 4 + j) := by
  rw [readyF_w _ (by omega), readyF_w _ (by omega), readyF_w _ (by omega), readyF_w _ (by omega)]
  refine arr8_congr fun n hn => ?_
  obtain rfl | rfl | rfl | rfl : n = 0 ∨ n = 1 ∨ n = 2 ∨ n = 3 := by omega
  · rfl
  · show kexp key (i - 3) = _; congr 1; omega
  · show kexp key (i - 2) = _; congr 1; omega
  · show kexp key (i - 1) = _; congr 1; omega
theorem turn_row (key : Nat → UInt8) (i : Nat) {r : UInt8} (hr : r = conN ((i - 4) / 16)) (hi : 16 ≤ i) (h : i % 16 = 0) :
    arr8 4 (fun n => [readyF key i (kexp key (i - 4 + 1)).toNat ^^^ r, readyF key i (kexp key (i - 4 + 2)).toNat, readyF key i (kexp key (i - 4 + 3)).toNat, readyF key i (kexp key (i - 4)).toNat].getD n 0) = arr8 4 (wF key i) := by
  subst hr
  rw [readyF_t _ (lt_u8 _), readyF_t _ (lt_u8 _), readyF_t _ (lt_u8 _), readyF_t _ (lt_u8 _)]
  refine arr8_congr fun n hn => ?_
  unfold wF
  rw [if_pos h]
  obtain rfl | rfl | rfl | rfl : n = 0 ∨ n = 1 ∨ n = 2 ∨ n = 3 := by omega
  · rw [if_pos rfl, show (i - 4) / 16 = i / 16 - 1 by omega]; rfl
  · rw [if_neg (by omega), UInt8.xor_zero]; rfl
  · rw [if_neg (by omega), UInt8.xor_zero]; rfl
  · rw [if_neg (by omega), UInt8.xor_zero]; rfl
theorem ready_init (l : List UInt8) (key : Nat → UInt8) (hk : key = fun i => l.getD i 0) (h : l.length = 16) (i : Nat) : (if 256 ≤ i ∧ i < 256 + min l.length 176 then l.getD (i - 256) 0 else if i < 256 then sbox i else 0) = readyF key 16 i := by
  subst hk
  unfold readyF
  rw [h]
  by_cases h1 : i < 256
  · rw [if_neg (by omega), if_pos h1, if_pos h1]
  · rw [if_neg h1, if_neg h1]
    by_cases h2 : i - 256 < 16
    · rw [if_pos (by omega), if_pos (by omega), kexp_lo _ h2]
    · rw [if_neg (by omega), if_neg (by omega)]
theorem con_next {i : Nat} {r : UInt8} (hr : r = conN ((i - 4) / 16)) (hi : 16 ≤ i) (h : i % 16 = 0) : dbl r = conN ((i + 4 - 4) / 16) := by
  subst hr
  rw [show (i + 4 - 4) / 16 = (i - 4) / 16 + 1 by omega]; rfl
theorem con_same {i : Nat} {r : UInt8} (hr : r = conN ((i - 4) / 16)) (hi : 16 ≤ i) (h4 : i % 4 = 0) (h : ¬ i % 16 = 0) : r = conN ((i + 4 - 4) / 16) := by
  rw [show (i + 4 - 4) / 16 = (i - 4) / 16 by omega]; exact hr
theorem ready_done (key : Nat → UInt8) : arr8 432 (readyF key 176) = arr8 432 (keyF key) := arr8_congr fun i hi => by
  unfold readyF keyF
  by_cases h : i < 256
  · rw [if_pos h, if_pos h]
  · rw [if_neg h, if_neg h, if_pos (by omega)]
theorem ready_calls (s : ByteArray) (key : Nat → UInt8) (hk : key = fun i => s.data.toList.getD i 0) (w : World) (hs : s.data.toList.length = 16) :
    Ret Tryd.prog 39 #[.string s] w fun v w' => ∃ b, v = PT b 0 ∧ Chg [] w w' ∧ w.heap.size ≤ b ∧ Blk w' b 103 (arr8 432 (keyF key)) := by
 refine Ret.enter Tryd.func39 rfl ?_
 simp only [Tryd.ntmps39, fe, Nat.reduceAdd, Nat.reduceSub]
 have hH := Hp.start [] w
 refine wp_seq_k ?_
 intro K1 hK1
 refine wrt [.p 0] ?_
 refine pa ?_;simp only [nf]
 refine plan_nil hH ?_
 clear hH
 intro w2 hH
 refine hK1 _ _ ?_
 (try clear hK1 K1)
 refine wp_seq_k ?_
 intro K3 hK3
 refine wrt [.q 0, .p 1, .x 2, .p 3] ?_
 refine pq rfl rfl (qr_call cf53 (fun w' hw => table_calls w') rfl) ?_;simp only [nf]
 refine plan_p (v := .agg (arr8 432 fun i => if i < 256 then sbox i else 0)) rfl rfl (fun w => by kernel_rfl) ?_
 (try simp only [nf])
 refine plan_box rfl rfl hH rfl ?_
 clear hH
 intro b4 w5 hH
 (try simp only [nf, nh, Value.cells] at hH ⊢)
 refine pa ?_;simp only [nf]
 refine plan_nil hH ?_
 clear hH
 intro w6 hH
 refine hK3 _ _ ?_
 (try clear hK3 K3)
 refine wp_seq_k ?_
 intro K7 hK7
 refine wrt [.p 0, .p 1, .p 2, .p 3, .p 4, .e 5] ?_
 refine pm ?_;simp only [nf]
 refine pp rfl rfl (pr_nilCheck rfl) ?_;simp only [nf]
 refine pp rfl rfl (pr_fieldAddr 256 rfl Tryd.underlying103 rfl rfl sz101) ?_;simp only [nf]
 refine pp rfl rfl (pr_slice_arr_all rfl Tryd.underlying101 sz5) ?_;simp only [nf]
 (try simp only [Nat.mul_one, Nat.zero_add, Nat.add_sub_cancel_left])
 refine pm ?_;simp only [nf]
 refine plan_copy 0 rfl rfl hH rfl (fun w' hH => str_csrc _) rfl rfl Tryd.underlying22 sz5 (by first | omega | (exact Nat.lt_of_lt_of_le (lt_u8 _) (by omega))) ?_
 clear hH
 intro w8 hH
 (try simp only [nf, nh, Value.cells] at hH ⊢)
 refine plan_nil hH ?_
 clear hH
 intro w9 hH
 refine hK7 _ _ ?_
 (try clear hK7 K7)
 refine wp_seq_k ?_
 intro K10 hK10
 refine wrt [.p 0] ?_
 refine pa ?_;simp only [nf]
 refine plan_nil hH ?_
 clear hH
 intro w11 hH
 refine hK10 _ _ ?_
 (try clear hK10 K10)
 refine wp_seq_k ?_
 intro K12 hK12
 refine wp_seq_k ?_
 intro K13 hK13
 refine wrt [.p 0] ?_
 refine pka 16 ?_;simp only [nf]
 refine plan_nil hH ?_
 clear hH
 intro w14 hH
 refine hK13 _ _ ?_
 (try clear hK13 K13)
 refine wp_block ?_
 refine wp_loopT [4, 5] [6, 7, 17, 18, 19, 20, 21, 22, 23, 24, 25, 26, 27, 28, 29, 30, 31, 32, 33, 34, 35, 36, 37, 38, 39, 40, 41, 42, 43, 44, 45, 46, 47, 48, 49, 50, 51, 52, 53, 54, 55, 56, 57, 58, 59, 60, 61, 62, 63, 64, 65, 66, 67, 68, 69, 70, 71, 72, 73, 74, 75, 76, 77, 78, 79, 80, 81, 82, 83, 84, 85, 86, 87, 88, 89, 90, 91, 92, 93, 94, 95, 96, 97, 98, 99, 100, 101, 102, 103, 104, 105, 106, 107, 108, 109] (fun (n15 : Nat) (vs : List Value) (w' : World) => ∃ (i : Nat) (r : UInt8), vs = [V8 r, I64 (i : Nat)] ∧ Hp [] w w' [(some b4, 103, arr8 432 (readyF key i))] ∧ n15 = 176 - i ∧ 16 ≤ i ∧ i ≤ 176 ∧ i % 4 = 0 ∧ r = conN ((i - 4) / 16)) (176 - 16) (by kernel_rfl) ?_ ?_
 ·
  simp only [ga]
  refine ⟨16, 1, rfl, ?_, rfl, ?_, ?_, ?_, ?_⟩
  ·
   exact hH.say 0 rfl (arr8_congr fun i _ => ready_init _ key hk hs i)
  · first | omega | (omega)
  · first | omega | (omega)
  · first | omega | (omega)
  · first | omega | (rfl)
 clear hH
 intro n15 vs16 w17 hR18 d0
 obtain ⟨i, r, rfl, hH, hn19, hf20, hf21, hf22, hr⟩ := hR18
 simp only [putAll, putD, List.set_cons_zero, List.set_cons_succ, Nat.zero_add, Nat.reduceAdd]
 refine wp_seq_k ?_
 intro K23 hK23
 refine wp_seq_k ?_
 intro K24 hK24
 refine wrt [.p 0, .p 1] ?_
 refine pm ?_;simp only [nf]
 refine pp rfl rfl (pr_bin rfl rfl (by first | exact bin_lss_n (n := 176)  | exact bin_lss_i)) ?_;simp only [nf]
 refine plan_nil hH ?_
 clear hH
 intro w25 hH
 refine hK24 _ _ ?_
 (try clear hK24 K24)
 refine wp_cond_split rfl (fun hc26 => ?_) (fun hc26 => ?_)
 ·
  (try simp only [cnd] at hc26)
  refine wp_skip ?_
  refine hK23 _ _ ?_
  (try clear hK23 K23)
  refine wp_seq_k ?_
  intro K27 hK27
  refine wp_block ?_
  refine wp_seq_k ?_
  intro K28 hK28
  refine wrp [.p 0, .p 1, .p 2, .p 3, .p 4, .p 5, .p 7, .p 8, .p 9, .p 10, .p 11, .p 12, .p 14, .p 15, .p 16, .p 17, .p 18, .p 19, .p 21, .p 22, .p 23, .p 24, .p 25, .p 26, .q 6, .q 13, .q 20, .q 27, .p 28, .x 29, .e 30] ?_
  refine pm (pm ?_);simp only [nf]
  refine pp rfl rfl (pr_bin rfl rfl (by first | exact bin_sub_n (n := 4) (by first | omega | (exact Nat.lt_of_lt_of_le (lt_u8 _) (by omega))) (by first | omega | (exact Nat.lt_of_lt_of_le (lt_u8 _) (by omega))) | exact bin_sub_i (by first | omega | (exact Nat.lt_of_lt_of_le (lt_u8 _) (by omega))) (by first | omega | (exact Nat.lt_of_lt_of_le (lt_u8 _) (by omega))))) ?_;simp only [nf]
  refine pp rfl rfl (pr_nilCheck rfl) ?_;simp only [nf]
  refine pp rfl rfl (pr_fieldAddr 256 rfl Tryd.underlying103 rfl rfl sz101) ?_;simp only [nf]
  refine pp rfl rfl (pr_idxA1 rfl rfl Tryd.underlying101 sz5 (by first | omega | (exact Nat.lt_of_lt_of_le (lt_u8 _) (by omega)))) ?_;simp only [nf]
  refine pm (pm ?_);simp only [nf]
  refine pp rfl rfl (pr_bin rfl rfl (by first | exact bin_sub_n (n := 3) (by first | omega | (exact Nat.lt_of_lt_of_le (lt_u8 _) (by omega))) (by first | omega | (exact Nat.lt_of_lt_of_le (lt_u8 _) (by omega))) | exact bin_sub_i (by first | omega | (exact Nat.lt_of_lt_of_le (lt_u8 _) (by omega))) (by first | omega | (exact Nat.lt_of_lt_of_le (lt_u8 _) (by omega))))) ?_;simp only [nf]
  refine pp rfl rfl (pr_nilCheck rfl) ?_;simp only [nf]
  refine pp rfl rfl (pr_fieldAddr 256 rfl Tryd.underlying103 rfl rfl sz101) ?_;simp only [nf]
  refine pp rfl rfl (pr_idxA1 rfl rfl Tryd.underlying101 sz5 (by first | omega | (exact Nat.lt_of_lt_of_le (lt_u8 _) (by omega)))) ?_;simp only [nf]
  refine pm (pm ?_);simp only [nf]
  refine pp rfl rfl (pr_bin rfl rfl (by first | exact bin_sub_n (n := 2) (by first | omega | (exact Nat.lt_of_lt_of_le (lt_u8 _) (by omega))) (by first | omega | (exact Nat.lt_of_lt_of_le (lt_u8 _) (by omega))) | exact bin_sub_i (by first | omega | (exact Nat.lt_of_lt_of_le (lt_u8 _) (by omega))) (by first | omega | (exact Nat.lt_of_lt_of_le (lt_u8 _) (by omega))))) ?_;simp only [nf]
  refine pp rfl rfl (pr_nilCheck rfl) ?_;simp only [nf]
  refine pp rfl rfl (pr_fieldAddr 256 rfl Tryd.underlying103 rfl rfl sz101) ?_;simp only [nf]
  refine pp rfl rfl (pr_idxA1 rfl rfl Tryd.underlying101 sz5 (by first | omega | (exact Nat.lt_of_lt_of_le (lt_u8 _) (by omega)))) ?_;simp only [nf]
  refine pm (pm ?_);simp only [nf]
  refine pp rfl rfl (pr_bin rfl rfl (by first | exact bin_sub_n (n := 1) (by first | omega | (exact Nat.lt_of_lt_of_le (lt_u8 _) (by omega))) (by first | omega | (exact Nat.lt_of_lt_of_le (lt_u8 _) (by omega))) | exact bin_sub_i (by first | omega | (exact Nat.lt_of_lt_of_le (lt_u8 _) (by omega))) (by first | omega | (exact Nat.lt_of_lt_of_le (lt_u8 _) (by omega))))) ?_;simp only [nf]
  refine pp rfl rfl (pr_nilCheck rfl) ?_;simp only [nf]
  refine pp rfl rfl (pr_fieldAddr 256 rfl Tryd.underlying103 rfl rfl sz101) ?_;simp only [nf]
  refine pp rfl rfl (pr_idxA1 rfl rfl Tryd.underlying101 sz5 (by first | omega | (exact Nat.lt_of_lt_of_le (lt_u8 _) (by omega)))) ?_;simp only [nf]
  refine pq rfl rfl (qr_load1 rfl Tryd.underlying5 rfl ((hH.blk 0 rfl).cell (arr8_get (by first | omega | (exact Nat.lt_of_lt_of_le (lt_u8 _) (by omega)))))) ?_;simp only [nf]
  refine pq rfl rfl (qr_load1 rfl Tryd.underlying5 rfl ((hH.blk 0 rfl).cell (arr8_get (by first | omega | (exact Nat.lt_of_lt_of_le (lt_u8 _) (by omega)))))) ?_;simp only [nf]
  refine pq rfl rfl (qr_load1 rfl Tryd.underlying5 rfl ((hH.blk 0 rfl).cell (arr8_get (by first | omega | (exact Nat.lt_of_lt_of_le (lt_u8 _) (by omega)))))) ?_;simp only [nf]
  refine pq rfl rfl (qr_load1 rfl Tryd.underlying5 rfl ((hH.blk 0 rfl).cell (arr8_get (by first | omega | (exact Nat.lt_of_lt_of_le (lt_u8 _) (by omega)))))) ?_;simp only [nf]
  refine pp rfl rfl (pr_build (by rfl) (ba104 _ _ _ _)) ?_;simp only [nf]
  refine plan_alloc rfl rfl hH zc104 ?_
  clear hH
  intro b29 w30 hH
  (try simp only [nf, nh, Value.cells] at hH ⊢)
  refine plan_storeW 1 rfl rfl hH rfl rfl rfl one_arr8 sz104 (by simp) (by simp) ?_
  clear hH
  intro w31 hH
  (try simp only [nf, nh, Value.cells] at hH ⊢)
  refine plan_nil hH ?_
  clear hH
  intro w32 hH
  refine hK28 _ _ ?_
  (try clear hK28 K28)
  refine wp_seq_k ?_
  intro K33 hK33
  refine wp_seq_k ?_
  intro K34 hK34
  refine wrt [.p 0, .p 1, .p 2] ?_
  refine pm ?_;simp only [nf]
  refine pp rfl rfl (pr_bin rfl rfl (by first | exact bin_rem_n (n := 16) (by first | omega | (exact Nat.lt_of_lt_of_le (lt_u8 _) (by omega))))) ?_;simp only [nf]
  refine pp rfl rfl (pr_bin rfl rfl (by first | exact bin_eql_n (n := 0)  | exact bin_eql_i)) ?_;simp only [nf]
  refine plan_nil hH ?_
  clear hH
  intro w35 hH
  refine hK34 _ _ ?_
  (try clear hK34 K34)
  refine wp_cond_split rfl (fun hc36 => ?_) (fun hc36 => ?_)
  ·
   (try simp only [cnd] at hc36)
   replace hH := hH.say 1 rfl (quad_row key i (by omega))
   simp only [List.set_cons_zero, List.set_cons_succ] at hH
   refine wp_seq_k ?_
   intro K37 hK37
   refine wrp [.p 0, .p 1, .p 3, .p 4, .p 7, .p 9, .p 10, .p 12, .p 13, .p 16, .p 17, .p 19, .p 20, .p 23, .p 24, .p 26, .p 27, .q 2, .p 5, .q 6, .p 8, .q 11, .p 14, .q 15, .q 18, .p 21, .q 22, .q 25, .p 28, .q 29, .p 30, .e 31] ?_
   refine pm ?_;simp only [nf]
   refine pp rfl rfl (pr_idxA1 (i := 1) rfl rfl Tryd.underlying104 sz5 (by first | omega | (exact Nat.lt_of_lt_of_le (lt_u8 _) (by omega)))) ?_;simp only [nf]
   refine pp rfl rfl (pr_nilCheck rfl) ?_;simp only [nf]
   refine pp rfl rfl (pr_fieldAddr 0 rfl Tryd.underlying103 rfl rfl sz99) ?_;simp only [nf]
   refine pm (pm ?_);simp only [nf]
   refine pp rfl rfl (pr_idxA1 (i := 2) rfl rfl Tryd.underlying104 sz5 (by first | omega | (exact Nat.lt_of_lt_of_le (lt_u8 _) (by omega)))) ?_;simp only [nf]
   refine pp rfl rfl (pr_nilCheck rfl) ?_;simp only [nf]
   refine pp rfl rfl (pr_fieldAddr 0 rfl Tryd.underlying103 rfl rfl sz99) ?_;simp only [nf]
   refine pm ?_;simp only [nf]
   refine pp rfl rfl (pr_idxA1 (i := 3) rfl rfl Tryd.underlying104 sz5 (by first | omega | (exact Nat.lt_of_lt_of_le (lt_u8 _) (by omega)))) ?_;simp only [nf]
   refine pp rfl rfl (pr_nilCheck rfl) ?_;simp only [nf]
   refine pp rfl rfl (pr_fieldAddr 0 rfl Tryd.underlying103 rfl rfl sz99) ?_;simp only [nf]
   refine pm ?_;simp only [nf]
   refine pp rfl rfl (pr_idxA1 (i := 0) rfl rfl Tryd.underlying104 sz5 (by first | omega | (exact Nat.lt_of_lt_of_le (lt_u8 _) (by omega)))) ?_;simp only [nf]
   refine pp rfl rfl (pr_nilCheck rfl) ?_;simp only [nf]
   refine pp rfl rfl (pr_fieldAddr 0 rfl Tryd.underlying103 rfl rfl sz99) ?_;simp only [nf]
   refine pq rfl rfl (qr_load1 rfl Tryd.underlying5 rfl ((hH.blk 1 rfl).cell (arr8_get (by first | omega | (exact Nat.lt_of_lt_of_le (lt_u8 _) (by omega)))))) ?_;simp only [nf]
   refine pp rfl rfl (pr_idxA1 rfl rfl Tryd.underlying99 sz5 (by first | omega | (exact Nat.lt_of_lt_of_le (lt_u8 _) (by omega)))) ?_;simp only [nf]
   refine pq rfl rfl (qr_load1 rfl Tryd.underlying5 rfl ((hH.blk 0 rfl).cell (arr8_get (by first | omega | (exact Nat.lt_of_lt_of_le (lt_u8 _) (by omega)))))) ?_;simp only [nf]
   refine pp rfl rfl (pr_bin rfl rfl (bin_xor_u8 _ _)) ?_;simp only [nf]
   refine pq rfl rfl (qr_load1 rfl Tryd.underlying5 rfl ((hH.blk 1 rfl).cell (arr8_get (by first | omega | (exact Nat.lt_of_lt_of_le (lt_u8 _) (by omega)))))) ?_;simp only [nf]
   refine pp rfl rfl (pr_idxA1 rfl rfl Tryd.underlying99 sz5 (by first | omega | (exact Nat.lt_of_lt_of_le (lt_u8 _) (by omega)))) ?_;simp only [nf]
   refine pq rfl rfl (qr_load1 rfl Tryd.underlying5 rfl ((hH.blk 0 rfl).cell (arr8_get (by first | omega | (exact Nat.lt_of_lt_of_le (lt_u8 _) (by omega)))))) ?_;simp only [nf]
   refine pq rfl rfl (qr_load1 rfl Tryd.underlying5 rfl ((hH.blk 1 rfl).cell (arr8_get (by first | omega | (exact Nat.lt_of_lt_of_le (lt_u8 _) (by omega)))))) ?_;simp only [nf]
   refine pp rfl rfl (pr_idxA1 rfl rfl Tryd.underlying99 sz5 (by first | omega | (exact Nat.lt_of_lt_of_le (lt_u8 _) (by omega)))) ?_;simp only [nf]
   refine pq rfl rfl (qr_load1 rfl Tryd.underlying5 rfl ((hH.blk 0 rfl).cell (arr8_get (by first | omega | (exact Nat.lt_of_lt_of_le (lt_u8 _) (by omega)))))) ?_;simp only [nf]
   refine pq rfl rfl (qr_load1 rfl Tryd.underlying5 rfl ((hH.blk 1 rfl).cell (arr8_get (by first | omega | (exact Nat.lt_of_lt_of_le (lt_u8 _) (by omega)))))) ?_;simp only [nf]
   refine pp rfl rfl (pr_idxA1 rfl rfl Tryd.underlying99 sz5 (by first | omega | (exact Nat.lt_of_lt_of_le (lt_u8 _) (by omega)))) ?_;simp only [nf]
   refine pq rfl rfl (qr_load1 rfl Tryd.underlying5 rfl ((hH.blk 0 rfl).cell (arr8_get (by first | omega | (exact Nat.lt_of_lt_of_le (lt_u8 _) (by omega)))))) ?_;simp only [nf]
   refine pp rfl rfl (pr_build (by rfl) (ba104 _ _ _ _)) ?_;simp only [nf]
   refine plan_storeW 1 rfl rfl hH rfl rfl rfl one_arr8 sz104 (by simp) (by simp) ?_
   clear hH
   intro w38 hH
   (try simp only [nf, nh, Value.cells] at hH ⊢)
   refine plan_nil hH ?_
   clear hH
   intro w39 hH
   refine hK37 _ _ ?_
   (try clear hK37 K37)
   refine wrt [.p 0, .q 1, .p 2] ?_
   refine pm ?_;simp only [nf]
   refine pq rfl rfl (qr_call cf54 (fun w' hw => twice_calls _ w') rfl) ?_;simp only [nf]
   refine pa ?_;simp only [nf]
   refine plan_nil hH ?_
   clear hH
   intro w40 hH
   refine hK33 _ _ ?_
   (try clear hK33 K33)
   refine wp_seq_k ?_
   intro K41 hK41
   refine wrt [.p 0] ?_
   refine pka 0 ?_;simp only [nf]
   refine plan_nil hH ?_
   clear hH
   intro w42 hH
   refine hK41 _ _ ?_
   (try clear hK41 K41)
   refine wp_block ?_
   refine wp_loopT [7] [86, 87, 88, 89, 90, 91, 92, 93, 94, 95, 96, 97, 98, 99, 100, 101, 102, 103, 104, 105, 106, 107, 108, 109] (fun (n43 : Nat) (vs : List Value) (w' : World) => ∃ (j : Nat), vs = [I64 (j : Nat)] ∧ Hp [] w w' [(some b4, 103, arr8 432 (readyF key (i + j))), (some b29, 104, arr8 4 (wF key i))] ∧ n43 = 4 - j ∧ j ≤ 4) (4 - 0) (by kernel_rfl) ?_ ?_
   ·
    simp only [ga]
    refine ⟨0, rfl, ?_, rfl, ?_⟩
    ·
     exact hH.say 1 rfl (turn_row key i hr (by omega) (by omega))
    · first | omega | (omega)
   clear hH
   intro n43 vs44 w45 hR46 d1
   obtain ⟨j, rfl, hH, hn47, hf48⟩ := hR46
   simp only [putAll, putD, List.set_cons_zero, List.set_cons_succ, Nat.zero_add, Nat.reduceAdd]
   refine wp_seq_k ?_
   intro K49 hK49
   refine wp_seq_k ?_
   intro K50 hK50
   refine wrt [.p 0, .p 1] ?_
   refine pm ?_;simp only [nf]
   refine pp rfl rfl (pr_bin rfl rfl (by first | exact bin_lss_n (n := 4)  | exact bin_lss_i)) ?_;simp only [nf]
   refine plan_nil hH ?_
   clear hH
   intro w51 hH
   refine hK50 _ _ ?_
   (try clear hK50 K50)
   refine wp_cond_split rfl (fun hc52 => ?_) (fun hc52 => ?_)
   ·
    (try simp only [cnd] at hc52)
    refine wp_skip ?_
    refine hK49 _ _ ?_
    (try clear hK49 K49)
    refine wp_seq_k ?_
    intro K53 hK53
    refine wp_block ?_
    refine wrp [.p 0, .p 1, .p 2, .p 3, .p 4, .p 5, .p 6, .p 7, .p 8, .p 9, .p 10, .p 11, .p 13, .p 14, .p 17, .p 18, .q 12, .q 15, .p 16, .p 19, .e 20] ?_
    refine pm (pm (pm ?_));simp only [nf]
    refine pp rfl rfl (pr_bin rfl rfl (by first | exact bin_add_n (by first | omega | (exact Nat.lt_of_lt_of_le (lt_u8 _) (by omega))) | exact bin_add_i (by first | omega | (exact Nat.lt_of_lt_of_le (lt_u8 _) (by omega))) (by first | omega | (exact Nat.lt_of_lt_of_le (lt_u8 _) (by omega))))) ?_;simp only [nf]
    refine pm (pm (pm ?_));simp only [nf]
    refine pp rfl rfl (pr_bin rfl rfl (by first | exact bin_add_n (by first | omega | (exact Nat.lt_of_lt_of_le (lt_u8 _) (by omega))) | exact bin_add_i (by first | omega | (exact Nat.lt_of_lt_of_le (lt_u8 _) (by omega))) (by first | omega | (exact Nat.lt_of_lt_of_le (lt_u8 _) (by omega))))) ?_;simp only [nf]
    refine pp rfl rfl (pr_bin rfl rfl (by first | exact bin_sub_n (n := 16) (by first | omega | (exact Nat.lt_of_lt_of_le (lt_u8 _) (by omega))) (by first | omega | (exact Nat.lt_of_lt_of_le (lt_u8 _) (by omega))) | exact bin_sub_i (by first | omega | (exact Nat.lt_of_lt_of_le (lt_u8 _) (by omega))) (by first | omega | (exact Nat.lt_of_lt_of_le (lt_u8 _) (by omega))))) ?_;simp only [nf]
    refine pp rfl rfl (pr_nilCheck rfl) ?_;simp only [nf]
    refine pp rfl rfl (pr_fieldAddr 256 rfl Tryd.underlying103 rfl rfl sz101) ?_;simp only [nf]
    refine pp rfl rfl (pr_idxA1 rfl rfl Tryd.underlying101 sz5 (by first | omega | (exact Nat.lt_of_lt_of_le (lt_u8 _) (by omega)))) ?_;simp only [nf]
    refine pm ?_;simp only [nf]
    refine pp rfl rfl (pr_idxA1 rfl rfl Tryd.underlying104 sz5 (by first | omega | (exact Nat.lt_of_lt_of_le (lt_u8 _) (by omega)))) ?_;simp only [nf]
    refine pp rfl rfl (pr_nilCheck rfl) ?_;simp only [nf]
    refine pp rfl rfl (pr_fieldAddr 256 rfl Tryd.underlying103 rfl rfl sz101) ?_;simp only [nf]
    refine pq rfl rfl (qr_load1 rfl Tryd.underlying5 rfl ((hH.blk 0 rfl).cell (arr8_get (by first | omega | (exact Nat.lt_of_lt_of_le (lt_u8 _) (by omega)))))) ?_;simp only [nf]
    refine pq rfl rfl (qr_load1 rfl Tryd.underlying5 rfl ((hH.blk 1 rfl).cell (arr8_get (by first | omega | (exact Nat.lt_of_lt_of_le (lt_u8 _) (by omega)))))) ?_;simp only [nf]
    refine pp rfl rfl (pr_bin rfl rfl (bin_xor_u8 _ _)) ?_;simp only [nf]
    refine pp rfl rfl (pr_idxA1 rfl rfl Tryd.underlying101 sz5 (by first | omega | (exact Nat.lt_of_lt_of_le (lt_u8 _) (by omega)))) ?_;simp only [nf]
    refine plan_store1 0 rfl rfl hH rfl rfl rfl rfl sz5 (by simp <;> omega) ?_
    clear hH
    intro w54 hH
    (try simp only [nf, nh, Value.cells] at hH ⊢)
    refine plan_nil hH ?_
    clear hH
    intro w55 hH
    refine hK53 _ _ ?_
    (try clear hK53 K53)
    refine wrt [.p 0, .p 1, .p 2] ?_
    refine pm ?_;simp only [nf]
    refine pp rfl rfl (pr_bin rfl rfl (by first | exact bin_add_n (n := 1) (by first | omega | (exact Nat.lt_of_lt_of_le (lt_u8 _) (by omega))) | exact bin_add_i (by first | omega | (exact Nat.lt_of_lt_of_le (lt_u8 _) (by omega))) (by first | omega | (exact Nat.lt_of_lt_of_le (lt_u8 _) (by omega))))) ?_;simp only [nf]
    refine pa ?_;simp only [nf]
    refine plan_nil hH ?_
    clear hH
    intro w56 hH
    (try simp only [Exit.then, Exit.inBlock, ↓reduceIte, Nat.reduceEqDiff])
    refine ⟨4 - (j + 1), ?_, _, rfl, by kernel_rfl, ?_⟩
    · first | omega | (omega)
    simp only [ga]
    refine ⟨j + 1, rfl, ?_, rfl, ?_⟩
    ·
     exact hH.say 0 rfl (arr8_congr fun n _ => ready_upd key (by omega) (by omega) (by omega) n)
    · first | omega | (omega)
   ·
    (try simp only [cnd] at hc52)
    refine wp_exit ?_
    (try simp only [Exit.then, Exit.inBlock, ↓reduceIte, Nat.reduceEqDiff])
    refine hK27 _ _ ?_
    (try clear hK27 K27)
    refine wrt [.p 0, .p 1, .p 2] ?_
    refine pm ?_;simp only [nf]
    refine pp rfl rfl (pr_bin rfl rfl (by first | exact bin_add_n (n := 4) (by first | omega | (exact Nat.lt_of_lt_of_le (lt_u8 _) (by omega))) | exact bin_add_i (by first | omega | (exact Nat.lt_of_lt_of_le (lt_u8 _) (by omega))) (by first | omega | (exact Nat.lt_of_lt_of_le (lt_u8 _) (by omega))))) ?_;simp only [nf]
    refine pa ?_;simp only [nf]
    refine plan_nil hH ?_
    clear hH
    intro w57 hH
    (try simp only [Exit.then, Exit.inBlock, ↓reduceIte, Nat.reduceEqDiff])
    refine ⟨176 - (i + 4), ?_, _, rfl, by kernel_rfl, ?_⟩
    · first | omega | (omega)
    simp only [ga]
    refine ⟨i + 4, dbl r, rfl, ?_, rfl, ?_, ?_, ?_, ?_⟩
    ·
     obtain rfl : j = 4 := by omega
     exact hH.take 1
    · first | omega | (omega)
    · first | omega | (omega)
    · first | omega | (omega)
    · first | omega | (first | exact con_next hr (by omega) (by omega) | exact con_same hr (by omega) (by omega) (by omega))
  ·
   (try simp only [cnd] at hc36)
   replace hH := hH.say 1 rfl (quad_row key i (by omega))
   simp only [List.set_cons_zero, List.set_cons_succ] at hH
   refine wp_skip ?_
   refine hK33 _ _ ?_
   (try clear hK33 K33)
   refine wp_seq_k ?_
   intro K58 hK58
   refine wrt [.p 0] ?_
   refine pka 0 ?_;simp only [nf]
   refine plan_nil hH ?_
   clear hH
   intro w59 hH
   refine hK58 _ _ ?_
   (try clear hK58 K58)
   refine wp_block ?_
   refine wp_loopT [7] [86, 87, 88, 89, 90, 91, 92, 93, 94, 95, 96, 97, 98, 99, 100, 101, 102, 103, 104, 105, 106, 107, 108, 109] (fun (n60 : Nat) (vs : List Value) (w' : World) => ∃ (j : Nat), vs = [I64 (j : Nat)] ∧ Hp [] w w' [(some b4, 103, arr8 432 (readyF key (i + j))), (some b29, 104, arr8 4 (wF key i))] ∧ n60 = 4 - j ∧ j ≤ 4) (4 - 0) (by kernel_rfl) ?_ ?_
   ·
    simp only [ga]
    refine ⟨0, rfl, ?_, rfl, ?_⟩
    ·
     exact hH.say 1 rfl (arr8_congr fun n _ => by unfold wF; rw [if_neg (by omega)])
    · first | omega | (omega)
   clear hH
   intro n60 vs61 w62 hR63 d1
   obtain ⟨j, rfl, hH, hn64, hf65⟩ := hR63
   simp only [putAll, putD, List.set_cons_zero, List.set_cons_succ, Nat.zero_add, Nat.reduceAdd]
   refine wp_seq_k ?_
   intro K66 hK66
   refine wp_seq_k ?_
   intro K67 hK67
   refine wrt [.p 0, .p 1] ?_
   refine pm ?_;simp only [nf]
   refine pp rfl rfl (pr_bin rfl rfl (by first | exact bin_lss_n (n := 4)  | exact bin_lss_i)) ?_;simp only [nf]
   refine plan_nil hH ?_
   clear hH
   intro w68 hH
   refine hK67 _ _ ?_
   (try clear hK67 K67)
   refine wp_cond_split rfl (fun hc69 => ?_) (fun hc69 => ?_)
   ·
    (try simp only [cnd] at hc69)
    refine wp_skip ?_
    refine hK66 _ _ ?_
    (try clear hK66 K66)
    refine wp_seq_k ?_
    intro K70 hK70
    refine wp_block ?_
    refine wrp [.p 0, .p 1, .p 2, .p 3, .p 4, .p 5, .p 6, .p 7, .p 8, .p 9, .p 10, .p 11, .p 13, .p 14, .p 17, .p 18, .q 12, .q 15, .p 16, .p 19, .e 20] ?_
    refine pm (pm (pm ?_));simp only [nf]
    refine pp rfl rfl (pr_bin rfl rfl (by first | exact bin_add_n (by first | omega | (exact Nat.lt_of_lt_of_le (lt_u8 _) (by omega))) | exact bin_add_i (by first | omega | (exact Nat.lt_of_lt_of_le (lt_u8 _) (by omega))) (by first | omega | (exact Nat.lt_of_lt_of_le (lt_u8 _) (by omega))))) ?_;simp only [nf]
    refine pm (pm (pm ?_));simp only [nf]
    refine pp rfl rfl (pr_bin rfl rfl (by first | exact bin_add_n (by first | omega | (exact Nat.lt_of_lt_of_le (lt_u8 _) (by omega))) | exact bin_add_i (by first | omega | (exact Nat.lt_of_lt_of_le (lt_u8 _) (by omega))) (by first | omega | (exact Nat.lt_of_lt_of_le (lt_u8 _) (by omega))))) ?_;simp only [nf]
    refine pp rfl rfl (pr_bin rfl rfl (by first | exact bin_sub_n (n := 16) (by first | omega | (exact Nat.lt_of_lt_of_le (lt_u8 _) (by omega))) (by first | omega | (exact Nat.lt_of_lt_of_le (lt_u8 _) (by omega))) | exact bin_sub_i (by first | omega | (exact Nat.lt_of_lt_of_le (lt_u8 _) (by omega))) (by first | omega | (exact Nat.lt_of_lt_of_le (lt_u8 _) (by omega))))) ?_;simp only [nf]
    refine pp rfl rfl (pr_nilCheck rfl) ?_;simp only [nf]
    refine pp rfl rfl (pr_fieldAddr 256 rfl Tryd.underlying103 rfl rfl sz101) ?_;simp only [nf]
    refine pp rfl rfl (pr_idxA1 rfl rfl Tryd.underlying101 sz5 (by first | omega | (exact Nat.lt_of_lt_of_le (lt_u8 _) (by omega)))) ?_;simp only [nf]
    refine pm ?_;simp only [nf]
    refine pp rfl rfl (pr_idxA1 rfl rfl Tryd.underlying104 sz5 (by first | omega | (exact Nat.lt_of_lt_of_le (lt_u8 _) (by omega)))) ?_;simp only [nf]
    refine pp rfl rfl (pr_nilCheck rfl) ?_;simp only [nf]
    refine pp rfl rfl (pr_fieldAddr 256 rfl Tryd.underlying103 rfl rfl sz101) ?_;simp only [nf]
    refine pq rfl rfl (qr_load1 rfl Tryd.underlying5 rfl ((hH.blk 0 rfl).cell (arr8_get (by first | omega | (exact Nat.lt_of_lt_of_le (lt_u8 _) (by omega)))))) ?_;simp only [nf]
    refine pq rfl rfl (qr_load1 rfl Tryd.underlying5 rfl ((hH.blk 1 rfl).cell (arr8_get (by first | omega | (exact Nat.lt_of_lt_of_le (lt_u8 _) (by omega)))))) ?_;simp only [nf]
    refine pp rfl rfl (pr_bin rfl rfl (bin_xor_u8 _ _)) ?_;simp only [nf]
    refine pp rfl rfl (pr_idxA1 rfl rfl Tryd.underlying101 sz5 (by first | omega | (exact Nat.lt_of_lt_of_le (lt_u8 _) (by omega)))) ?_;simp only [nf]
    refine plan_store1 0 rfl rfl hH rfl rfl rfl rfl sz5 (by simp <;> omega) ?_
    clear hH
    intro w71 hH
    (try simp only [nf, nh, Value.cells] at hH ⊢)
    refine plan_nil hH ?_
    clear hH
    intro w72 hH
    refine hK70 _ _ ?_
    (try clear hK70 K70)
    refine wrt [.p 0, .p 1, .p 2] ?_
    refine pm ?_;simp only [nf]
    refine pp rfl rfl (pr_bin rfl rfl (by first | exact bin_add_n (n := 1) (by first | omega | (exact Nat.lt_of_lt_of_le (lt_u8 _) (by omega))) | exact bin_add_i (by first | omega | (exact Nat.lt_of_lt_of_le (lt_u8 _) (by omega))) (by first | omega | (exact Nat.lt_of_lt_of_le (lt_u8 _) (by omega))))) ?_;simp only [nf]
    refine pa ?_;simp only [nf]
    refine plan_nil hH ?_
    clear hH
    intro w73 hH
    (try simp only [Exit.then, Exit.inBlock, ↓reduceIte, Nat.reduceEqDiff])
    refine ⟨4 - (j + 1), ?_, _, rfl, by kernel_rfl, ?_⟩
    · first | omega | (omega)
    simp only [ga]
    refine ⟨j + 1, rfl, ?_, rfl, ?_⟩
    ·
     exact hH.say 0 rfl (arr8_congr fun n _ => ready_upd key (by omega) (by omega) (by omega) n)
    · first | omega | (omega)
   ·
    (try simp only [cnd] at hc69)
    refine wp_exit ?_
    (try simp only [Exit.then, Exit.inBlock, ↓reduceIte, Nat.reduceEqDiff])
    refine hK27 _ _ ?_
    (try clear hK27 K27)
    refine wrt [.p 0, .p 1, .p 2] ?_
    refine pm ?_;simp only [nf]
    refine pp rfl rfl (pr_bin rfl rfl (by first | exact bin_add_n (n := 4) (by first | omega | (exact Nat.lt_of_lt_of_le (lt_u8 _) (by omega))) | exact bin_add_i (by first | omega | (exact Nat.lt_of_lt_of_le (lt_u8 _) (by omega))) (by first | omega | (exact Nat.lt_of_lt_of_le (lt_u8 _) (by omega))))) ?_;simp only [nf]
    refine pa ?_;simp only [nf]
    refine plan_nil hH ?_
    clear hH
    intro w74 hH
    (try simp only [Exit.then, Exit.inBlock, ↓reduceIte, Nat.reduceEqDiff])
    refine ⟨176 - (i + 4), ?_, _, rfl, by kernel_rfl, ?_⟩
    · first | omega | (omega)
    simp only [ga]
    refine ⟨i + 4, r, rfl, ?_, rfl, ?_, ?_, ?_, ?_⟩
    ·
     obtain rfl : j = 4 := by omega
     exact hH.take 1
    · first | omega | (omega)
    · first | omega | (omega)
    · first | omega | (omega)
    · first | omega | (first | exact con_next hr (by omega) (by omega) | exact con_same hr (by omega) (by omega) (by omega))
 ·
  (try simp only [cnd] at hc26)
  refine wp_exit ?_
  (try simp only [Exit.then, Exit.inBlock, ↓reduceIte, Nat.reduceEqDiff])
  refine hK12 _ _ ?_
  (try clear hK12 K12)
  refine wp_seq_k ?_
  intro K75 hK75
  refine wrt [.p 0, .p 1] ?_
  refine pm (pa ?_);simp only [nf]
  refine plan_nil hH ?_
  clear hH
  intro w76 hH
  refine hK75 _ _ ?_
  (try clear hK75 K75)
  refine wp_ret ?_
  (try simp only [Exit.then, Exit.inBlock, ↓reduceIte, Nat.reduceEqDiff])
  refine BP.ret1 rfl rfl ?_
  obtain rfl : i = 176 := by omega
  exact ⟨_, rfl, hH.chg, (hH.mine 0 rfl).resolve_right (by simp), (hH.say 0 rfl (ready_done key)).blk 0 rfl⟩
end Go.Proofs.YtmoaddicejohgaaDoor
set_option linter.unusedSimpArgs false
set_option linter.unusedVariables false
set_option maxRecDepth 100000
set_option maxHeartbeats 4000000
namespace Go.Proofs.YtmoaddicejohgaaDoor
open Go
open List (getD_cons_zero getD_cons_succ set_cons_zero set_cons_succ)
theorem keyF_w (key : Nat → UInt8) (i : Nat) : keyF key (256 + i) = kexp key i := by
  unfold keyF
  rw [if_neg (by omega), Nat.add_sub_cancel_left]
theorem keyF_t (key : Nat → UInt8) {i : Nat} (h : i < 256) : keyF key i = sbox i := if_pos h
theorem colsN_at (u : Nat → UInt8) {c r : Nat} (hc : c < 4) (hr : r < 4) : dbl (u (4 * c + r)) ^^^ dbl (u (4 * c + (r + 1) % 4)) ^^^ u (4 * c + (r + 1) % 4) ^^^ u (4 * c + (r + 2) % 4) ^^^ u (4 * c + (r + 3) % 4) = colsN u 4 (4 * c + r) := by
  have h1 : c = 0 ∨ c = 1 ∨ c = 2 ∨ c = 3 := by omega
  have h2 : r = 0 ∨ r = 1 ∨ r = 2 ∨ r = 3 := by omega
  clear hc hr
  rcases h1 with rfl | rfl | rfl | rfl <;> rcases h2 with rfl | rfl | rfl | rfl <;>
  simp [colsN, colf, dbl_xor, UInt8.xor_assoc, UInt8.xor_comm, UInt8.xor_left_comm, UInt8.xor_cancel]
theorem subs_at (S : Nat → UInt8) {c r : Nat} (hc : c < 4) (hr : r < 4) : sbox (S (4 * ((c + r) % 4) + r)).toNat = subs S (4 * c + r) := by
  unfold subs
  rw [show (4 * c + r + 4 * ((4 * c + r) % 4)) % 16 = 4 * ((c + r) % 4) + r by omega]
theorem put_at {g z : Nat → UInt8} {m m' m'' : Nat} {v : UInt8} (h1 : m' = m) (h2 : m'' = m + 1) (hv : v = g m) (i : Nat) :
    upd (fun n => if n < m then g n else z n) m' v i = if i < m'' then g i else z i := by
  subst h1 h2 hv
  simp only [upd]
  by_cases h : i = m'
  · subst h; rw [if_pos rfl, if_pos (by omega)]
  · rw [if_neg h]
    by_cases h1 : i < m'
    · rw [if_pos h1, if_pos (by omega)]
    · rw [if_neg h1, if_neg (by omega)]
theorem str_at (s : ByteArray) (i : Nat) (h : i < s.size) : s[i]'h = s.data.toList.getD i 0 := by
  simp [List.getD, ByteArray.getElem_eq_getElem_data, h]
theorem refblock_calls (bk : Nat) (key : Nat → UInt8) (s : ByteArray) (sl : Nat → UInt8) (hsl : ∀ i, i < 16 → s.data.toList.getD i 0 = sl i) (hs : s.size = 16) (w : World) (hb : Blk w bk 103 (arr8 432 (keyF key))) :
    Ret Tryd.prog 48 #[PT bk 0, .string s] w fun v w' => v = .string ⟨((List.range 16).map fun i => aesR (kexp key) sl 10 i).toArray⟩ ∧ Chg [] w w' := by
 refine Ret.enter Tryd.func48 rfl ?_
 simp only [Tryd.ntmps48, fe, Nat.reduceAdd, Nat.reduceSub]
 have hH := Hp.start [] w
 refine wp_seq_k ?_
 intro K1 hK1
 refine wrt [.p 0] ?_
 refine pa ?_;simp only [nf]
 refine plan_nil hH ?_
 clear hH
 intro w2 hH
 refine hK1 _ _ ?_
 (try clear hK1 K1)
 refine wp_seq_k ?_
 intro K3 hK3
 refine wrt [.x 0] ?_
 refine plan_alloc rfl rfl hH zc87 ?_
 clear hH
 intro b4 w5 hH
 (try simp only [nf, nh, Value.cells] at hH ⊢)
 refine plan_nil hH ?_
 clear hH
 intro w6 hH
 refine hK3 _ _ ?_
 (try clear hK3 K3)
 refine wp_seq_k ?_
 intro K7 hK7
 refine wp_seq_k ?_
 intro K8 hK8
 refine wrt [.p 0] ?_
 refine pka 0 ?_;simp only [nf]
 refine plan_nil hH ?_
 clear hH
 intro w9 hH
 refine hK8 _ _ ?_
 (try clear hK8 K8)
 refine wp_block ?_
 refine wp_loopT [6] [17, 18, 19, 20, 21, 22, 23, 24, 25, 26, 27, 28, 29, 30, 31, 32] (fun (n10 : Nat) (vs : List Value) (w' : World) => ∃ (k : Nat), vs = [I64 (k : Nat)] ∧ Hp [] w w' [(some b4, 87, arr8 16 fun i => if i < k then sl i ^^^ kexp key i else 0)] ∧ n10 = 16 - k ∧ k ≤ 16) (16 - 0) (by kernel_rfl) ?_ ?_
 ·
  simp only [ga]
  refine ⟨0, rfl, ?_, rfl, ?_⟩
  ·
   exact hH.say 0 rfl (arr8_congr fun i hi => by rw [if_neg (by omega)])
  · first | omega | (omega)
 clear hH
 intro n10 vs11 w12 hR13 d0
 obtain ⟨k, rfl, hH, hn14, hf15⟩ := hR13
 simp only [putAll, putD, List.set_cons_zero, List.set_cons_succ, Nat.zero_add, Nat.reduceAdd]
 refine wp_seq_k ?_
 intro K16 hK16
 refine wp_seq_k ?_
 intro K17 hK17
 refine wrt [.p 0, .p 1] ?_
 refine pm ?_;simp only [nf]
 refine pp rfl rfl (pr_bin rfl rfl (by first | exact bin_lss_n (n := 16)  | exact bin_lss_i)) ?_;simp only [nf]
 refine plan_nil hH ?_
 clear hH
 intro w18 hH
 refine hK17 _ _ ?_
 (try clear hK17 K17)
 refine wp_cond_split rfl (fun hc19 => ?_) (fun hc19 => ?_)
 ·
  (try simp only [cnd] at hc19)
  refine wp_skip ?_
  refine hK16 _ _ ?_
  (try clear hK16 K16)
  refine wp_seq_k ?_
  intro K20 hK20
  refine wp_block ?_
  refine wrp [.p 0, .p 1, .p 2, .p 3, .p 4, .p 5, .p 6, .p 7, .p 8, .q 9, .p 10, .p 11, .e 12] ?_
  refine pm (pm (pm ?_));simp only [nf]
  refine pp rfl rfl (pr_index_str rfl rfl Tryd.underlying9 (by first | omega | (exact Nat.lt_of_lt_of_le (lt_u8 _) (by omega)))) ?_;simp only [nf]
  refine pm (pm ?_);simp only [nf]
  refine pp rfl rfl (pr_nilCheck rfl) ?_;simp only [nf]
  refine pp rfl rfl (pr_fieldAddr 256 rfl Tryd.underlying103 rfl rfl sz101) ?_;simp only [nf]
  refine pp rfl rfl (pr_idxA1 rfl rfl Tryd.underlying101 sz5 (by first | omega | (exact Nat.lt_of_lt_of_le (lt_u8 _) (by omega)))) ?_;simp only [nf]
  refine pq rfl rfl (qr_load1 rfl Tryd.underlying5 rfl ((hH.chg.nil_blk hb).cell (arr8_get (by first | omega | (exact Nat.lt_of_lt_of_le (lt_u8 _) (by omega)))))) ?_;simp only [nf]
  refine pp rfl rfl (pr_bin rfl rfl (bin_xor_u8 _ _)) ?_;simp only [nf]
  refine pp rfl rfl (pr_idxA1 rfl rfl Tryd.underlying87 sz5 (by first | omega | (exact Nat.lt_of_lt_of_le (lt_u8 _) (by omega)))) ?_;simp only [nf]
  refine plan_store1 0 rfl rfl hH rfl rfl rfl rfl sz5 (by simp <;> omega) ?_
  clear hH
  intro w21 hH
  (try simp only [nf, nh, Value.cells] at hH ⊢)
  refine plan_nil hH ?_
  clear hH
  intro w22 hH
  refine hK20 _ _ ?_
  (try clear hK20 K20)
  refine wrt [.p 0, .p 1, .p 2] ?_
  refine pm ?_;simp only [nf]
  refine pp rfl rfl (pr_bin rfl rfl (by first | exact bin_add_n (n := 1) (by first | omega | (exact Nat.lt_of_lt_of_le (lt_u8 _) (by omega))) | exact bin_add_i (by first | omega | (exact Nat.lt_of_lt_of_le (lt_u8 _) (by omega))) (by first | omega | (exact Nat.lt_of_lt_of_le (lt_u8 _) (by omega))))) ?_;simp only [nf]
  refine pa ?_;simp only [nf]
  refine plan_nil hH ?_
  clear hH
  intro w23 hH
  (try simp only [Exit.then, Exit.inBlock, ↓reduceIte, Nat.reduceEqDiff])
  refine ⟨16 - (k + 1), ?_, _, rfl, by kernel_rfl, ?_⟩
  · first | omega | (omega)
  simp only [ga]
  refine ⟨k + 1, rfl, ?_, rfl, ?_⟩
  ·
   simp only [str_at, keyF_w] at hH
   exact hH.say 0 rfl (arr8_congr fun i hi => put_at (g := fun i => sl i ^^^ kexp key i) (z := fun _ => 0) rfl rfl (by rw [hsl _ (by omega)]) i)
  · first | omega | (omega)
 ·
  (try simp only [cnd] at hc19)
  refine wp_exit ?_
  (try simp only [Exit.then, Exit.inBlock, ↓reduceIte, Nat.reduceEqDiff])
  refine hK7 _ _ ?_
  (try clear hK7 K7)
  refine wp_seq_k ?_
  intro K24 hK24
  refine wp_seq_k ?_
  intro K25 hK25
  refine wrt [.p 0] ?_
  refine pka 1 ?_;simp only [nf]
  refine plan_nil hH ?_
  clear hH
  intro w26 hH
  refine hK25 _ _ ?_
  (try clear hK25 K25)
  refine wp_block ?_
  refine wp_loopT [7] [8, 9, 10, 11, 12, 13, 14, 15, 16, 33, 34, 35, 36, 37, 38, 39, 40, 41, 42, 43, 44, 45, 46, 47, 48, 49, 50, 51, 52, 53, 54, 55, 56, 57, 58, 59, 60, 61, 62, 63, 64, 65, 66, 67, 68, 69, 70, 71, 72, 73, 74, 75, 76, 77, 78, 79, 80, 81, 82, 83, 84, 85, 86, 87, 88, 89, 90, 91, 92, 93, 94, 95, 96, 97, 98, 99, 100, 101, 102, 103, 104, 105, 106, 107, 108, 109, 110, 111, 112, 113, 114, 115, 116, 117, 118, 119, 120, 121, 122, 123, 124, 125, 126, 127, 128, 129, 130, 131, 132, 133, 134, 135, 136, 137] (fun (n27 : Nat) (vs : List Value) (w' : World) => ∃ (r : Nat), vs = [I64 ((r + 1 : Nat))] ∧ Hp [] w w' [(some b4, 87, arr8 16 (aesR (kexp key) sl r))] ∧ n27 = 10 - r ∧ r ≤ 10) (10 - 0) (by kernel_rfl) ?_ ?_
  ·
   simp only [ga]
   refine ⟨0, rfl, ?_, rfl, ?_⟩
   ·
    obtain rfl : k = 16 := by omega
    exact hH.say 0 rfl (arr8_congr fun i hi => by rw [if_pos (by omega)]; rfl)
   · first | omega | (omega)
  clear hH
  intro n27 vs28 w29 hR30 d1
  obtain ⟨r, rfl, hH, hn31, hf32⟩ := hR30
  simp only [putAll, putD, List.set_cons_zero, List.set_cons_succ, Nat.zero_add, Nat.reduceAdd]
  refine wp_seq_k ?_
  intro K33 hK33
  refine wp_seq_k ?_
  intro K34 hK34
  refine wrt [.p 0, .p 1] ?_
  refine pm ?_;simp only [nf]
  refine pp rfl rfl (pr_bin rfl rfl (by first | exact bin_leq_n (n := 10)  | exact bin_leq_i)) ?_;simp only [nf]
  refine plan_nil hH ?_
  clear hH
  intro w35 hH
  refine hK34 _ _ ?_
  (try clear hK34 K34)
  refine wp_cond_split rfl (fun hc36 => ?_) (fun hc36 => ?_)
  ·
   (try simp only [cnd] at hc36)
   refine wp_skip ?_
   refine hK33 _ _ ?_
   (try clear hK33 K33)
   refine wp_seq_k ?_
   intro K37 hK37
   refine wp_block ?_
   refine wp_seq_k ?_
   intro K38 hK38
   refine wrt [.x 0] ?_
   refine plan_alloc rfl rfl hH zc87 ?_
   clear hH
   intro b39 w40 hH
   (try simp only [nf, nh, Value.cells] at hH ⊢)
   refine plan_nil hH ?_
   clear hH
   intro w41 hH
   refine hK38 _ _ ?_
   (try clear hK38 K38)
   refine wp_seq_k ?_
   intro K42 hK42
   refine wp_seq_k ?_
   intro K43 hK43
   refine wrt [.p 0] ?_
   refine pka 0 ?_;simp only [nf]
   refine plan_nil hH ?_
   clear hH
   intro w44 hH
   refine hK43 _ _ ?_
   (try clear hK43 K43)
   refine wp_block ?_
   refine wp_loopT [9] [10, 37, 38, 39, 40, 41, 42, 43, 44, 45, 46, 47, 48, 49, 50, 51, 52, 53, 54, 55, 56, 57, 58, 59, 60, 61, 62, 63] (fun (n45 : Nat) (vs : List Value) (w' : World) => ∃ (c : Nat), vs = [I64 (c : Nat)] ∧ Hp [] w w' [(some b4, 87, arr8 16 (aesR (kexp key) sl r)), (some b39, 87, arr8 16 fun i => if i < 4 * c then subs (aesR (kexp key) sl r) i else 0)] ∧ n45 = 4 - c ∧ c ≤ 4) (4 - 0) (by kernel_rfl) ?_ ?_
   ·
    simp only [ga]
    refine ⟨0, rfl, ?_, rfl, ?_⟩
    ·
     exact hH.say 1 rfl (arr8_congr fun i hi => by rw [if_neg (by omega)])
    · first | omega | (omega)
   clear hH
   intro n45 vs46 w47 hR48 d2
   obtain ⟨c, rfl, hH, hn49, hf50⟩ := hR48
   simp only [putAll, putD, List.set_cons_zero, List.set_cons_succ, Nat.zero_add, Nat.reduceAdd]
   refine wp_seq_k ?_
   intro K51 hK51
   refine wp_seq_k ?_
   intro K52 hK52
   refine wrt [.p 0, .p 1] ?_
   refine pm ?_;simp only [nf]
   refine pp rfl rfl (pr_bin rfl rfl (by first | exact bin_lss_n (n := 4)  | exact bin_lss_i)) ?_;simp only [nf]
   refine plan_nil hH ?_
   clear hH
   intro w53 hH
   refine hK52 _ _ ?_
   (try clear hK52 K52)
   refine wp_cond_split rfl (fun hc54 => ?_) (fun hc54 => ?_)
   ·
    (try simp only [cnd] at hc54)
    refine wp_skip ?_
    refine hK51 _ _ ?_
    (try clear hK51 K51)
    refine wp_seq_k ?_
    intro K55 hK55
    refine wp_block ?_
    refine wp_seq_k ?_
    intro K56 hK56
    refine wrt [.p 0] ?_
    refine pka 0 ?_;simp only [nf]
    refine plan_nil hH ?_
    clear hH
    intro w57 hH
    refine hK56 _ _ ?_
    (try clear hK56 K56)
    refine wp_block ?_
    refine wp_loopT [10] [41, 42, 43, 44, 45, 46, 47, 48, 49, 50, 51, 52, 53, 54, 55, 56, 57, 58, 59, 60, 61, 62, 63] (fun (n58 : Nat) (vs : List Value) (w' : World) => ∃ (q : Nat), vs = [I64 (q : Nat)] ∧ Hp [] w w' [(some b4, 87, arr8 16 (aesR (kexp key) sl r)), (some b39, 87, arr8 16 fun i => if i < 4 * c + q then subs (aesR (kexp key) sl r) i else 0)] ∧ n58 = 4 - q ∧ q ≤ 4) (4 - 0) (by kernel_rfl) ?_ ?_
    ·
     simp only [ga]
     refine ⟨0, rfl, ?_, rfl, ?_⟩
     ·
      exact hH
     · first | omega | (omega)
    clear hH
    intro n58 vs59 w60 hR61 d3
    obtain ⟨q, rfl, hH, hn62, hf63⟩ := hR61
    simp only [putAll, putD, List.set_cons_zero, List.set_cons_succ, Nat.zero_add, Nat.reduceAdd]
    refine wp_seq_k ?_
    intro K64 hK64
    refine wp_seq_k ?_
    intro K65 hK65
    refine wrt [.p 0, .p 1] ?_
    refine pm ?_;simp only [nf]
    refine pp rfl rfl (pr_bin rfl rfl (by first | exact bin_lss_n (n := 4)  | exact bin_lss_i)) ?_;simp only [nf]
    refine plan_nil hH ?_
    clear hH
    intro w66 hH
    refine hK65 _ _ ?_
    (try clear hK65 K65)
    refine wp_cond_split rfl (fun hc67 => ?_) (fun hc67 => ?_)
    ·
     (try simp only [cnd] at hc67)
     refine wp_skip ?_
     refine hK64 _ _ ?_
     (try clear hK64 K64)
     refine wp_seq_k ?_
     intro K68 hK68
     refine wp_block ?_
     refine wrp [.p 0, .p 1, .p 2, .p 3, .p 4, .p 5, .p 6, .p 7, .p 8, .p 9, .p 10, .p 11, .p 12, .p 14, .p 15, .q 13, .p 16, .q 17, .p 18, .e 19] ?_
     refine pm ?_;simp only [nf]
     refine pp rfl rfl (pr_bin rfl rfl (by first | exact bin_mul_n (m := 4) (by first | omega | (exact Nat.lt_of_lt_of_le (lt_u8 _) (by omega))) | exact bin_mul_i (by first | omega | (exact Nat.lt_of_lt_of_le (lt_u8 _) (by omega))) (by first | omega | (exact Nat.lt_of_lt_of_le (lt_u8 _) (by omega))))) ?_;simp only [nf]
     refine pm ?_;simp only [nf]
     refine pp rfl rfl (pr_bin rfl rfl (by first | exact bin_add_n (by first | omega | (exact Nat.lt_of_lt_of_le (lt_u8 _) (by omega))) | exact bin_add_i (by first | omega | (exact Nat.lt_of_lt_of_le (lt_u8 _) (by omega))) (by first | omega | (exact Nat.lt_of_lt_of_le (lt_u8 _) (by omega))))) ?_;simp only [nf]
     refine pm (pm (pm ?_));simp only [nf]
     refine pp rfl rfl (pr_bin rfl rfl (by first | exact bin_add_n (by first | omega | (exact Nat.lt_of_lt_of_le (lt_u8 _) (by omega))) | exact bin_add_i (by first | omega | (exact Nat.lt_of_lt_of_le (lt_u8 _) (by omega))) (by first | omega | (exact Nat.lt_of_lt_of_le (lt_u8 _) (by omega))))) ?_;simp only [nf]
     refine pp rfl rfl (pr_bin rfl rfl (by first | exact bin_rem_n (n := 4) (by first | omega | (exact Nat.lt_of_lt_of_le (lt_u8 _) (by omega))))) ?_;simp only [nf]
     refine pp rfl rfl (pr_bin rfl rfl (by first | exact bin_mul_n (m := 4) (by first | omega | (exact Nat.lt_of_lt_of_le (lt_u8 _) (by omega))) | exact bin_mul_i (by first | omega | (exact Nat.lt_of_lt_of_le (lt_u8 _) (by omega))) (by first | omega | (exact Nat.lt_of_lt_of_le (lt_u8 _) (by omega))))) ?_;simp only [nf]
     refine pm ?_;simp only [nf]
     refine pp rfl rfl (pr_bin rfl rfl (by first | exact bin_add_n (by first | omega | (exact Nat.lt_of_lt_of_le (lt_u8 _) (by omega))) | exact bin_add_i (by first | omega | (exact Nat.lt_of_lt_of_le (lt_u8 _) (by omega))) (by first | omega | (exact Nat.lt_of_lt_of_le (lt_u8 _) (by omega))))) ?_;simp only [nf]
     refine pp rfl rfl (pr_idxA1 rfl rfl Tryd.underlying87 sz5 (by first | omega | (exact Nat.lt_of_lt_of_le (lt_u8 _) (by omega)))) ?_;simp only [nf]
     refine pp rfl rfl (pr_nilCheck rfl) ?_;simp only [nf]
     refine pp rfl rfl (pr_fieldAddr 0 rfl Tryd.underlying103 rfl rfl sz99) ?_;simp only [nf]
     refine pq rfl rfl (qr_load1 rfl Tryd.underlying5 rfl ((hH.blk 0 rfl).cell (arr8_get (by first | omega | (exact Nat.lt_of_lt_of_le (lt_u8 _) (by omega)))))) ?_;simp only [nf]
     refine pp rfl rfl (pr_idxA1 rfl rfl Tryd.underlying99 sz5 (by first | omega | (exact Nat.lt_of_lt_of_le (lt_u8 _) (by omega)))) ?_;simp only [nf]
     refine pq rfl rfl (qr_load1 rfl Tryd.underlying5 rfl ((hH.chg.nil_blk hb).cell (arr8_get (by first | omega | (exact Nat.lt_of_lt_of_le (lt_u8 _) (by omega)))))) ?_;simp only [nf]
     refine pp rfl rfl (pr_idxA1 rfl rfl Tryd.underlying87 sz5 (by first | omega | (exact Nat.lt_of_lt_of_le (lt_u8 _) (by omega)))) ?_;simp only [nf]
     refine plan_store1 1 rfl rfl hH rfl rfl rfl rfl sz5 (by simp <;> omega) ?_
     clear hH
     intro w69 hH
     (try simp only [nf, nh, Value.cells] at hH ⊢)
     refine plan_nil hH ?_
     clear hH
     intro w70 hH
     refine hK68 _ _ ?_
     (try clear hK68 K68)
     refine wrt [.p 0, .p 1, .p 2] ?_
     refine pm ?_;simp only [nf]
     refine pp rfl rfl (pr_bin rfl rfl (by first | exact bin_add_n (n := 1) (by first | omega | (exact Nat.lt_of_lt_of_le (lt_u8 _) (by omega))) | exact bin_add_i (by first | omega | (exact Nat.lt_of_lt_of_le (lt_u8 _) (by omega))) (by first | omega | (exact Nat.lt_of_lt_of_le (lt_u8 _) (by omega))))) ?_;simp only [nf]
     refine pa ?_;simp only [nf]
     refine plan_nil hH ?_
     clear hH
     intro w71 hH
     (try simp only [Exit.then, Exit.inBlock, ↓reduceIte, Nat.reduceEqDiff])
     refine ⟨4 - (q + 1), ?_, _, rfl, by kernel_rfl, ?_⟩
     · first | omega | (omega)
     simp only [ga]
     refine ⟨q + 1, rfl, ?_, rfl, ?_⟩
     ·
      rw [keyF_t _ (lt_u8 _)] at hH
      exact hH.say 1 rfl (arr8_congr fun i hi => put_at (g := subs (aesR (kexp key) sl r)) (z := fun _ => 0) rfl (by omega) (subs_at _ (by omega) (by omega)) i)
     · first | omega | (omega)
    ·
     (try simp only [cnd] at hc67)
     refine wp_exit ?_
     (try simp only [Exit.then, Exit.inBlock, ↓reduceIte, Nat.reduceEqDiff])
     refine hK55 _ _ ?_
     (try clear hK55 K55)
     refine wrt [.p 0, .p 1, .p 2] ?_
     refine pm ?_;simp only [nf]
     refine pp rfl rfl (pr_bin rfl rfl (by first | exact bin_add_n (n := 1) (by first | omega | (exact Nat.lt_of_lt_of_le (lt_u8 _) (by omega))) | exact bin_add_i (by first | omega | (exact Nat.lt_of_lt_of_le (lt_u8 _) (by omega))) (by first | omega | (exact Nat.lt_of_lt_of_le (lt_u8 _) (by omega))))) ?_;simp only [nf]
     refine pa ?_;simp only [nf]
     refine plan_nil hH ?_
     clear hH
     intro w72 hH
     (try simp only [Exit.then, Exit.inBlock, ↓reduceIte, Nat.reduceEqDiff])
     refine ⟨4 - (c + 1), ?_, _, rfl, by kernel_rfl, ?_⟩
     · first | omega | (omega)
     simp only [ga]
     refine ⟨c + 1, rfl, ?_, rfl, ?_⟩
     ·
      obtain rfl : q = 4 := by omega
      exact hH
     · first | omega | (omega)
   ·
    (try simp only [cnd] at hc54)
    refine wp_exit ?_
    (try simp only [Exit.then, Exit.inBlock, ↓reduceIte, Nat.reduceEqDiff])
    refine hK42 _ _ ?_
    (try clear hK42 K42)
    refine wp_seq_k ?_
    intro K73 hK73
    refine wp_seq_k ?_
    intro K74 hK74
    refine wrt [.p 0, .p 1] ?_
    refine pm ?_;simp only [nf]
    refine pp rfl rfl (pr_bin rfl rfl (by first | exact bin_lss_n (n := 10)  | exact bin_lss_i)) ?_;simp only [nf]
    refine plan_nil hH ?_
    clear hH
    intro w75 hH
    refine hK74 _ _ ?_
    (try clear hK74 K74)
    refine wp_cond_split rfl (fun hc76 => ?_) (fun hc76 => ?_)
    ·
     (try simp only [cnd] at hc76)
     obtain rfl : c = 4 := by omega
     replace hH := hH.say 1 rfl (arr8_congr (g := subs (aesR (kexp key) sl r)) fun i hi => by rw [if_pos (by omega)])
     simp only [List.set_cons_zero, List.set_cons_succ] at hH
     refine wp_seq_k ?_
     intro K77 hK77
     refine wrt [.q 0, .x 1, .e 2] ?_
     refine pq rfl rfl (qr_loadW rfl (hH.blk 1 rfl) Tryd.underlying87 rfl sz87 (by simp)) ?_;simp only [nf]
     refine plan_alloc rfl rfl hH zc87 ?_
     clear hH
     intro b78 w79 hH
     (try simp only [nf, nh, Value.cells] at hH ⊢)
     refine plan_storeW 2 rfl rfl hH rfl rfl rfl one_arr8 sz87 (by simp) (by simp) ?_
     clear hH
     intro w80 hH
     (try simp only [nf, nh, Value.cells] at hH ⊢)
     refine plan_nil hH ?_
     clear hH
     intro w81 hH
     refine hK77 _ _ ?_
     (try clear hK77 K77)
     refine wp_seq_k ?_
     intro K82 hK82
     refine wrt [.p 0] ?_
     refine pka 0 ?_;simp only [nf]
     refine plan_nil hH ?_
     clear hH
     intro w83 hH
     refine hK82 _ _ ?_
     (try clear hK82 K82)
     refine wp_block ?_
     refine wp_loopT [12] [13, 14, 15, 67, 68, 69, 70, 71, 72, 73, 74, 75, 76, 77, 78, 79, 80, 81, 82, 83, 84, 85, 86, 87, 88, 89, 90, 91, 92, 93, 94, 95, 96, 97, 98, 99, 100, 101, 102, 103, 104, 105, 106, 107, 108, 109, 110, 111, 112, 113, 114, 115, 116, 117, 118] (fun (n84 : Nat) (vs : List Value) (w' : World) => ∃ (c : Nat), vs = [I64 (c : Nat)] ∧ Hp [] w w' [(some b4, 87, arr8 16 (aesR (kexp key) sl r)), (some b39, 87, arr8 16 fun i => if i < 4 * c then colsN (subs (aesR (kexp key) sl r)) 4 i else subs (aesR (kexp key) sl r) i), (some b78, 87, arr8 16 (subs (aesR (kexp key) sl r)))] ∧ n84 = 4 - c ∧ c ≤ 4) (4 - 0) (by kernel_rfl) ?_ ?_
     ·
      simp only [ga]
      refine ⟨0, rfl, ?_, rfl, ?_⟩
      ·
       exact hH.say 1 rfl (arr8_congr fun i hi => by rw [if_neg (by omega)])
      · first | omega | (omega)
     clear hH
     intro n84 vs85 w86 hR87 d4
     obtain ⟨c, rfl, hH, hn88, hf89⟩ := hR87
     simp only [putAll, putD, List.set_cons_zero, List.set_cons_succ, Nat.zero_add, Nat.reduceAdd]
     refine wp_seq_k ?_
     intro K90 hK90
     refine wp_seq_k ?_
     intro K91 hK91
     refine wrt [.p 0, .p 1] ?_
     refine pm ?_;simp only [nf]
     refine pp rfl rfl (pr_bin rfl rfl (by first | exact bin_lss_n (n := 4)  | exact bin_lss_i)) ?_;simp only [nf]
     refine plan_nil hH ?_
     clear hH
     intro w92 hH
     refine hK91 _ _ ?_
     (try clear hK91 K91)
     refine wp_cond_split rfl (fun hc93 => ?_) (fun hc93 => ?_)
     ·
      (try simp only [cnd] at hc93)
      refine wp_skip ?_
      refine hK90 _ _ ?_
      (try clear hK90 K90)
      refine wp_seq_k ?_
      intro K94 hK94
      refine wp_block ?_
      refine wp_seq_k ?_
      intro K95 hK95
      refine wrt [.p 0] ?_
      refine pka 0 ?_;simp only [nf]
      refine plan_nil hH ?_
      clear hH
      intro w96 hH
      refine hK95 _ _ ?_
      (try clear hK95 K95)
      refine wp_block ?_
      refine wp_loopT [13] [14, 15, 71, 72, 73, 74, 75, 76, 77, 78, 79, 80, 81, 82, 83, 84, 85, 86, 87, 88, 89, 90, 91, 92, 93, 94, 95, 96, 97, 98, 99, 100, 101, 102, 103, 104, 105, 106, 107, 108, 109, 110, 111, 112, 113, 114, 115, 116, 117, 118] (fun (n97 : Nat) (vs : List Value) (w' : World) => ∃ (q : Nat), vs = [I64 (q : Nat)] ∧ Hp [] w w' [(some b4, 87, arr8 16 (aesR (kexp key) sl r)), (some b39, 87, arr8 16 fun i => if i < 4 * c + q then colsN (subs (aesR (kexp key) sl r)) 4 i else subs (aesR (kexp key) sl r) i), (some b78, 87, arr8 16 (subs (aesR (kexp key) sl r)))] ∧ n97 = 4 - q ∧ q ≤ 4) (4 - 0) (by kernel_rfl) ?_ ?_
      ·
       simp only [ga]
       refine ⟨0, rfl, ?_, rfl, ?_⟩
       ·
        exact hH
       · first | omega | (omega)
      clear hH
      intro n97 vs98 w99 hR100 d5
      obtain ⟨q, rfl, hH, hn101, hf102⟩ := hR100
      simp only [putAll, putD, List.set_cons_zero, List.set_cons_succ, Nat.zero_add, Nat.reduceAdd]
      refine wp_seq_k ?_
      intro K103 hK103
      refine wp_seq_k ?_
      intro K104 hK104
      refine wrt [.p 0, .p 1] ?_
      refine pm ?_;simp only [nf]
      refine pp rfl rfl (pr_bin rfl rfl (by first | exact bin_lss_n (n := 4)  | exact bin_lss_i)) ?_;simp only [nf]
      refine plan_nil hH ?_
      clear hH
      intro w105 hH
      refine hK104 _ _ ?_
      (try clear hK104 K104)
      refine wp_cond_split rfl (fun hc106 => ?_) (fun hc106 => ?_)
      ·
       (try simp only [cnd] at hc106)
       refine wp_skip ?_
       refine hK103 _ _ ?_
       (try clear hK103 K103)
       refine wp_seq_k ?_
       intro K107 hK107
       refine wp_block ?_
       refine wp_seq_k ?_
       intro K108 hK108
       refine wrp [.p 0, .p 1, .p 2, .p 3, .p 4, .p 6, .p 7, .p 8, .p 9, .p 10, .p 11, .p 12, .q 5, .p 14, .q 13, .p 15] ?_
       refine pm ?_;simp only [nf]
       refine pp rfl rfl (pr_bin rfl rfl (by first | exact bin_mul_n (m := 4) (by first | omega | (exact Nat.lt_of_lt_of_le (lt_u8 _) (by omega))) | exact bin_mul_i (by first | omega | (exact Nat.lt_of_lt_of_le (lt_u8 _) (by omega))) (by first | omega | (exact Nat.lt_of_lt_of_le (lt_u8 _) (by omega))))) ?_;simp only [nf]
       refine pm ?_;simp only [nf]
       refine pp rfl rfl (pr_bin rfl rfl (by first | exact bin_add_n (by first | omega | (exact Nat.lt_of_lt_of_le (lt_u8 _) (by omega))) | exact bin_add_i (by first | omega | (exact Nat.lt_of_lt_of_le (lt_u8 _) (by omega))) (by first | omega | (exact Nat.lt_of_lt_of_le (lt_u8 _) (by omega))))) ?_;simp only [nf]
       refine pp rfl rfl (pr_idxA1 rfl rfl Tryd.underlying87 sz5 (by first | omega | (exact Nat.lt_of_lt_of_le (lt_u8 _) (by omega)))) ?_;simp only [nf]
       refine pm ?_;simp only [nf]
       refine pp rfl rfl (pr_bin rfl rfl (by first | exact bin_mul_n (m := 4) (by first | omega | (exact Nat.lt_of_lt_of_le (lt_u8 _) (by omega))) | exact bin_mul_i (by first | omega | (exact Nat.lt_of_lt_of_le (lt_u8 _) (by omega))) (by first | omega | (exact Nat.lt_of_lt_of_le (lt_u8 _) (by omega))))) ?_;simp only [nf]
       refine pm ?_;simp only [nf]
       refine pp rfl rfl (pr_bin rfl rfl (by first | exact bin_add_n (n := 1) (by first | omega | (exact Nat.lt_of_lt_of_le (lt_u8 _) (by omega))) | exact bin_add_i (by first | omega | (exact Nat.lt_of_lt_of_le (lt_u8 _) (by omega))) (by first | omega | (exact Nat.lt_of_lt_of_le (lt_u8 _) (by omega))))) ?_;simp only [nf]
       refine pp rfl rfl (pr_bin rfl rfl (by first | exact bin_rem_n (n := 4) (by first | omega | (exact Nat.lt_of_lt_of_le (lt_u8 _) (by omega))))) ?_;simp only [nf]
       refine pp rfl rfl (pr_bin rfl rfl (by first | exact bin_add_n (by first | omega | (exact Nat.lt_of_lt_of_le (lt_u8 _) (by omega))) | exact bin_add_i (by first | omega | (exact Nat.lt_of_lt_of_le (lt_u8 _) (by omega))) (by first | omega | (exact Nat.lt_of_lt_of_le (lt_u8 _) (by omega))))) ?_;simp only [nf]
       refine pp rfl rfl (pr_idxA1 rfl rfl Tryd.underlying87 sz5 (by first | omega | (exact Nat.lt_of_lt_of_le (lt_u8 _) (by omega)))) ?_;simp only [nf]
       refine pq rfl rfl (qr_load1 rfl Tryd.underlying5 rfl ((hH.blk 2 rfl).cell (arr8_get (by first | omega | (exact Nat.lt_of_lt_of_le (lt_u8 _) (by omega)))))) ?_;simp only [nf]
       refine pa ?_;simp only [nf]
       refine pq rfl rfl (qr_load1 rfl Tryd.underlying5 rfl ((hH.blk 2 rfl).cell (arr8_get (by first | omega | (exact Nat.lt_of_lt_of_le (lt_u8 _) (by omega)))))) ?_;simp only [nf]
       refine pa ?_;simp only [nf]
       refine plan_nil hH ?_
       clear hH
       intro w109 hH
       refine hK108 _ _ ?_
       (try clear hK108 K108)
       refine wrp [.p 0, .p 1, .p 2, .p 3, .p 4, .p 6, .p 9, .p 11, .p 12, .p 13, .p 14, .p 15, .p 16, .p 17, .p 20, .p 21, .p 22, .p 23, .p 24, .p 25, .p 26, .q 5, .q 7, .p 8, .p 10, .q 18, .p 19, .q 27, .p 28, .p 29, .e 30] ?_
       refine pm ?_;simp only [nf]
       refine pp rfl rfl (pr_bin rfl rfl (by first | exact bin_mul_n (m := 4) (by first | omega | (exact Nat.lt_of_lt_of_le (lt_u8 _) (by omega))) | exact bin_mul_i (by first | omega | (exact Nat.lt_of_lt_of_le (lt_u8 _) (by omega))) (by first | omega | (exact Nat.lt_of_lt_of_le (lt_u8 _) (by omega))))) ?_;simp only [nf]
       refine pm ?_;simp only [nf]
       refine pp rfl rfl (pr_bin rfl rfl (by first | exact bin_add_n (by first | omega | (exact Nat.lt_of_lt_of_le (lt_u8 _) (by omega))) | exact bin_add_i (by first | omega | (exact Nat.lt_of_lt_of_le (lt_u8 _) (by omega))) (by first | omega | (exact Nat.lt_of_lt_of_le (lt_u8 _) (by omega))))) ?_;simp only [nf]
       refine pm (pm (pm (pm ?_)));simp only [nf]
       refine pp rfl rfl (pr_bin rfl rfl (by first | exact bin_mul_n (m := 4) (by first | omega | (exact Nat.lt_of_lt_of_le (lt_u8 _) (by omega))) | exact bin_mul_i (by first | omega | (exact Nat.lt_of_lt_of_le (lt_u8 _) (by omega))) (by first | omega | (exact Nat.lt_of_lt_of_le (lt_u8 _) (by omega))))) ?_;simp only [nf]
       refine pm ?_;simp only [nf]
       refine pp rfl rfl (pr_bin rfl rfl (by first | exact bin_add_n (n := 2) (by first | omega | (exact Nat.lt_of_lt_of_le (lt_u8 _) (by omega))) | exact bin_add_i (by first | omega | (exact Nat.lt_of_lt_of_le (lt_u8 _) (by omega))) (by first | omega | (exact Nat.lt_of_lt_of_le (lt_u8 _) (by omega))))) ?_;simp only [nf]
       refine pp rfl rfl (pr_bin rfl rfl (by first | exact bin_rem_n (n := 4) (by first | omega | (exact Nat.lt_of_lt_of_le (lt_u8 _) (by omega))))) ?_;simp only [nf]
       refine pp rfl rfl (pr_bin rfl rfl (by first | exact bin_add_n (by first | omega | (exact Nat.lt_of_lt_of_le (lt_u8 _) (by omega))) | exact bin_add_i (by first | omega | (exact Nat.lt_of_lt_of_le (lt_u8 _) (by omega))) (by first | omega | (exact Nat.lt_of_lt_of_le (lt_u8 _) (by omega))))) ?_;simp only [nf]
       refine pp rfl rfl (pr_idxA1 rfl rfl Tryd.underlying87 sz5 (by first | omega | (exact Nat.lt_of_lt_of_le (lt_u8 _) (by omega)))) ?_;simp only [nf]
       refine pm ?_;simp only [nf]
       refine pp rfl rfl (pr_bin rfl rfl (by first | exact bin_mul_n (m := 4) (by first | omega | (exact Nat.lt_of_lt_of_le (lt_u8 _) (by omega))) | exact bin_mul_i (by first | omega | (exact Nat.lt_of_lt_of_le (lt_u8 _) (by omega))) (by first | omega | (exact Nat.lt_of_lt_of_le (lt_u8 _) (by omega))))) ?_;simp only [nf]
       refine pm ?_;simp only [nf]
       refine pp rfl rfl (pr_bin rfl rfl (by first | exact bin_add_n (n := 3) (by first | omega | (exact Nat.lt_of_lt_of_le (lt_u8 _) (by omega))) | exact bin_add_i (by first | omega | (exact Nat.lt_of_lt_of_le (lt_u8 _) (by omega))) (by first | omega | (exact Nat.lt_of_lt_of_le (lt_u8 _) (by omega))))) ?_;simp only [nf]
       refine pp rfl rfl (pr_bin rfl rfl (by first | exact bin_rem_n (n := 4) (by first | omega | (exact Nat.lt_of_lt_of_le (lt_u8 _) (by omega))))) ?_;simp only [nf]
       refine pp rfl rfl (pr_bin rfl rfl (by first | exact bin_add_n (by first | omega | (exact Nat.lt_of_lt_of_le (lt_u8 _) (by omega))) | exact bin_add_i (by first | omega | (exact Nat.lt_of_lt_of_le (lt_u8 _) (by omega))) (by first | omega | (exact Nat.lt_of_lt_of_le (lt_u8 _) (by omega))))) ?_;simp only [nf]
       refine pp rfl rfl (pr_idxA1 rfl rfl Tryd.underlying87 sz5 (by first | omega | (exact Nat.lt_of_lt_of_le (lt_u8 _) (by omega)))) ?_;simp only [nf]
       refine pq rfl rfl (qr_call cf54 (fun w' hw => twice_calls _ w') rfl) ?_;simp only [nf]
       refine pq rfl rfl (qr_call cf54 (fun w' hw => twice_calls _ w') rfl) ?_;simp only [nf]
       refine pp rfl rfl (pr_bin rfl rfl (bin_xor_u8 _ _)) ?_;simp only [nf]
       refine pp rfl rfl (pr_bin rfl rfl (bin_xor_u8 _ _)) ?_;simp only [nf]
       refine pq rfl rfl (qr_load1 rfl Tryd.underlying5 rfl ((hH.blk 2 rfl).cell (arr8_get (by first | omega | (exact Nat.lt_of_lt_of_le (lt_u8 _) (by omega)))))) ?_;simp only [nf]
       refine pp rfl rfl (pr_bin rfl rfl (bin_xor_u8 _ _)) ?_;simp only [nf]
       refine pq rfl rfl (qr_load1 rfl Tryd.underlying5 rfl ((hH.blk 2 rfl).cell (arr8_get (by first | omega | (exact Nat.lt_of_lt_of_le (lt_u8 _) (by omega)))))) ?_;simp only [nf]
       refine pp rfl rfl (pr_bin rfl rfl (bin_xor_u8 _ _)) ?_;simp only [nf]
       refine pp rfl rfl (pr_idxA1 rfl rfl Tryd.underlying87 sz5 (by first | omega | (exact Nat.lt_of_lt_of_le (lt_u8 _) (by omega)))) ?_;simp only [nf]
       refine plan_store1 1 rfl rfl hH rfl rfl rfl rfl sz5 (by simp <;> omega) ?_
       clear hH
       intro w110 hH
       (try simp only [nf, nh, Value.cells] at hH ⊢)
       refine plan_nil hH ?_
       clear hH
       intro w111 hH
       refine hK107 _ _ ?_
       (try clear hK107 K107)
       refine wrt [.p 0, .p 1, .p 2] ?_
       refine pm ?_;simp only [nf]
       refine pp rfl rfl (pr_bin rfl rfl (by first | exact bin_add_n (n := 1) (by first | omega | (exact Nat.lt_of_lt_of_le (lt_u8 _) (by omega))) | exact bin_add_i (by first | omega | (exact Nat.lt_of_lt_of_le (lt_u8 _) (by omega))) (by first | omega | (exact Nat.lt_of_lt_of_le (lt_u8 _) (by omega))))) ?_;simp only [nf]
       refine pa ?_;simp only [nf]
       refine plan_nil hH ?_
       clear hH
       intro w112 hH
       (try simp only [Exit.then, Exit.inBlock, ↓reduceIte, Nat.reduceEqDiff])
       refine ⟨4 - (q + 1), ?_, _, rfl, by kernel_rfl, ?_⟩
       · first | omega | (omega)
       simp only [ga]
       refine ⟨q + 1, rfl, ?_, rfl, ?_⟩
       ·
        exact hH.say 1 rfl (arr8_congr fun i hi => put_at (g := colsN (subs (aesR (kexp key) sl r)) 4) (z := subs (aesR (kexp key) sl r)) rfl (by omega) (colsN_at _ (by omega) (by omega)) i)
       · first | omega | (omega)
      ·
       (try simp only [cnd] at hc106)
       refine wp_exit ?_
       (try simp only [Exit.then, Exit.inBlock, ↓reduceIte, Nat.reduceEqDiff])
       refine hK94 _ _ ?_
       (try clear hK94 K94)
       refine wrt [.p 0, .p 1, .p 2] ?_
       refine pm ?_;simp only [nf]
       refine pp rfl rfl (pr_bin rfl rfl (by first | exact bin_add_n (n := 1) (by first | omega | (exact Nat.lt_of_lt_of_le (lt_u8 _) (by omega))) | exact bin_add_i (by first | omega | (exact Nat.lt_of_lt_of_le (lt_u8 _) (by omega))) (by first | omega | (exact Nat.lt_of_lt_of_le (lt_u8 _) (by omega))))) ?_;simp only [nf]
       refine pa ?_;simp only [nf]
       refine plan_nil hH ?_
       clear hH
       intro w113 hH
       (try simp only [Exit.then, Exit.inBlock, ↓reduceIte, Nat.reduceEqDiff])
       refine ⟨4 - (c + 1), ?_, _, rfl, by kernel_rfl, ?_⟩
       · first | omega | (omega)
       simp only [ga]
       refine ⟨c + 1, rfl, ?_, rfl, ?_⟩
       ·
        obtain rfl : q = 4 := by omega
        exact hH
       · first | omega | (omega)
     ·
      (try simp only [cnd] at hc93)
      refine wp_exit ?_
      (try simp only [Exit.then, Exit.inBlock, ↓reduceIte, Nat.reduceEqDiff])
      refine hK73 _ _ ?_
      (try clear hK73 K73)
      refine wp_seq_k ?_
      intro K114 hK114
      refine wrt [.p 0] ?_
      refine pka 0 ?_;simp only [nf]
      refine plan_nil hH ?_
      clear hH
      intro w115 hH
      refine hK114 _ _ ?_
      (try clear hK114 K114)
      refine wp_block ?_
      refine wp_loopT [16] [119, 120, 121, 122, 123, 124, 125, 126, 127, 128, 129, 130, 131, 132, 133, 134, 135, 136, 137] (fun (n116 : Nat) (vs : List Value) (w' : World) => ∃ (k : Nat), vs = [I64 (k : Nat)] ∧ Hp [] w w' [(some b4, 87, arr8 16 fun i => if i < k then aesR (kexp key) sl (r + 1) i else (aesR (kexp key) sl r) i), (some b39, 87, arr8 16 (if r + 1 < 10 then colsN (subs (aesR (kexp key) sl r)) 4 else subs (aesR (kexp key) sl r)))] ∧ n116 = 16 - k ∧ k ≤ 16) (16 - 0) (by kernel_rfl) ?_ ?_
      ·
       simp only [ga]
       refine ⟨0, rfl, ?_, rfl, ?_⟩
       ·
        obtain rfl : c = 4 := by omega
        refine ((hH.take 2).say 0 rfl (arr8_congr fun i hi => by rw [if_neg (by omega)])).say 1 rfl (arr8_congr fun i hi => by rw [if_pos (by omega), if_pos (by omega)])
       · first | omega | (omega)
      clear hH
      intro n116 vs117 w118 hR119 d6
      obtain ⟨k, rfl, hH, hn120, hf121⟩ := hR119
      simp only [putAll, putD, List.set_cons_zero, List.set_cons_succ, Nat.zero_add, Nat.reduceAdd]
      refine wp_seq_k ?_
      intro K122 hK122
      refine wp_seq_k ?_
      intro K123 hK123
      refine wrt [.p 0, .p 1] ?_
      refine pm ?_;simp only [nf]
      refine pp rfl rfl (pr_bin rfl rfl (by first | exact bin_lss_n (n := 16)  | exact bin_lss_i)) ?_;simp only [nf]
      refine plan_nil hH ?_
      clear hH
      intro w124 hH
      refine hK123 _ _ ?_
      (try clear hK123 K123)
      refine wp_cond_split rfl (fun hc125 => ?_) (fun hc125 => ?_)
      ·
       (try simp only [cnd] at hc125)
       refine wp_skip ?_
       refine hK122 _ _ ?_
       (try clear hK122 K122)
       refine wp_seq_k ?_
       intro K126 hK126
       refine wp_block ?_
       refine wrp [.p 0, .p 1, .p 2, .p 4, .p 5, .p 6, .p 7, .p 8, .p 9, .p 10, .p 11, .q 3, .q 12, .p 13, .p 14, .e 15] ?_
       refine pm (pm ?_);simp only [nf]
       refine pp rfl rfl (pr_idxA1 rfl rfl Tryd.underlying87 sz5 (by first | omega | (exact Nat.lt_of_lt_of_le (lt_u8 _) (by omega)))) ?_;simp only [nf]
       refine pm (pm ?_);simp only [nf]
       refine pp rfl rfl (pr_bin rfl rfl (by first | exact bin_mul_n (m := 16) (by first | omega | (exact Nat.lt_of_lt_of_le (lt_u8 _) (by omega))) | exact bin_mul_i (by first | omega | (exact Nat.lt_of_lt_of_le (lt_u8 _) (by omega))) (by first | omega | (exact Nat.lt_of_lt_of_le (lt_u8 _) (by omega))))) ?_;simp only [nf]
       refine pm ?_;simp only [nf]
       refine pp rfl rfl (pr_bin rfl rfl (by first | exact bin_add_n (by first | omega | (exact Nat.lt_of_lt_of_le (lt_u8 _) (by omega))) | exact bin_add_i (by first | omega | (exact Nat.lt_of_lt_of_le (lt_u8 _) (by omega))) (by first | omega | (exact Nat.lt_of_lt_of_le (lt_u8 _) (by omega))))) ?_;simp only [nf]
       refine pp rfl rfl (pr_nilCheck rfl) ?_;simp only [nf]
       refine pp rfl rfl (pr_fieldAddr 256 rfl Tryd.underlying103 rfl rfl sz101) ?_;simp only [nf]
       refine pp rfl rfl (pr_idxA1 rfl rfl Tryd.underlying101 sz5 (by first | omega | (exact Nat.lt_of_lt_of_le (lt_u8 _) (by omega)))) ?_;simp only [nf]
       refine pq rfl rfl (qr_load1 rfl Tryd.underlying5 rfl ((hH.blk 1 rfl).cell (arr8_get (by first | omega | (exact Nat.lt_of_lt_of_le (lt_u8 _) (by omega)))))) ?_;simp only [nf]
       refine pq rfl rfl (qr_load1 rfl Tryd.underlying5 rfl ((hH.chg.nil_blk hb).cell (arr8_get (by first | omega | (exact Nat.lt_of_lt_of_le (lt_u8 _) (by omega)))))) ?_;simp only [nf]
       refine pp rfl rfl (pr_bin rfl rfl (bin_xor_u8 _ _)) ?_;simp only [nf]
       refine pp rfl rfl (pr_idxA1 rfl rfl Tryd.underlying87 sz5 (by first | omega | (exact Nat.lt_of_lt_of_le (lt_u8 _) (by omega)))) ?_;simp only [nf]
       refine plan_store1 0 rfl rfl hH rfl rfl rfl rfl sz5 (by simp <;> omega) ?_
       clear hH
       intro w127 hH
       (try simp only [nf, nh, Value.cells] at hH ⊢)
       refine plan_nil hH ?_
       clear hH
       intro w128 hH
       refine hK126 _ _ ?_
       (try clear hK126 K126)
       refine wrt [.p 0, .p 1, .p 2] ?_
       refine pm ?_;simp only [nf]
       refine pp rfl rfl (pr_bin rfl rfl (by first | exact bin_add_n (n := 1) (by first | omega | (exact Nat.lt_of_lt_of_le (lt_u8 _) (by omega))) | exact bin_add_i (by first | omega | (exact Nat.lt_of_lt_of_le (lt_u8 _) (by omega))) (by first | omega | (exact Nat.lt_of_lt_of_le (lt_u8 _) (by omega))))) ?_;simp only [nf]
       refine pa ?_;simp only [nf]
       refine plan_nil hH ?_
       clear hH
       intro w129 hH
       (try simp only [Exit.then, Exit.inBlock, ↓reduceIte, Nat.reduceEqDiff])
       refine ⟨16 - (k + 1), ?_, _, rfl, by kernel_rfl, ?_⟩
       · first | omega | (omega)
       simp only [ga]
       refine ⟨k + 1, rfl, ?_, rfl, ?_⟩
       ·
        rw [keyF_w] at hH
        exact hH.say 0 rfl (arr8_congr fun i hi => put_at (g := aesR (kexp key) sl (r + 1)) (z := (aesR (kexp key) sl r)) rfl rfl (by rw [aesR_succ, Nat.mul_comm 16]) i)
       · first | omega | (omega)
      ·
       (try simp only [cnd] at hc125)
       refine wp_exit ?_
       (try simp only [Exit.then, Exit.inBlock, ↓reduceIte, Nat.reduceEqDiff])
       refine hK37 _ _ ?_
       (try clear hK37 K37)
       refine wrt [.p 0, .p 1, .p 2] ?_
       refine pm ?_;simp only [nf]
       refine pp rfl rfl (pr_bin rfl rfl (by first | exact bin_add_n (n := 1) (by first | omega | (exact Nat.lt_of_lt_of_le (lt_u8 _) (by omega))) | exact bin_add_i (by first | omega | (exact Nat.lt_of_lt_of_le (lt_u8 _) (by omega))) (by first | omega | (exact Nat.lt_of_lt_of_le (lt_u8 _) (by omega))))) ?_;simp only [nf]
       refine pa ?_;simp only [nf]
       refine plan_nil hH ?_
       clear hH
       intro w130 hH
       (try simp only [Exit.then, Exit.inBlock, ↓reduceIte, Nat.reduceEqDiff])
       refine ⟨10 - (r + 1), ?_, _, rfl, by kernel_rfl, ?_⟩
       · first | omega | (omega)
       simp only [ga]
       refine ⟨r + 1, rfl, ?_, rfl, ?_⟩
       ·
        obtain rfl : k = 16 := by omega
        exact (hH.take 1).say 0 rfl (arr8_congr fun i hi => by rw [if_pos (by omega)])
       · first | omega | (omega)
    ·
     (try simp only [cnd] at hc76)
     obtain rfl : c = 4 := by omega
     replace hH := hH.say 1 rfl (arr8_congr (g := subs (aesR (kexp key) sl r)) fun i hi => by rw [if_pos (by omega)])
     simp only [List.set_cons_zero, List.set_cons_succ] at hH
     refine wp_skip ?_
     refine hK73 _ _ ?_
     (try clear hK73 K73)
     refine wp_seq_k ?_
     intro K131 hK131
     refine wrt [.p 0] ?_
     refine pka 0 ?_;simp only [nf]
     refine plan_nil hH ?_
     clear hH
     intro w132 hH
     refine hK131 _ _ ?_
     (try clear hK131 K131)
     refine wp_block ?_
     refine wp_loopT [16] [119, 120, 121, 122, 123, 124, 125, 126, 127, 128, 129, 130, 131, 132, 133, 134, 135, 136, 137] (fun (n133 : Nat) (vs : List Value) (w' : World) => ∃ (k : Nat), vs = [I64 (k : Nat)] ∧ Hp [] w w' [(some b4, 87, arr8 16 fun i => if i < k then aesR (kexp key) sl (r + 1) i else (aesR (kexp key) sl r) i), (some b39, 87, arr8 16 (if r + 1 < 10 then colsN (subs (aesR (kexp key) sl r)) 4 else subs (aesR (kexp key) sl r)))] ∧ n133 = 16 - k ∧ k ≤ 16) (16 - 0) (by kernel_rfl) ?_ ?_
     ·
      simp only [ga]
      refine ⟨0, rfl, ?_, rfl, ?_⟩
      ·
       exact (hH.say 0 rfl (arr8_congr fun i hi => by rw [if_neg (by omega)])).say 1 rfl (by rw [if_neg (by omega)])
      · first | omega | (omega)
     clear hH
     intro n133 vs134 w135 hR136 d6
     obtain ⟨k, rfl, hH, hn137, hf138⟩ := hR136
     simp only [putAll, putD, List.set_cons_zero, List.set_cons_succ, Nat.zero_add, Nat.reduceAdd]
     refine wp_seq_k ?_
     intro K139 hK139
     refine wp_seq_k ?_
     intro K140 hK140
     refine wrt [.p 0, .p 1] ?_
     refine pm ?_;simp only [nf]
     refine pp rfl rfl (pr_bin rfl rfl (by first | exact bin_lss_n (n := 16)  | exact bin_lss_i)) ?_;simp only [nf]
     refine plan_nil hH ?_
     clear hH
     intro w141 hH
     refine hK140 _ _ ?_
     (try clear hK140 K140)
     refine wp_cond_split rfl (fun hc142 => ?_) (fun hc142 => ?_)
     ·
      (try simp only [cnd] at hc142)
      refine wp_skip ?_
      refine hK139 _ _ ?_
      (try clear hK139 K139)
      refine wp_seq_k ?_
      intro K143 hK143
      refine wp_block ?_
      refine wrp [.p 0, .p 1, .p 2, .p 4, .p 5, .p 6, .p 7, .p 8, .p 9, .p 10, .p 11, .q 3, .q 12, .p 13, .p 14, .e 15] ?_
      refine pm (pm ?_);simp only [nf]
      refine pp rfl rfl (pr_idxA1 rfl rfl Tryd.underlying87 sz5 (by first | omega | (exact Nat.lt_of_lt_of_le (lt_u8 _) (by omega)))) ?_;simp only [nf]
      refine pm (pm ?_);simp only [nf]
      refine pp rfl rfl (pr_bin rfl rfl (by first | exact bin_mul_n (m := 16) (by first | omega | (exact Nat.lt_of_lt_of_le (lt_u8 _) (by omega))) | exact bin_mul_i (by first | omega | (exact Nat.lt_of_lt_of_le (lt_u8 _) (by omega))) (by first | omega | (exact Nat.lt_of_lt_of_le (lt_u8 _) (by omega))))) ?_;simp only [nf]
      refine pm ?_;simp only [nf]
      refine pp rfl rfl (pr_bin rfl rfl (by first | exact bin_add_n (by first | omega | (exact Nat.lt_of_lt_of_le (lt_u8 _) (by omega))) | exact bin_add_i (by first | omega | (exact Nat.lt_of_lt_of_le (lt_u8 _) (by omega))) (by first | omega | (exact Nat.lt_of_lt_of_le (lt_u8 _) (by omega))))) ?_;simp only [nf]
      refine pp rfl rfl (pr_nilCheck rfl) ?_;simp only [nf]
      refine pp rfl rfl (pr_fieldAddr 256 rfl Tryd.underlying103 rfl rfl sz101) ?_;simp only [nf]
      refine pp rfl rfl (pr_idxA1 rfl rfl Tryd.underlying101 sz5 (by first | omega | (exact Nat.lt_of_lt_of_le (lt_u8 _) (by omega)))) ?_;simp only [nf]
      refine pq rfl rfl (qr_load1 rfl Tryd.underlying5 rfl ((hH.blk 1 rfl).cell (arr8_get (by first | omega | (exact Nat.lt_of_lt_of_le (lt_u8 _) (by omega)))))) ?_;simp only [nf]
      refine pq rfl rfl (qr_load1 rfl Tryd.underlying5 rfl ((hH.chg.nil_blk hb).cell (arr8_get (by first | omega | (exact Nat.lt_of_lt_of_le (lt_u8 _) (by omega)))))) ?_;simp only [nf]
      refine pp rfl rfl (pr_bin rfl rfl (bin_xor_u8 _ _)) ?_;simp only [nf]
      refine pp rfl rfl (pr_idxA1 rfl rfl Tryd.underlying87 sz5 (by first | omega | (exact Nat.lt_of_lt_of_le (lt_u8 _) (by omega)))) ?_;simp only [nf]
      refine plan_store1 0 rfl rfl hH rfl rfl rfl rfl sz5 (by simp <;> omega) ?_
      clear hH
      intro w144 hH
      (try simp only [nf, nh, Value.cells] at hH ⊢)
      refine plan_nil hH ?_
      clear hH
      intro w145 hH
      refine hK143 _ _ ?_
      (try clear hK143 K143)
      refine wrt [.p 0, .p 1, .p 2] ?_
      refine pm ?_;simp only [nf]
      refine pp rfl rfl (pr_bin rfl rfl (by first | exact bin_add_n (n := 1) (by first | omega | (exact Nat.lt_of_lt_of_le (lt_u8 _) (by omega))) | exact bin_add_i (by first | omega | (exact Nat.lt_of_lt_of_le (lt_u8 _) (by omega))) (by first | omega | (exact Nat.lt_of_lt_of_le (lt_u8 _) (by omega))))) ?_;simp only [nf]
      refine pa ?_;simp only [nf]
      refine plan_nil hH ?_
      clear hH
      intro w146 hH
      (try simp only [Exit.then, Exit.inBlock, ↓reduceIte, Nat.reduceEqDiff])
      refine ⟨16 - (k + 1), ?_, _, rfl, by kernel_rfl, ?_⟩
      · first | omega | (omega)
      simp only [ga]
      refine ⟨k + 1, rfl, ?_, rfl, ?_⟩
      ·
       rw [keyF_w] at hH
       exact hH.say 0 rfl (arr8_congr fun i hi => put_at (g := aesR (kexp key) sl (r + 1)) (z := (aesR (kexp key) sl r)) rfl rfl (by rw [aesR_succ, Nat.mul_comm 16]) i)
      · first | omega | (omega)
     ·
      (try simp only [cnd] at hc142)
      refine wp_exit ?_
      (try simp only [Exit.then, Exit.inBlock, ↓reduceIte, Nat.reduceEqDiff])
      refine hK37 _ _ ?_
      (try clear hK37 K37)
      refine wrt [.p 0, .p 1, .p 2] ?_
      refine pm ?_;simp only [nf]
      refine pp rfl rfl (pr_bin rfl rfl (by first | exact bin_add_n (n := 1) (by first | omega | (exact Nat.lt_of_lt_of_le (lt_u8 _) (by omega))) | exact bin_add_i (by first | omega | (exact Nat.lt_of_lt_of_le (lt_u8 _) (by omega))) (by first | omega | (exact Nat.lt_of_lt_of_le (lt_u8 _) (by omega))))) ?_;simp only [nf]
      refine pa ?_;simp only [nf]
      refine plan_nil hH ?_
      clear hH
      intro w147 hH
      (try simp only [Exit.then, Exit.inBlock, ↓reduceIte, Nat.reduceEqDiff])
      refine ⟨10 - (r + 1), ?_, _, rfl, by kernel_rfl, ?_⟩
      · first | omega | (omega)
      simp only [ga]
      refine ⟨r + 1, rfl, ?_, rfl, ?_⟩
      ·
       obtain rfl : k = 16 := by omega
       exact (hH.take 1).say 0 rfl (arr8_congr fun i hi => by rw [if_pos (by omega)])
      · first | omega | (omega)
  ·
   (try simp only [cnd] at hc36)
   refine wp_exit ?_
   (try simp only [Exit.then, Exit.inBlock, ↓reduceIte, Nat.reduceEqDiff])
   refine hK24 _ _ ?_
   (try clear hK24 K24)
   refine wp_seq_k ?_
   intro K148 hK148
   refine wrt [.p 0, .q 1, .p 2] ?_
   refine pp rfl rfl (pr_slice_arr_all rfl Tryd.underlying87 sz5) ?_;simp only [nf]
   (try simp only [Nat.mul_one, Nat.zero_add, Nat.add_sub_cancel_left])
   refine pq rfl rfl (qr_b2s (Sl.of_arr8 (hH.blk 0 rfl) (by first | omega | (exact Nat.lt_of_lt_of_le (lt_u8 _) (by omega))) (by first | omega | (exact Nat.lt_of_lt_of_le (lt_u8 _) (by omega)))) rfl Tryd.underlying22 Tryd.underlying5 Tryd.underlying9) ?_;simp only [nf]
   refine pa ?_;simp only [nf]
   refine plan_nil hH ?_
   clear hH
   intro w149 hH
   refine hK148 _ _ ?_
   (try clear hK148 K148)
   refine wp_ret ?_
   (try simp only [Exit.then, Exit.inBlock, ↓reduceIte, Nat.reduceEqDiff])
   refine BP.ret1 rfl rfl ?_
   obtain rfl : r = 10 := by omega
   exact ⟨rfl, hH.chg⟩
end Go.Proofs.YtmoaddicejohgaaDoor
set_option linter.unusedSimpArgs false
set_option linter.unusedVariables false
set_option maxRecDepth 100000
set_option maxHeartbeats 4000000
namespace Go.Proofs.YtmoaddicejohgaaDoor
open Go
open List (getD_cons_zero getD_cons_succ set_cons_zero set_cons_succ)
theorem be32_sum (c : Nat → UInt8) : (c 12).toUInt32 <<< 24 + (c 13).toUInt32 <<< 16 + (c 14).toUInt32 <<< 8 + (c 15).toUInt32 = be32 c := by
  unfold be32
  apply UInt32.toNat_inj.1
  have h2 := (c 12).toNat_lt; have h3 := (c 13).toNat_lt; have h4 := (c 14).toNat_lt; have h5 := (c 15).toNat_lt
  generalize (c 12) = x2 at *; generalize (c 13) = x3 at *; generalize (c 14) = x4 at *; generalize (c 15) = x5 at *
  have e2 : (x2.toUInt32 <<< 24).toNat = x2.toNat <<< 24 := by
    simp only [UInt32.toNat_shiftLeft, UInt8.toNat_toUInt32, Nat.shiftLeft_eq]
    show x2.toNat * 2 ^ 24 % 2 ^ 32 = x2.toNat * 2 ^ 24
    omega
  have e3 : (x3.toUInt32 <<< 16).toNat = x3.toNat <<< 16 := by
    simp only [UInt32.toNat_shiftLeft, UInt8.toNat_toUInt32, Nat.shiftLeft_eq]
    show x3.toNat * 2 ^ 16 % 2 ^ 32 = x3.toNat * 2 ^ 16
    omega
  have e4 : (x4.toUInt32 <<< 8).toNat = x4.toNat <<< 8 := by
    simp only [UInt32.toNat_shiftLeft, UInt8.toNat_toUInt32, Nat.shiftLeft_eq]
    show x4.toNat * 2 ^ 8 % 2 ^ 32 = x4.toNat * 2 ^ 8
    omega
  rw [UInt32.toNat_or, UInt32.toNat_or, UInt32.toNat_or, UInt32.toNat_add, UInt32.toNat_add, UInt32.toNat_add, e2, e3, e4, UInt8.toNat_toUInt32]
  have o1 : x2.toNat <<< 24 ||| x3.toNat <<< 16 = (x2.toNat * 256 + x3.toNat) <<< 16 := by
    rw [show x2.toNat <<< 24 = (x2.toNat <<< 8) <<< 16 by rw [← Nat.shiftLeft_add], ← Nat.shiftLeft_or_distrib, ← Nat.shiftLeft_add_eq_or_of_lt (i := 8) h3]; simp only [Nat.shiftLeft_eq]
  have o2 : (x2.toNat * 256 + x3.toNat) <<< 16 ||| x4.toNat <<< 8 = ((x2.toNat * 256 + x3.toNat) * 256 + x4.toNat) <<< 8 := by
    rw [show (x2.toNat * 256 + x3.toNat) <<< 16 = ((x2.toNat * 256 + x3.toNat) <<< 8) <<< 8 by rw [← Nat.shiftLeft_add], ← Nat.shiftLeft_or_distrib, ← Nat.shiftLeft_add_eq_or_of_lt (i := 8) h4]; simp only [Nat.shiftLeft_eq]
  have o3 : ((x2.toNat * 256 + x3.toNat) * 256 + x4.toNat) <<< 8 ||| x5.toNat = ((x2.toNat * 256 + x3.toNat) * 256 + x4.toNat) * 256 + x5.toNat := by
    rw [← Nat.shiftLeft_add_eq_or_of_lt (i := 8) h5, Nat.shiftLeft_eq]
  rw [o1, o2, o3]
  simp only [Nat.shiftLeft_eq]
  omega
def blkS (key cf : Nat → UInt8) (m : Nat) : ByteArray := ⟨((List.range 16).map fun i => aesR (kexp key) (ctrF cf (be32 cf + UInt32.ofNat m)) 10 i).toArray⟩
def ctrS (cf : Nat → UInt8) (m : Nat) : ByteArray := ⟨((List.range 16).map fun i => ctrF cf (be32 cf + UInt32.ofNat m) i).toArray⟩
theorem add_bound (s : ByteArray) (l : List UInt8) (h : s.size = 16) (hl : l.length = 4) : (s.extract 0 12).size + (ByteArray.mk l.toArray).size < 9223372036854775808 := by
  have h1 : (s.extract 0 12).size = 12 := by rw [ByteArray.size_extract, h]; rfl
  have h2 : (ByteArray.mk l.toArray).size = 4 := by rw [← hl]; simp [ByteArray.size]
  omega
theorem list16 (l : List UInt8) (h : l.length = 16) (cf : Nat → UInt8) (hcf : ∀ i, i < 16 → l.getD i 0 = cf i) : l = (List.range 16).map cf := by
  apply List.ext_getElem?
  intro i
  by_cases hi : i < 16
  · have := hcf i hi
    simp only [List.getD] at this
    rw [List.getElem?_eq_getElem (by omega)] at this ⊢
    simp [hi] at this ⊢
    exact this
  · rw [List.getElem?_eq_none (by omega), List.getElem?_eq_none (by simp; omega)]
theorem ctrS_is (s : ByteArray) (cf : Nat → UInt8) (hs : s.size = 16) (hcf : ∀ i, i < 16 → s.data.toList.getD i 0 = cf i) (n : UInt32) :
    s.extract 0 12 ++ ⟨[(n >>> 24).toUInt8, (n >>> 16).toUInt8, (n >>> 8).toUInt8, n.toUInt8].toArray⟩ = ⟨((List.range 16).map fun i => ctrF cf n i).toArray⟩ := by
  have hl := list16 s.data.toList (by rw [Array.length_toList]; exact hs) cf hcf
  apply ByteArray.ext
  apply Array.ext'
  rw [ByteArray.data_append, ByteArray.data_extract, Array.toList_append, Array.toList_extract, hl]
  rfl
theorem count_calls (s : ByteArray) (cf : Nat → UInt8) (hs : s.size = 16) (hcf : ∀ i, i < 16 → s.data.toList.getD i 0 = cf i) (m : Nat) (w : World) :
    Ret Tryd.prog 55 #[.string s, I64 (m : Nat)] w fun v w' => v = .string (ctrS cf m) ∧ Chg [] w w' := by
 refine Ret.enter Tryd.func55 rfl ?_
 simp only [Tryd.ntmps55, fe, Nat.reduceAdd, Nat.reduceSub]
 have hH := Hp.start [] w
 refine wp_seq_k ?_
 intro K1 hK1
 refine wrt [.p 0] ?_
 refine pa ?_;simp only [nf]
 refine plan_nil hH ?_
 clear hH
 intro w2 hH
 refine hK1 _ _ ?_
 (try clear hK1 K1)
 refine wp_seq_k ?_
 intro K3 hK3
 refine wrp [.p 0, .p 1, .p 2, .p 3, .p 4, .p 5, .p 6, .p 7, .p 8, .p 9, .p 10, .p 11, .p 12, .p 13, .p 14, .p 15, .p 16, .p 17, .p 18, .p 19, .p 20, .p 21] ?_
 refine pm ?_;simp only [nf]
 refine pp rfl rfl (pr_index_str (i := 12) rfl rfl Tryd.underlying9 (by first | omega | (exact add_bound s _ hs rfl))) ?_;simp only [nf]
 refine pp rfl rfl (pr_conv rfl (cnv_u8_u32 _ Tryd.underlying5 Tryd.underlying113)) ?_;simp only [nf]
 refine pp rfl rfl (pr_bin rfl rfl (bin_shlc_u32 24 24 (by decide) rfl _)) ?_;simp only [nf]
 refine pm ?_;simp only [nf]
 refine pp rfl rfl (pr_index_str (i := 13) rfl rfl Tryd.underlying9 (by first | omega | (exact add_bound s _ hs rfl))) ?_;simp only [nf]
 refine pp rfl rfl (pr_conv rfl (cnv_u8_u32 _ Tryd.underlying5 Tryd.underlying113)) ?_;simp only [nf]
 refine pp rfl rfl (pr_bin rfl rfl (bin_shlc_u32 16 16 (by decide) rfl _)) ?_;simp only [nf]
 refine pp rfl rfl (pr_bin rfl rfl (bin_add_u32 _ _)) ?_;simp only [nf]
 refine pm ?_;simp only [nf]
 refine pp rfl rfl (pr_index_str (i := 14) rfl rfl Tryd.underlying9 (by first | omega | (exact add_bound s _ hs rfl))) ?_;simp only [nf]
 refine pp rfl rfl (pr_conv rfl (cnv_u8_u32 _ Tryd.underlying5 Tryd.underlying113)) ?_;simp only [nf]
 refine pp rfl rfl (pr_bin rfl rfl (bin_shlc_u32 8 8 (by decide) rfl _)) ?_;simp only [nf]
 refine pp rfl rfl (pr_bin rfl rfl (bin_add_u32 _ _)) ?_;simp only [nf]
 refine pm ?_;simp only [nf]
 refine pp rfl rfl (pr_index_str (i := 15) rfl rfl Tryd.underlying9 (by first | omega | (exact add_bound s _ hs rfl))) ?_;simp only [nf]
 refine pp rfl rfl (pr_conv rfl (cnv_u8_u32 _ Tryd.underlying5 Tryd.underlying113)) ?_;simp only [nf]
 refine pp rfl rfl (pr_bin rfl rfl (bin_add_u32 _ _)) ?_;simp only [nf]
 refine pm ?_;simp only [nf]
 refine pp rfl rfl (pr_conv rfl (by first | exact cnv_n_u32 Tryd.underlying3 Tryd.underlying113 | exact cnv_i_u32 Tryd.underlying3 Tryd.underlying113)) ?_;simp only [nf]
 refine pp rfl rfl (pr_bin rfl rfl (bin_add_u32 _ _)) ?_;simp only [nf]
 refine pa ?_;simp only [nf]
 refine plan_nil hH ?_
 clear hH
 intro w4 hH
 refine hK3 _ _ ?_
 (try clear hK3 K3)
 refine wp_seq_k ?_
 intro K5 hK5
 refine wrp [.p 0, .p 1, .p 2, .p 3, .p 4, .p 5, .p 6, .p 7, .p 8, .p 9, .p 10, .p 11, .p 12, .x 13, .q 14, .p 15, .p 16] ?_
 refine pm ?_;simp only [nf]
 refine pp rfl rfl (pr_slice_str_h (h := 12) rfl rfl Tryd.underlying9 (by first | omega | (exact add_bound s _ hs rfl))) ?_;simp only [nf]
 refine pm ?_;simp only [nf]
 refine pp rfl rfl (pr_bin rfl rfl (bin_shrc_u32 24 24 (by decide) rfl _)) ?_;simp only [nf]
 refine pp rfl rfl (pr_conv rfl (cnv_u32_u8 _ Tryd.underlying113 Tryd.underlying5)) ?_;simp only [nf]
 refine pm ?_;simp only [nf]
 refine pp rfl rfl (pr_bin rfl rfl (bin_shrc_u32 16 16 (by decide) rfl _)) ?_;simp only [nf]
 refine pp rfl rfl (pr_conv rfl (cnv_u32_u8 _ Tryd.underlying113 Tryd.underlying5)) ?_;simp only [nf]
 refine pm ?_;simp only [nf]
 refine pp rfl rfl (pr_bin rfl rfl (bin_shrc_u32 8 8 (by decide) rfl _)) ?_;simp only [nf]
 refine pp rfl rfl (pr_conv rfl (cnv_u32_u8 _ Tryd.underlying113 Tryd.underlying5)) ?_;simp only [nf]
 refine pm ?_;simp only [nf]
 refine pp rfl rfl (pr_conv rfl (cnv_u32_u8 _ Tryd.underlying113 Tryd.underlying5)) ?_;simp only [nf]
 refine plan_buildSlice rfl rfl hH Tryd.underlying22 (by rfl) (bs4 _ _ _ _) ?_
 clear hH
 intro b6 w7 hH
 (try simp only [nf, nh, Value.cells] at hH ⊢)
 refine pq rfl rfl (qr_b2s (OwnC.sl hH 0 rfl (OwnC.of_bytes rfl)) rfl Tryd.underlying22 Tryd.underlying5 Tryd.underlying9) ?_;simp only [nf]
 refine pp rfl rfl (pr_bin rfl rfl (bin_add_s (by first | omega | (exact add_bound s _ hs rfl)))) ?_;simp only [nf]
 refine pa ?_;simp only [nf]
 refine plan_nil hH ?_
 clear hH
 intro w8 hH
 refine hK5 _ _ ?_
 (try clear hK5 K5)
 refine wp_ret ?_
 (try simp only [Exit.then, Exit.inBlock, ↓reduceIte, Nat.reduceEqDiff])
 refine BP.ret1 rfl rfl ?_
 refine ⟨congrArg Value.string ((ctrS_is s cf hs hcf _).trans ?_), hH.chg⟩
 unfold ctrS
 rw [str_at, str_at, str_at, str_at, hcf 12 (by omega), hcf 13 (by omega), hcf 14 (by omega), hcf 15 (by omega), be32_sum]
theorem ctrS_size (cf : Nat → UInt8) (m : Nat) : (ctrS cf m).size = 16 := by unfold ctrS; simp [ByteArray.size]
theorem blkS_size (key cf : Nat → UInt8) (m : Nat) : (blkS key cf m).size = 16 := by unfold blkS; simp [ByteArray.size]
theorem ctrS_at (cf : Nat → UInt8) (m i : Nat) (h : i < 16) : (ctrS cf m).data.toList.getD i 0 = ctrF cf (be32 cf + UInt32.ofNat m) i := by unfold ctrS; exact cut16 _ h
theorem ks_at (key cf : Nat → UInt8) (p : Nat) {sv : ByteArray} (h : sv = blkS key cf (p / 16)) (hi : p % 16 < sv.size) : sv[p % 16]'hi = ksF (kexp key) cf p := by
  subst h
  rw [str_at]
  unfold blkS
  exact cut16 _ (Nat.mod_lt _ (by decide))
def Held (key cf : Nat → UInt8) (hv : Int) (sv : ByteArray) : Prop := hv = -1 ∨ ∃ m : Nat, hv = (m : Int) ∧ sv = blkS key cf m
theorem own_step {o : Option Nat} {n cap a i : Nat} {cs : Array Value} {K cf : Nat → UInt8} {bl : List UInt8} {x : UInt8} (hO : OwnC o n cap 1 cs ((strm K cf a bl i ++ [bl.getD i 0 ^^^ x]).map V8)) (hx : x = ksF K cf (a + i)) : OwnC o n cap 1 cs ((strm K cf a bl (i + 1)).map V8) := by
  rw [strm_succ, ← hx]; exact hO
theorem sv_of {key cf : Nat → UInt8} {hv : Int} {sv : ByteArray} {n : Nat} (h : Held key cf hv sv) (e : (n : Int) = hv) : sv = blkS key cf n := by
  rcases h with h | ⟨m, h, h'⟩
  · omega
  · rw [h', show m = n by omega]
theorem refstream_calls (bk : Nat) (key cf : Nat → UInt8) (s : ByteArray) (a : Nat) (b : ByteArray) (w : World) (hk : Blk w bk 103 (arr8 432 (keyF key))) (hs : s.size = 16) (hcf : ∀ i, i < 16 → s.data.toList.getD i 0 = cf i) (hab : a + b.size < 9223372036854775808) (hb : b.size ≤ 140737488355328) :
    Ret Tryd.prog 40 #[PT bk 0, .string s, I64 (a : Nat), .string b] w fun v w' => v = .string ⟨(strm (kexp key) cf a b.data.toList b.size).toArray⟩ ∧ Chg [] w w' := by
 refine Ret.enter Tryd.func40 rfl ?_
 simp only [Tryd.ntmps40, fe, Nat.reduceAdd, Nat.reduceSub]
 have hH := Hp.start [] w
 refine wp_seq_k ?_
 intro K1 hK1
 refine wrt [.p 0] ?_
 refine pa ?_;simp only [nf]
 refine plan_nil hH ?_
 clear hH
 intro w2 hH
 refine hK1 _ _ ?_
 (try clear hK1 K1)
 refine wp_seq_k ?_
 intro K3 hK3
 refine wrt [.p 0] ?_
 refine pa ?_;simp only [nf]
 refine plan_nil hH ?_
 clear hH
 intro w4 hH
 refine hK3 _ _ ?_
 (try clear hK3 K3)
 refine wp_seq_k ?_
 intro K5 hK5
 refine wrt [.p 0, .p 1] ?_
 refine pa (pa ?_);simp only [nf]
 refine plan_nil hH ?_
 clear hH
 intro w6 hH
 refine hK5 _ _ ?_
 (try clear hK5 K5)
 refine wp_seq_k ?_
 intro K7 hK7
 refine wp_seq_k ?_
 intro K8 hK8
 refine wrt [.p 0] ?_
 refine pka 0 ?_;simp only [nf]
 refine plan_nil hH ?_
 clear hH
 intro w9 hH
 refine hK8 _ _ ?_
 (try clear hK8 K8)
 refine wp_block ?_
 refine wp_loopT [9, 10, 11, 12] [13, 14, 15, 16, 17, 18, 19, 20, 21, 22, 23, 24, 25, 26, 27, 28, 29, 30, 31, 32, 33, 34, 35, 36, 37, 38, 39, 40, 41, 42, 43, 44, 45] (fun (n10 : Nat) (vs : List Value) (w' : World) => ∃ (i : Nat) (o : Option Nat) (cap : Nat) (cs : Array Value) (sv : ByteArray) (hv : Int), vs = [own o i cap, .string sv, I64 hv, I64 (i : Nat)] ∧ Hp [] w w' [(o, 5, cs)] ∧ n10 = b.size - i ∧ i ≤ b.size ∧ OwnC o i cap 1 cs ((strm (kexp key) cf a b.data.toList i).map V8) ∧ Held key cf hv sv) (b.size - 0) (by kernel_rfl) ?_ ?_
 ·
  simp only [ga]
  refine ⟨0, none, 0, #[], _, _, rfl, ?_, rfl, ?_, ?_, ?_⟩
  ·
   exact hH.nil _
  · first | omega | (omega)
  · first | omega | (exact OwnC.start 1)
  · first | omega | (exact .inl rfl)
 clear hH
 intro n10 vs11 w12 hR13 d0
 obtain ⟨i, o, cap, cs, sv, hv, rfl, hH, hn14, hf15, hO, hsv⟩ := hR13
 simp only [putAll, putD, List.set_cons_zero, List.set_cons_succ, Nat.zero_add, Nat.reduceAdd]
 refine wp_seq_k ?_
 intro K16 hK16
 refine wp_seq_k ?_
 intro K17 hK17
 refine wrt [.p 0, .p 1, .p 2, .p 3] ?_
 refine pm (pm ?_);simp only [nf]
 refine pp rfl rfl (pr_len_str rfl Tryd.underlying9) ?_;simp only [nf]
 refine pp rfl rfl (pr_bin rfl rfl (by first | exact bin_lss_n  | exact bin_lss_i)) ?_;simp only [nf]
 refine plan_nil hH ?_
 clear hH
 intro w18 hH
 refine hK17 _ _ ?_
 (try clear hK17 K17)
 refine wp_cond_split rfl (fun hc19 => ?_) (fun hc19 => ?_)
 ·
  (try simp only [cnd] at hc19)
  refine wp_skip ?_
  refine hK16 _ _ ?_
  (try clear hK16 K16)
  refine wp_seq_k ?_
  intro K20 hK20
  refine wp_block ?_
  refine wp_seq_k ?_
  intro K21 hK21
  refine wrt [.p 0, .p 1, .p 2, .p 3, .p 4] ?_
  refine pm (pm ?_);simp only [nf]
  refine pp rfl rfl (pr_bin rfl rfl (by first | exact bin_add_n (by first | omega | (first | (rw [blkS_size]; omega) | (show _ < (blkS key cf _).size; rw [blkS_size]; omega))) | exact bin_add_i (by first | omega | (first | (rw [blkS_size]; omega) | (show _ < (blkS key cf _).size; rw [blkS_size]; omega))) (by first | omega | (first | (rw [blkS_size]; omega) | (show _ < (blkS key cf _).size; rw [blkS_size]; omega))))) ?_;simp only [nf]
  refine pp rfl rfl (pr_bin rfl rfl (by first | exact bin_quo_n (n := 16) (by first | omega | (first | (rw [blkS_size]; omega) | (show _ < (blkS key cf _).size; rw [blkS_size]; omega))) (by first | omega | (first | (rw [blkS_size]; omega) | (show _ < (blkS key cf _).size; rw [blkS_size]; omega))))) ?_;simp only [nf]
  refine pa ?_;simp only [nf]
  refine plan_nil hH ?_
  clear hH
  intro w22 hH
  refine hK21 _ _ ?_
  (try clear hK21 K21)
  refine wp_seq_k ?_
  intro K23 hK23
  refine wp_seq_k ?_
  intro K24 hK24
  refine wrt [.p 0, .p 1, .p 2] ?_
  refine pm (pm ?_);simp only [nf]
  refine pp rfl rfl (pr_bin rfl rfl (by first | exact bin_neq_n  | exact bin_neq_i)) ?_;simp only [nf]
  refine plan_nil hH ?_
  clear hH
  intro w25 hH
  refine hK24 _ _ ?_
  (try clear hK24 K24)
  refine wp_cond_split rfl (fun hc26 => ?_) (fun hc26 => ?_)
  ·
   (try simp only [cnd] at hc26)
   refine wrt [.p 0, .p 1, .p 2, .q 3, .q 4, .p 5, .p 6, .p 7] ?_
   refine pm (pm (pm ?_));simp only [nf]
   refine pq rfl rfl (qr_call cf55 (fun w' hw => count_calls _ cf hs hcf _ w') rfl) ?_;simp only [nf]
   refine pq rfl rfl (qr_call cf48 (fun w' hw => refblock_calls _ key (ctrS cf _) _ (fun i hi => ctrS_at cf _ i hi) (ctrS_size _ _) w' (hw.nil_blk (hH.chg.nil_blk hk))) rfl) ?_;simp only [nf]
   refine pm (pa (pa ?_));simp only [nf]
   refine plan_nil hH ?_
   clear hH
   intro w27 hH
   refine hK23 _ _ ?_
   (try clear hK23 K23)
   refine wrp [.p 0, .p 1, .p 2, .p 3, .p 4, .p 5, .p 6, .p 7, .p 8, .p 9, .p 10, .x 11, .e 12, .p 13] ?_
   refine pm (pm (pm ?_));simp only [nf]
   refine pp rfl rfl (pr_index_str rfl rfl Tryd.underlying9 (by first | omega | (first | (rw [blkS_size]; omega) | (show _ < (blkS key cf _).size; rw [blkS_size]; omega)))) ?_;simp only [nf]
   refine pm (pm (pm ?_));simp only [nf]
   refine pp rfl rfl (pr_bin rfl rfl (by first | exact bin_add_n (by first | omega | (first | (rw [blkS_size]; omega) | (show _ < (blkS key cf _).size; rw [blkS_size]; omega))) | exact bin_add_i (by first | omega | (first | (rw [blkS_size]; omega) | (show _ < (blkS key cf _).size; rw [blkS_size]; omega))) (by first | omega | (first | (rw [blkS_size]; omega) | (show _ < (blkS key cf _).size; rw [blkS_size]; omega))))) ?_;simp only [nf]
   refine pp rfl rfl (pr_bin rfl rfl (by first | exact bin_rem_n (n := 16) (by first | omega | (first | (rw [blkS_size]; omega) | (show _ < (blkS key cf _).size; rw [blkS_size]; omega))))) ?_;simp only [nf]
   refine pp rfl rfl (pr_index_str rfl rfl Tryd.underlying9 (by first | omega | (first | (rw [blkS_size]; omega) | (show _ < (blkS key cf _).size; rw [blkS_size]; omega)))) ?_;simp only [nf]
   refine pp rfl rfl (pr_bin rfl rfl (bin_xor_u8 _ _)) ?_;simp only [nf]
   refine plan_buildSlice rfl rfl hH Tryd.underlying22 (by rfl) (bs1 _) ?_
   clear hH
   intro b28 w29 hH
   (try simp only [nf, nh, Value.cells] at hH ⊢)
   refine plan_append 0 rfl rfl hH rfl hO (fun w' hH => ((OwnC.sl hH 1 rfl (OwnC.of_bytes rfl))).src) rfl rfl Tryd.underlying22 Tryd.underlying22 (.inl ⟨_, rfl⟩) sz5 bz5 ze5 rfl (by first | omega | (simp <;> omega)) (by first | omega | (simp <;> omega)) ?_
   clear hH
   intro o30 cap31 cs32 w33 hO34 hH
   (try simp only [nf] at hH ⊢)
   (try simp only [nf, nh, Value.cells] at hH ⊢)
   try rw [← List.map_append] at hO34
   (try simp only [Nat.zero_add, List.nil_append, List.length_nil] at hO34 ⊢)
   refine pa ?_;simp only [nf]
   refine plan_nil hH ?_
   clear hH
   intro w35 hH
   refine hK20 _ _ ?_
   (try clear hK20 K20)
   refine wrt [.p 0, .p 1, .p 2] ?_
   refine pm ?_;simp only [nf]
   refine pp rfl rfl (pr_bin rfl rfl (by first | exact bin_add_n (n := 1) (by first | omega | (first | (rw [blkS_size]; omega) | (show _ < (blkS key cf _).size; rw [blkS_size]; omega))) | exact bin_add_i (by first | omega | (first | (rw [blkS_size]; omega) | (show _ < (blkS key cf _).size; rw [blkS_size]; omega))) (by first | omega | (first | (rw [blkS_size]; omega) | (show _ < (blkS key cf _).size; rw [blkS_size]; omega))))) ?_;simp only [nf]
   refine pa ?_;simp only [nf]
   refine plan_nil hH ?_
   clear hH
   intro w36 hH
   (try simp only [Exit.then, Exit.inBlock, ↓reduceIte, Nat.reduceEqDiff])
   refine ⟨b.size - (i + 1), ?_, _, rfl, by kernel_rfl, ?_⟩
   · first | omega | (omega)
   simp only [ga]
   refine ⟨i + 1, o30, cap31, cs32, _, _, rfl, ?_, rfl, ?_, ?_, ?_⟩
   ·
    exact hH.take 1
   · first | omega | (omega)
   · first | omega | (have hq := hO34; rw [str_at b] at hq; exact own_step hq (ks_at key cf (a + i) rfl _))
   · first | omega | (first | exact .inr ⟨_, rfl, rfl⟩ | exact hsv)
  ·
   (try simp only [cnd] at hc26)
   obtain rfl : sv = blkS key cf ((a + i) / 16) := sv_of hsv (by omega)
   refine wp_skip ?_
   refine hK23 _ _ ?_
   (try clear hK23 K23)
   refine wrp [.p 0, .p 1, .p 2, .p 3, .p 4, .p 5, .p 6, .p 7, .p 8, .p 9, .p 10, .x 11, .e 12, .p 13] ?_
   refine pm (pm (pm ?_));simp only [nf]
   refine pp rfl rfl (pr_index_str rfl rfl Tryd.underlying9 (by first | omega | (first | (rw [blkS_size]; omega) | (show _ < (blkS key cf _).size; rw [blkS_size]; omega)))) ?_;simp only [nf]
   refine pm (pm (pm ?_));simp only [nf]
   refine pp rfl rfl (pr_bin rfl rfl (by first | exact bin_add_n (by first | omega | (first | (rw [blkS_size]; omega) | (show _ < (blkS key cf _).size; rw [blkS_size]; omega))) | exact bin_add_i (by first | omega | (first | (rw [blkS_size]; omega) | (show _ < (blkS key cf _).size; rw [blkS_size]; omega))) (by first | omega | (first | (rw [blkS_size]; omega) | (show _ < (blkS key cf _).size; rw [blkS_size]; omega))))) ?_;simp only [nf]
   refine pp rfl rfl (pr_bin rfl rfl (by first | exact bin_rem_n (n := 16) (by first | omega | (first | (rw [blkS_size]; omega) | (show _ < (blkS key cf _).size; rw [blkS_size]; omega))))) ?_;simp only [nf]
   refine pp rfl rfl (pr_index_str rfl rfl Tryd.underlying9 (by first | omega | (first | (rw [blkS_size]; omega) | (show _ < (blkS key cf _).size; rw [blkS_size]; omega)))) ?_;simp only [nf]
   refine pp rfl rfl (pr_bin rfl rfl (bin_xor_u8 _ _)) ?_;simp only [nf]
   refine plan_buildSlice rfl rfl hH Tryd.underlying22 (by rfl) (bs1 _) ?_
   clear hH
   intro b37 w38 hH
   (try simp only [nf, nh, Value.cells] at hH ⊢)
   refine plan_append 0 rfl rfl hH rfl hO (fun w' hH => ((OwnC.sl hH 1 rfl (OwnC.of_bytes rfl))).src) rfl rfl Tryd.underlying22 Tryd.underlying22 (.inl ⟨_, rfl⟩) sz5 bz5 ze5 rfl (by first | omega | (simp <;> omega)) (by first | omega | (simp <;> omega)) ?_
   clear hH
   intro o39 cap40 cs41 w42 hO43 hH
   (try simp only [nf] at hH ⊢)
   (try simp only [nf, nh, Value.cells] at hH ⊢)
   try rw [← List.map_append] at hO43
   (try simp only [Nat.zero_add, List.nil_append, List.length_nil] at hO43 ⊢)
   refine pa ?_;simp only [nf]
   refine plan_nil hH ?_
   clear hH
   intro w44 hH
   refine hK20 _ _ ?_
   (try clear hK20 K20)
   refine wrt [.p 0, .p 1, .p 2] ?_
   refine pm ?_;simp only [nf]
   refine pp rfl rfl (pr_bin rfl rfl (by first | exact bin_add_n (n := 1) (by first | omega | (first | (rw [blkS_size]; omega) | (show _ < (blkS key cf _).size; rw [blkS_size]; omega))) | exact bin_add_i (by first | omega | (first | (rw [blkS_size]; omega) | (show _ < (blkS key cf _).size; rw [blkS_size]; omega))) (by first | omega | (first | (rw [blkS_size]; omega) | (show _ < (blkS key cf _).size; rw [blkS_size]; omega))))) ?_;simp only [nf]
   refine pa ?_;simp only [nf]
   refine plan_nil hH ?_
   clear hH
   intro w45 hH
   (try simp only [Exit.then, Exit.inBlock, ↓reduceIte, Nat.reduceEqDiff])
   refine ⟨b.size - (i + 1), ?_, _, rfl, by kernel_rfl, ?_⟩
   · first | omega | (omega)
   simp only [ga]
   refine ⟨i + 1, o39, cap40, cs41, _, _, rfl, ?_, rfl, ?_, ?_, ?_⟩
   ·
    exact hH.take 1
   · first | omega | (omega)
   · first | omega | (have hq := hO43; rw [str_at b] at hq; exact own_step hq (ks_at key cf (a + i) rfl _))
   · first | omega | (first | exact .inr ⟨_, rfl, rfl⟩ | exact hsv)
 ·
  (try simp only [cnd] at hc19)
  refine wp_exit ?_
  (try simp only [Exit.then, Exit.inBlock, ↓reduceIte, Nat.reduceEqDiff])
  refine hK7 _ _ ?_
  (try clear hK7 K7)
  refine wp_seq_k ?_
  intro K46 hK46
  refine wrt [.p 0, .q 1, .p 2] ?_
  refine pm ?_;simp only [nf]
  refine pq rfl rfl (qr_b2s (OwnC.sl hH 0 rfl hO) rfl Tryd.underlying22 Tryd.underlying5 Tryd.underlying9) ?_;simp only [nf]
  refine pa ?_;simp only [nf]
  refine plan_nil hH ?_
  clear hH
  intro w47 hH
  refine hK46 _ _ ?_
  (try clear hK46 K46)
  refine wp_ret ?_
  (try simp only [Exit.then, Exit.inBlock, ↓reduceIte, Nat.reduceEqDiff])
  refine BP.ret1 rfl rfl ?_
  obtain rfl : i = b.size := by omega
  exact ⟨rfl, hH.chg⟩
end Go.Proofs.YtmoaddicejohgaaDoor
set_option linter.unusedSimpArgs false
set_option linter.unusedVariables false
set_option maxRecDepth 100000
set_option maxHeartbeats 4000000
namespace Go.Proofs.YtmoaddicejohgaaDoor
open Go
open List (getD_cons_zero getD_cons_succ set_cons_zero set_cons_succ)
theorem bits_calls (s : ByteArray) (hs : s.size = 16) (w : World) : Ret Tryd.prog 78 #[.string s] w fun v w' => v = .agg (arrB 128 (bitF (fun i => s.data.toList.getD i 0))) ∧ Chg [] w w' := by
 refine Ret.enter Tryd.func78 rfl ?_
 simp only [Tryd.ntmps78, fe, Nat.reduceAdd, Nat.reduceSub]
 have hH := Hp.start [] w
 refine wp_seq_k ?_
 intro K1 hK1
 refine wrt [.x 0] ?_
 refine plan_alloc rfl rfl hH zc130 ?_
 clear hH
 intro b2 w3 hH
 (try simp only [nf, nh, Value.cells, arrB_set] at hH ⊢)
 refine plan_nil hH ?_
 clear hH
 intro w4 hH
 refine hK1 _ _ ?_
 (try clear hK1 K1)
 refine wp_seq_k ?_
 intro K5 hK5
 refine wrt [.x 0] ?_
 refine plan_alloc rfl rfl hH zc130 ?_
 clear hH
 intro b6 w7 hH
 (try simp only [nf, nh, Value.cells, arrB_set] at hH ⊢)
 refine plan_nil hH ?_
 clear hH
 intro w8 hH
 refine hK5 _ _ ?_
 (try clear hK5 K5)
 refine wp_seq_k ?_
 intro K9 hK9
 refine wp_seq_k ?_
 intro K10 hK10
 refine wrt [.p 0] ?_
 refine pka 0 ?_;simp only [nf]
 refine plan_nil hH ?_
 clear hH
 intro w11 hH
 refine hK10 _ _ ?_
 (try clear hK10 K10)
 refine wp_block ?_
 obtain ⟨kc12, hkc13, hN⟩ := hH.name 0 rfl
 replace hH := hN; clear hN; simp only [List.set_cons_zero, List.set_cons_succ] at hH
 refine wp_loopT [4] [5, 6, 7, 8, 9, 10, 11, 12, 13, 14, 15, 16, 17, 18, 19, 20] (fun (n14 : Nat) (vs : List Value) (w' : World) => ∃ (i : Nat), vs = [I64 (i : Nat)] ∧ Hp [] w w' [(some b2, 130, kc12), (some b6, 130, arrB 128 fun j => if j < i then bitF (fun i => s.data.toList.getD i 0) j else false)] ∧ n14 = 128 - i ∧ i ≤ 128) (128 - 0) (by kernel_rfl) ?_ ?_
 ·
  simp only [ga]
  refine ⟨0, rfl, ?_, rfl, ?_⟩
  ·
   exact hH.say 1 rfl (arrB_congr fun j hj => by rw [if_neg (by omega)])
  · first | omega | (omega)
 clear hH
 intro n14 vs15 w16 hR17 d0
 obtain ⟨i, rfl, hH, hn18, hf19⟩ := hR17
 simp only [putAll, putD, List.set_cons_zero, List.set_cons_succ, Nat.zero_add, Nat.reduceAdd]
 subst hkc13
 refine wp_seq_k ?_
 intro K20 hK20
 refine wp_seq_k ?_
 intro K21 hK21
 refine wrt [.p 0, .p 1] ?_
 refine pm ?_;simp only [nf]
 refine pp rfl rfl (pr_bin rfl rfl (by first | exact bin_lss_n (n := 128)  | exact bin_lss_i)) ?_;simp only [nf]
 refine plan_nil hH ?_
 clear hH
 intro w22 hH
 refine hK21 _ _ ?_
 (try clear hK21 K21)
 refine wp_cond_split rfl (fun hc23 => ?_) (fun hc23 => ?_)
 ·
  (try simp only [cnd] at hc23)
  refine wp_skip ?_
  refine hK20 _ _ ?_
  (try clear hK20 K20)
  refine wp_seq_k ?_
  intro K24 hK24
  refine wp_block ?_
  refine wrt [.p 0, .p 1, .p 2, .p 3, .p 4, .p 5, .p 6, .p 7, .p 8, .p 9, .p 10, .p 11, .e 12] ?_
  refine pm (pm (pm ?_));simp only [nf]
  refine pp rfl rfl (pr_bin rfl rfl (by first | exact bin_quo_n (n := 8) (by omega) (by omega))) ?_;simp only [nf]
  refine pp rfl rfl (pr_index_str rfl rfl Tryd.underlying9 (by omega)) ?_;simp only [nf]
  refine pm ?_;simp only [nf]
  refine pp rfl rfl (pr_bin rfl rfl (by first | exact bin_rem_n (n := 8) (by omega))) ?_;simp only [nf]
  refine pp rfl rfl (pr_bin rfl rfl (by first | exact bin_sub_n (m := 7) (by omega) (by omega) | exact bin_sub_i (by omega) (by omega))) ?_;simp only [nf]
  refine pp rfl rfl (pr_bin rfl rfl (bin_shr_u8 _ _ _)) ?_;simp only [nf]
  refine pp rfl rfl (pr_bin rfl rfl (bin_rem_u8 _ 2 (by decide))) ?_;simp only [nf]
  refine pp rfl rfl (pr_bin rfl rfl (bin_eql_u8 _ 1)) ?_;simp only [nf]
  refine pp rfl rfl (pr_idxA1 rfl rfl Tryd.underlying130 sz4 (by omega)) ?_;simp only [nf]
  refine plan_store1 1 rfl rfl hH rfl rfl rfl rfl sz4 (by simp <;> omega) ?_
  clear hH
  intro w25 hH
  (try simp only [nf, nh, Value.cells, arrB_set] at hH ⊢)
  refine plan_nil hH ?_
  clear hH
  intro w26 hH
  refine hK24 _ _ ?_
  (try clear hK24 K24)
  refine wrt [.p 0, .p 1, .p 2] ?_
  refine pm ?_;simp only [nf]
  refine pp rfl rfl (pr_bin rfl rfl (by first | exact bin_add_n (n := 1) (by omega) | exact bin_add_i (by omega) (by omega))) ?_;simp only [nf]
  refine pa ?_;simp only [nf]
  refine plan_nil hH ?_
  clear hH
  intro w27 hH
  (try simp only [Exit.then, Exit.inBlock, ↓reduceIte, Nat.reduceEqDiff])
  refine ⟨128 - (i + 1), ?_, _, rfl, by kernel_rfl, ?_⟩
  · first | omega | (omega)
  simp only [ga]
  refine ⟨i + 1, rfl, ?_, rfl, ?_⟩
  ·
   simp only [str_at] at hH
   exact hH.say 1 rfl (arrB_congr fun j hj => upd_lt (g := bitF (fun i => s.data.toList.getD i 0)) (z := fun _ => false) rfl j)
  · first | omega | (omega)
 ·
  (try simp only [cnd] at hc23)
  refine wp_exit ?_
  (try simp only [Exit.then, Exit.inBlock, ↓reduceIte, Nat.reduceEqDiff])
  refine hK9 _ _ ?_
  (try clear hK9 K9)
  refine wp_seq_k ?_
  intro K28 hK28
  refine wrt [.q 0, .e 1] ?_
  refine pq rfl rfl (qr_loadW rfl (hH.blk 1 rfl) Tryd.underlying130 rfl sz130 (by simp)) ?_;simp only [nf]
  refine plan_storeW 0 rfl rfl hH rfl rfl rfl one_arrB sz130 (by simp) (by simp) ?_
  clear hH
  intro w29 hH
  (try simp only [nf, nh, Value.cells, arrB_set] at hH ⊢)
  refine plan_nil hH ?_
  clear hH
  intro w30 hH
  refine hK28 _ _ ?_
  (try clear hK28 K28)
  refine wp_ret ?_
  (try simp only [Exit.then, Exit.inBlock, ↓reduceIte, Nat.reduceEqDiff])
  refine BP.retc rfl rfl (hH.blk 0 rfl) Tryd.underlying130 rfl sz130 (by simp) ?_
  obtain rfl : i = 128 := by omega
  exact ⟨by rw [arrB_congr fun i hi => if_pos (by omega)], hH.chg⟩
def strP (p : P2) : ByteArray := ⟨((List.range 16).map (nbP p)).toArray⟩
theorem refTimes_calls (a b : ByteArray) (ha : a.size = 16) (hb : b.size = 16) (w : World) : Ret Tryd.prog 73 #[.string a, .string b] w fun v w' => v = .string (strP (mulP (ofP (fun i => a.data.toList.getD i 0)) (ofP (fun i => b.data.toList.getD i 0)))) ∧ Chg [] w w' := by
 refine Ret.enter Tryd.func73 rfl ?_
 simp only [Tryd.ntmps73, fe, Nat.reduceAdd, Nat.reduceSub]
 have hH := Hp.start [] w
 refine wp_seq_k ?_
 intro K1 hK1
 refine wrt [.p 0] ?_
 refine pa ?_;simp only [nf]
 refine plan_nil hH ?_
 clear hH
 intro w2 hH
 refine hK1 _ _ ?_
 (try clear hK1 K1)
 refine wp_seq_k ?_
 intro K3 hK3
 refine wrt [.p 0, .q 1, .p 2, .q 3, .x 4, .x 5, .e 6, .e 7] ?_
 refine pm ?_;simp only [nf]
 refine pq rfl rfl (qr_call cf78 (fun w' hw => bits_calls _ (by assumption) w') rfl) ?_;simp only [nf]
 refine pm ?_;simp only [nf]
 refine pq rfl rfl (qr_call cf78 (fun w' hw => bits_calls _ (by assumption) w') rfl) ?_;simp only [nf]
 refine plan_alloc rfl rfl hH zc130 ?_
 clear hH
 intro b4 w5 hH
 (try simp only [nf, nh, Value.cells, arrB_set] at hH ⊢)
 refine plan_alloc rfl rfl hH zc130 ?_
 clear hH
 intro b6 w7 hH
 (try simp only [nf, nh, Value.cells, arrB_set] at hH ⊢)
 refine plan_storeW 0 rfl rfl hH rfl rfl rfl one_arrB sz130 (by simp) (by simp) ?_
 clear hH
 intro w8 hH
 (try simp only [nf, nh, Value.cells, arrB_set] at hH ⊢)
 refine plan_storeW 1 rfl rfl hH rfl rfl rfl one_arrB sz130 (by simp) (by simp) ?_
 clear hH
 intro w9 hH
 (try simp only [nf, nh, Value.cells, arrB_set] at hH ⊢)
 refine plan_nil hH ?_
 clear hH
 intro w10 hH
 refine hK3 _ _ ?_
 (try clear hK3 K3)
 refine wp_seq_k ?_
 intro K11 hK11
 refine wrt [.x 0] ?_
 refine plan_alloc rfl rfl hH zc132 ?_
 clear hH
 intro b12 w13 hH
 (try simp only [nf, nh, Value.cells, arrB_set] at hH ⊢)
 refine plan_nil hH ?_
 clear hH
 intro w14 hH
 refine hK11 _ _ ?_
 (try clear hK11 K11)
 refine wp_seq_k ?_
 intro K15 hK15
 refine wp_seq_k ?_
 intro K16 hK16
 refine wrt [.p 0] ?_
 refine pka 0 ?_;simp only [nf]
 refine plan_nil hH ?_
 clear hH
 intro w17 hH
 refine hK16 _ _ ?_
 (try clear hK16 K16)
 refine wp_block ?_
 obtain ⟨kc18, hkc19, hN⟩ := hH.name 0 rfl
 replace hH := hN; clear hN; simp only [List.set_cons_zero, List.set_cons_succ] at hH
 obtain ⟨kc20, hkc21, hN⟩ := hH.name 1 rfl
 replace hH := hN; clear hN; simp only [List.set_cons_zero, List.set_cons_succ] at hH
 refine wp_loopT [8] [9, 17, 18, 19, 20, 21, 22, 23, 24, 25, 26, 27, 28, 29, 30, 31, 32, 33, 34, 35, 36, 37, 38, 39, 40, 41, 42] (fun (n22 : Nat) (vs : List Value) (w' : World) => ∃ (i : Nat) (p : Nat → Bool), vs = [I64 (i : Nat)] ∧ Hp [] w w' [(some b4, 130, kc18), (some b6, 130, kc20), (some b12, 132, arrB 256 p)] ∧ n22 = 128 - i ∧ i ≤ 128 ∧ vN p 256 = rowsN (bitF (fun i => a.data.toList.getD i 0)) (bitF (fun i => b.data.toList.getD i 0)) i) (128 - 0) (by kernel_rfl) ?_ ?_
 ·
  simp only [ga]
  refine ⟨0, fun _ => false, rfl, ?_, rfl, ?_, ?_⟩
  ·
   exact hH
  · first | omega | (omega)
  · first | omega | (exact (vN_congr (q := fun _ => false) fun _ _ => rfl).trans (xs_zero 256))
 clear hH
 intro n22 vs23 w24 hR25 d0
 obtain ⟨i, p, rfl, hH, hn26, hf27, hV⟩ := hR25
 simp only [putAll, putD, List.set_cons_zero, List.set_cons_succ, Nat.zero_add, Nat.reduceAdd]
 subst hkc19 hkc21
 refine wp_seq_k ?_
 intro K28 hK28
 refine wp_seq_k ?_
 intro K29 hK29
 refine wrt [.p 0, .p 1] ?_
 refine pm ?_;simp only [nf]
 refine pp rfl rfl (pr_bin rfl rfl (by first | exact bin_lss_n (n := 128)  | exact bin_lss_i)) ?_;simp only [nf]
 refine plan_nil hH ?_
 clear hH
 intro w30 hH
 refine hK29 _ _ ?_
 (try clear hK29 K29)
 refine wp_cond_split rfl (fun hc31 => ?_) (fun hc31 => ?_)
 ·
  (try simp only [cnd] at hc31)
  refine wp_skip ?_
  refine hK28 _ _ ?_
  (try clear hK28 K28)
  refine wp_seq_k ?_
  intro K32 hK32
  refine wp_block ?_
  refine wp_seq_k ?_
  intro K33 hK33
  refine wrt [.p 0] ?_
  refine pka 0 ?_;simp only [nf]
  refine plan_nil hH ?_
  clear hH
  intro w34 hH
  refine hK33 _ _ ?_
  (try clear hK33 K33)
  refine wp_block ?_
  obtain ⟨kc35, hkc36, hN⟩ := hH.name 0 rfl
  replace hH := hN; clear hN; simp only [List.set_cons_zero, List.set_cons_succ] at hH
  obtain ⟨kc37, hkc38, hN⟩ := hH.name 1 rfl
  replace hH := hN; clear hN; simp only [List.set_cons_zero, List.set_cons_succ] at hH
  refine wp_loopT [9] [21, 22, 23, 24, 25, 26, 27, 28, 29, 30, 31, 32, 33, 34, 35, 36, 37, 38, 39, 40, 41, 42] (fun (n39 : Nat) (vs : List Value) (w' : World) => ∃ (k : Nat) (p : Nat → Bool), vs = [I64 (k : Nat)] ∧ Hp [] w w' [(some b4, 130, kc35), (some b6, 130, kc37), (some b12, 132, arrB 256 p)] ∧ n39 = 128 - k ∧ k ≤ 128 ∧ vN p 256 = partN (bitF (fun i => a.data.toList.getD i 0)) (bitF (fun i => b.data.toList.getD i 0)) i k) (128 - 0) (by kernel_rfl) ?_ ?_
  ·
   simp only [ga]
   refine ⟨0, p, rfl, ?_, rfl, ?_, ?_⟩
   ·
    exact hH
   · first | omega | (omega)
   · first | omega | (rw [part_zero]; exact hV)
  clear hH
  intro n39 vs40 w41 hR42 d1
  obtain ⟨k, p, rfl, hH, hn43, hf44, hV⟩ := hR42
  simp only [putAll, putD, List.set_cons_zero, List.set_cons_succ, Nat.zero_add, Nat.reduceAdd]
  subst hkc36 hkc38
  refine wp_seq_k ?_
  intro K45 hK45
  refine wp_seq_k ?_
  intro K46 hK46
  rcases Nat.lt_or_ge k 128 with hk | hk
  ·
   refine wrt [.p 0, .p 1, .p 2, .p 3, .p 4, .q 5, .p 6] ?_
   refine pm ?_;simp only [nf]
   refine pp rfl rfl (pr_bin rfl rfl (by first | exact bin_lss_n (n := 128)  | exact bin_lss_i)) ?_;simp only [nf]
   refine plan_p (v := BV true) rfl rfl (pr_move_v (by show BV _ = _; exact congrArg BV (decide_eq_true hk))) ?_
   (try simp only [nf])
   refine pp rfl rfl pr_move ?_;simp only [nf]
   refine pp rfl rfl (pr_idxA1 rfl rfl Tryd.underlying130 sz4 (by first | omega | ((simp only [outL, List.length_map, List.length_range]; omega)))) ?_;simp only [nf]
   refine pq rfl rfl (qr_load1 rfl Tryd.underlying4 rfl ((hH.blk 0 rfl).cell (arrB_get (by first | omega | ((simp only [outL, List.length_map, List.length_range]; omega)))))) ?_;simp only [nf]
   refine pp rfl rfl (pr_pick_t rfl) ?_;simp only [nf]
   refine plan_nil hH ?_
   clear hH
   intro w47 hH
   refine hK46 _ _ ?_
   (try clear hK46 K46)
   refine wp_cond_split rfl (fun hc48 => ?_) (fun hc48 => ?_)
   ·
    (try simp only [cnd] at hc48)
    have hx := hc48
    refine wp_skip ?_
    refine hK45 _ _ ?_
    (try clear hK45 K45)
    refine wp_seq_k ?_
    intro K49 hK49
    refine wp_block ?_
    refine wp_seq_k ?_
    intro K50 hK50
    refine wrt [.p 0, .p 1, .q 2] ?_
    refine pm ?_;simp only [nf]
    refine pp rfl rfl (pr_idxA1 rfl rfl Tryd.underlying130 sz4 (by first | omega | ((simp only [outL, List.length_map, List.length_range]; omega)))) ?_;simp only [nf]
    refine pq rfl rfl (qr_load1 rfl Tryd.underlying4 rfl ((hH.blk 1 rfl).cell (arrB_get (by first | omega | ((simp only [outL, List.length_map, List.length_range]; omega)))))) ?_;simp only [nf]
    refine plan_nil hH ?_
    clear hH
    intro w51 hH
    refine hK50 _ _ ?_
    (try clear hK50 K50)
    refine wp_cond_split rfl (fun hc52 => ?_) (fun hc52 => ?_)
    ·
     (try simp only [cnd] at hc52)
     refine wrt [.p 0, .p 1, .p 2, .p 3, .p 4, .p 5, .p 6, .q 7, .p 8, .p 9, .e 10] ?_
     refine pm (pm ?_);simp only [nf]
     refine pp rfl rfl (pr_bin rfl rfl (by first | exact bin_add_n (by first | omega | ((simp only [outL, List.length_map, List.length_range]; omega))) | exact bin_add_i (by first | omega | ((simp only [outL, List.length_map, List.length_range]; omega))) (by first | omega | ((simp only [outL, List.length_map, List.length_range]; omega))))) ?_;simp only [nf]
     refine pm (pm ?_);simp only [nf]
     refine pp rfl rfl (pr_bin rfl rfl (by first | exact bin_add_n (by first | omega | ((simp only [outL, List.length_map, List.length_range]; omega))) | exact bin_add_i (by first | omega | ((simp only [outL, List.length_map, List.length_range]; omega))) (by first | omega | ((simp only [outL, List.length_map, List.length_range]; omega))))) ?_;simp only [nf]
     refine pp rfl rfl (pr_idxA1 rfl rfl Tryd.underlying132 sz4 (by first | omega | ((simp only [outL, List.length_map, List.length_range]; omega)))) ?_;simp only [nf]
     refine pq rfl rfl (qr_load1 rfl Tryd.underlying4 rfl ((hH.blk 2 rfl).cell (arrB_get (by first | omega | ((simp only [outL, List.length_map, List.length_range]; omega)))))) ?_;simp only [nf]
     refine pp rfl rfl (pr_not rfl) ?_;simp only [nf]
     refine pp rfl rfl (pr_idxA1 rfl rfl Tryd.underlying132 sz4 (by first | omega | ((simp only [outL, List.length_map, List.length_range]; omega)))) ?_;simp only [nf]
     refine plan_store1 2 rfl rfl hH rfl rfl rfl rfl sz4 (by simp <;> omega) ?_
     clear hH
     intro w53 hH
     (try simp only [nf, nh, Value.cells, arrB_set] at hH ⊢)
     refine plan_nil hH ?_
     clear hH
     intro w54 hH
     refine hK49 _ _ ?_
     (try clear hK49 K49)
     refine wrt [.p 0, .p 1, .p 2] ?_
     refine pm ?_;simp only [nf]
     refine pp rfl rfl (pr_bin rfl rfl (by first | exact bin_add_n (n := 1) (by first | omega | ((simp only [outL, List.length_map, List.length_range]; omega))) | exact bin_add_i (by first | omega | ((simp only [outL, List.length_map, List.length_range]; omega))) (by first | omega | ((simp only [outL, List.length_map, List.length_range]; omega))))) ?_;simp only [nf]
     refine pa ?_;simp only [nf]
     refine plan_nil hH ?_
     clear hH
     intro w55 hH
     (try simp only [Exit.then, Exit.inBlock, ↓reduceIte, Nat.reduceEqDiff])
     refine ⟨128 - (k + 1), ?_, _, rfl, by kernel_rfl, ?_⟩
     · first | omega | (omega)
     simp only [ga]
     refine ⟨k + 1, upd p (i + k) (!p (i + k)), rfl, ?_, rfl, ?_, ?_⟩
     ·
      exact hH
     · first | omega | (omega)
     · first | omega | (first | (rw [vN_flip (by omega), hV]; exact part_step _ _ _ _ hx (by assumption)) | (rw [hV]; exact part_same _ _ _ _ (by assumption)))
    ·
     (try simp only [cnd] at hc52)
     refine wp_skip ?_
     refine hK49 _ _ ?_
     (try clear hK49 K49)
     refine wrt [.p 0, .p 1, .p 2] ?_
     refine pm ?_;simp only [nf]
     refine pp rfl rfl (pr_bin rfl rfl (by first | exact bin_add_n (n := 1) (by first | omega | ((simp only [outL, List.length_map, List.length_range]; omega))) | exact bin_add_i (by first | omega | ((simp only [outL, List.length_map, List.length_range]; omega))) (by first | omega | ((simp only [outL, List.length_map, List.length_range]; omega))))) ?_;simp only [nf]
     refine pa ?_;simp only [nf]
     refine plan_nil hH ?_
     clear hH
     intro w56 hH
     (try simp only [Exit.then, Exit.inBlock, ↓reduceIte, Nat.reduceEqDiff])
     refine ⟨128 - (k + 1), ?_, _, rfl, by kernel_rfl, ?_⟩
     · first | omega | (omega)
     simp only [ga]
     refine ⟨k + 1, p, rfl, ?_, rfl, ?_, ?_⟩
     ·
      exact hH
     · first | omega | (omega)
     · first | omega | (first | (rw [vN_flip (by omega), hV]; exact part_step _ _ _ _ hx (by assumption)) | (rw [hV]; exact part_same _ _ _ _ (by assumption)))
   ·
    (try simp only [cnd] at hc48)
    have hnew : vN p 256 = rowsN _ _ (i + 1) := hV.trans (part_off _ _ _ _ (by assumption))
    refine wp_exit ?_
    (try simp only [Exit.then, Exit.inBlock, ↓reduceIte, Nat.reduceEqDiff])
    refine hK32 _ _ ?_
    (try clear hK32 K32)
    refine wrt [.p 0, .p 1, .p 2] ?_
    refine pm ?_;simp only [nf]
    refine pp rfl rfl (pr_bin rfl rfl (by first | exact bin_add_n (n := 1) (by first | omega | ((simp only [outL, List.length_map, List.length_range]; omega))) | exact bin_add_i (by first | omega | ((simp only [outL, List.length_map, List.length_range]; omega))) (by first | omega | ((simp only [outL, List.length_map, List.length_range]; omega))))) ?_;simp only [nf]
    refine pa ?_;simp only [nf]
    refine plan_nil hH ?_
    clear hH
    intro w57 hH
    (try simp only [Exit.then, Exit.inBlock, ↓reduceIte, Nat.reduceEqDiff])
    refine ⟨128 - (i + 1), ?_, _, rfl, by kernel_rfl, ?_⟩
    · first | omega | (omega)
    simp only [ga]
    refine ⟨i + 1, p, rfl, ?_, rfl, ?_, ?_⟩
    ·
     exact hH
    · first | omega | (omega)
    · first | omega | (exact hnew)
  ·
   obtain rfl : k = 128 := by omega
   have hnew : vN p 256 = rowsN _ _ (i + 1) := hV.trans (part_end _ _ _)
   refine wrt [.p 0, .p 1, .p 2, .p 3, .p 4, .q 5, .p 6] ?_
   refine pm ?_;simp only [nf]
   refine pp rfl rfl (pr_bin rfl rfl (by first | exact bin_lss_n (n := 128)  | exact bin_lss_i)) ?_;simp only [nf]
   refine plan_p (v := BV false) rfl rfl (pr_move_v (by show BV _ = _; exact congrArg BV (decide_eq_false (by omega)))) ?_
   (try simp only [nf])
   refine plan_ps rfl rfl ?_
   (try simp only [nf])
   refine plan_ps rfl rfl ?_
   (try simp only [nf])
   refine plan_qs rfl rfl ?_
   (try simp only [nf])
   refine pp rfl rfl (pr_pick_f rfl) ?_;simp only [nf]
   refine plan_nil hH ?_
   clear hH
   intro w58 hH
   refine hK46 _ _ ?_
   (try clear hK46 K46)
   refine wp_cond_false rfl ?_
   refine wp_exit ?_
   (try simp only [Exit.then, Exit.inBlock, ↓reduceIte, Nat.reduceEqDiff])
   refine hK32 _ _ ?_
   (try clear hK32 K32)
   refine wrt [.p 0, .p 1, .p 2] ?_
   refine pm ?_;simp only [nf]
   refine pp rfl rfl (pr_bin rfl rfl (by first | exact bin_add_n (n := 1) (by first | omega | ((simp only [outL, List.length_map, List.length_range]; omega))) | exact bin_add_i (by first | omega | ((simp only [outL, List.length_map, List.length_range]; omega))) (by first | omega | ((simp only [outL, List.length_map, List.length_range]; omega))))) ?_;simp only [nf]
   refine pa ?_;simp only [nf]
   refine plan_nil hH ?_
   clear hH
   intro w59 hH
   (try simp only [Exit.then, Exit.inBlock, ↓reduceIte, Nat.reduceEqDiff])
   refine ⟨128 - (i + 1), ?_, _, rfl, by kernel_rfl, ?_⟩
   · first | omega | (omega)
   simp only [ga]
   refine ⟨i + 1, p, rfl, ?_, rfl, ?_, ?_⟩
   ·
    exact hH
   · first | omega | (omega)
   · first | omega | (exact hnew)
 ·
  (try simp only [cnd] at hc31)
  refine wp_exit ?_
  (try simp only [Exit.then, Exit.inBlock, ↓reduceIte, Nat.reduceEqDiff])
  refine hK15 _ _ ?_
  (try clear hK15 K15)
  refine wp_seq_k ?_
  intro K60 hK60
  refine wp_seq_k ?_
  intro K61 hK61
  refine wrt [.p 0] ?_
  refine pka 255 ?_;simp only [nf]
  refine plan_nil hH ?_
  clear hH
  intro w62 hH
  refine hK61 _ _ ?_
  (try clear hK61 K61)
  refine wp_block ?_
  obtain ⟨kc63, hkc64, hN⟩ := hH.name 0 rfl
  replace hH := hN; clear hN; simp only [List.set_cons_zero, List.set_cons_succ] at hH
  obtain ⟨kc65, hkc66, hN⟩ := hH.name 1 rfl
  replace hH := hN; clear hN; simp only [List.set_cons_zero, List.set_cons_succ] at hH
  refine wp_loopT [10] [43, 44, 45, 46, 47, 48, 49, 50, 51, 52, 53, 54, 55, 56, 57, 58, 59, 60, 61, 62, 63, 64, 65, 66, 67, 68, 69, 70, 71, 72, 73, 74, 75, 76, 77, 78, 79, 80, 81] (fun (n67 : Nat) (vs : List Value) (w' : World) => ∃ (j : Nat) (p : Nat → Bool), vs = [I64 (j : Nat)] ∧ Hp [] w w' [(some b4, 130, kc63), (some b6, 130, kc65), (some b12, 132, arrB 256 p)] ∧ n67 = j - 127 ∧ 127 ≤ j ∧ j ≤ 255 ∧ vN p (j + 1) = pw (mulP (ofP (fun i => a.data.toList.getD i 0)) (ofP (fun i => b.data.toList.getD i 0)))) (255 - 127) (by kernel_rfl) ?_ ?_
  ·
   simp only [ga]
   refine ⟨255, p, rfl, ?_, rfl, ?_, ?_, ?_⟩
   ·
    exact hH
   · first | omega | (omega)
   · first | omega | (omega)
   · first | omega | (obtain rfl : i = 128 := (by omega); exact hV.trans (rows_all _ _))
  clear hH
  intro n67 vs68 w69 hR70 d2
  obtain ⟨j, p, rfl, hH, hn71, hf72, hf73, hV⟩ := hR70
  simp only [putAll, putD, List.set_cons_zero, List.set_cons_succ, Nat.zero_add, Nat.reduceAdd]
  subst hkc64 hkc66
  refine wp_seq_k ?_
  intro K74 hK74
  refine wp_seq_k ?_
  intro K75 hK75
  refine wrt [.p 0, .p 1] ?_
  refine pm ?_;simp only [nf]
  refine pp rfl rfl (pr_bin rfl rfl (by first | exact bin_geq_n (n := 128)  | exact bin_geq_i)) ?_;simp only [nf]
  refine plan_nil hH ?_
  clear hH
  intro w76 hH
  refine hK75 _ _ ?_
  (try clear hK75 K75)
  refine wp_cond_split rfl (fun hc77 => ?_) (fun hc77 => ?_)
  ·
   (try simp only [cnd] at hc77)
   refine wp_skip ?_
   refine hK74 _ _ ?_
   (try clear hK74 K74)
   refine wp_seq_k ?_
   intro K78 hK78
   refine wp_block ?_
   refine wp_seq_k ?_
   intro K79 hK79
   refine wrt [.p 0, .p 1, .q 2] ?_
   refine pm ?_;simp only [nf]
   refine pp rfl rfl (pr_idxA1 rfl rfl Tryd.underlying132 sz4 (by first | omega | ((simp only [outL, List.length_map, List.length_range]; omega)))) ?_;simp only [nf]
   refine pq rfl rfl (qr_load1 rfl Tryd.underlying4 rfl ((hH.blk 2 rfl).cell (arrB_get (by first | omega | ((simp only [outL, List.length_map, List.length_range]; omega)))))) ?_;simp only [nf]
   refine plan_nil hH ?_
   clear hH
   intro w80 hH
   refine hK79 _ _ ?_
   (try clear hK79 K79)
   refine wp_cond_split rfl (fun hc81 => ?_) (fun hc81 => ?_)
   ·
    (try simp only [cnd] at hc81)
    refine wp_seq_k ?_
    intro K82 hK82
    refine wrt [.p 0, .p 1, .p 2, .p 3, .p 4, .q 5, .p 6, .p 7, .e 8] ?_
    refine pm ?_;simp only [nf]
    refine pp rfl rfl (pr_bin rfl rfl (by first | exact bin_sub_n (n := 128) (by first | omega | ((simp only [outL, List.length_map, List.length_range]; omega))) (by first | omega | ((simp only [outL, List.length_map, List.length_range]; omega))) | exact bin_sub_i (by first | omega | ((simp only [outL, List.length_map, List.length_range]; omega))) (by first | omega | ((simp only [outL, List.length_map, List.length_range]; omega))))) ?_;simp only [nf]
    refine pm ?_;simp only [nf]
    refine pp rfl rfl (pr_bin rfl rfl (by first | exact bin_sub_n (n := 128) (by first | omega | ((simp only [outL, List.length_map, List.length_range]; omega))) (by first | omega | ((simp only [outL, List.length_map, List.length_range]; omega))) | exact bin_sub_i (by first | omega | ((simp only [outL, List.length_map, List.length_range]; omega))) (by first | omega | ((simp only [outL, List.length_map, List.length_range]; omega))))) ?_;simp only [nf]
    refine pp rfl rfl (pr_idxA1 rfl rfl Tryd.underlying132 sz4 (by first | omega | ((simp only [outL, List.length_map, List.length_range]; omega)))) ?_;simp only [nf]
    refine pq rfl rfl (qr_load1 rfl Tryd.underlying4 rfl ((hH.blk 2 rfl).cell (arrB_get (by first | omega | ((simp only [outL, List.length_map, List.length_range]; omega)))))) ?_;simp only [nf]
    refine pp rfl rfl (pr_not rfl) ?_;simp only [nf]
    refine pp rfl rfl (pr_idxA1 rfl rfl Tryd.underlying132 sz4 (by first | omega | ((simp only [outL, List.length_map, List.length_range]; omega)))) ?_;simp only [nf]
    refine plan_store1 2 rfl rfl hH rfl rfl rfl rfl sz4 (by simp <;> omega) ?_
    clear hH
    intro w83 hH
    (try simp only [nf, nh, Value.cells, arrB_set] at hH ⊢)
    refine plan_nil hH ?_
    clear hH
    intro w84 hH
    refine hK82 _ _ ?_
    (try clear hK82 K82)
    refine wp_seq_k ?_
    intro K85 hK85
    refine wrt [.p 0, .p 1, .p 2, .p 3, .p 4, .q 5, .p 6, .p 7, .e 8] ?_
    refine pm ?_;simp only [nf]
    refine pp rfl rfl (pr_bin rfl rfl (by first | exact bin_sub_n (n := 127) (by first | omega | ((simp only [outL, List.length_map, List.length_range]; omega))) (by first | omega | ((simp only [outL, List.length_map, List.length_range]; omega))) | exact bin_sub_i (by first | omega | ((simp only [outL, List.length_map, List.length_range]; omega))) (by first | omega | ((simp only [outL, List.length_map, List.length_range]; omega))))) ?_;simp only [nf]
    refine pm ?_;simp only [nf]
    refine pp rfl rfl (pr_bin rfl rfl (by first | exact bin_sub_n (n := 127) (by first | omega | ((simp only [outL, List.length_map, List.length_range]; omega))) (by first | omega | ((simp only [outL, List.length_map, List.length_range]; omega))) | exact bin_sub_i (by first | omega | ((simp only [outL, List.length_map, List.length_range]; omega))) (by first | omega | ((simp only [outL, List.length_map, List.length_range]; omega))))) ?_;simp only [nf]
    refine pp rfl rfl (pr_idxA1 rfl rfl Tryd.underlying132 sz4 (by first | omega | ((simp only [outL, List.length_map, List.length_range]; omega)))) ?_;simp only [nf]
    refine pq rfl rfl (qr_load1 rfl Tryd.underlying4 rfl ((hH.blk 2 rfl).cell (arrB_get (by first | omega | ((simp only [outL, List.length_map, List.length_range]; omega)))))) ?_;simp only [nf]
    refine pp rfl rfl (pr_not rfl) ?_;simp only [nf]
    refine pp rfl rfl (pr_idxA1 rfl rfl Tryd.underlying132 sz4 (by first | omega | ((simp only [outL, List.length_map, List.length_range]; omega)))) ?_;simp only [nf]
    refine plan_store1 2 rfl rfl hH rfl rfl rfl rfl sz4 (by simp <;> omega) ?_
    clear hH
    intro w86 hH
    (try simp only [nf, nh, Value.cells, arrB_set] at hH ⊢)
    refine plan_nil hH ?_
    clear hH
    intro w87 hH
    refine hK85 _ _ ?_
    (try clear hK85 K85)
    refine wp_seq_k ?_
    intro K88 hK88
    refine wrt [.p 0, .p 1, .p 2, .p 3, .p 4, .q 5, .p 6, .p 7, .e 8] ?_
    refine pm ?_;simp only [nf]
    refine pp rfl rfl (pr_bin rfl rfl (by first | exact bin_sub_n (n := 126) (by first | omega | ((simp only [outL, List.length_map, List.length_range]; omega))) (by first | omega | ((simp only [outL, List.length_map, List.length_range]; omega))) | exact bin_sub_i (by first | omega | ((simp only [outL, List.length_map, List.length_range]; omega))) (by first | omega | ((simp only [outL, List.length_map, List.length_range]; omega))))) ?_;simp only [nf]
    refine pm ?_;simp only [nf]
    refine pp rfl rfl (pr_bin rfl rfl (by first | exact bin_sub_n (n := 126) (by first | omega | ((simp only [outL, List.length_map, List.length_range]; omega))) (by first | omega | ((simp only [outL, List.length_map, List.length_range]; omega))) | exact bin_sub_i (by first | omega | ((simp only [outL, List.length_map, List.length_range]; omega))) (by first | omega | ((simp only [outL, List.length_map, List.length_range]; omega))))) ?_;simp only [nf]
    refine pp rfl rfl (pr_idxA1 rfl rfl Tryd.underlying132 sz4 (by first | omega | ((simp only [outL, List.length_map, List.length_range]; omega)))) ?_;simp only [nf]
    refine pq rfl rfl (qr_load1 rfl Tryd.underlying4 rfl ((hH.blk 2 rfl).cell (arrB_get (by first | omega | ((simp only [outL, List.length_map, List.length_range]; omega)))))) ?_;simp only [nf]
    refine pp rfl rfl (pr_not rfl) ?_;simp only [nf]
    refine pp rfl rfl (pr_idxA1 rfl rfl Tryd.underlying132 sz4 (by first | omega | ((simp only [outL, List.length_map, List.length_range]; omega)))) ?_;simp only [nf]
    refine plan_store1 2 rfl rfl hH rfl rfl rfl rfl sz4 (by simp <;> omega) ?_
    clear hH
    intro w89 hH
    (try simp only [nf, nh, Value.cells, arrB_set] at hH ⊢)
    refine plan_nil hH ?_
    clear hH
    intro w90 hH
    refine hK88 _ _ ?_
    (try clear hK88 K88)
    refine wrt [.p 0, .p 1, .p 2, .p 3, .p 4, .q 5, .p 6, .p 7, .e 8] ?_
    refine pm ?_;simp only [nf]
    refine pp rfl rfl (pr_bin rfl rfl (by first | exact bin_sub_n (n := 121) (by first | omega | ((simp only [outL, List.length_map, List.length_range]; omega))) (by first | omega | ((simp only [outL, List.length_map, List.length_range]; omega))) | exact bin_sub_i (by first | omega | ((simp only [outL, List.length_map, List.length_range]; omega))) (by first | omega | ((simp only [outL, List.length_map, List.length_range]; omega))))) ?_;simp only [nf]
    refine pm ?_;simp only [nf]
    refine pp rfl rfl (pr_bin rfl rfl (by first | exact bin_sub_n (n := 121) (by first | omega | ((simp only [outL, List.length_map, List.length_range]; omega))) (by first | omega | ((simp only [outL, List.length_map, List.length_range]; omega))) | exact bin_sub_i (by first | omega | ((simp only [outL, List.length_map, List.length_range]; omega))) (by first | omega | ((simp only [outL, List.length_map, List.length_range]; omega))))) ?_;simp only [nf]
    refine pp rfl rfl (pr_idxA1 rfl rfl Tryd.underlying132 sz4 (by first | omega | ((simp only [outL, List.length_map, List.length_range]; omega)))) ?_;simp only [nf]
    refine pq rfl rfl (qr_load1 rfl Tryd.underlying4 rfl ((hH.blk 2 rfl).cell (arrB_get (by first | omega | ((simp only [outL, List.length_map, List.length_range]; omega)))))) ?_;simp only [nf]
    refine pp rfl rfl (pr_not rfl) ?_;simp only [nf]
    refine pp rfl rfl (pr_idxA1 rfl rfl Tryd.underlying132 sz4 (by first | omega | ((simp only [outL, List.length_map, List.length_range]; omega)))) ?_;simp only [nf]
    refine plan_store1 2 rfl rfl hH rfl rfl rfl rfl sz4 (by simp <;> omega) ?_
    clear hH
    intro w91 hH
    (try simp only [nf, nh, Value.cells, arrB_set] at hH ⊢)
    refine plan_nil hH ?_
    clear hH
    intro w92 hH
    refine hK78 _ _ ?_
    (try clear hK78 K78)
    refine wrt [.p 0, .p 1, .p 2] ?_
    refine pm ?_;simp only [nf]
    refine pp rfl rfl (pr_bin rfl rfl (by first | exact bin_sub_n (n := 1) (by first | omega | ((simp only [outL, List.length_map, List.length_range]; omega))) (by first | omega | ((simp only [outL, List.length_map, List.length_range]; omega))) | exact bin_sub_i (by first | omega | ((simp only [outL, List.length_map, List.length_range]; omega))) (by first | omega | ((simp only [outL, List.length_map, List.length_range]; omega))))) ?_;simp only [nf]
    refine pa ?_;simp only [nf]
    refine plan_nil hH ?_
    clear hH
    intro w93 hH
    (try simp only [Exit.then, Exit.inBlock, ↓reduceIte, Nat.reduceEqDiff])
    refine ⟨j - 1 - 127, ?_, _, rfl, by kernel_rfl, ?_⟩
    · first | omega | (omega)
    simp only [ga]
    refine ⟨j - 1, upd (upd (upd (upd p (j - 128) (!p (j - 128))) (j - 127) (!(upd p (j - 128) (!p (j - 128))) (j - 127))) (j - 126) (!(upd (upd p (j - 128) (!p (j - 128))) (j - 127) (!(upd p (j - 128) (!p (j - 128))) (j - 127))) (j - 126))) (j - 121) (!(upd (upd (upd p (j - 128) (!p (j - 128))) (j - 127) (!(upd p (j - 128) (!p (j - 128))) (j - 127))) (j - 126) (!(upd (upd p (j - 128) (!p (j - 128))) (j - 127) (!(upd p (j - 128) (!p (j - 128))) (j - 127))) (j - 126))) (j - 121)), rfl, ?_, rfl, ?_, ?_, ?_⟩
    ·
     exact hH
    · first | omega | (omega)
    · first | omega | (omega)
    · first | omega | (first | (rw [show j - 1 + 1 = j by omega, vN_back (by omega) (by assumption)]; exact hV) | (rw [show j - 1 + 1 = j by omega, vN_drop (by assumption)]; exact hV))
   ·
    (try simp only [cnd] at hc81)
    refine wp_skip ?_
    refine hK78 _ _ ?_
    (try clear hK78 K78)
    refine wrt [.p 0, .p 1, .p 2] ?_
    refine pm ?_;simp only [nf]
    refine pp rfl rfl (pr_bin rfl rfl (by first | exact bin_sub_n (n := 1) (by first | omega | ((simp only [outL, List.length_map, List.length_range]; omega))) (by first | omega | ((simp only [outL, List.length_map, List.length_range]; omega))) | exact bin_sub_i (by first | omega | ((simp only [outL, List.length_map, List.length_range]; omega))) (by first | omega | ((simp only [outL, List.length_map, List.length_range]; omega))))) ?_;simp only [nf]
    refine pa ?_;simp only [nf]
    refine plan_nil hH ?_
    clear hH
    intro w94 hH
    (try simp only [Exit.then, Exit.inBlock, ↓reduceIte, Nat.reduceEqDiff])
    refine ⟨j - 1 - 127, ?_, _, rfl, by kernel_rfl, ?_⟩
    · first | omega | (omega)
    simp only [ga]
    refine ⟨j - 1, p, rfl, ?_, rfl, ?_, ?_, ?_⟩
    ·
     exact hH
    · first | omega | (omega)
    · first | omega | (omega)
    · first | omega | (first | (rw [show j - 1 + 1 = j by omega, vN_back (by omega) (by assumption)]; exact hV) | (rw [show j - 1 + 1 = j by omega, vN_drop (by assumption)]; exact hV))
  ·
   (try simp only [cnd] at hc77)
   refine wp_exit ?_
   (try simp only [Exit.then, Exit.inBlock, ↓reduceIte, Nat.reduceEqDiff])
   refine hK60 _ _ ?_
   (try clear hK60 K60)
   refine wp_seq_k ?_
   intro K95 hK95
   refine wrt [.x 0, .p 1] ?_
   refine plan_make (n := 16) (c := 16) rfl rfl hH rfl rfl Tryd.underlying22 sz5 bz5 ze5 rfl (by first | omega | ((simp only [outL, List.length_map, List.length_range]; omega))) (by first | omega | ((simp only [outL, List.length_map, List.length_range]; omega))) (by first | omega | ((simp only [outL, List.length_map, List.length_range]; omega))) ?_
   clear hH
   intro b96 w97 hH
   (try simp only [nf] at hH ⊢)
   rw [made_arr8] at hH
   (try simp only [nf, nh, Value.cells, arrB_set] at hH ⊢)
   refine pa ?_;simp only [nf]
   refine plan_nil hH ?_
   clear hH
   intro w98 hH
   refine hK95 _ _ ?_
   (try clear hK95 K95)
   refine wp_seq_k ?_
   intro K99 hK99
   refine wp_seq_k ?_
   intro K100 hK100
   refine wrt [.p 0] ?_
   refine pka 0 ?_;simp only [nf]
   refine plan_nil hH ?_
   clear hH
   intro w101 hH
   refine hK100 _ _ ?_
   (try clear hK100 K100)
   refine wp_block ?_
   obtain ⟨kc102, hkc103, hN⟩ := hH.name 0 rfl
   replace hH := hN; clear hN; simp only [List.set_cons_zero, List.set_cons_succ] at hH
   obtain ⟨kc104, hkc105, hN⟩ := hH.name 1 rfl
   replace hH := hN; clear hN; simp only [List.set_cons_zero, List.set_cons_succ] at hH
   refine wp_loopT [12] [83, 84, 85, 86, 87, 88, 89, 90, 91, 92, 93, 94, 95, 96, 97, 98, 99, 100, 101, 102] (fun (n106 : Nat) (vs : List Value) (w' : World) => ∃ (q : Nat) (cs : Array Value), vs = [I64 (q : Nat)] ∧ Hp [] w w' [(some b4, 130, kc102), (some b6, 130, kc104), (some b12, 132, arrB 256 p), (some b96, 5, cs)] ∧ n106 = 128 - q ∧ q ≤ 128 ∧ OwnC (some b96) 16 16 1 cs ((outL p q).map V8)) (128 - 0) (by kernel_rfl) ?_ ?_
   ·
    simp only [ga]
    refine ⟨0, arr8 16 fun _ => 0, rfl, ?_, rfl, ?_, ?_⟩
    ·
     exact hH
    · first | omega | (omega)
    · first | omega | (rw [← outL_zero]; exact OwnC.made)
   clear hH
   intro n106 vs107 w108 hR109 d3
   obtain ⟨q, cs, rfl, hH, hn110, hf111, hO⟩ := hR109
   simp only [putAll, putD, List.set_cons_zero, List.set_cons_succ, Nat.zero_add, Nat.reduceAdd]
   subst hkc103 hkc105
   refine wp_seq_k ?_
   intro K112 hK112
   refine wp_seq_k ?_
   intro K113 hK113
   refine wrt [.p 0, .p 1] ?_
   refine pm ?_;simp only [nf]
   refine pp rfl rfl (pr_bin rfl rfl (by first | exact bin_lss_n (n := 128)  | exact bin_lss_i)) ?_;simp only [nf]
   refine plan_nil hH ?_
   clear hH
   intro w114 hH
   refine hK113 _ _ ?_
   (try clear hK113 K113)
   refine wp_cond_split rfl (fun hc115 => ?_) (fun hc115 => ?_)
   ·
    (try simp only [cnd] at hc115)
    refine wp_skip ?_
    refine hK112 _ _ ?_
    (try clear hK112 K112)
    refine wp_seq_k ?_
    intro K116 hK116
    refine wp_block ?_
    refine wp_seq_k ?_
    intro K117 hK117
    refine wrt [.p 0, .p 1, .q 2] ?_
    refine pm ?_;simp only [nf]
    refine pp rfl rfl (pr_idxA1 rfl rfl Tryd.underlying132 sz4 (by first | omega | ((simp only [outL, List.length_map, List.length_range]; omega)))) ?_;simp only [nf]
    refine pq rfl rfl (qr_load1 rfl Tryd.underlying4 rfl ((hH.blk 2 rfl).cell (arrB_get (by first | omega | ((simp only [outL, List.length_map, List.length_range]; omega)))))) ?_;simp only [nf]
    refine plan_nil hH ?_
    clear hH
    intro w118 hH
    refine hK117 _ _ ?_
    (try clear hK117 K117)
    refine wp_cond_split rfl (fun hc119 => ?_) (fun hc119 => ?_)
    ·
     (try simp only [cnd] at hc119)
     refine wrp [.p 0, .p 1, .p 2, .p 3, .p 4, .p 5, .p 6, .p 8, .p 9, .p 10, .q 7, .p 11, .p 12, .e 13] ?_
     refine pm (pm ?_);simp only [nf]
     refine pp rfl rfl (pr_bin rfl rfl (by first | exact bin_quo_n (n := 8) (by first | omega | ((simp only [outL, List.length_map, List.length_range]; omega))) (by first | omega | ((simp only [outL, List.length_map, List.length_range]; omega))))) ?_;simp only [nf]
     refine pm (pm ?_);simp only [nf]
     refine pp rfl rfl (pr_bin rfl rfl (by first | exact bin_quo_n (n := 8) (by first | omega | ((simp only [outL, List.length_map, List.length_range]; omega))) (by first | omega | ((simp only [outL, List.length_map, List.length_range]; omega))))) ?_;simp only [nf]
     refine pp rfl rfl (pr_idx_Sl (OwnC.sl hH 3 rfl hO) rfl rfl Tryd.underlying22 sz5 (by first | omega | ((simp only [outL, List.length_map, List.length_range]; omega)))) ?_;simp only [nf]
     refine pm ?_;simp only [nf]
     refine pp rfl rfl (pr_bin rfl rfl (by first | exact bin_rem_n (n := 8) (by first | omega | ((simp only [outL, List.length_map, List.length_range]; omega))))) ?_;simp only [nf]
     refine pp rfl rfl (pr_bin rfl rfl (bin_shr_u8 128 _ _)) ?_;simp only [nf]
     refine pq rfl rfl (qr_load1 rfl Tryd.underlying5 rfl (Sl.cell (OwnC.sl hH 3 rfl hO) (by first | omega | ((simp only [outL, List.length_map, List.length_range]; omega))))) ?_;simp only [nf]
     refine pp rfl rfl (pr_bin rfl rfl (bin_add_u8 _ _)) ?_;simp only [nf]
     refine pp rfl rfl (pr_idx_Sl (OwnC.sl hH 3 rfl hO) rfl rfl Tryd.underlying22 sz5 (by first | omega | ((simp only [outL, List.length_map, List.length_range]; omega)))) ?_;simp only [nf]
     refine plan_storeO 3 rfl rfl hH rfl rfl hO rfl sz5 (by first | omega | ((simp only [outL, List.length_map, List.length_range]; omega))) ?_
     clear hH
     intro cs121 w120 hO122 hH
     (try simp only [nf, nh, Value.cells, arrB_set] at hH ⊢)
     refine plan_nil hH ?_
     clear hH
     intro w123 hH
     refine hK116 _ _ ?_
     (try clear hK116 K116)
     refine wrt [.p 0, .p 1, .p 2] ?_
     refine pm ?_;simp only [nf]
     refine pp rfl rfl (pr_bin rfl rfl (by first | exact bin_add_n (n := 1) (by first | omega | ((simp only [outL, List.length_map, List.length_range]; omega))) | exact bin_add_i (by first | omega | ((simp only [outL, List.length_map, List.length_range]; omega))) (by first | omega | ((simp only [outL, List.length_map, List.length_range]; omega))))) ?_;simp only [nf]
     refine pa ?_;simp only [nf]
     refine plan_nil hH ?_
     clear hH
     intro w124 hH
     (try simp only [Exit.then, Exit.inBlock, ↓reduceIte, Nat.reduceEqDiff])
     refine ⟨128 - (q + 1), ?_, _, rfl, by kernel_rfl, ?_⟩
     · first | omega | (omega)
     simp only [ga]
     refine ⟨q + 1, cs121, rfl, ?_, rfl, ?_, ?_⟩
     ·
      exact hH
     · first | omega | (omega)
     · first | omega | (first | (rw [← outL_step _ _ (by omega) (by assumption)]; exact hO122) | (rw [← outL_same _ _ (by assumption)]; exact hO122))
    ·
     (try simp only [cnd] at hc119)
     refine wp_skip ?_
     refine hK116 _ _ ?_
     (try clear hK116 K116)
     refine wrt [.p 0, .p 1, .p 2] ?_
     refine pm ?_;simp only [nf]
     refine pp rfl rfl (pr_bin rfl rfl (by first | exact bin_add_n (n := 1) (by first | omega | ((simp only [outL, List.length_map, List.length_range]; omega))) | exact bin_add_i (by first | omega | ((simp only [outL, List.length_map, List.length_range]; omega))) (by first | omega | ((simp only [outL, List.length_map, List.length_range]; omega))))) ?_;simp only [nf]
     refine pa ?_;simp only [nf]
     refine plan_nil hH ?_
     clear hH
     intro w125 hH
     (try simp only [Exit.then, Exit.inBlock, ↓reduceIte, Nat.reduceEqDiff])
     refine ⟨128 - (q + 1), ?_, _, rfl, by kernel_rfl, ?_⟩
     · first | omega | (omega)
     simp only [ga]
     refine ⟨q + 1, cs, rfl, ?_, rfl, ?_, ?_⟩
     ·
      exact hH
     · first | omega | (omega)
     · first | omega | (first | (rw [← outL_step _ _ (by omega) (by assumption)]; exact hO) | (rw [← outL_same _ _ (by assumption)]; exact hO))
   ·
    (try simp only [cnd] at hc115)
    refine wp_exit ?_
    (try simp only [Exit.then, Exit.inBlock, ↓reduceIte, Nat.reduceEqDiff])
    refine hK99 _ _ ?_
    (try clear hK99 K99)
    refine wp_seq_k ?_
    intro K126 hK126
    refine wrt [.p 0, .q 1, .p 2] ?_
    refine pm ?_;simp only [nf]
    refine pq rfl rfl (qr_b2s (OwnC.sl hH 3 rfl hO) rfl Tryd.underlying22 Tryd.underlying5 Tryd.underlying9) ?_;simp only [nf]
    refine pa ?_;simp only [nf]
    refine plan_nil hH ?_
    clear hH
    intro w127 hH
    refine hK126 _ _ ?_
    (try clear hK126 K126)
    refine wp_ret ?_
    (try simp only [Exit.then, Exit.inBlock, ↓reduceIte, Nat.reduceEqDiff])
    refine BP.ret1 rfl rfl ?_
    obtain rfl : q = 128 := by omega
    obtain rfl : j = 127 := by omega
    exact ⟨congrArg (fun l : List UInt8 => Value.string ⟨l.toArray⟩) (outL_end p _ hV), hH.chg⟩
end Go.Proofs.YtmoaddicejohgaaDoor
set_option linter.unusedSimpArgs false
set_option linter.unusedVariables false
set_option maxRecDepth 100000
set_option maxHeartbeats 4000000
namespace Go.Proofs.YtmoaddicejohgaaDoor
open Go
open List (getD_cons_zero getD_cons_succ set_cons_zero set_cons_succ)
theorem str_of {s : ByteArray} {l : List UInt8} (h : s.data.toList = l) : s = ⟨l.toArray⟩ := by
  subst h; rfl
theorem str_len (s : ByteArray) : s.data.toList.length = s.size := rfl
theorem str_app (a b : ByteArray) : (a ++ b).data.toList = a.data.toList ++ b.data.toList := by rw [ByteArray.data_append, Array.toList_append]
def wholeL (l : List UInt8) : List UInt8 := l ++ List.replicate ((16 - l.length % 16) % 16) 0
def cntF (n i : Nat) : UInt8 := UInt8.ofNat (8 * n / 2 ^ (56 - 8 * i))
def cntL (n : Nat) : List UInt8 := (List.range 8).map (cntF n)
def xorL (a b : List UInt8) (n : Nat) : List UInt8 := (List.range n).map fun i => a.getD i 0 ^^^ b.getD i 0
theorem xorL_succ (a b : List UInt8) (n : Nat) : xorL a b (n + 1) = xorL a b n ++ [a.getD n 0 ^^^ b.getD n 0] := by
  unfold xorL; rw [List.range_succ, List.map_append]; rfl
theorem map_set {n i : Nat} {f : Nat → UInt8} {v : UInt8} : ((List.range n).map f).set i v = (List.range n).map (upd f i v) := by
  apply List.ext_getElem (by simp)
  intro j h1 h2
  rw [List.getElem_set]
  simp only [List.getElem_map, List.getElem_range, upd]
  by_cases h : i = j
  · rw [if_pos h, if_pos h.symm]
  · rw [if_neg h, if_neg fun e => h e.symm]
theorem map_cut {n k : Nat} {g z : Nat → UInt8} {v : UInt8} (hv : v = g k) : ((List.range n).map fun j => if j < k then g j else z j).set k v = (List.range n).map fun j => if j < k + 1 then g j else z j := by
  rw [map_set]
  exact List.map_congr_left fun j _ => upd_lt hv j
theorem whole_len (l : List UInt8) : (wholeL l).length = 16 * blocks l := by
  unfold wholeL blocks
  rw [List.length_append, List.length_replicate]; omega
theorem whole_getD (l : List UInt8) (i : Nat) : (wholeL l).getD i 0 = l.getD i 0 := by
  unfold wholeL
  simp only [List.getD, List.getElem?_append]
  by_cases h : i < l.length
  · rw [if_pos h]
  · rw [if_neg h, List.getElem?_replicate, List.getElem?_eq_none (by omega)]
    split <;> rfl
theorem takeP_congr (h r : P2) {a b : List UInt8} : ∀ n, (∀ i, i < 16 * n → a.getD i 0 = b.getD i 0) → takeP h r a n = takeP h r b n
  | 0, _ => rfl
  | n + 1, hab => by
    have e : blkP a n = blkP b n := ofP_congr fun i hi => hab _ (by omega)
    rw [takeP, takeP, takeP_congr h r n fun i hi => hab i (by omega), e]
theorem takeP_app (h r : P2) (a b : List UInt8) (m : Nat) (ha : a.length = 16 * m) : ∀ n, takeP h r (a ++ b) (m + n) = takeP h (takeP h r a m) b n
  | 0 => takeP_congr h r m fun i hi => by simp only [List.getD, List.getElem?_append, ha, hi, if_true]
  | n + 1 => by
    have e : blkP (a ++ b) (m + n) = blkP b n := ofP_congr fun i _ => by
      simp only [List.getD, List.getElem?_append, ha]
      rw [if_neg (by omega), show 16 * (m + n) + i - 16 * m = 16 * n + i by omega]
    rw [← Nat.add_assoc, takeP, takeP, takeP_app h r a b m ha n, e]
theorem cnt_word (m : Nat) (h : m < 2 ^ 64) : wordF (fun i => UInt8.ofNat (m / 2 ^ (56 - 8 * i))) 8 = UInt64.ofNat m := by
  apply UInt64.toNat_inj.1
  rw [ofNat_toNat64 m h]
  apply Nat.eq_of_testBit_eq
  intro k
  rw [word_bit _ 8 (Nat.le_refl _)]
  by_cases hk : k < 64
  · rw [decide_eq_true (by omega), Bool.true_and, UInt8.toNat_ofNat', Nat.testBit_mod_two_pow, decide_eq_true (by omega), Bool.true_and, Nat.testBit_div_two_pow, show k % 8 + (56 - 8 * (8 - 1 - k / 8)) = k by omega]
  · rw [decide_eq_false (by omega), Nat.testBit_lt_two_pow (Nat.lt_of_lt_of_le h (Nat.pow_le_pow_right (by decide) (by omega)))]; rfl
theorem shl3 (n : Nat) : UInt64.ofNat (8 * n) = UInt64.ofNat n <<< 3 := by
  apply UInt64.toNat_inj.1
  rw [UInt64.toNat_shiftLeft, UInt64.toNat_ofNat', UInt64.toNat_ofNat']
  show 8 * n % 2 ^ 64 = (n % 2 ^ 64) <<< 3 % 2 ^ 64
  rw [Nat.shiftLeft_eq]; omega
theorem cnt_blk (m n : Nat) (hm : m < 2 ^ 60) (hn : n < 2 ^ 60) : blkP (cntL m ++ cntL n) 0 = (UInt64.ofNat m <<< 3, UInt64.ofNat n <<< 3) := by
  have hl : (cntL m).length = 8 := by simp [cntL]
  have e : ∀ k i, i < 8 → (cntL k).getD i 0 = cntF k i := fun k i hi => by simp [cntL, List.getD, hi]
  have e1 : blkP (cntL m ++ cntL n) 0 = ofP fun i => if i < 8 then cntF m i else cntF n (i - 8) := ofP_congr fun i hi => by
    rw [Nat.mul_zero, Nat.zero_add]
    by_cases h : i < 8
    · rw [if_pos h, ← e m i h]; simp only [List.getD, List.getElem?_append, hl, h, if_true]
    · rw [if_neg h, ← e n (i - 8) (by omega)]; simp only [List.getD, List.getElem?_append, hl, h, if_false]
  rw [e1, ← shl3, ← shl3, ← cnt_word (8 * m) (by omega), ← cnt_word (8 * n) (by omega)]
  unfold ofP
  congr 1
theorem sum_is (h : P2) (al cl : List UInt8) (ha : al.length < 2 ^ 60) (hc : cl.length < 2 ^ 60) : takeP h (0, 0) (wholeL al ++ wholeL cl ++ cntL al.length ++ cntL cl.length) (blocks al + blocks cl + 1) = sealP h al cl := by
  have e : wholeL al ++ wholeL cl ++ cntL al.length ++ cntL cl.length = (wholeL al ++ wholeL cl) ++ (cntL al.length ++ cntL cl.length) := by rw [List.append_assoc]
  rw [e, takeP_app h (0, 0) (wholeL al ++ wholeL cl) _ (blocks al + blocks cl) (by rw [List.length_append, whole_len, whole_len]; omega) 1, takeP_app h (0, 0) (wholeL al) (wholeL cl) (blocks al) (whole_len al),
    takeP_congr h (0, 0) (blocks al) fun i _ => whole_getD al i, takeP_congr h _ (blocks cl) fun i _ => whole_getD cl i]
  rw [takeP, takeP, cnt_blk _ _ ha hc]; rfl
theorem nb_of (f : Nat → UInt8) (j : Nat) (hj : j < 16) : nbP (ofP f) j = f j := by
  rw [nb_is _ _ hj]
  apply UInt8.toNat_inj.1
  apply Nat.eq_of_testBit_eq
  intro k
  rw [nbN_bit]
  by_cases hk : k < 8
  · have := cf_of f (8 * j + (7 - k)) (by omega)
    rw [bitF_is] at this
    unfold cf at this
    rw [show 127 - (8 * j + (7 - k)) = 8 * (15 - j) + k by omega, show (8 * j + (7 - k)) / 8 = j by omega, show 7 - (8 * j + (7 - k)) % 8 = k by omega] at this
    rw [decide_eq_true hk, Bool.true_and, this]
  · rw [decide_eq_false hk, bit8 _ (by omega)]; rfl
theorem of_nb (p : P2) : ofP (nbP p) = p := pw_inj (Nat.eq_of_testBit_eq fun k => by
  by_cases hk : k < 128
  · have := cf_of (nbP p) (127 - k) (by omega)
    unfold cf at this
    rw [show 127 - (127 - k) = k by omega, bitF_is, nb_is _ _ (by omega), nbN_bit, decide_eq_true (by omega : 7 - (127 - k) % 8 < 8), Bool.true_and, show 8 * (15 - (127 - k) / 8) + (7 - (127 - k) % 8) = k by omega] at this
    exact this
  · rw [Nat.testBit_lt_two_pow (Nat.lt_of_lt_of_le (pw_lt _) (Nat.pow_le_pow_right (by decide) (by omega))), Nat.testBit_lt_two_pow (Nat.lt_of_lt_of_le (pw_lt _) (Nat.pow_le_pow_right (by decide) (by omega)))])
theorem nb_xor (p q : P2) (j : Nat) (hj : j < 16) : nbP (p.1 ^^^ q.1, p.2 ^^^ q.2) j = nbP p j ^^^ nbP q j := by
  rw [nb_is _ _ hj, nb_is _ _ hj, nb_is _ _ hj, pw_xor]
  apply UInt8.toNat_inj.1
  apply Nat.eq_of_testBit_eq
  intro k
  rw [UInt8.toNat_xor, Nat.testBit_xor, nbN_bit, nbN_bit, nbN_bit, Nat.testBit_xor]
  cases decide (k < 8) <;> simp
theorem strP_size (p : P2) : (strP p).size = 16 := by simp [strP, ByteArray.size]
theorem strP_at (p : P2) {i : Nat} (h : i < 16) : (strP p).data.toList.getD i 0 = nbP p i := by
  unfold strP; exact cut16 _ h
theorem of_strP (p : P2) : ofP (fun i => (strP p).data.toList.getD i 0) = p := (ofP_congr fun i hi => strP_at p hi).trans (of_nb p)
theorem xorL_len (a b : List UInt8) (n : Nat) : (xorL a b n).length = n := by simp [xorL]
theorem xorL_at (a b : List UInt8) {n i : Nat} (h : i < n) : (xorL a b n).getD i 0 = a.getD i 0 ^^^ b.getD i 0 := by simp [xorL, List.getD, h]
theorem sum_step (h r : P2) (sl : List UInt8) (k : Nat) (rs bs hs : ByteArray) (hr : rs = strP (takeP h r sl k)) (hh : hs = strP h) (hb : ∀ i, i < 16 → bs.data.toList.getD i 0 = sl.getD (16 * k + i) 0) :
    strP (mulP (ofP fun i => (xorL rs.data.toList bs.data.toList 16).getD i 0) (ofP fun i => hs.data.toList.getD i 0)) = strP (takeP h r sl (k + 1)) := by
  subst hr hh
  rw [of_strP, takeP]
  refine congrArg strP (congrArg (fun x => mulP x h) ?_)
  refine (ofP_congr fun i hi => ?_).trans (of_nb _)
  rw [xorL_at _ _ hi, strP_at _ hi, hb i hi, nb_xor _ _ _ hi]
  congr 1
  exact (nb_of (fun i => sl.getD (16 * k + i) 0) i hi).symm
theorem be32_nat (c : Nat → UInt8) : (be32 c).toNat = (((c 12).toNat * 256 + (c 13).toNat) * 256 + (c 14).toNat) * 256 + (c 15).toNat := by
  rw [← be32_sum]
  have h2 := (c 12).toNat_lt; have h3 := (c 13).toNat_lt; have h4 := (c 14).toNat_lt; have h5 := (c 15).toNat_lt
  simp only [UInt32.toNat_add, UInt32.toNat_shiftLeft, UInt8.toNat_toUInt32, Nat.shiftLeft_eq]
  show ((((c 12).toNat * 2 ^ 24 % 2 ^ 32 + (c 13).toNat * 2 ^ 16 % 2 ^ 32) % 2 ^ 32 + (c 14).toNat * 2 ^ 8 % 2 ^ 32) % 2 ^ 32 + (c 15).toNat) % 2 ^ 32 = _
  omega
theorem ctrF_self (c : Nat → UInt8) : ∀ i, i < 16 → ctrF c (be32 c) i = c i := by
  intro i hi
  have h : i < 12 ∨ i = 12 ∨ i = 13 ∨ i = 14 ∨ i = 15 := by omega
  have hb := be32_nat c
  have h2 := (c 12).toNat_lt; have h3 := (c 13).toNat_lt; have h4 := (c 14).toNat_lt; have h5 := (c 15).toNat_lt
  rcases h with h | rfl | rfl | rfl | rfl
  · exact ctr_head c _ i h
  · show ((be32 c) >>> 24).toUInt8 = c 12
    apply UInt8.toNat_inj.1
    rw [UInt32.toNat_toUInt8, UInt32.toNat_shiftRight, hb, Nat.shiftRight_eq_div_pow]
    show _ / 2 ^ 24 % 256 = _
    omega
  · show ((be32 c) >>> 16).toUInt8 = c 13
    apply UInt8.toNat_inj.1
    rw [UInt32.toNat_toUInt8, UInt32.toNat_shiftRight, hb, Nat.shiftRight_eq_div_pow]
    show _ / 2 ^ 16 % 256 = _
    omega
  · show ((be32 c) >>> 8).toUInt8 = c 14
    apply UInt8.toNat_inj.1
    rw [UInt32.toNat_toUInt8, UInt32.toNat_shiftRight, hb, Nat.shiftRight_eq_div_pow]
    show _ / 2 ^ 8 % 256 = _
    omega
  · show (be32 c).toUInt8 = c 15
    apply UInt8.toNat_inj.1
    rw [UInt32.toNat_toUInt8, hb]
    omega
theorem ks_head (K c : Nat → UInt8) (i : Nat) (hi : i < 16) : ksF K c i = aesR K c 10 i := by
  unfold ksF
  rw [Nat.div_eq_of_lt hi, Nat.mod_eq_of_lt hi, show be32 c + UInt32.ofNat 0 = be32 c from UInt32.add_zero _]
  exact aesR_congr (fun _ _ => rfl) (ctrF_self c) 10 (Nat.le_refl _) i hi
theorem seal_is (K q : Nat → UInt8) (h : P2) (nl al cl : List UInt8) (bs : ByteArray) (hb : ∀ i, i < 16 → bs.data.toList.getD i 0 = q i) (hq : ∀ i, i < 16 → ksF K (gctr nl 1) i = q i) :
    xorL (strP (sealP h al cl)).data.toList bs.data.toList 16 = sealL K h nl al cl := by
  unfold xorL sealL strm
  refine List.map_congr_left fun i hi => ?_
  have hi : i < 16 := List.mem_range.1 hi
  have e1 : ((List.range 16).map (nbP (sealP h al cl))).getD i 0 = nbP (sealP h al cl) i := cut16 _ hi
  rw [strP_at _ hi, e1, Nat.zero_add, hq i hi, hb i hi]
theorem own_init {b n : Nat} {g : Nat → UInt8} : OwnC (some b) n n 1 (arr8 n fun _ => 0) (((List.range n).map fun j => if j < 0 then g j else 0).map V8) := by
  have := OwnC.made (b := b) (n := n) (f := fun _ => 0)
  simpa using this
theorem bsz (l : List UInt8) : (ByteArray.mk l.toArray).size = l.length := by simp [ByteArray.size]
theorem xor_size (a b : List UInt8) (n : Nat) : (ByteArray.mk (xorL a b n).toArray).size = n := by rw [bsz, xorL_len]
theorem cnt_len (n : Nat) : (cntL n).length = 8 := by simp [cntL]
theorem cnt_all (n : Nat) : ((List.range 8).map fun j => if j < 8 then cntF n j else 0) = cntL n := List.map_congr_left fun j hj => if_pos (List.mem_range.1 hj)
theorem strP_of (f : Nat → UInt8) : (⟨((List.range 16).map f).toArray⟩ : ByteArray) = strP (ofP f) := by
  unfold strP
  rw [List.map_congr_left fun j hj => (nb_of f j (List.mem_range.1 hj)).symm]
theorem strP_zero : (⟨((List.range 16).map fun _ => (0 : UInt8)).toArray⟩ : ByteArray) = strP (0, 0) := by kernel_rfl
theorem str_cut (s : ByteArray) (a i : Nat) (h : i < 16) (hs : a + 16 ≤ s.size) : (s.extract a (a + 16)).data.toList.getD i 0 = s.data.toList.getD (a + i) 0 := by
  rw [ByteArray.data_extract, Array.toList_extract, List.extract_eq_take_drop]
  simp only [List.getD, List.getElem?_take, List.getElem?_drop]
  rw [if_pos (by omega)]
theorem cut_size (s : ByteArray) (a : Nat) (hs : a + 16 ≤ s.size) : (s.extract a (a + 16)).size = 16 := by
  rw [ByteArray.size_extract]; omega
theorem whole_calls (s : ByteArray) (hs : s.size ≤ 1000000000) (w : World) : Ret Tryd.prog 58 #[.string s] w fun v w' => v = .string ⟨(wholeL s.data.toList).toArray⟩ ∧ Chg [] w w' := by
 refine Ret.enter Tryd.func58 rfl ?_
 simp only [Tryd.ntmps58, fe, Nat.reduceAdd, Nat.reduceSub]
 have hH := Hp.start [] w
 refine wp_seq_k ?_
 intro K1 hK1
 refine wrt [.p 0] ?_
 refine pa ?_;simp only [nf]
 refine plan_nil hH ?_
 clear hH
 intro w2 hH
 refine hK1 _ _ ?_
 (try clear hK1 K1)
 refine wp_seq_k ?_
 intro K3 hK3
 refine wp_block ?_
 refine wp_loopT [0] [3, 4, 5, 6, 7, 8] (fun (n4 : Nat) (vs : List Value) (w' : World) => ∃ (k : Nat) (sv : ByteArray), vs = [.string sv] ∧ Hp [] w w' [] ∧ n4 = (16 - s.size % 16) % 16 - k ∧ k ≤ (16 - s.size % 16) % 16 ∧ sv.size = s.size + k ∧ sv.data.toList = s.data.toList ++ List.replicate k 0) ((16 - s.size % 16) % 16 - 0) (by kernel_rfl) ?_ ?_
 ·
  simp only [ga]
  refine ⟨0, s, rfl, ?_, rfl, ?_, ?_, ?_⟩
  ·
   exact hH
  · first | omega | (omega)
  · first | omega | (omega)
  · first | omega | (simp)
 clear hH
 intro n4 vs5 w6 hR7 d0
 obtain ⟨k, sv, rfl, hH, hn8, hf9, hf10, hsv⟩ := hR7
 simp only [putAll, putD, List.set_cons_zero, List.set_cons_succ, Nat.zero_add, Nat.reduceAdd]
 refine wp_seq_k ?_
 intro K11 hK11
 refine wp_seq_k ?_
 intro K12 hK12
 refine wrt [.p 0, .p 1, .p 2, .p 3] ?_
 refine pm ?_;simp only [nf]
 refine pp rfl rfl (pr_len_str rfl Tryd.underlying9) ?_;simp only [nf]
 refine pp rfl rfl (pr_bin rfl rfl (by first | exact bin_rem_n (n := 16) (by first | omega | (show sv.size + 1 < _; omega)))) ?_;simp only [nf]
 refine pp rfl rfl (pr_bin rfl rfl (by first | exact bin_neq_n (n := 0)  | exact bin_neq_i)) ?_;simp only [nf]
 refine plan_nil hH ?_
 clear hH
 intro w13 hH
 refine hK12 _ _ ?_
 (try clear hK12 K12)
 refine wp_cond_split rfl (fun hc14 => ?_) (fun hc14 => ?_)
 ·
  (try simp only [cnd] at hc14)
  refine wp_skip ?_
  refine hK11 _ _ ?_
  (try clear hK11 K11)
  refine wp_block ?_
  refine wrt [.p 0, .p 1, .p 2] ?_
  refine pm ?_;simp only [nf]
  refine pp rfl rfl (pr_bin rfl rfl (bin_add_s (by first | omega | (show sv.size + 1 < _; omega)))) ?_;simp only [nf]
  refine pa ?_;simp only [nf]
  refine plan_nil hH ?_
  clear hH
  intro w15 hH
  (try simp only [Exit.then, Exit.inBlock, ↓reduceIte, Nat.reduceEqDiff])
  refine ⟨(16 - s.size % 16) % 16 - (k + 1), ?_, _, rfl, by kernel_rfl, ?_⟩
  · first | omega | (omega)
  simp only [ga]
  refine ⟨k + 1, _, rfl, ?_, rfl, ?_, ?_, ?_⟩
  ·
   exact hH
  · first | omega | (omega)
  · first | omega | (rw [ByteArray.size_append]; show sv.size + 1 = _; omega)
  · first | omega | (rw [str_app, hsv, List.append_assoc, ← List.replicate_succ'])
 ·
  (try simp only [cnd] at hc14)
  refine wp_exit ?_
  (try simp only [Exit.then, Exit.inBlock, ↓reduceIte, Nat.reduceEqDiff])
  refine hK3 _ _ ?_
  (try clear hK3 K3)
  refine wp_seq_k ?_
  intro K16 hK16
  refine wrt [.p 0, .p 1] ?_
  refine pm (pa ?_);simp only [nf]
  refine plan_nil hH ?_
  clear hH
  intro w17 hH
  refine hK16 _ _ ?_
  (try clear hK16 K16)
  refine wp_ret ?_
  (try simp only [Exit.then, Exit.inBlock, ↓reduceIte, Nat.reduceEqDiff])
  refine BP.ret1 rfl rfl ?_
  obtain rfl : k = (16 - s.size % 16) % 16 := by omega
  exact ⟨congrArg Value.string (str_of hsv), hH.chg⟩
theorem count4_calls (s : ByteArray) (hs : s.size ≤ 1000000000) (w : World) : Ret Tryd.prog 59 #[.string s] w fun v w' => v = .string ⟨(cntL s.size).toArray⟩ ∧ Chg [] w w' := by
 refine Ret.enter Tryd.func59 rfl ?_
 simp only [Tryd.ntmps59, fe, Nat.reduceAdd, Nat.reduceSub]
 have hH := Hp.start [] w
 refine wp_seq_k ?_
 intro K1 hK1
 refine wrt [.p 0] ?_
 refine pa ?_;simp only [nf]
 refine plan_nil hH ?_
 clear hH
 intro w2 hH
 refine hK1 _ _ ?_
 (try clear hK1 K1)
 refine wp_seq_k ?_
 intro K3 hK3
 refine wrt [.p 0, .p 1, .p 2, .p 3] ?_
 refine pm ?_;simp only [nf]
 refine pp rfl rfl (pr_len_str rfl Tryd.underlying9) ?_;simp only [nf]
 refine pp rfl rfl (pr_bin rfl rfl (by first | exact bin_mul_n (m := 8) (by first | omega | (simp <;> omega)) | exact bin_mul_i (by first | omega | (simp <;> omega)) (by first | omega | (simp <;> omega)))) ?_;simp only [nf]
 refine pa ?_;simp only [nf]
 refine plan_nil hH ?_
 clear hH
 intro w4 hH
 refine hK3 _ _ ?_
 (try clear hK3 K3)
 refine wp_seq_k ?_
 intro K5 hK5
 refine wrt [.x 0, .p 1] ?_
 refine plan_make (n := 8) (c := 8) rfl rfl hH rfl rfl Tryd.underlying22 sz5 bz5 ze5 rfl (by first | omega | (simp <;> omega)) (by first | omega | (simp <;> omega)) (by first | omega | (simp <;> omega)) ?_
 clear hH
 intro b6 w7 hH
 (try simp only [nf] at hH ⊢)
 rw [made_arr8] at hH
 (try simp only [nf, nh, Value.cells, arrB_set] at hH ⊢)
 refine pa ?_;simp only [nf]
 refine plan_nil hH ?_
 clear hH
 intro w8 hH
 refine hK5 _ _ ?_
 (try clear hK5 K5)
 refine wp_seq_k ?_
 intro K9 hK9
 refine wp_seq_k ?_
 intro K10 hK10
 refine wrt [.p 0] ?_
 refine pka 0 ?_;simp only [nf]
 refine plan_nil hH ?_
 clear hH
 intro w11 hH
 refine hK10 _ _ ?_
 (try clear hK10 K10)
 refine wp_block ?_
 refine wp_loopT [5] [10, 11, 12, 13, 14, 15, 16, 17, 18, 19, 20, 21, 22] (fun (n12 : Nat) (vs : List Value) (w' : World) => ∃ (i : Nat) (cs : Array Value), vs = [I64 (i : Nat)] ∧ Hp [] w w' [(some b6, 5, cs)] ∧ n12 = 8 - i ∧ i ≤ 8 ∧ OwnC (some b6) 8 8 1 cs (((List.range 8).map fun j => if j < i then cntF s.size j else 0).map V8)) (8 - 0) (by kernel_rfl) ?_ ?_
 ·
  simp only [ga]
  refine ⟨0, arr8 8 fun _ => 0, rfl, ?_, rfl, ?_, ?_⟩
  ·
   exact hH
  · first | omega | (omega)
  · first | omega | (exact own_init)
 clear hH
 intro n12 vs13 w14 hR15 d0
 obtain ⟨i, cs, rfl, hH, hn16, hf17, hO⟩ := hR15
 simp only [putAll, putD, List.set_cons_zero, List.set_cons_succ, Nat.zero_add, Nat.reduceAdd]
 refine wp_seq_k ?_
 intro K18 hK18
 refine wp_seq_k ?_
 intro K19 hK19
 refine wrt [.p 0, .p 1] ?_
 refine pm ?_;simp only [nf]
 refine pp rfl rfl (pr_bin rfl rfl (by first | exact bin_lss_n (n := 8)  | exact bin_lss_i)) ?_;simp only [nf]
 refine plan_nil hH ?_
 clear hH
 intro w20 hH
 refine hK19 _ _ ?_
 (try clear hK19 K19)
 refine wp_cond_split rfl (fun hc21 => ?_) (fun hc21 => ?_)
 ·
  (try simp only [cnd] at hc21)
  refine wp_skip ?_
  refine hK18 _ _ ?_
  (try clear hK18 K18)
  refine wp_seq_k ?_
  intro K22 hK22
  refine wp_block ?_
  refine wrt [.p 0, .p 1, .p 2, .p 3, .p 4, .p 5, .p 6, .p 7, .p 8, .e 9] ?_
  refine pm (pm (pm (pm ?_)));simp only [nf]
  refine pp rfl rfl (pr_bin rfl rfl (by first | exact bin_mul_n (m := 8) (by first | omega | (simp <;> omega)) | exact bin_mul_i (by first | omega | (simp <;> omega)) (by first | omega | (simp <;> omega)))) ?_;simp only [nf]
  refine pp rfl rfl (pr_bin rfl rfl (by first | exact bin_sub_n (m := 56) (by first | omega | (simp <;> omega)) (by first | omega | (simp <;> omega)) | exact bin_sub_i (by first | omega | (simp <;> omega)) (by first | omega | (simp <;> omega)))) ?_;simp only [nf]
  refine pp rfl rfl (pr_bin rfl rfl (by first | exact bin_shr_n (by first | omega | (simp <;> omega)) | exact bin_shr_i (by first | omega | (simp <;> omega)))) ?_;simp only [nf]
  refine pp rfl rfl (pr_conv rfl (by first | exact cnv_n_u8 Tryd.underlying3 Tryd.underlying5 | exact cnv_i_u8 Tryd.underlying3 Tryd.underlying5)) ?_;simp only [nf]
  refine pp rfl rfl (pr_idx_Sl (OwnC.sl hH 0 rfl hO) rfl rfl Tryd.underlying22 sz5 (by first | omega | (simp <;> omega))) ?_;simp only [nf]
  refine plan_storeO 0 rfl rfl hH rfl rfl hO rfl sz5 (by first | omega | (simp <;> omega)) ?_
  clear hH
  intro cs24 w23 hO25 hH
  (try simp only [nf, nh, Value.cells, arrB_set] at hH ⊢)
  refine plan_nil hH ?_
  clear hH
  intro w26 hH
  refine hK22 _ _ ?_
  (try clear hK22 K22)
  refine wrt [.p 0, .p 1, .p 2] ?_
  refine pm ?_;simp only [nf]
  refine pp rfl rfl (pr_bin rfl rfl (by first | exact bin_add_n (n := 1) (by first | omega | (simp <;> omega)) | exact bin_add_i (by first | omega | (simp <;> omega)) (by first | omega | (simp <;> omega)))) ?_;simp only [nf]
  refine pa ?_;simp only [nf]
  refine plan_nil hH ?_
  clear hH
  intro w27 hH
  (try simp only [Exit.then, Exit.inBlock, ↓reduceIte, Nat.reduceEqDiff])
  refine ⟨8 - (i + 1), ?_, _, rfl, by kernel_rfl, ?_⟩
  · first | omega | (omega)
  simp only [ga]
  refine ⟨i + 1, cs24, rfl, ?_, rfl, ?_, ?_⟩
  ·
   exact hH
  · first | omega | (omega)
  · first | omega | (rw [← map_cut rfl]; exact hO25)
 ·
  (try simp only [cnd] at hc21)
  refine wp_exit ?_
  (try simp only [Exit.then, Exit.inBlock, ↓reduceIte, Nat.reduceEqDiff])
  refine hK9 _ _ ?_
  (try clear hK9 K9)
  refine wp_seq_k ?_
  intro K28 hK28
  refine wrt [.p 0, .q 1, .p 2] ?_
  refine pm ?_;simp only [nf]
  refine pq rfl rfl (qr_b2s (OwnC.sl hH 0 rfl hO) rfl Tryd.underlying22 Tryd.underlying5 Tryd.underlying9) ?_;simp only [nf]
  refine pa ?_;simp only [nf]
  refine plan_nil hH ?_
  clear hH
  intro w29 hH
  refine hK28 _ _ ?_
  (try clear hK28 K28)
  refine wp_ret ?_
  (try simp only [Exit.then, Exit.inBlock, ↓reduceIte, Nat.reduceEqDiff])
  refine BP.ret1 rfl rfl ?_
  obtain rfl : i = 8 := by omega
  rw [cnt_all]
  exact ⟨rfl, hH.chg⟩
theorem xor_calls (a b : ByteArray) (n : Nat) (ha : a.size = n) (hb : n ≤ b.size) (hn : n ≤ 1000000000) (w : World) : Ret Tryd.prog 56 #[.string a, .string b] w fun v w' => v = .string ⟨(xorL a.data.toList b.data.toList n).toArray⟩ ∧ Chg [] w w' := by
 refine Ret.enter Tryd.func56 rfl ?_
 simp only [Tryd.ntmps56, fe, Nat.reduceAdd, Nat.reduceSub]
 have hH := Hp.start [] w
 refine wp_seq_k ?_
 intro K1 hK1
 refine wrt [.p 0] ?_
 refine pa ?_;simp only [nf]
 refine plan_nil hH ?_
 clear hH
 intro w2 hH
 refine hK1 _ _ ?_
 (try clear hK1 K1)
 refine wp_seq_k ?_
 intro K3 hK3
 refine wrt [.p 0] ?_
 refine pa ?_;simp only [nf]
 refine plan_nil hH ?_
 clear hH
 intro w4 hH
 refine hK3 _ _ ?_
 (try clear hK3 K3)
 refine wp_seq_k ?_
 intro K5 hK5
 refine wp_seq_k ?_
 intro K6 hK6
 refine wrt [.p 0] ?_
 refine pka 0 ?_;simp only [nf]
 refine plan_nil hH ?_
 clear hH
 intro w7 hH
 refine hK6 _ _ ?_
 (try clear hK6 K6)
 refine wp_block ?_
 refine wp_loopT [5, 6] [7, 8, 9, 10, 11, 12, 13, 14, 15, 16, 17, 18, 19, 20, 21, 22] (fun (n8 : Nat) (vs : List Value) (w' : World) => ∃ (i : Nat) (o : Option Nat) (cap : Nat) (cs : Array Value), vs = [own o i cap, I64 (i : Nat)] ∧ Hp [] w w' [(o, 5, cs)] ∧ n8 = n - i ∧ i ≤ n ∧ OwnC o i cap 1 cs ((xorL a.data.toList b.data.toList i).map V8)) (n - 0) (by kernel_rfl) ?_ ?_
 ·
  simp only [ga]
  refine ⟨0, none, 0, #[], rfl, ?_, rfl, ?_, ?_⟩
  ·
   exact hH.nil _
  · first | omega | (omega)
  · first | omega | (exact OwnC.start 1)
 clear hH
 intro n8 vs9 w10 hR11 d0
 obtain ⟨i, o, cap, cs, rfl, hH, hn12, hf13, hO⟩ := hR11
 simp only [putAll, putD, List.set_cons_zero, List.set_cons_succ, Nat.zero_add, Nat.reduceAdd]
 refine wp_seq_k ?_
 intro K14 hK14
 refine wp_seq_k ?_
 intro K15 hK15
 refine wrt [.p 0, .p 1, .p 2, .p 3] ?_
 refine pm (pm ?_);simp only [nf]
 refine pp rfl rfl (pr_len_str rfl Tryd.underlying9) ?_;simp only [nf]
 refine pp rfl rfl (pr_bin rfl rfl (by first | exact bin_lss_n  | exact bin_lss_i)) ?_;simp only [nf]
 refine plan_nil hH ?_
 clear hH
 intro w16 hH
 refine hK15 _ _ ?_
 (try clear hK15 K15)
 refine wp_cond_split rfl (fun hc17 => ?_) (fun hc17 => ?_)
 ·
  (try simp only [cnd] at hc17)
  refine wp_skip ?_
  refine hK14 _ _ ?_
  (try clear hK14 K14)
  refine wp_seq_k ?_
  intro K18 hK18
  refine wp_block ?_
  refine wrp [.p 0, .p 1, .p 2, .p 3, .p 4, .p 5, .p 6, .p 7, .x 8, .e 9, .p 10] ?_
  refine pm (pm (pm ?_));simp only [nf]
  refine pp rfl rfl (pr_index_str rfl rfl Tryd.underlying9 (by omega)) ?_;simp only [nf]
  refine pm (pm ?_);simp only [nf]
  refine pp rfl rfl (pr_index_str rfl rfl Tryd.underlying9 (by omega)) ?_;simp only [nf]
  refine pp rfl rfl (pr_bin rfl rfl (bin_xor_u8 _ _)) ?_;simp only [nf]
  refine plan_buildSlice rfl rfl hH Tryd.underlying22 (by rfl) (bs1 _) ?_
  clear hH
  intro b19 w20 hH
  (try simp only [nf, nh, Value.cells, arrB_set] at hH ⊢)
  refine plan_append 0 rfl rfl hH rfl hO (fun w' hH => ((OwnC.sl hH 1 rfl (OwnC.of_bytes rfl))).src) rfl rfl Tryd.underlying22 Tryd.underlying22 (.inl ⟨_, rfl⟩) sz5 bz5 ze5 rfl (by first | omega | (simp <;> omega)) (by first | omega | (simp <;> omega)) ?_
  clear hH
  intro o21 cap22 cs23 w24 hO25 hH
  (try simp only [nf] at hH ⊢)
  (try simp only [nf, nh, Value.cells, arrB_set] at hH ⊢)
  try rw [← List.map_append] at hO25
  (try simp only [Nat.zero_add, List.nil_append, List.length_nil] at hO25 ⊢)
  refine pa ?_;simp only [nf]
  refine plan_nil hH ?_
  clear hH
  intro w26 hH
  refine hK18 _ _ ?_
  (try clear hK18 K18)
  refine wrt [.p 0, .p 1, .p 2] ?_
  refine pm ?_;simp only [nf]
  refine pp rfl rfl (pr_bin rfl rfl (by first | exact bin_add_n (n := 1) (by omega) | exact bin_add_i (by omega) (by omega))) ?_;simp only [nf]
  refine pa ?_;simp only [nf]
  refine plan_nil hH ?_
  clear hH
  intro w27 hH
  (try simp only [Exit.then, Exit.inBlock, ↓reduceIte, Nat.reduceEqDiff])
  refine ⟨n - (i + 1), ?_, _, rfl, by kernel_rfl, ?_⟩
  · first | omega | (omega)
  simp only [ga]
  refine ⟨i + 1, o21, cap22, cs23, rfl, ?_, rfl, ?_, ?_⟩
  ·
   exact hH.take 1
  · first | omega | (omega)
  · first | omega | (have hq := hO25; simp only [str_at] at hq; rw [xorL_succ]; exact hq)
 ·
  (try simp only [cnd] at hc17)
  refine wp_exit ?_
  (try simp only [Exit.then, Exit.inBlock, ↓reduceIte, Nat.reduceEqDiff])
  refine hK5 _ _ ?_
  (try clear hK5 K5)
  refine wp_seq_k ?_
  intro K28 hK28
  refine wrt [.p 0, .q 1, .p 2] ?_
  refine pm ?_;simp only [nf]
  refine pq rfl rfl (qr_b2s (OwnC.sl hH 0 rfl hO) rfl Tryd.underlying22 Tryd.underlying5 Tryd.underlying9) ?_;simp only [nf]
  refine pa ?_;simp only [nf]
  refine plan_nil hH ?_
  clear hH
  intro w29 hH
  refine hK28 _ _ ?_
  (try clear hK28 K28)
  refine wp_ret ?_
  (try simp only [Exit.then, Exit.inBlock, ↓reduceIte, Nat.reduceEqDiff])
  refine BP.ret1 rfl rfl ?_
  obtain rfl : i = n := by omega
  exact ⟨rfl, hH.chg⟩
theorem sum_calls (h s : ByteArray) (hp : P2) (n : Nat) (sl : List UInt8) (hh : h = strP hp) (hs : s.size = 16 * n) (hsl : s.data.toList = sl) (hn : n ≤ 1000000000) (w : World) : Ret Tryd.prog 57 #[.string h, .string s] w fun v w' => v = .string (strP (takeP hp (0, 0) sl n)) ∧ Chg [] w w' := by
 refine Ret.enter Tryd.func57 rfl ?_
 simp only [Tryd.ntmps57, fe, Nat.reduceAdd, Nat.reduceSub]
 have hH := Hp.start [] w
 refine wp_seq_k ?_
 intro K1 hK1
 refine wrt [.p 0] ?_
 refine pa ?_;simp only [nf]
 refine plan_nil hH ?_
 clear hH
 intro w2 hH
 refine hK1 _ _ ?_
 (try clear hK1 K1)
 refine wp_seq_k ?_
 intro K3 hK3
 refine wrt [.x 0, .q 1, .p 2] ?_
 refine plan_make (n := 16) (c := 16) rfl rfl hH rfl rfl Tryd.underlying22 sz5 bz5 ze5 rfl (by omega) (by omega) (by omega) ?_
 clear hH
 intro b4 w5 hH
 (try simp only [nf] at hH ⊢)
 rw [made_arr8] at hH
 (try simp only [nf, nh, Value.cells, arrB_set] at hH ⊢)
 refine pq rfl rfl (qr_b2s (OwnC.sl hH 0 rfl OwnC.made) rfl Tryd.underlying22 Tryd.underlying5 Tryd.underlying9) ?_;simp only [nf]
 refine pa ?_;simp only [nf]
 refine plan_nil hH ?_
 clear hH
 intro w6 hH
 refine hK3 _ _ ?_
 (try clear hK3 K3)
 refine wp_seq_k ?_
 intro K7 hK7
 refine wp_seq_k ?_
 intro K8 hK8
 refine wrt [.p 0] ?_
 refine pka 0 ?_;simp only [nf]
 refine plan_nil hH ?_
 clear hH
 intro w9 hH
 refine hK8 _ _ ?_
 (try clear hK8 K8)
 refine wp_block ?_
 obtain ⟨kc10, hkc11, hN⟩ := hH.name 0 rfl
 replace hH := hN; clear hN; simp only [List.set_cons_zero, List.set_cons_succ] at hH
 refine wp_loopT [5, 6] [9, 10, 11, 12, 13, 14, 15, 16, 17, 18, 19, 20, 21, 22, 23] (fun (n12 : Nat) (vs : List Value) (w' : World) => ∃ (k : Nat) (rs : ByteArray), vs = [.string rs, I64 ((16 * k : Nat))] ∧ Hp [] w w' [(some b4, 5, kc10)] ∧ n12 = n - k ∧ k ≤ n ∧ rs = strP (takeP hp (0, 0) sl k)) (n - 0) (by kernel_rfl) ?_ ?_
 ·
  simp only [ga]
  refine ⟨0, _, rfl, ?_, rfl, ?_, ?_⟩
  ·
   exact hH
  · first | omega | (omega)
  · first | omega | (exact strP_zero)
 clear hH
 intro n12 vs13 w14 hR15 d0
 obtain ⟨k, rs, rfl, hH, hn16, hf17, hr⟩ := hR15
 simp only [putAll, putD, List.set_cons_zero, List.set_cons_succ, Nat.zero_add, Nat.reduceAdd]
 have hr16 : rs.size = 16 := by rw [hr]; exact strP_size _
 subst hkc11
 refine wp_seq_k ?_
 intro K18 hK18
 refine wp_seq_k ?_
 intro K19 hK19
 refine wrt [.p 0, .p 1, .p 2, .p 3] ?_
 refine pm (pm ?_);simp only [nf]
 refine pp rfl rfl (pr_len_str rfl Tryd.underlying9) ?_;simp only [nf]
 refine pp rfl rfl (pr_bin rfl rfl (by first | exact bin_lss_n  | exact bin_lss_i)) ?_;simp only [nf]
 refine plan_nil hH ?_
 clear hH
 intro w20 hH
 refine hK19 _ _ ?_
 (try clear hK19 K19)
 refine wp_cond_split rfl (fun hc21 => ?_) (fun hc21 => ?_)
 ·
  (try simp only [cnd] at hc21)
  refine wp_skip ?_
  refine hK18 _ _ ?_
  (try clear hK18 K18)
  refine wp_seq_k ?_
  intro K22 hK22
  refine wp_block ?_
  refine wrt [.p 0, .p 1, .p 2, .p 3, .p 4, .p 5, .q 6, .p 7, .q 8, .p 9] ?_
  refine pm (pm (pm (pm ?_)));simp only [nf]
  refine pp rfl rfl (pr_bin rfl rfl (by first | exact bin_add_n (n := 16) (by omega) | exact bin_add_i (by omega) (by omega))) ?_;simp only [nf]
  refine pp rfl rfl (pr_slice_str_lh rfl rfl rfl Tryd.underlying9 (by omega) (by omega)) ?_;simp only [nf]
  refine pq rfl rfl (qr_call cf56 (fun w' hw => xor_calls _ _ 16 hr16 (by rw [cut_size _ _ (by omega)]; exact Nat.le_refl _) (by omega) w') rfl) ?_;simp only [nf]
  refine pm ?_;simp only [nf]
  refine pq rfl rfl (qr_call cf73 (fun w' hw => refTimes_calls _ _ (xor_size _ _ _) (by rw [hh]; exact strP_size _) w') rfl) ?_;simp only [nf]
  refine pa ?_;simp only [nf]
  refine plan_nil hH ?_
  clear hH
  intro w23 hH
  refine hK22 _ _ ?_
  (try clear hK22 K22)
  refine wrt [.p 0, .p 1, .p 2] ?_
  refine pm ?_;simp only [nf]
  refine pp rfl rfl (pr_bin rfl rfl (by first | exact bin_add_n (n := 16) (by omega) | exact bin_add_i (by omega) (by omega))) ?_;simp only [nf]
  refine pa ?_;simp only [nf]
  refine plan_nil hH ?_
  clear hH
  intro w24 hH
  (try simp only [Exit.then, Exit.inBlock, ↓reduceIte, Nat.reduceEqDiff])
  refine ⟨n - (k + 1), ?_, _, rfl, by kernel_rfl, ?_⟩
  · first | omega | (omega)
  simp only [ga]
  refine ⟨k + 1, _, rfl, ?_, rfl, ?_, ?_⟩
  ·
   exact hH
  · first | omega | (omega)
  · first | omega | (exact sum_step _ _ _ _ _ _ _ hr hh fun i hi => by rw [← hsl]; exact str_cut _ _ _ hi (by omega))
 ·
  (try simp only [cnd] at hc21)
  refine wp_exit ?_
  (try simp only [Exit.then, Exit.inBlock, ↓reduceIte, Nat.reduceEqDiff])
  refine hK7 _ _ ?_
  (try clear hK7 K7)
  refine wp_seq_k ?_
  intro K25 hK25
  refine wrt [.p 0, .p 1] ?_
  refine pm (pa ?_);simp only [nf]
  refine plan_nil hH ?_
  clear hH
  intro w26 hH
  refine hK25 _ _ ?_
  (try clear hK25 K25)
  refine wp_ret ?_
  (try simp only [Exit.then, Exit.inBlock, ↓reduceIte, Nat.reduceEqDiff])
  refine BP.ret1 rfl rfl ?_
  obtain rfl : k = n := by omega
  exact ⟨congrArg Value.string hr, hH.chg⟩
theorem gctr_at (n : ByteArray) (x : UInt8) (i : Nat) : (n ++ ⟨#[0, 0, 0, x]⟩ : ByteArray).data.toList.getD i 0 = gctr n.data.toList x i := by rw [str_app]; rfl
theorem app4_size (n : ByteArray) (x : UInt8) (h : n.size = 12) : (n ++ ⟨#[0, 0, 0, x]⟩ : ByteArray).size = 16 := by rw [ByteArray.size_append, h]; rfl
theorem refseal_calls (bk : Nat) (key : Nat → UInt8) (nn aa cc : ByteArray) (w : World) (hk : Blk w bk 103 (arr8 432 (keyF key))) (hn : nn.size = 12) (haa : aa.size ≤ 100000000) (hcc : cc.size ≤ 100000000) :
    Ret Tryd.prog 41 #[PT bk 0, .string nn, .string aa, .string cc] w fun v w' => v = .string ⟨(sealL (kexp key) (hP (kexp key)) nn.data.toList aa.data.toList cc.data.toList).toArray⟩ ∧ Chg [] w w' := by
 have hba : blocks aa.data.toList ≤ 10000000 := by unfold blocks; rw [str_len]; omega
 have hbc : blocks cc.data.toList ≤ 10000000 := by unfold blocks; rw [str_len]; omega
 have hsz : ((((⟨(wholeL aa.data.toList).toArray⟩ : ByteArray) ++ ⟨(wholeL cc.data.toList).toArray⟩) ++ ⟨(cntL aa.size).toArray⟩) ++ ⟨(cntL cc.size).toArray⟩).size = 16 * (blocks aa.data.toList + blocks cc.data.toList + 1) := by rw [ByteArray.size_append, ByteArray.size_append, ByteArray.size_append, bsz, bsz, bsz (cntL aa.size), bsz (cntL cc.size), whole_len, whole_len, cnt_len, cnt_len]; omega
 refine Ret.enter Tryd.func41 rfl ?_
 simp only [Tryd.ntmps41, fe, Nat.reduceAdd, Nat.reduceSub]
 have hH := Hp.start [] w
 refine wp_seq_k ?_
 intro K1 hK1
 refine wrt [.p 0] ?_
 refine pa ?_;simp only [nf]
 refine plan_nil hH ?_
 clear hH
 intro w2 hH
 refine hK1 _ _ ?_
 (try clear hK1 K1)
 refine wp_seq_k ?_
 intro K3 hK3
 refine wrt [.p 0, .x 1, .q 2, .q 3, .p 4] ?_
 refine pm ?_;simp only [nf]
 refine plan_make (n := 16) (c := 16) rfl rfl hH rfl rfl Tryd.underlying22 sz5 bz5 ze5 rfl (by first | omega | (first | (rw [hn]; show 12 + 4 < _; omega) | (simp only [ByteArray.size_append, bsz, whole_len, cnt_len] at *; omega))) (by first | omega | (first | (rw [hn]; show 12 + 4 < _; omega) | (simp only [ByteArray.size_append, bsz, whole_len, cnt_len] at *; omega))) (by first | omega | (first | (rw [hn]; show 12 + 4 < _; omega) | (simp only [ByteArray.size_append, bsz, whole_len, cnt_len] at *; omega))) ?_
 clear hH
 intro b4 w5 hH
 (try simp only [nf] at hH ⊢)
 rw [made_arr8] at hH
 (try simp only [nf, nh, Value.cells, arrB_set] at hH ⊢)
 refine pq rfl rfl (qr_b2s (OwnC.sl hH 0 rfl OwnC.made) rfl Tryd.underlying22 Tryd.underlying5 Tryd.underlying9) ?_;simp only [nf]
 refine pq rfl rfl (qr_call cf48 (fun w' hw => refblock_calls _ key _ (fun _ => 0) (fun i _ => zeros_getD 16 i) (by rw [bsz]; simp) w' (hw.nil_blk (hH.chg.nil_blk hk))) rfl) ?_;simp only [nf]
 refine pa ?_;simp only [nf]
 refine plan_nil hH ?_
 clear hH
 intro w6 hH
 refine hK3 _ _ ?_
 (try clear hK3 K3)
 refine wp_seq_k ?_
 intro K7 hK7
 refine wrt [.p 0, .p 1, .q 2, .p 3, .q 4, .p 5, .p 6, .q 7, .p 8, .p 9, .q 10, .p 11, .q 12, .p 13, .p 14, .p 15, .q 16, .q 17, .p 18] ?_
 refine pm (pm ?_);simp only [nf]
 refine pq rfl rfl (qr_call cf58 (fun w' hw => whole_calls _ (by omega) w') rfl) ?_;simp only [nf]
 refine pm ?_;simp only [nf]
 refine pq rfl rfl (qr_call cf58 (fun w' hw => whole_calls _ (by omega) w') rfl) ?_;simp only [nf]
 refine pp rfl rfl (pr_bin rfl rfl (bin_add_s (by first | omega | (first | (rw [hn]; show 12 + 4 < _; omega) | (simp only [ByteArray.size_append, bsz, whole_len, cnt_len] at *; omega))))) ?_;simp only [nf]
 refine pm ?_;simp only [nf]
 refine pq rfl rfl (qr_call cf59 (fun w' hw => count4_calls _ (by omega) w') rfl) ?_;simp only [nf]
 refine pp rfl rfl (pr_bin rfl rfl (bin_add_s (by first | omega | (first | (rw [hn]; show 12 + 4 < _; omega) | (simp only [ByteArray.size_append, bsz, whole_len, cnt_len] at *; omega))))) ?_;simp only [nf]
 refine pm ?_;simp only [nf]
 refine pq rfl rfl (qr_call cf59 (fun w' hw => count4_calls _ (by omega) w') rfl) ?_;simp only [nf]
 refine pp rfl rfl (pr_bin rfl rfl (bin_add_s (by first | omega | (first | (rw [hn]; show 12 + 4 < _; omega) | (simp only [ByteArray.size_append, bsz, whole_len, cnt_len] at *; omega))))) ?_;simp only [nf]
 refine pq rfl rfl (qr_call cf57 (fun w' hw => sum_calls _ _ (hP (kexp key)) (blocks aa.data.toList + blocks cc.data.toList + 1) _ (strP_of _) hsz (by rw [str_app, str_app, str_app]) (by omega) w') rfl) ?_;simp only [nf]
 refine pm (pm ?_);simp only [nf]
 refine pp rfl rfl (pr_bin rfl rfl (bin_add_s (by first | omega | (first | (rw [hn]; show 12 + 4 < _; omega) | (simp only [ByteArray.size_append, bsz, whole_len, cnt_len] at *; omega))))) ?_;simp only [nf]
 refine pq rfl rfl (qr_call cf48 (fun w' hw => refblock_calls _ key _ (gctr nn.data.toList 1) (fun i _ => gctr_at nn 1 i) (app4_size _ _ hn) w' (hw.nil_blk (hH.chg.nil_blk hk))) rfl) ?_;simp only [nf]
 refine pq rfl rfl (qr_call cf56 (fun w' hw => xor_calls _ _ 16 (strP_size _) (by rw [bsz]; simp) (by omega) w') rfl) ?_;simp only [nf]
 refine pa ?_;simp only [nf]
 refine plan_nil hH ?_
 clear hH
 intro w8 hH
 refine hK7 _ _ ?_
 (try clear hK7 K7)
 refine wp_ret ?_
 (try simp only [Exit.then, Exit.inBlock, ↓reduceIte, Nat.reduceEqDiff])
 refine BP.ret1 rfl rfl ?_
 refine ⟨congrArg Value.string (congrArg (fun l : List UInt8 => (⟨l.toArray⟩ : ByteArray)) ?_), hH.chg⟩
 have e := sum_is (hP (kexp key)) aa.data.toList cc.data.toList (by rw [str_len]; omega) (by rw [str_len]; omega)
 rw [str_len, str_len] at e
 rw [e]
 exact seal_is _ (fun i => aesR (kexp key) (gctr nn.data.toList 1) 10 i) _ _ _ _ ⟨((List.range 16).map fun i => aesR (kexp key) (gctr nn.data.toList 1) 10 i).toArray⟩ (fun i hi => cut16 (fun i => aesR (kexp key) (gctr nn.data.toList 1) 10 i) hi) (fun i hi => ks_head _ _ i hi)
theorem refSeal_calls (key nn aa b : ByteArray) (w : World) (hk : key.data.toList.length = 16) (hn : nn.size = 12) (haa : aa.size ≤ 100000000) (hb : b.size ≤ 100000000) : Ret Tryd.prog 21 #[.string key, .string nn, .string aa, .string b] w fun v w' => v = .tuple #[.string ⟨(sealedL (kexp (fun i => key.data.toList.getD i 0)) (hP (kexp (fun i => key.data.toList.getD i 0))) nn.data.toList aa.data.toList b.data.toList).toArray⟩, I64 (0 : Nat)] ∧ Chg [] w w' := by
 refine Ret.enter Tryd.func21 rfl ?_
 simp only [Tryd.ntmps21, fe, Nat.reduceAdd, Nat.reduceSub]
 have hH := Hp.start [] w
 refine wp_seq_k ?_
 intro K1 hK1
 refine wrt [.p 0, .p 1] ?_
 refine pa (pka 0 ?_);simp only [nf]
 refine plan_nil hH ?_
 clear hH
 intro w2 hH
 refine hK1 _ _ ?_
 (try clear hK1 K1)
 refine wp_seq_k ?_
 intro K3 hK3
 refine wp_seq_k ?_
 intro K4 hK4
 refine wrt [.p 0, .p 1, .p 2] ?_
 refine pm ?_;simp only [nf]
 refine pp rfl rfl (pr_len_str rfl Tryd.underlying9) ?_;simp only [nf]
 refine pp rfl rfl (pr_bin rfl rfl (by first | exact bin_neq_n (n := 12)  | exact bin_neq_i)) ?_;simp only [nf]
 refine plan_nil hH ?_
 clear hH
 intro w5 hH
 refine hK4 _ _ ?_
 (try clear hK4 K4)
 refine wp_cond_false (by show BV _ = _; rw [hn]; rfl) ?_
 refine wp_skip ?_
 refine hK3 _ _ ?_
 (try clear hK3 K3)
 refine wp_seq_k ?_
 intro K6 hK6
 refine wrt [.p 0, .x 1, .p 2] ?_
 refine pm ?_;simp only [nf]
 refine plan_callx rfl rfl hH cf39 (fun w' hH => ready_calls _ (fun i => key.data.toList.getD i 0) rfl w' hk) rfl (fun _ _ _ h => h.choose_spec.2.1) ?_
 clear hH
 intro w7 v8 w9 hH hp10
 obtain ⟨b11, rfl, hg, hfr, hbk⟩ := hp10
 replace hH := hH.callnew hg hbk hfr
 clear hg hfr hbk
 (try simp only [nf, nh, Value.cells, arrB_set] at hH ⊢)
 (try simp only [nf])
 refine pa ?_;simp only [nf]
 refine plan_nil hH ?_
 clear hH
 intro w12 hH
 refine hK6 _ _ ?_
 (try clear hK6 K6)
 refine wp_seq_k ?_
 intro K13 hK13
 refine wrt [.p 0, .p 1, .p 2, .p 3, .q 4, .p 5] ?_
 refine pm (pm ?_);simp only [nf]
 refine pp rfl rfl (pr_bin rfl rfl (bin_add_s (by first | omega | (first | (rw [hn]; show 12 + 4 < _; omega) | (rw [bsz (strm _ _ _ _ _), bsz (sealL _ _ _ _ _), strm_len, sealL_len]; omega))))) ?_;simp only [nf]
 refine pm ?_;simp only [nf]
 refine pq rfl rfl (qr_call cf40 (fun w' hw => refstream_calls _ (fun i => key.data.toList.getD i 0) (gctr nn.data.toList 2) _ 0 _ w' (hw.nil_blk (hH.blk 0 rfl)) (app4_size _ _ hn) (fun i _ => gctr_at nn 2 i) (by omega) (by omega)) rfl) ?_;simp only [nf]
 refine pa ?_;simp only [nf]
 refine plan_nil hH ?_
 clear hH
 intro w14 hH
 refine hK13 _ _ ?_
 (try clear hK13 K13)
 refine wp_seq_k ?_
 intro K15 hK15
 refine wrt [.p 0, .p 1, .p 2, .p 3, .p 4, .q 5, .p 6, .p 7, .p 8] ?_
 refine pm (pm (pm (pm (pm ?_))));simp only [nf]
 refine pq rfl rfl (qr_call cf41 (fun w' hw => refseal_calls _ (fun i => key.data.toList.getD i 0) _ _ _ w' (hw.nil_blk (hH.blk 0 rfl)) hn haa (by rw [bsz, strm_len]; omega)) rfl) ?_;simp only [nf]
 refine pp rfl rfl (pr_bin rfl rfl (bin_add_s (by first | omega | (first | (rw [hn]; show 12 + 4 < _; omega) | (rw [bsz (strm _ _ _ _ _), bsz (sealL _ _ _ _ _), strm_len, sealL_len]; omega))))) ?_;simp only [nf]
 refine pa (pka 0 ?_);simp only [nf]
 refine plan_nil hH ?_
 clear hH
 intro w16 hH
 refine hK15 _ _ ?_
 (try clear hK15 K15)
 refine wp_ret ?_
 (try simp only [Exit.then, Exit.inBlock, ↓reduceIte, Nat.reduceEqDiff])
 refine BP.ret2 rfl rfl rfl ?_
 exact ⟨by unfold sealedL hidL; rw [str_len]; exact congrArg (fun x : ByteArray => Value.tuple #[.string x, I64 (0 : Nat)]) (str_of (str_app _ _)), hH.chg⟩
theorem cut_drop (b : ByteArray) (n : Nat) : (b.extract n b.size).data.toList = b.data.toList.drop n := by
  rw [ByteArray.data_extract, Array.toList_extract, List.extract_eq_take_drop, List.take_of_length_le]
  rw [List.length_drop, str_len]; exact Nat.le_refl _
end Go.Proofs.YtmoaddicejohgaaDoor
set_option linter.unusedSimpArgs false
set_option linter.unusedVariables false
set_option maxRecDepth 100000
set_option maxHeartbeats 4000000
namespace Go.Proofs.YtmoaddicejohgaaDoor
open Go
open List (getD_cons_zero getD_cons_succ set_cons_zero set_cons_succ)
theorem mulP_zero (h : P2) : mulP (0, 0) h = (0, 0) := pw_inj (by rw [pw_mul, pw_zero, gm_zero_l])
theorem sealedL_len (K : Nat → UInt8) (h : P2) (nl al bl : List UInt8) : (sealedL K h nl al bl).length = bl.length + 16 := by
  unfold sealedL; rw [List.length_append, hidL_len, sealL_len]
theorem mulP_comm (a b : P2) : mulP a b = mulP b a := pw_inj (by rw [pw_mul, pw_mul, gm_comm (pw_lt a) (pw_lt b)])
end Go.Proofs.YtmoaddicejohgaaDoor
