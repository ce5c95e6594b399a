import PyProof.Rows.All
import Wide.All
import OpenK.AllK
import Wide.FinOn
import PyProof.EqAt
import PyProof.EqKinds
import PyProof.TupleCall
import HandS.ForMost
import HandS.Exc
import HandS.TryOnly
import HandS.TryMany
import HandS.ExcOwn
import HandS.ExcIs
import HandS.WordsExc
import HandS.IsInst
import HandS.Wide
import HandS.Style
import HandS.Zip
import HandS.Evl
import PySem.Challenge.RW_restrow_k01_turned
set_option Elab.async false
set_option linter.all false
set_option maxRecDepth 100000
set_option maxHeartbeats 4000000
set_option exponentiation.threshold 400
namespace Rw
/-! ## The mathematics: bases, rows, figures. No program here. -/

/-- two numbers without a common divisor above 1 -/
abbrev Cop (a b : Int) : Prop := Int.gcd a b = 1
theorem Cop.symm {a b : Int} (h : Cop a b) : Cop b a := by
  show Int.gcd b a = 1
  rw [Int.gcd_comm]
  exact h
theorem Cop.mul_right {a b c : Int} (h1 : Cop a b) (h2 : Cop a c) : Cop a (b * c) := by
  show Int.gcd a (b * c) = 1
  rw [Int.gcd_mul_right_right_of_gcd_eq_one h1]
  exact h2
theorem Cop.one_right (a : Int) : Cop a 1 := by
  show Int.gcd a 1 = 1
  simp
theorem Cop.mul_dvd {a b x : Int} (h : Cop a b) (ha : a ∣ x) (hb : b ∣ x) : a * b ∣ x := by
  have h' : Nat.Coprime a.natAbs b.natAbs := h
  have := Nat.Coprime.mul_dvd_of_dvd_of_dvd h' (Int.natAbs_dvd_natAbs.mpr ha) (Int.natAbs_dvd_natAbs.mpr hb)
  rw [← Int.natAbs_mul] at this
  exact Int.natAbs_dvd_natAbs.mp this
theorem Cop.dvd_left {a b c : Int} (h : Cop a b) (hd : c ∣ a) : Cop c b := by
  have h' : Nat.Coprime a.natAbs b.natAbs := h
  exact Nat.Coprime.coprime_dvd_left (Int.natAbs_dvd_natAbs.mpr hd) h'

/-! ### products -/
def prod : List Int → Int
  | [] => 1
  | b :: bs => b * prod bs
theorem prod_append : ∀ (l m : List Int), prod (l ++ m) = prod l * prod m
  | [], m => by simp [prod]
  | a :: l, m => by
    show a * prod (l ++ m) = a * prod l * prod m
    rw [prod_append l m, Int.mul_assoc]
theorem prod_pos : ∀ {l : List Int}, (∀ b ∈ l, 0 < b) → 0 < prod l
  | [], _ => by decide
  | a :: l, h => by
    show 0 < a * prod l
    exact Int.mul_pos (h a List.mem_cons_self) (prod_pos fun b hb => h b (List.mem_cons_of_mem _ hb))
theorem dvd_prod : ∀ {l : List Int} {b : Int}, b ∈ l → b ∣ prod l
  | a :: l, b, h => by
    show b ∣ a * prod l
    rcases List.mem_cons.mp h with h | h
    · rw [h]; exact Int.dvd_mul_right _ _
    · exact Int.dvd_trans (dvd_prod h) (Int.dvd_mul_left _ _)
theorem cop_prod : ∀ {l : List Int} {a : Int}, (∀ b ∈ l, Cop a b) → Cop a (prod l)
  | [], a, _ => Cop.one_right a
  | b :: l, a, h => Cop.mul_right (h b List.mem_cons_self) (cop_prod fun c hc => h c (List.mem_cons_of_mem _ hc))
theorem prod_take_succ {bs : List Int} {k : Nat} {b : Int} (h : bs[k]? = some b) : prod (bs.take (k + 1)) = prod (bs.take k) * b := by
  obtain ⟨hk, e⟩ := List.getElem?_eq_some_iff.mp h
  rw [List.take_succ_eq_append_getElem hk, prod_append, e]
  simp [prod]

/-! ### the chinese remainders -/
abbrev PC (bs : List Int) : Prop := bs.Pairwise Cop
abbrev Pos (bs : List Int) : Prop := ∀ b ∈ bs, 0 < b
/-- x has the rests rs over bs -/
def Has (bs : List Int) (rs : List Int) (x : Int) : Prop := ∀ (k : Nat) (b r : Int), bs[k]? = some b → rs[k]? = some r → x % b = r % b
/-- same rests -/
def Like (bs : List Int) (x y : Int) : Prop := ∀ b ∈ bs, x % b = y % b
theorem mod_eq_iff {x y b : Int} : x % b = y % b ↔ b ∣ x - y := by
  rw [Int.emod_eq_emod_iff_emod_sub_eq_zero, ← Int.dvd_iff_emod_eq_zero]
theorem like_dvd : ∀ {bs : List Int} {x y : Int}, PC bs → Like bs x y → prod bs ∣ x - y
  | [], x, y, _, _ => Int.one_dvd _
  | b :: bs, x, y, pc, h => by
    obtain ⟨h1, h2⟩ := List.pairwise_cons.mp pc
    exact Cop.mul_dvd (cop_prod h1) (mod_eq_iff.mp (h b List.mem_cons_self)) (like_dvd h2 fun c hc => h c (List.mem_cons_of_mem _ hc))
theorem eq_of_dvd {x y m p : Int} (hd : p ∣ x - y) (hm : m ≤ p) (x0 : 0 ≤ x) (x1 : x < m) (y0 : 0 ≤ y) (y1 : y < m) : x = y := by
  have h := mod_eq_iff.mpr hd
  rwa [Int.emod_eq_of_lt x0 (by omega), Int.emod_eq_of_lt y0 (by omega)] at h
theorem like_eq {bs : List Int} {x y m : Int} (pc : PC bs) (h : Like bs x y) (hm : m ≤ prod bs) (x0 : 0 ≤ x) (x1 : x < m) (y0 : 0 ≤ y) (y1 : y < m) : x = y :=
  eq_of_dvd (like_dvd pc h) hm x0 x1 y0 y1
theorem has_like {bs rs : List Int} {x y : Int} (hl : bs.length ≤ rs.length) (hx : Has bs rs x) (hy : Has bs rs y) : Like bs x y := fun b hb => by
  obtain ⟨k, hk⟩ := List.mem_iff_getElem?.mp hb
  have hk' := (List.getElem?_eq_some_iff.mp hk).1
  have hr : rs[k]? = some (rs[k]'(by omega)) := List.getElem?_eq_getElem (by omega)
  rw [hx k b _ hk hr, hy k b _ hk hr]
theorem Like.symm {bs : List Int} {x y : Int} (h : Like bs x y) : Like bs y x := fun b hb => (h b hb).symm
theorem Like.trans {bs : List Int} {x y z : Int} (h : Like bs x y) (h' : Like bs y z) : Like bs x z := fun b hb => (h b hb).trans (h' b hb)

/-! ### turning numbers -/
theorem bez (n m : Nat) : ∃ u v : Int, u * n + v * m = Nat.gcd n m := by
  induction n, m using Nat.gcd.induction with
  | H0 m => exact ⟨0, 1, by simp⟩
  | H1 n m hn ih =>
    obtain ⟨u, v, h⟩ := ih
    refine ⟨v - u * (m / n : Nat), u, ?_⟩
    rw [Nat.gcd_rec, ← h]
    have e : (m : Int) = n * (m / n : Nat) + (m % n : Nat) := by
      have := Nat.div_add_mod m n
      rw [← Int.natCast_mul, ← Int.natCast_add, this]
    generalize ((m / n : Nat) : Int) = q at *
    generalize ((m % n : Nat) : Int) = r at *
    rw [e]
    grind
theorem bezI {a b : Int} (h : Cop a b) : ∃ u v : Int, u * a + v * b = 1 := by
  obtain ⟨u, v, e⟩ := bez a.natAbs b.natAbs
  have e1 : Nat.gcd a.natAbs b.natAbs = 1 := h
  rw [e1] at e
  rcases Int.natAbs_eq a with ha | ha <;> rcases Int.natAbs_eq b with hb | hb
  · exact ⟨u, v, by rw [ha, hb]; exact e⟩
  · exact ⟨u, -v, by rw [ha, hb]; grind⟩
  · exact ⟨-u, v, by rw [ha, hb]; grind⟩
  · exact ⟨-u, -v, by rw [ha, hb]; grind⟩
theorem cop_of_bez {a b u v : Int} (h : u * a + v * b = 1) : Cop a b := by
  show Int.gcd a b = 1
  have h1 : ((Int.gcd a b : Nat) : Int) ∣ 1 := by
    rw [← h]
    exact Int.dvd_add (Int.dvd_mul_of_dvd_right (Int.gcd_dvd_left ..)) (Int.dvd_mul_of_dvd_right (Int.gcd_dvd_right ..))
  have := Int.eq_one_of_dvd_one (Int.natCast_nonneg _) h1
  omega
/-- t turns a over b -/
structure Turns (a b t : Int) : Prop where
  lo : 0 ≤ t
  hi : t < b
  eq : t * a % b = 1 % b
theorem turns_ex {a b : Int} (h : Cop a b) (hb : 0 < b) : ∃ t, Turns a b t := by
  obtain ⟨u, v, e⟩ := bezI h
  refine ⟨u % b, Int.emod_nonneg _ (by omega), Int.emod_lt_of_pos _ hb, ?_⟩
  rw [Int.mul_emod, Int.emod_emod, ← Int.mul_emod]
  have : u * a = 1 + b * (-v) := by grind
  rw [this, Int.add_mul_emod_self_left]
theorem Turns.uniq {a b t s : Int} (h : Turns a b t) (h' : Turns a b s) : t = s := by
  have e : t * a % b = s * a % b := h.eq.trans h'.eq.symm
  have e2 : t * a * t % b = s * a * t % b := by rw [Int.mul_emod, e, ← Int.mul_emod]
  have x1 : t * a * t % b = t % b := by rw [Int.mul_emod, h.eq, ← Int.mul_emod, Int.one_mul]
  have x2 : s * a * t % b = s % b := by
    have : s * a * t = s * (t * a) := by grind
    rw [this, Int.mul_emod, h.eq, ← Int.mul_emod, Int.mul_one]
  rw [x1, x2, Int.emod_eq_of_lt h.lo h.hi, Int.emod_eq_of_lt h'.lo h'.hi] at e2
  exact e2
/-- the step that both the chinese remainders and the figures make -/
theorem turn_step {a b t x r : Int} (h : t * a % b = 1 % b) : (x + a * ((r - x) * t % b)) % b = r % b := by
  have e : (a * ((r - x) * t % b)) % b = (r - x) % b := by
    rw [Int.mul_emod, Int.emod_emod, ← Int.mul_emod]
    have : a * ((r - x) * t) = (r - x) * (t * a) := by grind
    rw [this, Int.mul_emod, h, ← Int.mul_emod, Int.mul_one]
  rw [Int.add_emod, e, ← Int.add_emod]
  congr 1
  omega
theorem crt : ∀ {bs : List Int} (rs : List Int), PC bs → Pos bs → rs.length = bs.length → ∃ x, 0 ≤ x ∧ x < prod bs ∧ Has bs rs x
  | [], rs, _, _, _ => ⟨0, by decide, by decide, fun k b r h => by simp at h⟩
  | b :: bs, [], _, _, h => by simp at h
  | b :: bs, r :: rs, pc, ps, hl => by
    obtain ⟨h1, h2⟩ := List.pairwise_cons.mp pc
    have pos2 : Pos bs := fun c hc => ps c (List.mem_cons_of_mem _ hc)
    have hb : 0 < b := ps b List.mem_cons_self
    obtain ⟨x, x0, x1, hx⟩ := crt rs h2 pos2 (by simpa using hl)
    obtain ⟨t, ht⟩ := turns_ex (cop_prod h1).symm hb
    have pp := prod_pos pos2
    have s0 := Int.emod_nonneg ((r - x) * t) (show b ≠ 0 by omega)
    have s1 := Int.emod_lt_of_pos ((r - x) * t) hb
    refine ⟨x + prod bs * ((r - x) * t % b), ?_, ?_, ?_⟩
    · have := Int.mul_nonneg (Int.le_of_lt pp) s0
      omega
    · have : prod bs * ((r - x) * t % b) ≤ prod bs * (b - 1) := Int.mul_le_mul_of_nonneg_left (by omega) (Int.le_of_lt pp)
      show _ < b * prod bs
      have e : prod bs * (b - 1) = b * prod bs - prod bs := by grind
      omega
    · rintro (_ | k) c s hc hs
      · have e1 : b = c := by simpa using hc
        have e2 : r = s := by simpa using hs
        subst e1 e2
        exact turn_step ht.eq
      · have hc' : bs[k]? = some c := by simpa using hc
        have hs' : rs[k]? = some s := by simpa using hs
        rw [← hx k c s hc' hs']
        obtain ⟨q, hq⟩ := dvd_prod (List.mem_of_getElem? hc')
        rw [hq, Int.mul_assoc, Int.add_mul_emod_self_left]

/-! ### figures -/
def digits : List Int → Int → List Int
  | [], _ => []
  | b :: bs, x => x % b :: digits bs (x / b)
theorem digits_length : ∀ (bs : List Int) (x : Int), (digits bs x).length = bs.length
  | [], _ => rfl
  | b :: bs, x => by show (digits bs (x / b)).length + 1 = bs.length + 1; rw [digits_length bs]
theorem digits_get : ∀ {bs : List Int} {x : Int} {k : Nat} {b : Int}, Pos bs → bs[k]? = some b → (digits bs x)[k]? = some (x / prod (bs.take k) % b)
  | c :: bs, x, 0, b, _, h => by
    have e : c = b := by simpa using h
    subst e
    simp [digits, prod]
  | c :: bs, x, k + 1, b, ps, h => by
    have h' : bs[k]? = some b := by simpa using h
    have ih := digits_get (x := x / c) (fun d hd => ps d (List.mem_cons_of_mem _ hd)) h'
    have hc : 0 < c := ps c List.mem_cons_self
    show (digits bs (x / c))[k]? = some (x / (c * prod (bs.take k)) % b)
    rw [ih, Int.ediv_ediv_of_nonneg (Int.le_of_lt hc)]
theorem digits_range {bs : List Int} {x : Int} {k : Nat} {b d : Int} (ps : Pos bs) (hb : bs[k]? = some b) (hd : (digits bs x)[k]? = some d) : 0 ≤ d ∧ d < b := by
  rw [digits_get ps hb] at hd
  have e := Option.some.inj hd
  have hb' := ps b (List.mem_of_getElem? hb)
  exact ⟨by rw [← e]; exact Int.emod_nonneg _ (by omega), by rw [← e]; exact Int.emod_lt_of_pos _ hb'⟩
theorem digits_drop : ∀ {bs : List Int} (x : Int) (k : Nat), Pos bs → (digits bs x).drop k = digits (bs.drop k) (x / prod (bs.take k))
  | bs, x, 0, _ => by simp [prod]
  | [], x, k + 1, _ => rfl
  | c :: bs, x, k + 1, ps => by
    have hc : 0 < c := ps c List.mem_cons_self
    show (digits bs (x / c)).drop k = digits (bs.drop k) (x / (c * prod (bs.take k)))
    rw [digits_drop (x / c) k (fun d hd => ps d (List.mem_cons_of_mem _ hd)), Int.ediv_ediv_of_nonneg (Int.le_of_lt hc)]
theorem div_step {x p b : Int} (hp : 0 < p) : x / p = x / (p * b) * b + x / p % b := by
  rw [← Int.ediv_ediv_of_nonneg (Int.le_of_lt hp)]
  have := Int.emod_add_ediv_mul (x / p) b
  omega
theorem mod_div_mod {x p b m : Int} (hp : 0 < p) (hm : p * b ∣ m) : x % m / p % b = x / p % b := by
  obtain ⟨q, rfl⟩ := hm
  have e := Int.emod_add_mul_ediv x (p * b * q)
  conv => rhs; rw [← e]
  have : p * b * q * (x / (p * b * q)) = p * (b * (q * (x / (p * b * q)))) := by grind
  rw [this, Int.add_mul_ediv_left _ _ (by omega), Int.add_mul_emod_self_left]
theorem prod_take_dvd {bs : List Int} {i k : Nat} (h : i ≤ k) : prod (bs.take i) ∣ prod (bs.take k) := by
  have : bs.take k = bs.take i ++ (bs.take k).drop i := by
    have := List.take_append_drop i (bs.take k)
    rw [List.take_take, Nat.min_eq_left h] at this
    exact this.symm
  rw [this, prod_append]
  exact Int.dvd_mul_right _ _
theorem pos_take {bs : List Int} (ps : Pos bs) (k : Nat) : Pos (bs.take k) := fun b hb => ps b (List.mem_of_mem_take hb)
/-- Horner's step, as led does it -/
theorem horner {bs : List Int} {x : Int} {i k : Nat} {b m : Int} (ps : Pos bs) (hb : bs[i]? = some b) (hi : i < k) :
    (x % prod (bs.take k) / prod (bs.take (i + 1)) % m * b + x / prod (bs.take i) % b) % m = x % prod (bs.take k) / prod (bs.take i) % m := by
  have hp := prod_pos (pos_take ps i)
  have e := div_step (x := x % prod (bs.take k)) (b := b) hp
  have dv : prod (bs.take i) * b ∣ prod (bs.take k) := by
    rw [← prod_take_succ hb]
    exact prod_take_dvd hi
  rw [mod_div_mod hp dv, ← prod_take_succ hb] at e
  rw [Int.add_emod, Int.mul_emod, Int.emod_emod, ← Int.mul_emod, ← Int.add_emod, ← e]
theorem horner0 {bs : List Int} {x : Int} {k : Nat} {m : Int} (ps : Pos bs) : x % prod (bs.take k) / prod (bs.take k) % m = 0 := by
  have hp := prod_pos (pos_take ps k)
  rw [Int.ediv_eq_zero_of_lt (Int.emod_nonneg _ (by omega)) (Int.emod_lt_of_pos _ hp), Int.zero_emod]
theorem horner_top {bs : List Int} {x : Int} {k : Nat} {m : Int} : x % prod (bs.take k) / prod (bs.take 0) % m = x % prod (bs.take k) % m := by
  simp [prod]
/-- the figure that led appends -/
theorem fig_step {x p b t r : Int} (hp : 0 < p) (hb : 0 < b) (ht : t * p % b = 1 % b) (hr : x % b = r % b) : (r - x % p % b) * t % b = x / p % b := by
  have e := Int.emod_add_mul_ediv x p
  have e1 : (r - x % p % b) % b = (p * (x / p)) % b := by
    have : (r - x % p % b) % b = (x - x % p) % b := by
      rw [Int.sub_emod, ← hr, Int.emod_emod, ← Int.sub_emod]
    rw [this]
    congr 1
    omega
  rw [Int.mul_emod, e1, ← Int.mul_emod]
  have : p * (x / p) * t = x / p * (t * p) := by grind
  rw [this, Int.mul_emod, ht, ← Int.mul_emod, Int.mul_one]
/-- number's Horner -/
theorem numb_step {bs : List Int} {x : Int} {i : Nat} {b : Int} (ps : Pos bs) (hb : bs[i]? = some b) : x / prod (bs.take (i + 1)) * b + x / prod (bs.take i) % b = x / prod (bs.take i) := by
  have hp := prod_pos (pos_take ps i)
  rw [prod_take_succ hb]
  have := div_step (x := x) (b := b) hp
  omega
theorem sum_odd : ∀ {bs : List Int} {x : Int}, (∀ b ∈ bs, 0 < b ∧ b % 2 = 1) → 0 ≤ x → x < prod bs → (digits bs x).sum % 2 = x % 2
  | [], x, _, h0, h1 => by
    have : x = 0 := by have : prod [] = 1 := rfl; omega
    subst this
    rfl
  | b :: bs, x, h, h0, h1 => by
    obtain ⟨hb, ho⟩ := h b List.mem_cons_self
    have h1' : x < b * prod bs := h1
    have ih := sum_odd (bs := bs) (x := x / b) (fun c hc => h c (List.mem_cons_of_mem _ hc)) (Int.ediv_nonneg h0 (Int.le_of_lt hb)) (Int.ediv_lt_of_lt_mul hb (by rw [Int.mul_comm]; exact h1'))
    show (x % b :: digits bs (x / b)).sum % 2 = x % 2
    rw [List.sum_cons]
    have e := Int.emod_add_mul_ediv x b
    have e2 : (b * (x / b)) % 2 = x / b % 2 := by rw [Int.mul_emod, ho, Int.one_mul, Int.emod_emod]
    omega
theorem value_two {g1 g2 y : Int} (h1 : 0 < g1) (h2 : 0 < g2) (y0 : 0 ≤ y) (y1 : y < g1 * g2) : digits [g1, g2] y = [0, 0] ↔ y = 0 := by
  constructor
  · intro h
    have h' : [y % g1, y / g1 % g2] = [0, 0] := h
    have a1 : y % g1 = 0 := by simpa using congrArg (·.head?) h'
    have a2 : y / g1 % g2 = 0 := by
      have := List.cons.inj h'
      have := List.cons.inj this.2
      exact this.1
    have l : y / g1 < g2 := Int.ediv_lt_of_lt_mul h1 (by rw [Int.mul_comm]; exact y1)
    rw [Int.emod_eq_of_lt (Int.ediv_nonneg y0 (Int.le_of_lt h1)) l] at a2
    have e := Int.emod_add_mul_ediv y g1
    rw [a1, a2] at e
    omega
  · intro h
    subst h
    simp [digits]
end Rw

namespace Rw
/-! ## Bases as the board takes them -/
structure Good (bs : List Int) : Prop where
  len3 : 3 ≤ bs.length
  len14 : bs.length ≤ 14
  rng : ∀ b ∈ bs, 3 ≤ b ∧ b ≤ 999999
  odd : ∀ b ∈ bs, b % 2 = 1
  rise : bs.Pairwise (· < ·)
  cop : PC bs
theorem Good.pos {bs : List Int} (g : Good bs) : Pos bs := fun b hb => by have := (g.rng b hb).1; omega
def room (bs : List Int) : Int := prod (bs.take (bs.length - 2))
def rowOf (bs : List Int) (x : Int) : List Int := bs.map (fun b => x % b)
theorem rowOf_length (bs : List Int) (x : Int) : (rowOf bs x).length = bs.length := by simp [rowOf]
theorem rowOf_get {bs : List Int} {x : Int} {k : Nat} {b : Int} (h : bs[k]? = some b) : (rowOf bs x)[k]? = some (x % b) := by simp [rowOf, h]
theorem has_rowOf (bs : List Int) (x : Int) : Has bs (rowOf bs x) x := fun k b r hb hr => by
  rw [rowOf_get hb] at hr
  have e := Option.some.inj hr
  rw [← e, Int.emod_emod]
theorem rowOf_eq_iff {bs : List Int} {x y : Int} : rowOf bs x = rowOf bs y ↔ Like bs x y := by
  unfold rowOf Like
  constructor
  · intro h b hb
    obtain ⟨k, hk⟩ := List.mem_iff_getElem?.mp hb
    have := congrArg (fun l => l[k]?) h
    simp only [List.getElem?_map, hk, Option.map_some] at this
    exact Option.some.inj this
  · intro h
    exact List.map_congr_left h
/-- the two guards -/
theorem Good.guards {bs : List Int} (g : Good bs) : ∃ g1 g2, bs.drop (bs.length - 2) = [g1, g2] ∧ bs[bs.length - 2]? = some g1 ∧ bs[bs.length - 1]? = some g2 ∧ 3 ≤ g1 ∧ 3 ≤ g2 ∧ g1 ∈ bs ∧ g2 ∈ bs := by
  have h3 := g.len3
  have l1 : bs.length - 2 < bs.length := by omega
  have l2 : bs.length - 2 + 1 < bs.length := by omega
  refine ⟨bs[bs.length - 2], bs[bs.length - 1], ?_, by simp [l1], by simp, (g.rng _ (List.getElem_mem _)).1, (g.rng _ (List.getElem_mem _)).1, List.getElem_mem _, List.getElem_mem _⟩
  rw [List.drop_eq_getElem_cons l1, List.drop_eq_getElem_cons l2]
  have e : bs.length - 2 + 1 = bs.length - 1 := by omega
  have e2 : bs.length - 2 + 1 + 1 = bs.length := by omega
  simp only [e2, List.drop_length]
  congr 2
  simp only [e]
theorem Good.room_pos {bs : List Int} (g : Good bs) : 0 < room bs := prod_pos (pos_take g.pos _)
theorem Good.prod_eq {bs : List Int} (g : Good bs) : ∃ g1 g2, bs.drop (bs.length - 2) = [g1, g2] ∧ 3 ≤ g1 ∧ 3 ≤ g2 ∧ bs[bs.length - 2]? = some g1 ∧ bs[bs.length - 1]? = some g2 ∧ prod bs = room bs * (g1 * g2) := by
  obtain ⟨g1, g2, h, k1, k2, p1, p2, _, _⟩ := g.guards
  refine ⟨g1, g2, h, p1, p2, k1, k2, ?_⟩
  have := List.take_append_drop (bs.length - 2) bs
  conv => lhs; rw [← this, prod_append, h]
  simp [prod, room]
theorem Good.room9 {bs : List Int} (g : Good bs) : room bs * 9 ≤ prod bs := by
  obtain ⟨g1, g2, _, p1, p2, _, _, e⟩ := g.prod_eq
  rw [e]
  have hp := g.room_pos
  refine Int.mul_le_mul_of_nonneg_left ?_ (Int.le_of_lt hp)
  have : 3 * 3 ≤ g1 * g2 := Int.mul_le_mul p1 p2 (by decide) (by omega)
  omega
/-- a row tells a number just where the last two figures are 0 -/
theorem Good.tells {bs : List Int} (g : Good bs) {x : Int} (x0 : 0 ≤ x) (x1 : x < prod bs) : (digits bs x).drop (bs.length - 2) = [0, 0] ↔ x < room bs := by
  obtain ⟨g1, g2, h, p1, p2, _, _, e⟩ := g.prod_eq
  have hp := g.room_pos
  rw [digits_drop x _ g.pos, h]
  show digits [g1, g2] (x / room bs) = [0, 0] ↔ _
  rw [value_two (by omega) (by omega) (Int.ediv_nonneg x0 (Int.le_of_lt hp)) (Int.ediv_lt_of_lt_mul hp (by rw [Int.mul_comm, ← e]; exact x1))]
  constructor
  · intro h0
    have := Int.emod_add_mul_ediv x (room bs)
    have l := Int.emod_lt_of_pos x hp
    rw [h0] at this
    omega
  · intro h0
    exact Int.ediv_eq_zero_of_lt x0 h0
theorem Good.crt {bs : List Int} (g : Good bs) {rs : List Int} (h : rs.length = bs.length) : ∃ x, 0 ≤ x ∧ x < prod bs ∧ Has bs rs x := Rw.crt rs g.cop g.pos h

/-! ### one place left out -/
theorem prod_erase : ∀ {bs : List Int} {p : Nat} {b : Int}, bs[p]? = some b → prod (bs.eraseIdx p) * b = prod bs
  | c :: bs, 0, b, h => by
    have e : c = b := by simpa using h
    subst e
    show prod bs * c = c * prod bs
    exact Int.mul_comm _ _
  | c :: bs, p + 1, b, h => by
    have h' : bs[p]? = some b := by simpa using h
    show c * prod (bs.eraseIdx p) * b = c * prod bs
    rw [Int.mul_assoc, prod_erase h']
theorem pos_erase {bs : List Int} (ps : Pos bs) (p : Nat) : Pos (bs.eraseIdx p) := fun b hb => ps b (List.mem_of_mem_eraseIdx hb)
theorem pc_erase {bs : List Int} (h : PC bs) (p : Nat) : PC (bs.eraseIdx p) := List.Pairwise.sublist (List.eraseIdx_sublist ..) h
theorem rise_le {bs : List Int} (h : bs.Pairwise (· < ·)) {i j : Nat} {a b : Int} (hi : bs[i]? = some a) (hj : bs[j]? = some b) (hij : i ≤ j) : a ≤ b := by
  obtain ⟨li, ei⟩ := List.getElem?_eq_some_iff.mp hi
  obtain ⟨lj, ej⟩ := List.getElem?_eq_some_iff.mp hj
  rcases Nat.lt_or_eq_of_le hij with h1 | h1
  · have := List.pairwise_iff_getElem.mp h i j li lj h1
    omega
  · subst h1
    rw [hi] at hj
    have := Option.some.inj hj
    omega
theorem Good.room_erase {bs : List Int} (g : Good bs) (p : Nat) (hp : p < bs.length) : room bs * 3 ≤ prod (bs.eraseIdx p) := by
  obtain ⟨g1, g2, _, p1, p2, k1, k2, e⟩ := g.prod_eq
  have hb : bs[p]? = some bs[p] := List.getElem?_eq_getElem hp
  have e2 := prod_erase hb
  have b3 := (g.rng _ (List.getElem_mem hp)).1
  have le : bs[p] ≤ g2 := rise_le g.rise hb k2 (by omega)
  have pe := prod_pos (pos_erase g.pos p)
  have pr := g.room_pos
  have h1 : prod (bs.eraseIdx p) * bs[p] ≤ prod (bs.eraseIdx p) * g2 := Int.mul_le_mul_of_nonneg_left le (Int.le_of_lt pe)
  rw [e2, e, ← Int.mul_assoc] at h1
  have h2 : room bs * g1 ≤ prod (bs.eraseIdx p) := Int.le_of_mul_le_mul_right h1 (by omega)
  have h3 : room bs * 3 ≤ room bs * g1 := Int.mul_le_mul_of_nonneg_left p1 (Int.le_of_lt pr)
  omega
/-- two numbers of the room whose rests differ at two places at most are one -/
theorem Good.uniq2 {bs : List Int} (g : Good bs) {x y : Int} (x0 : 0 ≤ x) (x1 : x < room bs) (y0 : 0 ≤ y) (y1 : y < room bs) {p q : Nat} (hpq : p < q) (hq : q < bs.length)
    (h : ∀ (k : Nat) (b : Int), bs[k]? = some b → k ≠ p → k ≠ q → x % b = y % b) : x = y := by
  obtain ⟨g1, g2, _, p1, p2, k1, k2, e⟩ := g.prod_eq
  have hb : bs[q]? = some bs[q] := List.getElem?_eq_getElem hq
  have ha : bs[p]? = some (bs[p]'(by omega)) := List.getElem?_eq_getElem (by omega)
  have ha' : (bs.eraseIdx q)[p]? = some (bs[p]'(by omega)) := by rw [List.getElem?_eraseIdx_of_lt hpq]; exact ha
  have e1 := prod_erase hb
  have e2 := prod_erase ha'
  have la : bs[p]'(by omega) ≤ g1 := rise_le g.rise ha k1 (by omega)
  have lb : bs[q] ≤ g2 := rise_le g.rise hb k2 (by omega)
  have a3 := (g.rng _ (List.getElem_mem (show p < bs.length by omega))).1
  have b3 := (g.rng _ (List.getElem_mem hq)).1
  have pe := prod_pos (pos_erase (pos_erase g.pos q) p)
  have pr := g.room_pos
  generalize hC : prod ((bs.eraseIdx q).eraseIdx p) = C at *
  generalize hA : bs[p]'(by omega) = A at *
  generalize hB : bs[q] = B at *
  have hm : room bs ≤ C := by
    have h1 : C * (A * B) = room bs * (g1 * g2) := by rw [← Int.mul_assoc, e2, e1, e]
    have h2 : A * B ≤ g1 * g2 := Int.mul_le_mul la lb (by omega) (by omega)
    have h3 : 0 < A * B := Int.mul_pos (by omega) (by omega)
    have h4 : room bs * (A * B) ≤ room bs * (g1 * g2) := Int.mul_le_mul_of_nonneg_left h2 (Int.le_of_lt pr)
    rw [← h1] at h4
    exact Int.le_of_mul_le_mul_right h4 h3
  refine like_eq (bs := (bs.eraseIdx q).eraseIdx p) (pc_erase (pc_erase g.cop q) p) (fun b hb' => ?_) (by rw [hC]; exact hm) x0 x1 y0 y1
  obtain ⟨i, hi⟩ := List.mem_iff_getElem?.mp hb'
  rw [List.getElem?_eraseIdx, List.getElem?_eraseIdx, List.getElem?_eraseIdx] at hi
  split at hi <;> split at hi
  · exact h i b hi (by omega) (by omega)
  · exact h (i + 1) b hi (by omega) (by omega)
  · exact h (i + 1) b hi (by omega) (by omega)
  · exact h (i + 1 + 1) b hi (by omega) (by omega)
theorem Good.uniq1 {bs : List Int} (g : Good bs) {x y : Int} (x0 : 0 ≤ x) (x1 : x < room bs) (y0 : 0 ≤ y) (y1 : y < room bs) {p : Nat} (hp : p < bs.length)
    (h : ∀ (k : Nat) (b : Int), bs[k]? = some b → k ≠ p → x % b = y % b) : x = y := by
  have h3 := g.len3
  by_cases hq : p + 1 < bs.length
  · exact g.uniq2 x0 x1 y0 y1 (Nat.lt_succ_self p) hq fun k b hb h1 _ => h k b hb h1
  · exact g.uniq2 x0 x1 y0 y1 (p := p - 1) (q := p) (by omega) hp fun k b hb _ h1 => h k b hb h1
theorem Good.uniq0 {bs : List Int} (g : Good bs) {x y : Int} (x0 : 0 ≤ x) (x1 : x < room bs) (y0 : 0 ≤ y) (y1 : y < room bs) (h : Like bs x y) : x = y :=
  g.uniq1 x0 x1 y0 y1 (p := 0) (by have := g.len3; omega) fun _ b hb _ => h b (List.mem_of_getElem? hb)

/-- the least number that has the other rests -/
structure Others (bs rs : List Int) (p : Nat) (y : Int) : Prop where
  lo : 0 ≤ y
  hi : y < prod (bs.eraseIdx p)
  has : ∀ (k : Nat) (b r : Int), k ≠ p → bs[k]? = some b → rs[k]? = some r → y % b = r % b
theorem Good.others {bs : List Int} (g : Good bs) {rs : List Int} (h : rs.length = bs.length) (p : Nat) (hp : p < bs.length) : ∃ y, Others bs rs p y := by
  obtain ⟨y, y0, y1, hy⟩ := Rw.crt (bs := bs.eraseIdx p) (rs.eraseIdx p) (pc_erase g.cop p) (pos_erase g.pos p) (by simp [List.length_eraseIdx, h])
  refine ⟨y, y0, y1, fun k b r hk hb hr => ?_⟩
  by_cases hlt : k < p
  · exact hy k b r (by rw [List.getElem?_eraseIdx_of_lt hlt]; exact hb) (by rw [List.getElem?_eraseIdx_of_lt hlt]; exact hr)
  · obtain ⟨j, rfl⟩ : ∃ j, k = j + 1 := ⟨k - 1, by omega⟩
    exact hy j b r (by rw [List.getElem?_eraseIdx_of_ge (by omega)]; exact hb) (by rw [List.getElem?_eraseIdx_of_ge (by omega)]; exact hr)
/-- a number of the room with the other rests is it -/
theorem Others.is {bs rs : List Int} {p : Nat} {y m : Int} (o : Others bs rs p y) (g : Good bs) (hl : bs.length ≤ rs.length) (hp : p < bs.length) (m0 : 0 ≤ m) (m1 : m < room bs)
    (h : ∀ (k : Nat) (b r : Int), k ≠ p → bs[k]? = some b → rs[k]? = some r → m % b = r % b) : y = m := by
  have hr := g.room_erase p hp
  have pr := g.room_pos
  refine like_eq (pc_erase g.cop p) (fun b hb => ?_) (Int.le_refl _) o.lo o.hi m0 (by omega)
  obtain ⟨i, hi⟩ := List.mem_iff_getElem?.mp hb
  rw [List.getElem?_eraseIdx] at hi
  have key : ∀ k, k ≠ p → bs[k]? = some b → y % b = m % b := fun k hk hb' => by
    have := (List.getElem?_eq_some_iff.mp hb').1
    have hr' : rs[k]? = some (rs[k]'(by omega)) := List.getElem?_eq_getElem (by omega)
    rw [o.has k b _ hk hb' hr', h k b _ hk hb' hr']
  split at hi
  · exact key i (by omega) hi
  · exact key (i + 1) (by omega) hi
/-- with its own rest at the place it has all rests, and is the number of the whole row -/
theorem Others.whole {bs rs : List Int} {p : Nat} {y b : Int} (o : Others bs rs p y) (g : Good bs) (hb : bs[p]? = some b) : y < prod bs ∧ Has bs (rs.set p (y % b)) y := by
  have b3 := (g.rng _ (List.mem_of_getElem? hb)).1
  refine ⟨?_, fun k c r hc hr => ?_⟩
  · have e := prod_erase hb
    have : prod (bs.eraseIdx p) * 1 ≤ prod (bs.eraseIdx p) * b := Int.mul_le_mul_of_nonneg_left (by omega) (by have := o.lo; have := o.hi; omega)
    have := o.hi
    omega
  · by_cases hk : k = p
    · subst hk
      rw [hb] at hc
      have e := Option.some.inj hc
      subst e
      rw [List.getElem?_set] at hr
      simp only [if_true] at hr
      split at hr
      · rw [← Option.some.inj hr, Int.emod_emod]
      · cases hr
    · rw [List.getElem?_set_ne (fun e => hk e.symm)] at hr
      exact o.has k c r hk hc hr
theorem Good.two280 {bs : List Int} (g : Good bs) : ∀ (l : List Int), (∀ b ∈ l, 0 < b ∧ b ≤ 999999) → prod l ≤ 2 ^ (20 * l.length)
  | [], _ => by decide
  | b :: l, h => by
    have ih := g.two280 l fun c hc => h c (List.mem_cons_of_mem _ hc)
    obtain ⟨b0, b1⟩ := h b List.mem_cons_self
    have pp : 0 < prod l := prod_pos fun c hc => (h c (List.mem_cons_of_mem _ hc)).1
    show b * prod l ≤ 2 ^ (20 * (l.length + 1))
    have e : (2 : Int) ^ (20 * (l.length + 1)) = 2 ^ 20 * 2 ^ (20 * l.length) := by rw [← Int.pow_add]; congr 1; omega
    rw [e]
    refine Int.mul_le_mul ?_ ih (Int.le_of_lt pp) (by decide)
    have : (2 : Int) ^ 20 = 1048576 := by decide
    omega
theorem Good.prod_lt {bs : List Int} (g : Good bs) : prod bs < 2 ^ 300 := by
  have h := g.two280 bs fun b hb => ⟨g.pos b hb, (g.rng b hb).2⟩
  have h1 : (2 : Nat) ^ (20 * bs.length) ≤ 2 ^ 280 := Nat.pow_le_pow_right (by decide) (by have := g.len14; omega)
  have h2 : (2 : Nat) ^ 280 < 2 ^ 300 := Nat.pow_lt_pow_right (by decide) (by decide)
  have h3 : (2 : Int) ^ (20 * bs.length) < 2 ^ 300 := by exact_mod_cast Nat.lt_of_le_of_lt h1 h2
  exact Int.lt_of_le_of_lt h h3
theorem Good.room_lt {bs : List Int} (g : Good bs) : room bs < 2 ^ 300 := by
  have := g.prod_lt
  have := g.room9
  have := g.room_pos
  omega
end Rw

namespace Rw
/-! ## Euclid -/
theorem gcd_emod (a b : Int) : Int.gcd a b = Int.gcd b (a % b) := by
  have h1 : Int.gcd a b ∣ Int.gcd b (a % b) := by
    refine Int.dvd_gcd (Int.gcd_dvd_right ..) ?_
    rw [Int.emod_def]
    exact Int.dvd_sub (Int.gcd_dvd_left ..) (Int.dvd_mul_of_dvd_left (Int.gcd_dvd_right ..))
  have h2 : Int.gcd b (a % b) ∣ Int.gcd a b := by
    refine Int.dvd_gcd ?_ (Int.gcd_dvd_left ..)
    have e := Int.emod_add_mul_ediv a b
    have : ((Int.gcd b (a % b) : Nat) : Int) ∣ a % b + b * (a / b) := Int.dvd_add (Int.gcd_dvd_right ..) (Int.dvd_mul_of_dvd_left (Int.gcd_dvd_left ..))
    rwa [e] at this
  exact Nat.dvd_antisymm h1 h2
theorem gcd_zero (a : Int) (h : 0 ≤ a) : (Int.gcd a 0 : Int) = a := by simp; omega
/-- turned's loop -/
structure EG (number base high low ahead behind : Int) : Prop where
  l0 : 0 ≤ low
  lh : low < high
  hb : high ≤ base
  gcd : Int.gcd high low = Int.gcd number base
  c1 : (ahead * number - high) % base = 0
  c2 : (behind * number - low) % base = 0
  sg : ∃ A B : Int, 0 ≤ A ∧ 0 ≤ B ∧ B * high + A * low = base ∧ ((ahead = -A ∧ behind = B) ∨ (ahead = A ∧ behind = -B))
theorem EG.start {number base : Int} (hb : 2 ≤ base) : EG number base base (number % base) 0 1 := by
  have h0 := Int.emod_nonneg number (show base ≠ 0 by omega)
  have h1 := Int.emod_lt_of_pos number (show 0 < base by omega)
  refine ⟨h0, h1, Int.le_refl _, (gcd_emod number base).symm, ?_, ?_, 0, 1, by decide, by decide, by omega, .inl ⟨rfl, rfl⟩⟩
  · rw [Int.zero_mul, Int.zero_sub, Int.neg_emod_self]
  · rw [Int.one_mul, ← Int.dvd_iff_emod_eq_zero]
    have := Int.emod_add_mul_ediv number base
    exact ⟨number / base, by omega⟩
theorem EG.step {number base high low ahead behind : Int} (e : EG number base high low ahead behind) (hl : 0 < low) :
    EG number base low (high - high / low * low) behind (ahead - high / low * behind) := by
  obtain ⟨l0, lh, hb, g, c1, c2, A, B, a0, b0, s, sg⟩ := e
  have em : high - high / low * low = high % low := by
    have := Int.emod_add_ediv_mul high low
    omega
  have m0 : 0 ≤ high / low := Int.ediv_nonneg (by omega) l0
  refine ⟨?_, ?_, by omega, ?_, c2, ?_, B, A + high / low * B, b0, ?_, ?_, ?_⟩
  · rw [em]; exact Int.emod_nonneg _ (by omega)
  · rw [em]; exact Int.emod_lt_of_pos _ hl
  · rw [em, ← gcd_emod, g]
  · rw [← Int.dvd_iff_emod_eq_zero] at c1 c2 ⊢
    have : (ahead - high / low * behind) * number - (high - high / low * low) = (ahead * number - high) - high / low * (behind * number - low) := by grind
    rw [this]
    exact Int.dvd_sub c1 (Int.dvd_mul_of_dvd_right c2)
  · have := Int.mul_nonneg m0 b0
    omega
  · rw [← s]; grind
  · rcases sg with ⟨e1, e2⟩ | ⟨e1, e2⟩
    · right; exact ⟨e2, by rw [e1, e2]; grind⟩
    · left; exact ⟨e2, by rw [e1, e2]; grind⟩
theorem EG.bound {number base high low ahead behind : Int} (e : EG number base high low ahead behind) (hl : 0 < low) : ahead.natAbs ≤ base.natAbs ∧ behind.natAbs ≤ base.natAbs ∧ high.natAbs ≤ base.natAbs ∧ low.natAbs ≤ base.natAbs ∧ (high / low).natAbs ≤ base.natAbs := by
  obtain ⟨l0, lh, hb, g, c1, c2, A, B, a0, b0, s, sg⟩ := e
  have h1 : B * 1 ≤ B * high := Int.mul_le_mul_of_nonneg_left (by omega) b0
  have h2 : A * 1 ≤ A * low := Int.mul_le_mul_of_nonneg_left (by omega) a0
  have h3 := Int.mul_nonneg b0 (show 0 ≤ high by omega)
  have h4 := Int.mul_nonneg a0 l0
  have h5 := Int.ediv_nonneg (show 0 ≤ high by omega) l0
  have h6 := Int.ediv_le_self low (show 0 ≤ high by omega)
  refine ⟨?_, ?_, by omega, by omega, by omega⟩
  · rcases sg with ⟨e1, e2⟩ | ⟨e1, e2⟩ <;> omega
  · rcases sg with ⟨e1, e2⟩ | ⟨e1, e2⟩ <;> omega
theorem EG.end_ {number base high ahead behind : Int} (e : EG number base high 0 ahead behind) : high = 1 ↔ Cop number base := by
  have h := e.gcd
  have h0 := e.lh
  have := gcd_zero high (by omega)
  show high = 1 ↔ Int.gcd number base = 1
  omega
theorem EG.turns {number base ahead behind : Int} (hb : 2 ≤ base) (e : EG number base 1 0 ahead behind) : Turns number base (ahead % base) := by
  refine ⟨Int.emod_nonneg _ (by omega), Int.emod_lt_of_pos _ (by omega), ?_⟩
  rw [Int.mul_emod, Int.emod_emod, ← Int.mul_emod]
  exact mod_eq_iff.mpr (Int.dvd_iff_emod_eq_zero.mpr e.c1)
theorem Turns.pos {a b t : Int} (h : Turns a b t) (hb : 2 ≤ b) : 0 < t := by
  have := h.lo
  have e := h.eq
  rw [Int.emod_eq_of_lt (a := 1) (by decide) (by omega)] at e
  rcases Int.lt_or_eq_of_le this with h | h
  · exact h
  · rw [← h] at e
    simp at e

/-! ## where the other places are -/
/-- the at-th of the places but p -/
def oth (p a : Nat) : Nat := if a < p then a else a + 1
theorem oth_ne (p a : Nat) : oth p a ≠ p := by unfold oth; split <;> omega
theorem oth_lt {p a n : Nat} (h : a < n - 1) (hp : p < n) : oth p a < n := by unfold oth; split <;> omega
theorem erase_oth {α : Type} (l : List α) (p a : Nat) : (l.eraseIdx p)[a]? = l[oth p a]? := by
  rw [List.getElem?_eraseIdx]
  unfold oth
  split <;> rfl
theorem range_but : ∀ {n p : Nat}, p < n → (List.range n).filter (fun i => decide (i ≠ p)) = (List.range n).eraseIdx p
  | n + 1, p, hp => by
    rw [List.range_succ, List.filter_append]
    by_cases e : p = n
    · subst e
      have h1 : (List.range p).filter (fun i => decide (i ≠ p)) = List.range p := List.filter_eq_self.mpr fun a ha => by
        have := List.mem_range.mp ha
        exact decide_eq_true (by omega)
      rw [h1, List.eraseIdx_append_of_length_le (by simp)]
      simp
    · have hlt : p < n := by omega
      rw [range_but hlt, List.eraseIdx_append_of_lt_length (by simpa using hlt)]
      have : ([n] : List Nat).filter (fun i => decide (i ≠ p)) = [n] := by
        simp
        omega
      rw [this]
theorem prod_erase_take {bs : List Int} {p a : Nat} {b : Int} (hb : bs[p]? = some b) : prod ((bs.eraseIdx p).take a) * (if oth p a > p then b else 1) = prod (bs.take (oth p a)) := by
  obtain ⟨hp, _⟩ := List.getElem?_eq_some_iff.mp hb
  unfold oth
  by_cases h : a < p
  · rw [if_pos h, if_neg (by omega), Int.mul_one]
    congr 1
    rw [List.eraseIdx_eq_take_drop_succ, List.take_append_of_le_length (by simp; omega), List.take_take, Nat.min_eq_left (by omega)]
  · rw [if_neg h, if_pos (by omega)]
    have e : (bs.eraseIdx p).take a = (bs.take (a + 1)).eraseIdx p := by
      apply List.ext_getElem?
      intro i
      rw [List.getElem?_eraseIdx]
      by_cases hi : i < a
      · rw [List.getElem?_take_of_lt hi, List.getElem?_eraseIdx]
        split
        · rw [List.getElem?_take_of_lt (by omega)]
        · rw [List.getElem?_take_of_lt (by omega)]
      · rw [List.getElem?_eq_none (by simp; omega)]
        rw [if_neg (by omega), List.getElem?_eq_none (by simp; omega)]
    rw [e, prod_erase]
    rw [List.getElem?_take_of_lt (by omega)]
    exact hb
end Rw
namespace Rw
/- the number that turns a over b -/
open Classical in
noncomputable def inv (a b : Int) : Int := if h : ∃ t, Turns a b t then Classical.choose h else 0
theorem inv_spec {a b : Int} (h : Cop a b) (hb : 0 < b) : Turns a b (inv a b) := by
  have e := turns_ex h hb
  unfold inv
  rw [dif_pos e]
  exact Classical.choose_spec e
theorem inv_eq {a b t : Int} (h : Cop a b) (hb : 0 < b) (ht : Turns a b t) : inv a b = t := (inv_spec h hb).uniq ht
theorem natAbs_lt300 {b : Int} (h0 : 0 ≤ b) (h : b < 2 ^ 300) : b.natAbs < 2 ^ 300 := by
  have e : ((b.natAbs : Nat) : Int) = b := Int.natAbs_of_nonneg h0
  have h2 : ((b.natAbs : Nat) : Int) < ((2 ^ 300 : Nat) : Int) := by
    rw [e]
    exact_mod_cast h
  exact_mod_cast h2
end Rw

namespace Rk
open PySem PySem.Spec PyProof.Rows L2 Evl
/-! ## The layer: what a reading comes to -/
/-- P tells of the heap ahead, the value and the heap behind -/
def EvG (te : TE) (σ : L2.St) (H : Hp) (P : Hp → V → Hp → Prop) : Prop := ∀ H1, Ex H H1 → ∀ Q : VK, (∀ v H2, Ex H1 H2 → P H1 v H2 → Q v H2) → te σ H1 Q
def SpG (sp : Sp) (vs : List V) (H : Hp) (P : Hp → V → Hp → Prop) : Prop := ∀ H1, Ex H H1 → ∀ Q : VK, (∀ v H2, Ex H1 H2 → P H1 v H2 → Q v H2) → ∀ E : XK, sp vs H1 Q E
/-- it goes out by an exception that is wished -/
def Dv (te : TE) (σ : L2.St) (H : Hp) : Prop := ∀ H1, Ex H H1 → ∀ Q : VK, te σ H1 Q
def SpD (sp : Sp) (vs : List V) (H : Hp) (E : XK) : Prop := ∀ H1, Ex H H1 → ∀ Q : VK, sp vs H1 Q E
section
variable {P : Program} {w : World} {K : PySem.W.Frag} {mg : Str → Option Value} {base : Heap} {N : List Str} {qual : Str} {scope : Scope} {f : Addr} {cd : Value} {A : Around} {outer : List Env} {s : Shared} {H : Hp} {E : XK}
theorem hk : Takes (cxOf (L2.CX P w) P w K mg base N qual scope f cd A outer s H E) (fun cls d _ H' => E cls d H') := takes_of rfl rfl rfl rfl
theorem hx : Passes (L2.CX P w) (cxOf (L2.CX P w) P w K mg base N qual scope f cd A outer s H E) E := passes_call hk fun _ _ _ _ h => h
end
section
variable {K : PySem.W.Frag} {σ : L2.St} {H H' : Hp} {ta tb te tx : TE} {t u : TT} {x y z v : V} {r : R2} {D : Ends} {tz tu tw : TS}
theorem Dv.mono (e : Ex H H') (h : Dv te σ H) : Dv te σ H' := fun H1 a Q => h H1 (e.trans a) Q
theorem dv_op1 (h : Dv ta σ H) : Dv (tOp r ta tb) σ H := fun H1 e Q => h H1 e _
theorem q_dv (h : Dv te σ H) : tSeq (tDrop te) tz D σ H := h H (Ex.refl H) _
theorem q_dvA {i : Nat} (h : Dv te σ H) : tSeq (tAsg te (gName i)) tz D σ H := h H (Ex.refl H) _
theorem s_dvA {i : Nat} (h : Dv te σ H) : tAsg te (gName i) D σ H := h H (Ex.refl H) _
theorem s_dvR (h : Dv te σ H) : tRet te D σ H := h H (Ex.refl H) _
theorem dv_call {sp : Sp} {vs : List V} {E : XK} {tA : TA} (h : EvA tA σ H vs) (hs : SpD sp vs H E) : Dv (tCall sp [] E tA) σ H := fun H1 e Q =>
  h H1 e _ fun H2 e2 => by
    show sp (vs ++ []) H2 Q E
    rw [List.append_nil]
    exact hs H2 (e.trans e2) Q
theorem dv_meth {C a dx : Addr} {m : Str} {fs : List (Str × V)} {sp : Sp} {vs : List V} {E : XK} {tA : TA} (ho : Ev ta σ H (.ref a)) (hi : H a = some (.ins C dx fs)) (hl : fs.lookup m = none) (h : EvA tA σ H vs) (hs : SpD sp (.ref a :: vs) H E) :
    Dv (tMeth C m sp [] E ta tA) σ H := fun H1 e Q => ho H1 e _ fun H2 e2 => ⟨a, dx, fs, rfl, e2 _ _ (e _ _ hi), hl, h H2 (e.trans e2) _ fun H3 e3 => by
    show sp (.ref a :: (vs ++ [])) H3 Q E
    rw [List.append_nil]
    exact hs H3 ((e.trans e2).trans e3) Q⟩
theorem ev_call0 {sp : Sp} {vs : List V} {E : XK} {tA : TA} (h : EvA tA σ H vs) (hs : SpV sp vs H z) : Ev (tCall sp [] E tA) σ H z := ev_call h (by rw [List.append_nil]; exact hs)
theorem el_call0 {sp : Sp} {vs xs : List V} {E : XK} {tA : TA} (h : EvA tA σ H vs) (hs : SpL sp vs H xs) : EvL (tCall sp [] E tA) σ H xs := el_call h (by rw [List.append_nil]; exact hs)
theorem eg_call {sp : Sp} {vs : List V} {E : XK} {tA : TA} {R : Hp → V → Hp → Prop} (hR : ∀ H0 H1 v H2, Ex H0 H1 → R H1 v H2 → R H0 v H2) (h : EvA tA σ H vs) (hs : SpG sp vs H R) : EvG (tCall sp [] E tA) σ H R := fun H1 e Q q =>
  h H1 e _ fun H2 e2 => by
    show sp (vs ++ []) H2 Q E
    rw [List.append_nil]
    exact hs H2 (e.trans e2) Q (fun v H3 e3 p => q v H3 (e2.trans e3) (hR _ _ _ _ e2 p)) E
theorem ev_meth {C a dx : Addr} {m : Str} {fs : List (Str × V)} {sp : Sp} {vs : List V} {E : XK} {tA : TA} (ho : Ev ta σ H (.ref a)) (hi : H a = some (.ins C dx fs)) (hl : fs.lookup m = none) (h : EvA tA σ H vs) (hs : SpV sp (.ref a :: vs) H z) :
    Ev (tMeth C m sp [] E ta tA) σ H z := fun H1 e Q q => ho H1 e _ fun H2 e2 => ⟨a, dx, fs, rfl, e2 _ _ (e _ _ hi), hl, h H2 (e.trans e2) _ fun H3 e3 => by
    show sp (.ref a :: (vs ++ [])) H3 Q E
    rw [List.append_nil]
    exact hs H3 ((e.trans e2).trans e3) Q (fun H4 e4 => q H4 ((e2.trans e3).trans e4)) E⟩
theorem el_meth {C a dx : Addr} {m : Str} {fs : List (Str × V)} {sp : Sp} {vs xs : List V} {E : XK} {tA : TA} (ho : Ev ta σ H (.ref a)) (hi : H a = some (.ins C dx fs)) (hl : fs.lookup m = none) (h : EvA tA σ H vs) (hs : SpL sp (.ref a :: vs) H xs) :
    EvL (tMeth C m sp [] E ta tA) σ H xs := fun H1 e Q q => ho H1 e _ fun H2 e2 => ⟨a, dx, fs, rfl, e2 _ _ (e _ _ hi), hl, h H2 (e.trans e2) _ fun H3 e3 => by
    show sp (.ref a :: (vs ++ [])) H3 Q E
    rw [List.append_nil]
    exact hs H3 ((e.trans e2).trans e3) Q (fun p H4 hp e4 h4 => q p H4 (fresh_back (e2.trans e3) hp) ((e2.trans e3).trans e4) h4) E⟩
theorem ev_fld {a C dx : Addr} {fs : List (Str × V)} {f : Str} (h : Ev ta σ H (.ref a)) (ho : H a = some (.ins C dx fs)) (hc : Cls K C) (hn : NoAttr K C f) (hl : fs.lookup f = some v) : Ev (tFld K ta f) σ H v := fun H1 e Q q =>
  h H1 e _ fun H2 e2 => ⟨a, C, dx, fs, v, rfl, e2 _ _ (e _ _ ho), hc, hn, hl, q H2 e2⟩
theorem rc_abs {i : Int} : RC (fun xs H Q => ∃ i, xs = [V.int i] ∧ Q (V.int (if i < 0 then -i else i)) H) [.int i] H (.int (if i < 0 then -i else i)) := fun H1 _ _ q => ⟨i, rfl, q H1 (Ex.refl H1)⟩
theorem rc_min {i j : Int} : RC (fun xs H Q => ∃ i j, xs = [V.int i, V.int j] ∧ Q (V.int (if j < i then j else i)) H) [.int i, .int j] H (.int (if j < i then j else i)) := fun H1 _ _ q => ⟨i, j, rfl, q H1 (Ex.refl H1)⟩
theorem rc_max {i j : Int} : RC (fun xs H Q => ∃ i j, xs = [V.int i, V.int j] ∧ Q (V.int (if j > i then j else i)) H) [.int i, .int j] H (.int (if j > i then j else i)) := fun H1 _ _ q => ⟨i, j, rfl, q H1 (Ex.refl H1)⟩
theorem rc_isi {c : V} {cv t : Value} {b : Bool} (hc : ClsV c cv) (ht : ∀ H1, Ex H H1 → TyX K H1 x t) (hk : PySem.W.kitOne K t cv = some b) : RC (rIsi K) [x, c] H (.bl b) := fun H1 e _ q => ⟨x, c, t, cv, b, rfl, hc, ht H1 e, hk, q H1 (Ex.refl H1)⟩
theorem ru_i {g : Int → V} {i : Int} : RU (rU g) (.int i) H (g i) := fun H1 _ _ q => ⟨i, rfl, q H1 (Ex.refl H1)⟩
theorem at_map {bs : List Int} {k : Nat} {b : Int} (h : bs[k]? = some b) : atI (bs.map V.int) (k : Int) = some (.int b) := atI_nat (by rw [List.getElem?_map, h]; rfl)
/-- for j in range(a, b, -1) -/
theorem q_forD {tA : TA} {j : Nat} {lo hi : Int} {n : Nat} (h : EvA tA σ H [.int lo, .int hi, .int (-1)]) (hn : -(2 ^ 62) ≤ lo ∧ lo < 2 ^ 62 ∧ -(2 ^ 62) ≤ hi ∧ hi < 2 ^ 62) (en : (lo - hi).toNat = n) (Pv : Nat → L2.St → Hp → Prop) (h0 : ∀ H1, Ex H H1 → Pv 0 σ H1)
    (hs : ∀ (i : Nat) σ' H', i < n → Pv i σ' H' → tu { D with nx := Pv (i + 1), ct := Pv (i + 1), bk := tz D } (σ'.set j (some (.int (lo - (i : Int))))) H') (hd : ∀ σ' H', Pv n σ' H' → tz D σ' H') : tSeq (tFor (iRng3 tA) (gName j) tu) tz D σ H := by
  refine h H (Ex.refl H) _ fun H1 e => ⟨lo, hi, -1, n, rfl, ?_, ?_⟩
  · rw [← en]
    exact RgC.neg hn.1 hn.2.1 hn.2.2.1 hn.2.2.2
  · refine for_rangeC (lo := lo) (c := -1) (n := n) (D := { D with nx := tz D }) Pv (h0 H1 e) (fun i σ' H' hi p => ?_) hd
    have e1 : lo + (i : Int) * (-1) = lo - (i : Int) := by omega
    show tu _ (σ'.set j (some (.int (lo + (i : Int) * (-1))))) H'
    rw [e1]
    exact hs i σ' H' hi p
end
/-! ### a board -/
def bf (l t : Addr) : List (Str × V) := [("bases", .ref l), ("turns", .ref t)]
theorem bf_bases (l t : Addr) : (bf l t).lookup ("bases" : Str) = some (V.ref l) := by simp [bf, List.lookup]
theorem bf_turns (l t : Addr) : (bf l t).lookup ("turns" : Str) = some (V.ref t) := by
  have h : (("turns" : Str) == "bases") = false := by decide +kernel
  simp [bf, List.lookup, h]
theorem bf_none (l t : Addr) {m : Str} (h1 : (m == ("bases" : Str)) = false) (h2 : (m == ("turns" : Str)) = false) : (bf l t).lookup m = none := by simp [bf, List.lookup, h1, h2]
end Rk

namespace Rk
open PySem PySem.Spec PyProof.Rows L2 Evl
section
variable {K : PySem.W.Frag} {σ : L2.St} {H H' : Hp} {ta tb te tx : TE} {t u : TT} {x y z v : V} {r : R2} {D : Ends} {tz tu tw : TS}
theorem ev_callS {sp : Sp} {vs : List V} {E : L2.St → XK} {tA : TA} (h : EvA tA σ H vs) (hs : SpV sp vs H z) : Ev (tCallS sp E tA) σ H z := fun H1 e Q q =>
  h H1 e _ fun H2 e2 => hs H2 (e.trans e2) Q (fun H3 e3 => q H3 (e2.trans e3)) (E σ)
theorem el_callS {sp : Sp} {vs xs : List V} {E : L2.St → XK} {tA : TA} (h : EvA tA σ H vs) (hs : SpL sp vs H xs) : EvL (tCallS sp E tA) σ H xs := fun H1 e Q q =>
  h H1 e _ fun H2 e2 => hs H2 (e.trans e2) Q (fun p H3 hp e3 h3 => q p H3 (fresh_back e2 hp) (e2.trans e3) h3) (E σ)
theorem dv_callS {sp : Sp} {vs : List V} {E : L2.St → XK} {tA : TA} (h : EvA tA σ H vs) (hs : SpD sp vs H (E σ)) : Dv (tCallS sp E tA) σ H := fun H1 e Q =>
  h H1 e _ fun H2 e2 => hs H2 (e.trans e2) Q
/-- what the class of an exception says to isinstance, the class read off the exception itself -/
def rIsX (K : PySem.W.Frag) (cls : Value) (d : Option Addr) (a : Addr) : List V → Hp → VK → Prop := fun xs H Q =>
  ∃ (C : Addr) (c : V) (cv : Value) (b : Bool), cls = .ref C ∧ d = none ∧ ExcC K C ∧ xs = [.ref a, c] ∧ (∀ u, RelV c u → u = cv) ∧ PySem.W.kitOne K (.ref C) cv = some b ∧ Q (.bl b) H
theorem call_isE' {X : Cx} {a : Addr} {cls : Value} {d : Option Addr} {oe : Obj} {pn : List (Addr × Obj)} (hz : Zc cls d oe) (hf : ∃ vs, oe.data = .fields vs) : CallR (X.suite a ((a, oe) :: pn)) (.builtin "isinstance") (rIsX X.K cls d a) := by
  intro p1 s1 σ1 H1 xs us Q1 I1 r1 hh
  obtain ⟨C, c, cv, b, e1, e2, k1, k2, k3, k4, k5⟩ := hh
  subst e1 e2
  exact call_isE k1 hz hf p1 s1 σ1 H1 xs us Q1 I1 r1 ⟨c, cv, b, k2, k3, k4, k5⟩
theorem rc_isX {a C : Addr} {c : V} {cv : Value} {b : Bool} (k1 : ExcC K C) (k3 : ∀ u, RelV c u → u = cv) (k4 : PySem.W.kitOne K (.ref C) cv = some b) : RC (rIsX K (.ref C) none a) [.ref a, c] H (.bl b) :=
  fun H1 _ _ q => ⟨C, c, cv, b, rfl, rfl, k1, rfl, k3, k4, q H1 (Ex.refl H1)⟩
theorem rel_ty (n : String) : ∀ u, RelV (.ty n) u → u = .type n := fun _ h => h
theorem rel_ref (C : Addr) : ∀ u, RelV (.ref C) u → u = .ref C := fun _ h => h
/-! ### the script's cells -/
def cell (ns : List Int) (i : Int) : Int := ns.getD i.toNat 0
end
/-! ### methods and makers whose exceptions are wished for at the slots -/
section
variable {X : Cx} {C : Addr} {m : Str} {sp : Sp} {k : Nat} {f : Addr} {fd : FuncData} {ps : List Str} {E : L2.St → XK} {o e : Expr} {es : List Expr} {ta : TE} {tA : TA} {pos apos p : Pos} {x : Str}
def tMethW (C : Addr) (m : Str) (sp : Sp) (E : L2.St → XK) (ta : TE) (tA : TA) : TE := fun σ H Q =>
  ta σ H fun y H1 => ∃ a dx fs, y = .ref a ∧ H1 a = some (.ins C dx fs) ∧ fs.lookup m = none ∧ tA σ H1 fun vs H2 => sp (y :: vs) H2 Q (E σ)
theorem pe_methS1 {pl : Sem Bool} (ho : PE X o ta) (c : Cls X.K C) (hm : Meth X.K C m f) (F : FnOk X.prog X.w X.K X.mg X.base (L2.CX X.prog X.w) k f fd ps sp) (hr : Room k X.A) (hb : Binds X.K fd ps []) (hp : ∀ σ, PassesAt (L2.CX X.prog X.w) X σ (E σ)) (ha : PA X (e :: es) tA)
    (h1 : starEach (e :: es) X.env = (false, eval e X.env) :: starEach es X.env := by rfl) (h2 : (backTo pos (starEach es X.env)).any (·.1) = false := by rfl)
    (h3 : eval (.Call (.Attribute o m apos) (e :: es) [] pos) X.env = (eval o X.env >>= fun ov => standAt apos.atName >>= fun _ => holding [ov] (getMethod ov m pl) >>= fun z =>
      callWith pos z.1 z.2 (backTo pos (starEach (e :: es) X.env)) (backToKw pos (keywordEach [] X.env))) := by rfl) :
    PE X (.Call (.Attribute o m apos) (e :: es) [] pos) (tMethW C m sp E ta tA) := .mk fun P1 s1 σ1 H1 Q1 I1 hh => by
  refine PySem.W.methodCall_KW (pl := pl) (thn (ho.run P1 s1 σ1 H1 _ I1 hh) fun u s2 z2 => ?_) h3
  obtain ⟨y, H2, I2, ry, a, dx, fs, ey, ea, el, q⟩ := z2
  subst ey
  cases (show u = Value.ref a from ry)
  refine getmeth_ok I2 ea c hm el (PySem.W.callWith_K (first := [.ref a]) (h₀ := X.base) I2.ok.mod.kin hm.kp (thn (ha.run pos P1 s2 σ1 H2 _ I2 q) fun us s3 z3 => ?_) h1 h2)
  obtain ⟨vs, H3, I3, r3, q3⟩ := z3
  exact ⟨I3.kIn, run_fnS (us := .ref a :: us) (vs := .ref a :: vs) F hr hb (hp σ1) I3 (.cons rfl r3) q3⟩
theorem pe_methS0 {pl : Sem Bool} (ho : PE X o ta) (c : Cls X.K C) (hm : Meth X.K C m f) (F : FnOk X.prog X.w X.K X.mg X.base (L2.CX X.prog X.w) k f fd ps sp) (hr : Room k X.A) (hb : Binds X.K fd ps []) (hp : ∀ σ, PassesAt (L2.CX X.prog X.w) X σ (E σ))
    (h3 : eval (.Call (.Attribute o m apos) [] [] pos) X.env = (eval o X.env >>= fun ov => standAt apos.atName >>= fun _ => holding [ov] (getMethod ov m pl) >>= fun z =>
      callWith pos z.1 z.2 (backTo pos (starEach [] X.env)) (backToKw pos (keywordEach [] X.env))) := by rfl) :
    PE X (.Call (.Attribute o m apos) [] [] pos) (tMethW C m sp E ta tNil) := .mk fun P1 s1 σ1 H1 Q1 I1 hh => by
  refine PySem.W.methodCall_KW (pl := pl) (thn (ho.run P1 s1 σ1 H1 _ I1 hh) fun u s2 z2 => ?_) h3
  obtain ⟨y, H2, I2, ry, a, dx, fs, ey, ea, el, q⟩ := z2
  subst ey
  cases (show u = Value.ref a from ry)
  exact getmeth_ok I2 ea c hm el (PySem.W.callWith_K0 (first := [.ref a]) I2.kIn hm.kp (run_fnS (us := [.ref a]) (vs := [.ref a]) F hr hb (hp σ1) I2 (.cons rfl .nil) q))
end
section
variable {K : PySem.W.Frag} {σ : L2.St} {H H' : Hp} {ta tb te tx : TE} {t u : TT} {x y z v : V} {r : R2} {D : Ends} {tz tu tw : TS}
theorem ev_methW {C a dx : Addr} {m : Str} {fs : List (Str × V)} {sp : Sp} {vs : List V} {E : L2.St → XK} {tA : TA} (ho : Ev ta σ H (.ref a)) (hi : H a = some (.ins C dx fs)) (hl : fs.lookup m = none) (h : EvA tA σ H vs) (hs : SpV sp (.ref a :: vs) H z) :
    Ev (tMethW C m sp E ta tA) σ H z := fun H1 e Q q => ho H1 e _ fun H2 e2 => ⟨a, dx, fs, rfl, e2 _ _ (e _ _ hi), hl, h H2 (e.trans e2) _ fun H3 e3 => hs H3 ((e.trans e2).trans e3) Q (fun H4 e4 => q H4 ((e2.trans e3).trans e4)) (E σ)⟩
theorem el_methW {C a dx : Addr} {m : Str} {fs : List (Str × V)} {sp : Sp} {vs xs : List V} {E : L2.St → XK} {tA : TA} (ho : Ev ta σ H (.ref a)) (hi : H a = some (.ins C dx fs)) (hl : fs.lookup m = none) (h : EvA tA σ H vs) (hs : SpL sp (.ref a :: vs) H xs) :
    EvL (tMethW C m sp E ta tA) σ H xs := fun H1 e Q q => ho H1 e _ fun H2 e2 => ⟨a, dx, fs, rfl, e2 _ _ (e _ _ hi), hl, h H2 (e.trans e2) _ fun H3 e3 => hs H3 ((e.trans e2).trans e3) Q (fun p H4 hp e4 h4 => q p H4 (fresh_back (e2.trans e3) hp) ((e2.trans e3).trans e4) h4) (E σ)⟩
theorem dv_methW {C a dx : Addr} {m : Str} {fs : List (Str × V)} {sp : Sp} {vs : List V} {E : L2.St → XK} {tA : TA} (ho : Ev ta σ H (.ref a)) (hi : H a = some (.ins C dx fs)) (hl : fs.lookup m = none) (h : EvA tA σ H vs) (hs : SpD sp (.ref a :: vs) H (E σ)) :
    Dv (tMethW C m sp E ta tA) σ H := fun H1 e Q => ho H1 e _ fun H2 e2 => ⟨a, dx, fs, rfl, e2 _ _ (e _ _ hi), hl, h H2 (e.trans e2) _ fun H3 e3 => hs H3 ((e.trans e2).trans e3) Q⟩
end
section
variable {K : PySem.W.Frag} {σ : L2.St} {H H' : Hp} {ta tb tc te tx : TE} {t u : TT} {x y z v : V} {r r' : R2} {D : Ends} {tz tu tw : TS}
theorem ev_chain {b1 b2 : Bool} (ha : Ev ta σ H x) (hb : Ev tb σ H y) (h1 : RV r x y H (.bl b1)) (hc : b1 = true → Ev tc σ H z) (h2 : b1 = true → RV r' y z H (.bl b2)) : Ev (tChain r r' ta tb tc) σ H (.bl (b1 && b2)) := fun H1 e Q q =>
  ha H1 e _ fun H2 e2 => hb H2 (e.trans e2) _ fun H3 e3 => h1 H3 ((e.trans e2).trans e3) _ fun H4 e4 => ⟨b1, rfl, by
    cases b1 with
    | true =>
      show tc σ H4 fun w' H5 => r' y w' H5 Q
      exact hc rfl H4 (((e.trans e2).trans e3).trans e4) _ fun H5 e5 => h2 rfl H5 ((((e.trans e2).trans e3).trans e4).trans e5) Q fun H6 e6 => q H6 ((((e2.trans e3).trans e4).trans e5).trans e6)
    | false => exact q H4 ((e2.trans e3).trans e4)⟩
theorem set_same {i : Nat} {o : Option V} (h : σ[i]? = some o) : σ.set i o = σ := by
  obtain ⟨hi, e⟩ := List.getElem?_eq_some_iff.mp h
  rw [← e, List.set_getElem_self]
/-- if c: x = e, both numbers -/
theorem q_ifI {i : Nat} {b : Bool} {x0 x1 : Int} (h : EvT t σ H b) (h0 : σ[i]? = some (some (.int x0))) (h1 : b = true → Ev te σ H (.int x1)) (k : ∀ H1, Ex H H1 → tz D (σ.set i (some (.int (if b = true then x1 else x0)))) H1) : tSeq (tIfS t (tAsg te (gName i)) tNext) tz D σ H := by
  cases b with
  | true => exact q_ifAsg h h1 (fun z => nomatch z) k
  | false => exact q_ifAsg h (fun z => nomatch z) (fun _ => set_same h0) k
/-- what an own class in an except clause says -/
theorem exm_yes {A B : Addr} {b : Bool} (h1 : PySem.W.subIn K (.ref B) (.type "BaseException") = some true) (h2 : PySem.W.hasDictIn K B = true) (h3 : PySem.W.typeIn K (.ref B) = some (.type "type")) (h4 : PySem.W.subIn K (.ref A) (.ref B) = some b) : PySem.W.exmOne K (.ref A) (.ref B) = some b := PySem.W.exm_ref h1 h2 h3 h4
end
section
variable {K : PySem.W.Frag}
theorem kit_exT {C : Addr} {T : String} {b : Bool} (hT : PySem.W.kitMeta T = true) (h : PySem.W.subIn K (.ref C) (.type T) = some b) : PySem.W.kitOne K (.ref C) (.type T) = some b := by
  show (if (Value.ref C == Value.type T) = true then some true else (if PySem.W.kitMeta T = true then PySem.W.subIn K (.ref C) (.type T) else none)) = some b
  rw [if_neg (by simp), if_pos hT, h]
theorem kit_exC {A B : Addr} {b : Bool} (hb : b = true ∨ A ≠ B) (h : PySem.W.subIn K (.ref A) (.ref B) = some b) (j : PySem.W.isClsIn K B = true) (t : PySem.W.typeIn K (.ref B) = some (.type "type")) : PySem.W.kitOne K (.ref A) (.ref B) = some b := by
  have e2 : ((PySem.W.clsIn K B).isSome && PySem.W.typeIn K (.ref B) == some (.type "type")) = true := by
    have j' : (PySem.W.clsIn K B).isSome = true := j
    rw [j', t] <;> rfl
  show (if (Value.ref A == Value.ref B) = true then some true else (if ((PySem.W.clsIn K B).isSome && PySem.W.typeIn K (.ref B) == some (.type "type")) = true then PySem.W.subIn K (.ref A) (.ref B) else none)) = some b
  by_cases e : A = B
  · rcases hb with hb | hb
    · rw [if_pos (by rw [e]; simp), hb]
    · exact absurd e hb
  · rw [if_neg (by simp [e]), if_pos e2, h]
end
end Rk

namespace Rk
open PySem PySem.Spec PyProof.Rows L2 Evl
def topS (i : Nat) : Stmt := PySem.Challenge.pw_restrow_k01_turned.main.body.getD i (.Pass ⟨0, 0, 0, 0⟩)
abbrev s_common : Stmt := topS 4
theorem sc_common : FnScope ["one", "other", "rest"] ["one", "other"] (defScope s_common) := ⟨rfl, rfl, rfl, by decide +kernel, rfl, by decide +kernel, by decide +kernel⟩
abbrev s_turned : Stmt := topS 5
theorem sc_turned : FnScope ["number", "base", "high", "low", "ahead", "behind", "many", "rest", "step"] ["number", "base"] (defScope s_turned) := ⟨rfl, rfl, rfl, by decide +kernel, rfl, by decide +kernel, by decide +kernel⟩
abbrev s__law_cell_at : Stmt := topS 7
theorem sc__law_cell_at : FnScope ["_law_script", "_law_k"] ["_law_script", "_law_k"] (defScope s__law_cell_at) := ⟨rfl, rfl, rfl, by decide +kernel, rfl, by decide +kernel, by decide +kernel⟩
abbrev s__law_whole : Stmt := topS 8
theorem sc__law_whole : FnScope ["_law_found"] ["_law_found"] (defScope s__law_whole) := ⟨rfl, rfl, rfl, by decide +kernel, rfl, by decide +kernel, by decide +kernel⟩
abbrev s__law_common : Stmt := topS 9
theorem sc__law_common : FnScope ["_law_one", "_law_other"] ["_law_one", "_law_other"] (defScope s__law_common) := ⟨rfl, rfl, rfl, by decide +kernel, rfl, by decide +kernel, by decide +kernel⟩
abbrev s__law_refused_by_any : Stmt := topS 10
theorem sc__law_refused_by_any : FnScope ["_law_number", "_law_base", "e"] ["_law_number", "_law_base"] (defScope s__law_refused_by_any) := ⟨rfl, rfl, rfl, by decide +kernel, rfl, by decide +kernel, by decide +kernel⟩
abbrev s_law : Stmt := topS 11
theorem sc_law : FnScope ["_law_script", "_law_both", "_law_one", "_law_other", "_law_found", "_law_base", "_law_refused", "_law_back"] ["_law_script"] (defScope s_law) := ⟨rfl, rfl, rfl, by decide +kernel, rfl, by decide +kernel, by decide +kernel⟩
/-- what the top has written -/
structure Lk (K : PySem.W.Frag) (mg : Str → Option Value) where
  f_common : Addr
  d_common : FuncData
  F_common : Fun K "common" "common" s_common f_common d_common
  b_common : Binds K d_common ["one", "other"] []
  f_turned : Addr
  d_turned : FuncData
  F_turned : Fun K "turned" "turned" s_turned f_turned d_turned
  b_turned : Binds K d_turned ["number", "base"] []
  f__law_cell_at : Addr
  d__law_cell_at : FuncData
  F__law_cell_at : Fun K "_law_cell_at" "_law_cell_at" s__law_cell_at f__law_cell_at d__law_cell_at
  b__law_cell_at : Binds K d__law_cell_at ["_law_script", "_law_k"] []
  f__law_whole : Addr
  d__law_whole : FuncData
  F__law_whole : Fun K "_law_whole" "_law_whole" s__law_whole f__law_whole d__law_whole
  b__law_whole : Binds K d__law_whole ["_law_found"] []
  f__law_common : Addr
  d__law_common : FuncData
  F__law_common : Fun K "_law_common" "_law_common" s__law_common f__law_common d__law_common
  b__law_common : Binds K d__law_common ["_law_one", "_law_other"] []
  f__law_refused_by_any : Addr
  d__law_refused_by_any : FuncData
  F__law_refused_by_any : Fun K "_law_refused_by_any" "_law_refused_by_any" s__law_refused_by_any f__law_refused_by_any d__law_refused_by_any
  b__law_refused_by_any : Binds K d__law_refused_by_any ["_law_number", "_law_base"] []
  f_law : Addr
  d_law : FuncData
  F_law : Fun K "law" "law" s_law f_law d_law
  b_law : Binds K d_law ["_law_script"] []
  g_common : mg "common" = some (.ref f_common)
  k_common : PySem.W.keepIn K (.ref f_common) = true
  g_turned : mg "turned" = some (.ref f_turned)
  k_turned : PySem.W.keepIn K (.ref f_turned) = true
  g__law_cell_at : mg "_law_cell_at" = some (.ref f__law_cell_at)
  k__law_cell_at : PySem.W.keepIn K (.ref f__law_cell_at) = true
  g__law_whole : mg "_law_whole" = some (.ref f__law_whole)
  k__law_whole : PySem.W.keepIn K (.ref f__law_whole) = true
  g__law_common : mg "_law_common" = some (.ref f__law_common)
  k__law_common : PySem.W.keepIn K (.ref f__law_common) = true
  g__law_refused_by_any : mg "_law_refused_by_any" = some (.ref f__law_refused_by_any)
  k__law_refused_by_any : PySem.W.keepIn K (.ref f__law_refused_by_any) = true
  g_law : mg "law" = some (.ref f_law)
  k_law : PySem.W.keepIn K (.ref f_law) = true
  c_RestError : Addr
  g_RestError : mg "RestError" = some (.ref c_RestError)
  x_RestError : PySem.W.excIn K c_RestError [.type "ValueError", .type "Exception", .type "BaseException", .type "object"] "ValueError.__new__" = true
  e_RestError : PySem.W.keepIn K (.ref c_RestError) = true
  s_RestError : PySem.W.subIn K (.ref c_RestError) (.type "BaseException") = some true
  t_RestError : PySem.W.typeIn K (.ref c_RestError) = some (.type "type")
  h_RestError : PySem.W.hasDictIn K c_RestError = true
  c_NoTurn : Addr
  g_NoTurn : mg "NoTurn" = some (.ref c_NoTurn)
  x_NoTurn : PySem.W.excIn K c_NoTurn [.type "ValueError", .type "Exception", .type "BaseException", .type "object"] "ValueError.__new__" = true
  e_NoTurn : PySem.W.keepIn K (.ref c_NoTurn) = true
  s_NoTurn : PySem.W.subIn K (.ref c_NoTurn) (.type "BaseException") = some true
  t_NoTurn : PySem.W.typeIn K (.ref c_NoTurn) = some (.type "type")
  h_NoTurn : PySem.W.hasDictIn K c_NoTurn = true
  u_NoTurn_NoTurn : PySem.W.subIn K (.ref c_NoTurn) (.ref c_NoTurn) = some true
  u_NoTurn_RestError : PySem.W.subIn K (.ref c_NoTurn) (.ref c_RestError) = some true
  i_NoTurn : ExcC K c_NoTurn
  v_NoTurn : PySem.W.kitOne K (.ref c_NoTurn) (.type "ValueError") = some true
  z_ValueError : mg "ValueError" = none
  z_abs : mg "abs" = none
  z_bool : mg "bool" = none
  z_int : mg "int" = none
  z_isinstance : mg "isinstance" = none
  z_len : mg "len" = none
end Rk
namespace Rk
open PySem PySem.Spec PyProof.Rows L2 Evl
section
variable {P : Program} {w : World} {K : PySem.W.Frag} {mg : Str → Option Value} {base : Heap}
/-! ### a cell of the script -/
def sp__law_cell_at (K : PySem.W.Frag) : Sp := fun vs H Q _ => ∃ (a : Addr) (ns : List Int) (i : Int), vs = [.ref a, .int i] ∧ SqL K H a (ns.map V.int) ∧ 0 ≤ i ∧ ∀ H', Ex H H' → Q (.int (cell ns i)) H'
theorem ok__law_cell_at (L : Lk K mg) : FnOk P w K mg base (L2.CX P w) 1 L.f__law_cell_at L.d__law_cell_at ["_law_script", "_law_k"] (sp__law_cell_at K) := by
  refine L.F__law_cell_at.okX sc__law_cell_at (fun vs H Q E h => ?_) (fun cdv A outer s H vs Q E hr h => ?_)
  · obtain ⟨_, _, _, rfl, _⟩ := h; rfl
  · obtain ⟨a, ns, i, rfl, hS, h0, q⟩ := h
    refine ⟨_, (pss_cons (ps_if (pt_cmpR op_lt (pv 1) (pe_callB call_len_seq (by rfl) L.z_len PySem.boot_len (pa_cons (pv 0) pa_nil)) (nomark _)) (pss_one (ps_ret (pe_ix ix_list (pv 0) (pv 1) (fun _ _ => rfl)))) pss_nil)
      (pss_one (ps_ret pe_int))), ?_⟩
    refine q_when (et_test (ev_op (ev_var rfl) (ev_len (ev_var rfl) hS) rv_I0)) (fun hc H1 e1 => ?_) (fun hc H1 e1 => ?_)
    · have hc' : i < ((ns.map V.int).length : Int) := of_decide_eq_true hc
      rw [List.length_map] at hc'
      have hg : ns[i.toNat]? = some (cell ns i) := by
        unfold cell
        rw [List.getD_eq_getElem?_getD, List.getElem?_eq_getElem (show i.toNat < ns.length by omega)]
        rfl
      have ei : i = ((i.toNat : Nat) : Int) := by omega
      refine s_ret (ev_op (ev_var rfl) (ev_var rfl) (rv_ixL (ex_l e1 hS) (by rw [ei]; exact at_map hg))) fun H2 e2 => ?_
      exact q H2 (e1.trans e2)
    · have hc' : ¬ i < ((ns.map V.int).length : Int) := of_decide_eq_false hc
      rw [List.length_map] at hc'
      have hg : cell ns i = 0 := by
        unfold cell
        rw [List.getD_eq_getElem?_getD, List.getElem?_eq_none (by omega)]
        rfl
      refine s_ret ev_c fun H2 e2 => ?_
      have := q H2 (e1.trans e2)
      rw [hg] at this
      exact this
theorem sv_cell {H : Hp} {a : Addr} {ns : List Int} {i : Int} (hS : SqL K H a (ns.map V.int)) (h0 : 0 ≤ i := by decide) : SpV (sp__law_cell_at K) [.ref a, .int i] H (.int (cell ns i)) :=
  fun H1 e Q q _ => ⟨a, ns, i, rfl, ex_l e hS, h0, q⟩
/-- the k-th cell, written -/
theorem ev_cell {σ : L2.St} {H : Hp} {a : Addr} {ns : List Int} {i : Int} {E : XK} {j : Nat} (hv : σ[j]? = some (some (.ref a))) (hS : SqL K H a (ns.map V.int)) (h0 : 0 ≤ i := by decide) :
    Ev (tCall (sp__law_cell_at K) [] E (tCons (tVar j) (tCons (tC (.int i)) tNil))) σ H (.int (cell ns i)) := ev_call0 (ea_cons (ev_var hv) (ea_cons ev_c ea_nil)) (sv_cell hS h0)
end
end Rk
namespace Rk
open PySem PySem.Spec PyProof.Rows L2 Evl
section
variable {P : Program} {w : World} {K : PySem.W.Frag} {mg : Str → Option Value} {base : Heap}
/-! ### the law's own divisor -/
def sp__law_common : Sp := fun vs H Q _ => ∃ one other : Int, vs = [.int one, .int other] ∧ 0 ≤ one ∧ 0 ≤ other ∧ ∀ H', Ex H H' → Q (.int (Int.gcd one other)) H'
theorem ok__law_common (L : Lk K mg) : FnOk P w K mg base (L2.CX P w) 1 L.f__law_common L.d__law_common ["_law_one", "_law_other"] sp__law_common := by
  refine L.F__law_common.okX sc__law_common (fun vs H Q E h => ?_) (fun cdv A outer s H vs Q E hr h => ?_)
  · obtain ⟨_, _, rfl, _⟩ := h; rfl
  · obtain ⟨one, other, rfl, h1, h2, q⟩ := h
    refine ⟨_, (pss_cons (ps_while (passes_of rfl) (PW.pt (pw_and (pt_cmpR op_gt (pv 0) pe_int (nomark _)) (pw_and1 (pt_cmpR op_gt (pv 1) pe_int (nomark _))))) (pss_one (ps_if (pt_cmpR op_gt (pv 0) (pv 1) (nomark _)) (pss_one (ps_set (i := 0) sc__law_common.nd rfl (Or.inl rfl) (pe_op op_mod (pv 0) (pv 1)))) (pss_one (ps_set (i := 1) sc__law_common.nd rfl (Or.inl rfl) (pe_op op_mod (pv 1) (pv 0)))))))
      (pss_one (ps_ret (pe_op op_add (pv 0) (pv 1))))), ?_⟩
    refine q_while (fun m σ' H' => ∃ (a b : Int), σ' = [some (.int a), some (.int b)] ∧ 0 ≤ a ∧ 0 ≤ b ∧ (a + b).toNat = m ∧ Int.gcd a b = Int.gcd one other ∧ Ex H H') (one + other).toNat ⟨one, other, rfl, h1, h2, rfl, rfl, Ex.refl H⟩ ?_
    rintro m σ' H' ⟨a, b, rfl, a0, b0, hm, hg, e⟩
    refine ⟨_, et_and (et_test (ev_op (ev_var rfl) ev_c rv_I0)) (fun _ => et_test (ev_op (ev_var rfl) ev_c rv_I0)), fun hb H1 e1 => ?_, fun hb H1 e1 => ?_⟩
    · rw [Bool.and_eq_true, decide_eq_true_eq, decide_eq_true_eq] at hb
      obtain ⟨ha', hb'⟩ := hb
      refine ⟨fun σ' H' => ∃ a' b', σ' = [some (.int a'), some (.int b')] ∧ 0 ≤ a' ∧ 0 ≤ b' ∧ a' + b' < a + b ∧ Int.gcd a' b' = Int.gcd a b ∧ Ex H H', ?_, ?_⟩
      · rintro σ2 H2 ⟨a', b', rfl, x0, y0, l, g, e2⟩
        exact ⟨_, by omega, a', b', rfl, x0, y0, rfl, g.trans hg, e2⟩
      · refine s_if (et_test (ev_op (ev_var rfl) (ev_var rfl) rv_I0)) (fun hc H2 e2 => ?_) (fun hc H2 e2 => ?_)
        · have hc' : b < a := of_decide_eq_true hc
          refine s_asg (ev_op (ev_var rfl) (ev_var rfl) (rv_I hb')) fun H3 e3 => ?_
          have l1 := Int.emod_nonneg a (show b ≠ 0 by omega)
          have l2 := Int.emod_lt_of_pos a hb'
          exact ⟨_, _, rfl, l1, b0, by omega, by rw [Int.gcd_comm, ← Rw.gcd_emod], ((e.trans e1).trans e2).trans e3⟩
        · have hc' : ¬ b < a := of_decide_eq_false hc
          refine s_asg (ev_op (ev_var rfl) (ev_var rfl) (rv_I ha')) fun H3 e3 => ?_
          have l1 := Int.emod_nonneg b (show a ≠ 0 by omega)
          have l2 := Int.emod_lt_of_pos b ha'
          exact ⟨_, _, rfl, a0, l1, by omega, by rw [← Rw.gcd_emod, Int.gcd_comm], ((e.trans e1).trans e2).trans e3⟩
    · rw [Bool.and_eq_false_iff, decide_eq_false_iff_not, decide_eq_false_iff_not] at hb
      refine s_ret (ev_op (ev_var rfl) (ev_var rfl) rv_I0) fun H2 e2 => ?_
      have hz : (Int.gcd one other : Int) = a + b := by
        rw [← hg]
        rcases hb with hb | hb
        · have : a = 0 := by omega
          subst this
          rw [Int.gcd_comm, Rw.gcd_zero b b0]
          omega
        · have : b = 0 := by omega
          subst this
          rw [Rw.gcd_zero a a0]
          omega
      rw [← hz]
      exact q H2 ((e.trans e1).trans e2)
theorem sv__law_common {H : Hp} {a b : Int} (h1 : 0 ≤ a) (h2 : 0 ≤ b) : SpV sp__law_common [.int a, .int b] H (.int (Int.gcd a b)) := fun H1 e Q q _ => ⟨a, b, rfl, h1, h2, q⟩
end
end Rk
namespace Rk
open PySem PySem.Spec PyProof.Rows L2 Evl
section
variable {P : Program} {w : World} {K : PySem.W.Frag} {mg : Str → Option Value} {base : Heap}
/-! ### turned -/
def sp_turned (cN : Addr) : Sp := fun vs H Q E => ∃ number base : Int, vs = [.int number, .int base] ∧ 2 ≤ base ∧ base < 2 ^ 300 ∧
  (Rw.Cop number base → ∀ H', Ex H H' → Q (.int (Rw.inv number base)) H') ∧ (¬ Rw.Cop number base → ∀ H', Ex H H' → E (.ref cN) none H')
theorem ok_turned (L : Lk K mg) : FnOk P w K mg base (L2.CX P w) 1 L.f_turned L.d_turned ["number", "base"] (sp_turned L.c_NoTurn) := by
  refine L.F_turned.okX sc_turned (fun vs H Q E h => ?_) (fun cdv A outer s H vs Q E hr h => ?_)
  · obtain ⟨_, _, rfl, _⟩ := h; rfl
  · obtain ⟨number, base, rfl, hb, hw, q, kE⟩ := h
    refine ⟨_, (pss_cons (ps_set (i := 2) sc_turned.nd rfl (Or.inl rfl) (pv 1))
      (pss_cons (ps_set (i := 3) sc_turned.nd rfl (Or.inl rfl) (pe_op op_mod (pv 0) (pv 1)))
      (pss_cons (ps_set (i := 4) sc_turned.nd rfl (Or.inl rfl) pe_int)
      (pss_cons (ps_set (i := 5) sc_turned.nd rfl (Or.inl rfl) pe_int)
      (pss_cons (ps_while (passes_of rfl) (pt_cmpR op_gt (pv 3) pe_int (nomark _)) (pss_cons (ps_set (i := 6) sc_turned.nd rfl (Or.inl rfl) (pe_op op_fdivW (pv 2) (pv 3)))
      (pss_cons (ps_set (i := 7) sc_turned.nd rfl (Or.inl rfl) (pe_op op_sub (pv 2) (pe_op op_mulW (pv 6) (pv 3))))
      (pss_cons (ps_set (i := 2) sc_turned.nd rfl (Or.inl rfl) (pv 3))
      (pss_cons (ps_set (i := 3) sc_turned.nd rfl (Or.inl rfl) (pv 7))
      (pss_cons (ps_set (i := 8) sc_turned.nd rfl (Or.inl rfl) (pe_op op_sub (pv 4) (pe_op op_mulW (pv 6) (pv 5))))
      (pss_cons (ps_set (i := 4) sc_turned.nd rfl (Or.inl rfl) (pv 5))
      (pss_one (ps_set (i := 5) sc_turned.nd rfl (Or.inl rfl) (pv 8))))))))))
      (pss_cons (ps_if (pt_cmpR op_ne (pv 2) pe_int (nomark _)) (pss_one (ps_raise rfl hk (pmk_own PySem.F.excBase_ValueError L.x_NoTurn L.g_NoTurn L.e_NoTurn (raises_own L.s_NoTurn L.t_NoTurn) (by rfl)))) pss_nil)
      (pss_one (ps_ret (pe_op op_mod (pv 4) (pv 1)))))))))), ?_⟩
    refine q_asg (ev_var rfl) fun H1 e1 => ?_
    refine q_asg (ev_op (ev_var rfl) (ev_var rfl) (rv_I (show 0 < base by omega))) fun H2 e2 => ?_
    refine q_asg ev_c fun H3 e3 => ?_
    refine q_asg ev_c fun H4 e4 => ?_
    have eA : Ex H H4 := ((e1.trans e2).trans e3).trans e4
    refine q_while (fun m σ' H' => ∃ (high low ahead behind : Int) (r1 r2 r3 : Option V), σ' = [some (.int number), some (.int base), some (.int high), some (.int low), some (.int ahead), some (.int behind), r1, r2, r3] ∧
      Rw.EG number base high low ahead behind ∧ low.toNat = m ∧ Ex H H') (number % base).toNat ⟨base, number % base, 0, 1, none, none, none, rfl, Rw.EG.start hb, rfl, eA⟩ ?_
    rintro m σ' H' ⟨high, low, ahead, behind, r1, r2, r3, rfl, G, hm, e⟩
    refine ⟨_, et_test (ev_op (ev_var rfl) ev_c rv_I0), fun hc H1 e1 => ?_, fun hc H1 e1 => ?_⟩
    · have hl : 0 < low := of_decide_eq_true hc
      obtain ⟨b1, b2, b3, b4, b5⟩ := G.bound hl
      have hB : base.natAbs < 2 ^ 300 := by have := Rw.natAbs_lt300 (show 0 ≤ base by omega) hw; exact this
      have wm : ∀ {i j : Int}, i.natAbs ≤ base.natAbs → j.natAbs ≤ base.natAbs → CMulW i j := fun hi hj => wide_mul (a := 300) (b := 300) (Nat.lt_of_le_of_lt hi hB) (Nat.lt_of_le_of_lt hj hB) (by decide) (by decide) (by decide)
      have wd : CDivW high low := wide_div (b := 300) hl (Nat.lt_of_le_of_lt b4 hB) (by decide) (by decide)
      refine ⟨fun σ' H' => ∃ r1 r2 r3, σ' = [some (.int number), some (.int base), some (.int low), some (.int (high - high / low * low)), some (.int behind), some (.int (ahead - high / low * behind)), r1, r2, r3] ∧ Ex H H', ?_, ?_⟩
      · rintro σ2 H2 ⟨r1, r2, r3, rfl, e2⟩
        have G2 := G.step hl
        have := G2.l0
        have := G2.lh
        exact ⟨_, by omega, low, _, behind, _, r1, r2, r3, rfl, G2, rfl, e2⟩
      · refine q_asg (ev_op (ev_var rfl) (ev_var rfl) (rv_I wd)) fun H2 e2 => ?_
        refine q_asg (ev_op (ev_var rfl) (ev_op (ev_var rfl) (ev_var rfl) (rv_I (wm b5 b4))) rv_I0) fun H3 e3 => ?_
        refine q_asg (ev_var rfl) fun H4 e4 => ?_
        refine q_asg (ev_var rfl) fun H5 e5 => ?_
        refine q_asg (ev_op (ev_var rfl) (ev_op (ev_var rfl) (ev_var rfl) (rv_I (wm b5 b2))) rv_I0) fun H6 e6 => ?_
        refine q_asg (ev_var rfl) fun H7 e7 => ?_
        refine s_asg (ev_var rfl) fun H8 e8 => ?_
        exact ⟨_, _, _, rfl, (((((((e.trans e1).trans e2).trans e3).trans e4).trans e5).trans e6).trans e7).trans e8⟩
    · have hl : ¬ 0 < low := of_decide_eq_false hc
      have h0 := G.l0
      have : low = 0 := by omega
      subst this
      refine q_when (et_test (ev_op (ev_var rfl) ev_c (rv_ne rfl))) (fun hn H2 e2 => ?_) (fun hn H2 e2 => ?_)
      · have hn' : ¬ high = 1 := by simpa using hn
        exact kE (fun c => hn' (G.end_.mpr c)) H2 ((e.trans e1).trans e2)
      · have hn' : high = 1 := by simpa using hn
        subst hn'
        refine s_ret (ev_op (ev_var rfl) (ev_var rfl) (rv_I (show 0 < base by omega))) fun H3 e3 => ?_
        have c := G.end_.mp rfl
        rw [← Rw.inv_eq c (show 0 < base by omega) (G.turns hb)]
        exact q c H3 (((e.trans e1).trans e2).trans e3)
theorem sv_turned {cN : Addr} {H : Hp} {a b : Int} (hb : 2 ≤ b) (hw : b < 2 ^ 300) (c : Rw.Cop a b) : SpV (sp_turned cN) [.int a, .int b] H (.int (Rw.inv a b)) := fun H1 e Q q E => ⟨a, b, rfl, hb, hw, fun _ => q, fun n => absurd c n⟩
theorem sd_turned {cN : Addr} {H : Hp} {E : XK} {a b : Int} (hb : 2 ≤ b) (hw : b < 2 ^ 300) (c : ¬ Rw.Cop a b) (k : ∀ H', Ex H H' → E (.ref cN) none H') : SpD (sp_turned cN) [.int a, .int b] H E :=
  fun H1 e Q => ⟨a, b, rfl, hb, hw, fun y => absurd y c, fun _ H' e' => k H' (e.trans e')⟩
end
end Rk
namespace Rk
open PySem PySem.Spec PyProof.Rows L2 Evl
section
variable {P : Program} {w : World} {K : PySem.W.Frag} {mg : Str → Option Value} {base : Heap}
/-! ### refused by any -/
def sp__law_refused_by_any : Sp := fun vs H Q _ => ∃ a b : Int, vs = [.int a, .int b] ∧ 2 ≤ b ∧ b < 2 ^ 300 ∧ ¬ Rw.Cop a b ∧ ∀ H', Ex H H' → Q (.bl true) H'
theorem ok__law_refused_by_any (L : Lk K mg) : FnOk P w K mg base (L2.CX P w) 2 L.f__law_refused_by_any L.d__law_refused_by_any ["_law_number", "_law_base"] sp__law_refused_by_any := by
  refine L.F__law_refused_by_any.okX sc__law_refused_by_any (fun vs H Q E h => ?_) (fun cdv A outer s H vs Q E hr h => ?_)
  · obtain ⟨_, _, rfl, _⟩ := h; rfl
  · obtain ⟨a, b, rfl, hb, hw, hc, q⟩ := h
    refine ⟨_, (pss_cons (ps_try_as (i := 2) rfl rfl sc__law_refused_by_any.nd rfl rfl ⟨by rfl, by decide, Or.inl L.g_RestError⟩ hk (fun W pn xe tk po => (pss_one (ps_expr (pe_callS (ok_turned L) (hr.mono (by decide)) (by rfl) L.g_turned L.k_turned L.b_turned (fun σ => passAt tk σ) (pa_cons (pv 0) (pa_cons (pv 1) pa_nil)))))) (fun a oe cls d pn hz hf => (pss_one (ps_ret (pe_callB (call_isE' hz hf) (by rfl) L.z_isinstance (by decide +kernel) (pa_cons (pv 2) (pa_cons (pe_bltn (v := .ty "ValueError") (by rfl) L.z_ValueError (by decide +kernel) rfl) pa_nil)))))))
      (pss_one (ps_ret pe_bl))), ?_⟩
    refine q_dv (D := _) (tz := _) (dv_callS (ea_cons (ev_var rfl) (ea_cons (ev_var rfl) ea_nil)) (sd_turned hb hw hc fun H1 e1 => ?_))
    refine ⟨true, PySem.W.exm_ref L.s_RestError L.h_RestError L.t_RestError L.u_NoTurn_RestError, fun _ x hx => ?_, fun z => nomatch z⟩
    refine s_ret (ev_cb (ea_cons (ev_var rfl) (ea_cons ev_c ea_nil)) (rc_isX L.i_NoTurn (rel_ty _) L.v_NoTurn)) fun H2 e2 => ?_
    exact q H2 (e1.trans e2)
end
end Rk
namespace Rk
open PySem PySem.Spec PyProof.Rows L2 Evl
section
variable {P : Program} {w : World} {K : PySem.W.Frag} {mg : Str → Option Value} {base : Heap}
theorem ty_int {H : Hp} {i : Int} : TyX K H (.int i) (.type "int") := .base (.int i)
def sp__law_whole : Sp := fun vs H Q _ => ∃ i : Int, vs = [.int i] ∧ ∀ H', Ex H H' → Q (.bl true) H'
theorem ok__law_whole (L : Lk K mg) : FnOk P w K mg base (L2.CX P w) 1 L.f__law_whole L.d__law_whole ["_law_found"] sp__law_whole := by
  refine L.F__law_whole.okX sc__law_whole (fun vs H Q E h => ?_) (fun cdv A outer s H vs Q E hr h => ?_)
  · obtain ⟨_, rfl, _⟩ := h; rfl
  · obtain ⟨i, rfl, q⟩ := h
    refine ⟨_, (pss_one (ps_ret (pe_and (pe_callB call_isi (by rfl) L.z_isinstance (by decide +kernel) (pa_cons (pv 0) (pa_cons (pe_bltn (v := .ty "int") (by rfl) L.z_int (by decide +kernel) rfl) pa_nil))) (pe_one (pe_not (pe_callB call_isi (by rfl) L.z_isinstance (by decide +kernel) (pa_cons (pv 0) (pa_cons (pe_bltn (v := .ty "bool") (by rfl) L.z_bool (by decide +kernel) rfl) pa_nil)))))))), ?_⟩
    refine s_ret (v := .bl true) (ev_is (ev_andV (a := true) (b := true) (ev_cb (ea_cons (ev_var rfl) (ea_cons ev_c ea_nil)) (rc_isi (.ty _) (fun _ _ => ty_int) (kit_ty (by decide +kernel))))
      (fun _ => ev_notV (a := false) (ev_cb (ea_cons (ev_var rfl) (ea_cons ev_c ea_nil)) (rc_isi (.ty _) (fun _ _ => ty_int) (kit_ty (by decide +kernel)))))) rfl) fun H1 e1 => q H1 e1
theorem sv_whole {H : Hp} {i : Int} : SpV sp__law_whole [.int i] H (.bl true) := fun H1 e Q q _ => ⟨i, rfl, q⟩
end
end Rk
namespace Rk
open PySem PySem.Spec PyProof.Rows L2 Evl
section
variable {P : Program} {w : World} {K : PySem.W.Frag} {mg : Str → Option Value} {base : Heap}
/-! ### common -/
def sp_common : Sp := fun vs H Q _ => ∃ one other : Int, vs = [.int one, .int other] ∧ 0 ≤ one ∧ 0 ≤ other ∧ ∀ H', Ex H H' → Q (.int (Int.gcd one other)) H'
theorem ok_common (L : Lk K mg) : FnOk P w K mg base (L2.CX P w) 1 L.f_common L.d_common ["one", "other"] sp_common := by
  refine L.F_common.okX sc_common (fun vs H Q E h => ?_) (fun cdv A outer s H vs Q E hr h => ?_)
  · obtain ⟨_, _, rfl, _⟩ := h; rfl
  · obtain ⟨one, other, rfl, h1, h2, q⟩ := h
    refine ⟨_, (pss_cons (ps_while (passes_of rfl) (pt_cmpR op_gt (pv 1) pe_int (nomark _)) (pss_cons (ps_set (i := 2) sc_common.nd rfl (Or.inl rfl) (pe_op op_mod (pv 0) (pv 1)))
      (pss_cons (ps_set (i := 0) sc_common.nd rfl (Or.inl rfl) (pv 1))
      (pss_one (ps_set (i := 1) sc_common.nd rfl (Or.inl rfl) (pv 2))))))
      (pss_one (ps_ret (pv 0)))), ?_⟩
    refine q_while (fun m σ' H' => ∃ (a b : Int) (r : Option V), σ' = [some (.int a), some (.int b), r] ∧ 0 ≤ a ∧ 0 ≤ b ∧ b.toNat = m ∧ Int.gcd a b = Int.gcd one other ∧ Ex H H') other.toNat ⟨one, other, none, rfl, h1, h2, rfl, rfl, Ex.refl H⟩ ?_
    rintro m σ' H' ⟨a, b, r, rfl, a0, b0, hm, hg, e⟩
    refine ⟨_, et_test (ev_op (ev_var rfl) ev_c rv_I0), fun hb H1 e1 => ?_, fun hb H1 e1 => ?_⟩
    · have hb' : 0 < b := of_decide_eq_true hb
      refine ⟨fun σ' H' => ∃ r, σ' = [some (.int b), some (.int (a % b)), r] ∧ Ex H H', ?_, ?_⟩
      · rintro σ2 H2 ⟨r, rfl, e2⟩
        have l1 := Int.emod_nonneg a (show b ≠ 0 by omega)
        have l2 := Int.emod_lt_of_pos a hb'
        exact ⟨(a % b).toNat, by omega, b, a % b, r, rfl, b0, l1, rfl, by rw [← Rw.gcd_emod]; exact hg, e2⟩
      · refine q_asg (ev_op (ev_var rfl) (ev_var rfl) (rv_I hb')) fun H2 e2 => ?_
        refine q_asg (ev_var rfl) fun H3 e3 => ?_
        refine s_asg (ev_var rfl) fun H4 e4 => ?_
        exact ⟨_, rfl, (((e.trans e1).trans e2).trans e3).trans e4⟩
    · have hb' : ¬ 0 < b := of_decide_eq_false hb
      have : b = 0 := by omega
      subst this
      refine s_ret (ev_var rfl) fun H2 e2 => ?_
      have : (Int.gcd one other : Int) = a := by rw [← hg]; exact Rw.gcd_zero a a0
      rw [← this]
      exact q H2 ((e.trans e1).trans e2)
theorem sv_common {H : Hp} {a b : Int} (h1 : 0 ≤ a) (h2 : 0 ≤ b) : SpV sp_common [.int a, .int b] H (.int (Int.gcd a b)) := fun H1 e Q q _ => ⟨a, b, rfl, h1, h2, q⟩
end
end Rk
namespace Rk
open PySem PySem.Spec PyProof.Rows L2 Evl
section
variable {P : Program} {w : World} {K : PySem.W.Frag} {mg : Str → Option Value} {base : Heap}
/-! ### the law -/
def sp_law (K : PySem.W.Frag) : Sp := fun vs H Q _ => ∃ (a : Addr) (ns : List Int), vs = [.ref a] ∧ SqL K H a (ns.map V.int) ∧ ns.length ≤ 63 ∧ ∀ H', Q (.bl true) H'
theorem small_abs {i n : Int} (hn : 0 < n) : 0 ≤ (if i < 0 then -i else i) % n ∧ (if i < 0 then -i else i) % n < n := ⟨Int.emod_nonneg _ (by omega), Int.emod_lt_of_pos _ hn⟩
theorem ten60 : (0 : Int) < 10 ^ (60 : Int).toNat ∧ (10 : Int) ^ (60 : Int).toNat < 2 ^ 200 := by decide +kernel
theorem two200 : (2 : Int) ^ 200 + 2 < 2 ^ 300 ∧ (90 : Int) * 2 ^ 200 < 2 ^ 300 := by decide +kernel
theorem mulW_small {i j : Int} (h1 : 0 ≤ i) (h2 : i < 2 ^ 300) (h3 : 0 ≤ j) (h4 : j < 2 ^ 300) : CMulW i j := wide_mul (a := 300) (b := 300) (Rw.natAbs_lt300 h1 h2) (Rw.natAbs_lt300 h3 h4) (by decide) (by decide) (by decide)
theorem ok_law (L : Lk K mg) : FnOk P w K mg base (L2.CX P w) 3 L.f_law L.d_law ["_law_script"] (sp_law K) := by
  refine L.F_law.okX sc_law (fun vs H Q E h => ?_) (fun cdv A outer s H vs Q E hr h => ?_)
  · obtain ⟨_, _, rfl, _⟩ := h; rfl
  · obtain ⟨a, ns, rfl, hS, hlen, q⟩ := h
    refine ⟨_, (pss_cons (ps_set (i := 1) sc_law.nd rfl (Or.inl rfl) (pe_op op_mod (pe_call (E := E) (ok__law_cell_at L) (hr.mono (by decide)) (by rfl) L.g__law_cell_at L.k__law_cell_at L.b__law_cell_at .nil hx (pa_cons (pv 0) (pa_cons pe_int pa_nil))) pe_int))
      (pss_cons (ps_set (i := 2) sc_law.nd rfl (Or.inl rfl) (pe_op op_mulW (pv 1) (pe_op op_mod (pe_callB call_abs (by rfl) L.z_abs (by decide +kernel) (pa_cons (pe_call (E := E) (ok__law_cell_at L) (hr.mono (by decide)) (by rfl) L.g__law_cell_at L.k__law_cell_at L.b__law_cell_at .nil hx (pa_cons (pv 0) (pa_cons pe_int pa_nil))) pa_nil)) (pe_op op_pow pe_int pe_int))))
      (pss_cons (ps_set (i := 3) sc_law.nd rfl (Or.inl rfl) (pe_op op_mulW (pv 1) (pe_op op_mod (pe_callB call_abs (by rfl) L.z_abs (by decide +kernel) (pa_cons (pe_call (E := E) (ok__law_cell_at L) (hr.mono (by decide)) (by rfl) L.g__law_cell_at L.k__law_cell_at L.b__law_cell_at .nil hx (pa_cons (pv 0) (pa_cons pe_int pa_nil))) pa_nil)) (pe_op op_pow pe_int pe_int))))
      (pss_cons (ps_set (i := 4) sc_law.nd rfl (Or.inl rfl) (pe_call (E := E) (ok_common L) (hr.mono (by decide)) (by rfl) L.g_common L.k_common L.b_common .nil hx (pa_cons (pv 2) (pa_cons (pv 3) pa_nil))))
      (pss_cons (ps_if (PW.pt (pw_or (pt_not (pt_val (pe_call (E := E) (ok__law_whole L) (hr.mono (by decide)) (by rfl) L.g__law_whole L.k__law_whole L.b__law_whole .nil hx (pa_cons (pv 4) pa_nil)))) (pw_or1 (pt_cmpR op_ne (pv 4) (pe_call (E := E) (ok__law_common L) (hr.mono (by decide)) (by rfl) L.g__law_common L.k__law_common L.b__law_common .nil hx (pa_cons (pv 2) (pa_cons (pv 3) pa_nil))) (nomark _))))) (pss_one (ps_ret pe_bl)) pss_nil)
      (pss_cons (ps_set (i := 5) sc_law.nd rfl (Or.inl rfl) (pe_op op_add pe_int (pe_op op_mod (pe_callB call_abs (by rfl) L.z_abs (by decide +kernel) (pa_cons (pe_call (E := E) (ok__law_cell_at L) (hr.mono (by decide)) (by rfl) L.g__law_cell_at L.k__law_cell_at L.b__law_cell_at .nil hx (pa_cons (pv 0) (pa_cons pe_int pa_nil))) pa_nil)) (pe_op op_pow pe_int pe_int))))
      (pss_cons (ps_if (pt_cmpR op_eq (pe_op op_mod (pe_op op_fdiv (pe_call (E := E) (ok__law_cell_at L) (hr.mono (by decide)) (by rfl) L.g__law_cell_at L.k__law_cell_at L.b__law_cell_at .nil hx (pa_cons (pv 0) (pa_cons pe_int pa_nil))) pe_int) pe_int) pe_int (nomark _)) (pss_one (ps_set (i := 5) sc_law.nd rfl (Or.inl rfl) (pe_op op_add pe_int (pe_op op_mod (pv 5) pe_int)))) pss_nil)
      (pss_cons (ps_set (i := 6) sc_law.nd rfl (Or.inl rfl) pe_bl)
      (pss_cons (ps_set (i := 7) sc_law.nd rfl (Or.inl rfl) pe_int)
      (pss_cons (ps_try_only rfl rfl ⟨by rfl, by decide, Or.inl L.g_NoTurn⟩ hk (fun W pn xe tk po => (pss_one (ps_set (i := 7) sc_law.nd rfl (Or.inl rfl) (pe_callS (ok_turned L) (hr.mono (by decide)) (by rfl) L.g_turned L.k_turned L.b_turned (fun σ => passAt tk σ) (pa_cons (pv 2) (pa_cons (pv 5) pa_nil)))))) (fun a oe cls d pn hz hf => (pss_one (ps_set (i := 6) sc_law.nd rfl (Or.inl rfl) pe_bl))))
      (pss_cons (ps_if (pt_cmpR op_gt (pe_call (E := E) (ok__law_common L) (hr.mono (by decide)) (by rfl) L.g__law_common L.k__law_common L.b__law_common .nil hx (pa_cons (pv 2) (pa_cons (pv 5) pa_nil))) pe_int (nomark _)) (pss_one (ps_ret (pe_and (pv 6) (pe_one (pe_call (E := E) (ok__law_refused_by_any L) (hr.mono (by decide)) (by rfl) L.g__law_refused_by_any L.k__law_refused_by_any L.b__law_refused_by_any .nil hx (pa_cons (pv 2) (pa_cons (pv 5) pa_nil))))))) pss_nil)
      (pss_one (ps_ret (pe_and (pe_not (pv 6)) (pe_and (pe_call (E := E) (ok__law_whole L) (hr.mono (by decide)) (by rfl) L.g__law_whole L.k__law_whole L.b__law_whole .nil hx (pa_cons (pv 7) pa_nil)) (pe_and (pe_chain op_lt op_lt pe_int (pv 7) (pv 5)) (pe_one (pe_cmpR op_eq (pe_op op_mod (pe_op op_mulW (pv 7) (pv 2)) (pv 5)) pe_int (nomark _))))))))))))))))))), ?_⟩
    have big : (90 : Int) * 2 ^ 200 < 2 ^ 300 := two200.2
    have big2 : (2 : Int) ^ 200 + 2 < 2 ^ 300 := two200.1
    have t60 := ten60
    refine q_asg (ev_op (ev_cell rfl hS) ev_c (rv_I (show (0 : Int) < 90 by decide))) fun H1 e1 => ?_
    have b0 : 0 ≤ cell ns 0 % 90 := Int.emod_nonneg _ (by decide)
    have b1 : cell ns 0 % 90 < 90 := Int.emod_lt_of_pos _ (by decide)
    generalize hb : cell ns 0 % 90 = both at *
    have pw : ∀ {H : Hp}, RV (rI CPow fun i j => V.int (i ^ j.toNat)) (.int 10) (.int 60) H (.int (10 ^ (60 : Int).toNat)) := fun {H} => rv_I ⟨by decide, by decide, by decide⟩
    generalize hT : (10 : Int) ^ (60 : Int).toNat = T at *
    have T0 : 0 < T := t60.1
    have T1 : T < 2 ^ 200 := t60.2
    have S1 := small_abs (i := cell ns 1) T0
    have S2 := small_abs (i := cell ns 2) T0
    have S3 := small_abs (i := cell ns 3) T0
    refine q_asg (ev_op (ev_var rfl) (ev_op (ev_cb (ea_cons (ev_cell rfl (ex_l e1 hS)) ea_nil) rc_abs) (ev_op ev_c ev_c pw) (rv_I T0)) (rv_I ?_)) fun H2 e2 => ?_
    · exact mulW_small b0 (by omega) S1.1 (by omega)
    have eA2 := e1.trans e2
    refine q_asg (ev_op (ev_var rfl) (ev_op (ev_cb (ea_cons (ev_cell rfl (ex_l eA2 hS)) ea_nil) rc_abs) (ev_op ev_c ev_c pw) (rv_I T0)) (rv_I ?_)) fun H3 e3 => ?_
    · exact mulW_small b0 (by omega) S2.1 (by omega)
    have eA3 := eA2.trans e3
    generalize (if cell ns 1 < 0 then -cell ns 1 else cell ns 1) % T = x1 at *
    generalize (if cell ns 2 < 0 then -cell ns 2 else cell ns 2) % T = x2 at *
    have m1 : both * x1 ≤ 90 * 2 ^ 200 := Int.mul_le_mul (by omega) (by omega) S1.1 (by omega)
    have m2 : both * x2 ≤ 90 * 2 ^ 200 := Int.mul_le_mul (by omega) (by omega) S2.1 (by omega)
    have n1 : 0 ≤ both * x1 := Int.mul_nonneg b0 S1.1
    have n2 : 0 ≤ both * x2 := Int.mul_nonneg b0 S2.1
    generalize both * x1 = one at *
    generalize both * x2 = other at *
    refine q_asg (ev_call0 (ea_cons (ev_var rfl) (ea_cons (ev_var rfl) ea_nil)) (sv_common n1 n2)) fun H4 e4 => ?_
    refine q_when (b := false) (et_is (et_or (et_not (et_B (ev_call0 (ea_cons (ev_var rfl) ea_nil) sv_whole))) (fun _ => et_test (ev_op (ev_var rfl) (ev_call0 (ea_cons (ev_var rfl) (ea_cons (ev_var rfl) ea_nil)) (sv__law_common n1 n2)) (rv_ne rfl)))) (by simp)) (fun z => nomatch z) (fun _ H5 e5 => ?_)
    have eA5 := (eA3.trans e4).trans e5
    refine q_asg (ev_op ev_c (ev_op (ev_cb (ea_cons (ev_cell rfl (ex_l eA5 hS)) ea_nil) rc_abs) (ev_op ev_c ev_c pw) (rv_I T0)) rv_I0) fun H6 e6 => ?_
    have eA6 := eA5.trans e6
    generalize (if cell ns 3 < 0 then -cell ns 3 else cell ns 3) % T = x3 at *
    refine q_ifI (et_test (ev_op (ev_op (ev_op (ev_cell rfl (ex_l eA6 hS)) ev_c (rv_I ⟨by decide, by decide⟩)) ev_c (rv_I (show (0 : Int) < 3 by decide))) ev_c (rv_eq rfl))) rfl (fun _ => ev_op ev_c (ev_op (ev_var rfl) ev_c (rv_I (show (0 : Int) < 58 by decide))) rv_I0) fun H7 e7 => ?_
    have B : ∃ b : Int, 2 ≤ b ∧ b < 2 ^ 300 ∧ (if decide (V.int (cell ns 0 / 90 % 3) = V.int 1) = true then 2 + (2 + x3) % 58 else 2 + x3) = b := by
      refine ⟨_, ?_, ?_, rfl⟩
      · split
        · have := Int.emod_nonneg (2 + x3) (show (58 : Int) ≠ 0 by decide); omega
        · omega
      · split
        · have := Int.emod_lt_of_pos (2 + x3) (show (0 : Int) < 58 by decide); omega
        · omega
    obtain ⟨bs, hb2, hbw, eb⟩ := B
    rw [eb]
    refine q_asg ev_c fun H8 e8 => ?_
    refine q_asg ev_c fun H9 e9 => ?_
    have eA9 := ((eA6.trans e7).trans e8).trans e9
    have g0 : 0 ≤ bs := by omega
    by_cases hc : Rw.Cop one bs
    · refine s_asg (ev_callS (ea_cons (ev_var rfl) (ea_cons (ev_var rfl) ea_nil)) (sv_turned hb2 hbw hc)) fun H10 e10 => ?_
      have tp := Rw.inv_spec hc (show 0 < bs by omega)
      have t0 := tp.pos hb2
      have t1 := tp.hi
      have te := tp.eq
      rw [Int.emod_eq_of_lt (a := 1) (by decide) (by omega)] at te
      generalize Rw.inv one bs = back at *
      have hg : (Int.gcd one bs : Int) = 1 := by rw [show Int.gcd one bs = 1 from hc]; rfl
      refine q_when (b := false) (et_is (et_test (ev_op (ev_call0 (ea_cons (ev_var rfl) (ea_cons (ev_var rfl) ea_nil)) (sv__law_common n1 g0)) ev_c rv_I0)) (by rw [hg]; rfl)) (fun z => nomatch z) (fun _ H11 e11 => ?_)
      refine s_ret (v := .bl true) (ev_is (ev_andV (a := true) (b := true) (ev_notV (a := false) (ev_var rfl)) fun _ => ev_is (ev_andV (a := true) (b := true) (ev_call0 (ea_cons (ev_var rfl) ea_nil) sv_whole) fun _ =>
        ev_is (ev_andV (a := true) (b := true) (ev_is (ev_chain ev_c (ev_var rfl) rv_I0 (fun _ => ev_var rfl) (fun _ => rv_I0)) ?_) fun _ => ev_is (ev_op (ev_op (ev_op (ev_var rfl) (ev_var rfl) (rv_I ?_)) (ev_var rfl) (rv_I (show 0 < bs by omega))) ev_c (rv_eq rfl)) ?_) rfl) rfl) rfl) fun H12 _ => q H12
      · have d1 : decide ((0 : Int) < back) = true := decide_eq_true t0
        have d2 : decide (back < bs) = true := decide_eq_true t1
        rw [d1, d2]
        rfl
      · exact mulW_small (by omega) (by omega) n1 (by omega)
      · rw [te]
        simp
    · refine s_dvA (dv_callS (ea_cons (ev_var rfl) (ea_cons (ev_var rfl) ea_nil)) (sd_turned hb2 hbw hc fun H10 e10 => ?_))
      refine ⟨true, exm_yes L.s_NoTurn L.h_NoTurn L.t_NoTurn L.u_NoTurn_NoTurn, fun _ x hx => ?_, fun z => nomatch z⟩
      refine s_asg ev_c fun H11 e11 => ?_
      have hg : ¬ (Int.gcd one bs : Int) = 1 := by
        intro z
        refine hc ?_
        show Int.gcd one bs = 1
        omega
      have hg2 : ¬ (Int.gcd one bs : Int) = 0 := fun z => by
        have z' : Int.gcd one bs = 0 := by omega
        have := (Int.gcd_eq_zero_iff.mp z').2
        omega
      refine q_when (b := true) (et_is (et_test (ev_op (ev_call0 (ea_cons (ev_var rfl) (ea_cons (ev_var rfl) ea_nil)) (sv__law_common n1 g0)) ev_c rv_I0)) (decide_eq_true (by omega))) (fun _ H12 e12 => ?_) (fun z => nomatch z)
      refine s_ret (v := .bl true) (ev_is (ev_andV (a := true) (b := true) (ev_var rfl) fun _ => ev_call0 (ea_cons (ev_var rfl) (ea_cons (ev_var rfl) ea_nil)) fun H13 e13 Q' q' _ => ⟨one, bs, rfl, hb2, hbw, hc, q'⟩) rfl) fun H14 _ => q H14
end
end Rk
namespace Rk
open PySem PySem.Spec PyProof.Rows L2 Evl
section
variable {P : Program} {w : World} {K : PySem.W.Frag} {mg : Str → Option Value} {base : Heap}
theorem all_mk {l : PySem.W.OpenLaw} {w : World} {K : PySem.W.Frag} {h : Heap} {mg : Str → Option Value} {fa f_common f_turned f__law_cell_at f__law_whole f__law_common f__law_refused_by_any f_law c_RestError c_NoTurn : Addr} (X : K.In h) (G : h.Ns mainGlobals mg) (hfa : mg "law" = some (.ref fa))
    {od_common an_common od_turned an_turned od__law_cell_at an__law_cell_at od__law_whole an__law_whole od__law_common an__law_common od__law_refused_by_any an__law_refused_by_any od_law an_law : Option Addr} {sl_common sl_turned sl__law_cell_at sl__law_whole sl__law_common sl__law_refused_by_any sl_law : Array (Option Value)} {oc_common kV_common dc_common pm_common cd_common ct_common oc_turned kV_turned dc_turned pm_turned cd_turned ct_turned oc__law_cell_at kV__law_cell_at dc__law_cell_at pm__law_cell_at cd__law_cell_at ct__law_cell_at oc__law_whole kV__law_whole dc__law_whole pm__law_whole cd__law_whole ct__law_whole oc__law_common kV__law_common dc__law_common pm__law_common cd__law_common ct__law_common oc__law_refused_by_any kV__law_refused_by_any dc__law_refused_by_any pm__law_refused_by_any cd__law_refused_by_any ct__law_refused_by_any oc_law kV_law dc_law pm_law cd_law ct_law : Value}
    (a_common : PySem.W.nsIn K mainGlobals "common" = some (some (.ref f_common)))
    (l_common : K.lookup f_common = some ⟨oc_common, od_common, .func (PySem.W.fnOf "common" "common" (defArgs s_common) (defBody s_common) (defScope s_common) .none kV_common dc_common pm_common an_common cd_common ct_common), sl_common⟩)
    (q_common : PySem.W.codeIn K cd_common "common" = true)
    (k_common : PySem.W.keepIn K (.ref f_common) = true)
    (a_turned : PySem.W.nsIn K mainGlobals "turned" = some (some (.ref f_turned)))
    (l_turned : K.lookup f_turned = some ⟨oc_turned, od_turned, .func (PySem.W.fnOf "turned" "turned" (defArgs s_turned) (defBody s_turned) (defScope s_turned) .none kV_turned dc_turned pm_turned an_turned cd_turned ct_turned), sl_turned⟩)
    (q_turned : PySem.W.codeIn K cd_turned "turned" = true)
    (k_turned : PySem.W.keepIn K (.ref f_turned) = true)
    (a__law_cell_at : PySem.W.nsIn K mainGlobals "_law_cell_at" = some (some (.ref f__law_cell_at)))
    (l__law_cell_at : K.lookup f__law_cell_at = some ⟨oc__law_cell_at, od__law_cell_at, .func (PySem.W.fnOf "_law_cell_at" "_law_cell_at" (defArgs s__law_cell_at) (defBody s__law_cell_at) (defScope s__law_cell_at) .none kV__law_cell_at dc__law_cell_at pm__law_cell_at an__law_cell_at cd__law_cell_at ct__law_cell_at), sl__law_cell_at⟩)
    (q__law_cell_at : PySem.W.codeIn K cd__law_cell_at "_law_cell_at" = true)
    (k__law_cell_at : PySem.W.keepIn K (.ref f__law_cell_at) = true)
    (a__law_whole : PySem.W.nsIn K mainGlobals "_law_whole" = some (some (.ref f__law_whole)))
    (l__law_whole : K.lookup f__law_whole = some ⟨oc__law_whole, od__law_whole, .func (PySem.W.fnOf "_law_whole" "_law_whole" (defArgs s__law_whole) (defBody s__law_whole) (defScope s__law_whole) .none kV__law_whole dc__law_whole pm__law_whole an__law_whole cd__law_whole ct__law_whole), sl__law_whole⟩)
    (q__law_whole : PySem.W.codeIn K cd__law_whole "_law_whole" = true)
    (k__law_whole : PySem.W.keepIn K (.ref f__law_whole) = true)
    (a__law_common : PySem.W.nsIn K mainGlobals "_law_common" = some (some (.ref f__law_common)))
    (l__law_common : K.lookup f__law_common = some ⟨oc__law_common, od__law_common, .func (PySem.W.fnOf "_law_common" "_law_common" (defArgs s__law_common) (defBody s__law_common) (defScope s__law_common) .none kV__law_common dc__law_common pm__law_common an__law_common cd__law_common ct__law_common), sl__law_common⟩)
    (q__law_common : PySem.W.codeIn K cd__law_common "_law_common" = true)
    (k__law_common : PySem.W.keepIn K (.ref f__law_common) = true)
    (a__law_refused_by_any : PySem.W.nsIn K mainGlobals "_law_refused_by_any" = some (some (.ref f__law_refused_by_any)))
    (l__law_refused_by_any : K.lookup f__law_refused_by_any = some ⟨oc__law_refused_by_any, od__law_refused_by_any, .func (PySem.W.fnOf "_law_refused_by_any" "_law_refused_by_any" (defArgs s__law_refused_by_any) (defBody s__law_refused_by_any) (defScope s__law_refused_by_any) .none kV__law_refused_by_any dc__law_refused_by_any pm__law_refused_by_any an__law_refused_by_any cd__law_refused_by_any ct__law_refused_by_any), sl__law_refused_by_any⟩)
    (q__law_refused_by_any : PySem.W.codeIn K cd__law_refused_by_any "_law_refused_by_any" = true)
    (k__law_refused_by_any : PySem.W.keepIn K (.ref f__law_refused_by_any) = true)
    (a_law : PySem.W.nsIn K mainGlobals "law" = some (some (.ref f_law)))
    (l_law : K.lookup f_law = some ⟨oc_law, od_law, .func (PySem.W.fnOf "law" "law" (defArgs s_law) (defBody s_law) (defScope s_law) .none kV_law dc_law pm_law an_law cd_law ct_law), sl_law⟩)
    (q_law : PySem.W.codeIn K cd_law "law" = true)
    (k_law : PySem.W.keepIn K (.ref f_law) = true)
    (g_RestError : PySem.W.nsIn K mainGlobals "RestError" = some (some (.ref c_RestError)))
    (x_RestError : PySem.W.excIn K c_RestError [.type "ValueError", .type "Exception", .type "BaseException", .type "object"] "ValueError.__new__" = true)
    (e_RestError : PySem.W.keepIn K (.ref c_RestError) = true)
    (s_RestError : PySem.W.subIn K (.ref c_RestError) (.type "BaseException") = some true)
    (t_RestError : PySem.W.typeIn K (.ref c_RestError) = some (.type "type"))
    (h_RestError : PySem.W.hasDictIn K c_RestError = true)
    (g_NoTurn : PySem.W.nsIn K mainGlobals "NoTurn" = some (some (.ref c_NoTurn)))
    (x_NoTurn : PySem.W.excIn K c_NoTurn [.type "ValueError", .type "Exception", .type "BaseException", .type "object"] "ValueError.__new__" = true)
    (e_NoTurn : PySem.W.keepIn K (.ref c_NoTurn) = true)
    (s_NoTurn : PySem.W.subIn K (.ref c_NoTurn) (.type "BaseException") = some true)
    (t_NoTurn : PySem.W.typeIn K (.ref c_NoTurn) = some (.type "type"))
    (h_NoTurn : PySem.W.hasDictIn K c_NoTurn = true)
    (u_NoTurn_NoTurn : PySem.W.subIn K (.ref c_NoTurn) (.ref c_NoTurn) = some true)
    (u_NoTurn_RestError : PySem.W.subIn K (.ref c_NoTurn) (.ref c_RestError) = some true)
    (ig_NoTurn : PySem.W.findIn K (.ref c_NoTurn) "__getattribute__" = some (some (.builtin "BaseException.__getattribute__")))
    (ik_NoTurn : PySem.W.findIn K (.ref c_NoTurn) "__getattr__" = some none)
    (ia_NoTurn : PySem.W.findIn K (.ref c_NoTurn) "__class__" = some (some (.builtin "object.__class__")))
    (im_NoTurn : PySem.W.mroIn K c_NoTurn (.type "object") = some true)
    (v_NoTurn : PySem.W.subIn K (.ref c_NoTurn) (.type "ValueError") = some true)
    (in_ : PySem.W.specialIn K (.builtin "object.__class__") "__get__" = some (some (.builtin "getset_descriptor.__get__")))
    (it_ : PySem.W.takesIn K (.builtin "object.__class__") = some true)
    (z_ValueError : PySem.W.nsIn K mainGlobals "ValueError" = some none)
    (z_abs : PySem.W.nsIn K mainGlobals "abs" = some none)
    (z_bool : PySem.W.nsIn K mainGlobals "bool" = some none)
    (z_int : PySem.W.nsIn K mainGlobals "int" = some none)
    (z_isinstance : PySem.W.nsIn K mainGlobals "isinstance" = some none)
    (z_len : PySem.W.nsIn K mainGlobals "len" = some none) :
    ∃ fd : FuncData, (∀ (s : Shared) (v : Value), BindsTo s fd ⟨[v], []⟩ [("_law_script", v)]) ∧ ∀ base : Heap, K.In base → base.Ns mainGlobals mg → FnOk l.prog w K mg base (L2.CX l.prog w) 3 fa fd ["_law_script"] (sp_law K) := by
  have e := hfa.symm.trans (PySem.W.mg_of X G a_law)
  cases e
  have F_common := fun_mk (st := s_common) l_common q_common k_common
  have F_turned := fun_mk (st := s_turned) l_turned q_turned k_turned
  have F__law_cell_at := fun_mk (st := s__law_cell_at) l__law_cell_at q__law_cell_at k__law_cell_at
  have F__law_whole := fun_mk (st := s__law_whole) l__law_whole q__law_whole k__law_whole
  have F__law_common := fun_mk (st := s__law_common) l__law_common q__law_common k__law_common
  have F__law_refused_by_any := fun_mk (st := s__law_refused_by_any) l__law_refused_by_any q__law_refused_by_any k__law_refused_by_any
  have F_law := fun_mk (st := s_law) l_law q_law k_law
  refine ⟨_, fun s v => ?_, fun base _ _ => ok_law (K := K) (mg := mg) { f_common := f_common, d_common := _, F_common := F_common, b_common := (F_common.binds (ps := ["one", "other"]) fun _ _ _ _ _ _ us hl => match us, hl with | [_, _], _ => rfl), f_turned := f_turned, d_turned := _, F_turned := F_turned, b_turned := (F_turned.binds (ps := ["number", "base"]) fun _ _ _ _ _ _ us hl => match us, hl with | [_, _], _ => rfl), f__law_cell_at := f__law_cell_at, d__law_cell_at := _, F__law_cell_at := F__law_cell_at, b__law_cell_at := (F__law_cell_at.binds (ps := ["_law_script", "_law_k"]) fun _ _ _ _ _ _ us hl => match us, hl with | [_, _], _ => rfl), f__law_whole := f__law_whole, d__law_whole := _, F__law_whole := F__law_whole, b__law_whole := (F__law_whole.binds (ps := ["_law_found"]) fun _ _ _ _ _ _ us hl => match us, hl with | [_], _ => rfl), f__law_common := f__law_common, d__law_common := _, F__law_common := F__law_common, b__law_common := (F__law_common.binds (ps := ["_law_one", "_law_other"]) fun _ _ _ _ _ _ us hl => match us, hl with | [_, _], _ => rfl), f__law_refused_by_any := f__law_refused_by_any, d__law_refused_by_any := _, F__law_refused_by_any := F__law_refused_by_any, b__law_refused_by_any := (F__law_refused_by_any.binds (ps := ["_law_number", "_law_base"]) fun _ _ _ _ _ _ us hl => match us, hl with | [_, _], _ => rfl), f_law := _, d_law := _, F_law := F_law, b_law := (F_law.binds (ps := ["_law_script"]) fun _ _ _ _ _ _ us hl => match us, hl with | [_], _ => rfl), g_common := PySem.W.mg_of X G a_common, k_common := k_common, g_turned := PySem.W.mg_of X G a_turned, k_turned := k_turned, g__law_cell_at := PySem.W.mg_of X G a__law_cell_at, k__law_cell_at := k__law_cell_at, g__law_whole := PySem.W.mg_of X G a__law_whole, k__law_whole := k__law_whole, g__law_common := PySem.W.mg_of X G a__law_common, k__law_common := k__law_common, g__law_refused_by_any := PySem.W.mg_of X G a__law_refused_by_any, k__law_refused_by_any := k__law_refused_by_any, g_law := PySem.W.mg_of X G a_law, k_law := k_law, c_RestError := c_RestError, g_RestError := PySem.W.mg_of X G g_RestError, x_RestError := x_RestError, e_RestError := e_RestError, s_RestError := s_RestError, t_RestError := t_RestError, h_RestError := h_RestError, c_NoTurn := c_NoTurn, g_NoTurn := PySem.W.mg_of X G g_NoTurn, x_NoTurn := x_NoTurn, e_NoTurn := e_NoTurn, s_NoTurn := s_NoTurn, t_NoTurn := t_NoTurn, h_NoTurn := h_NoTurn, u_NoTurn_NoTurn := u_NoTurn_NoTurn, u_NoTurn_RestError := u_NoTurn_RestError, i_NoTurn := ⟨ig_NoTurn, ik_NoTurn, s_NoTurn, h_NoTurn, ia_NoTurn, in_, it_, im_NoTurn⟩, v_NoTurn := kit_exT (by decide +kernel) v_NoTurn, z_ValueError := PySem.W.mg_none_of X G z_ValueError, z_abs := PySem.W.mg_none_of X G z_abs, z_bool := PySem.W.mg_none_of X G z_bool, z_int := PySem.W.mg_none_of X G z_int, z_isinstance := PySem.W.mg_none_of X G z_isinstance, z_len := PySem.W.mg_none_of X G z_len }⟩
  exact .of_eq rfl
theorem walk {l : PySem.W.OpenLaw} {q : Program} {loose : List Str} {XP : (Str → Option Value) → Heap → Prop} {YP : World → Heap → Prop} {d : DefRec} {K : Params → PySem.W.Frag} (hn : l.most = some 63) (hdf : d.params.defaults = [])
    (hY : ∀ (w : World) (h : Heap), YP w h → (K w.params).In h)
    (F : ∀ (w : World) (mg : Str → Option Value) (fa : Addr) (h : Heap), (K w.params).In h → h.Ns mainGlobals mg → mg d.name = some (.ref fa) →
      ∃ fd : FuncData, (∀ (s : Shared) (u : Value), BindsTo s fd ⟨[u], []⟩ [("_law_script", u)]) ∧ ∀ base : Heap, (K w.params).In base → base.Ns mainGlobals mg → FnOk l.prog w (K w.params) mg base (L2.CX l.prog w) 3 fa fd ["_law_script"] (sp_law (K w.params))) :
    PySem.W.WalkO q loose XP YP l.row.toRowW d [] (fun f vs => PySem.call f vs) :=
  L2.walk_of (n := 63) (k := 3) (x := "_law_script") (CX := fun w => L2.CX l.prog w) (sp := fun w => sp_law (K w.params)) hn (by decide) hdf ⟨rfl, by decide, by decide⟩ hY F (fun _ _ a ns hl _ hS => ⟨a, ns, rfl, hS, hl, fun _ => rfl⟩) fun _ _ _ _ _ ⟨_, _, _, _, _, _, _, _, _, _, _, _, z⟩ => z
end
end Rk
open PySem PySem.W PyProof.Rows in
set_option maxRecDepth 100000 in
set_option maxHeartbeats 0 in
theorem PySem.Challenge.cw_restrow_k01_turned_holds : PySem.Challenge.rw_restrow_k01_turned.Holds := by
  w_on; o_law; k_head; (case hw => w_witness2)
  k_fill
  refine Rk.walk (l := PySem.Challenge.rw_restrow_k01_turned) rfl rfl (fun w h Y => PySem.W.kIn_of Y) ?F
  case F =>
    intro w mg fa h KX G hmg
    refine' Rk.all_mk KX G hmg ?a_common ?l_common ?q_common ?k_common ?a_turned ?l_turned ?q_turned ?k_turned ?a__law_cell_at ?l__law_cell_at ?q__law_cell_at ?k__law_cell_at ?a__law_whole ?l__law_whole ?q__law_whole ?k__law_whole ?a__law_common ?l__law_common ?q__law_common ?k__law_common ?a__law_refused_by_any ?l__law_refused_by_any ?q__law_refused_by_any ?k__law_refused_by_any ?a_law ?l_law ?q_law ?k_law ?g_RestError ?x_RestError ?e_RestError ?s_RestError ?t_RestError ?h_RestError ?g_NoTurn ?x_NoTurn ?e_NoTurn ?s_NoTurn ?t_NoTurn ?h_NoTurn ?u_NoTurn_NoTurn ?u_NoTurn_RestError ?ig_NoTurn ?ik_NoTurn ?ia_NoTurn ?im_NoTurn ?v_NoTurn ?in_ ?it_ ?z_ValueError ?z_abs ?z_bool ?z_int ?z_isinstance ?z_len
    (case a_common => k_is)
    (case l_common => k_is)
    (case q_common => k_is)
    (case k_common => k_is)
    (case a_turned => k_is)
    (case l_turned => k_is)
    (case q_turned => k_is)
    (case k_turned => k_is)
    (case a__law_cell_at => k_is)
    (case l__law_cell_at => k_is)
    (case q__law_cell_at => k_is)
    (case k__law_cell_at => k_is)
    (case a__law_whole => k_is)
    (case l__law_whole => k_is)
    (case q__law_whole => k_is)
    (case k__law_whole => k_is)
    (case a__law_common => k_is)
    (case l__law_common => k_is)
    (case q__law_common => k_is)
    (case k__law_common => k_is)
    (case a__law_refused_by_any => k_is)
    (case l__law_refused_by_any => k_is)
    (case q__law_refused_by_any => k_is)
    (case k__law_refused_by_any => k_is)
    (case a_law => k_is)
    (case l_law => k_is)
    (case q_law => k_is)
    (case k_law => k_is)
    (case g_RestError => k_is)
    (case x_RestError => k_exc)
    (case e_RestError => k_is)
    (case s_RestError => k_is)
    (case t_RestError => k_is)
    (case h_RestError => k_is)
    (case g_NoTurn => k_is)
    (case x_NoTurn => k_exc)
    (case e_NoTurn => k_is)
    (case s_NoTurn => k_is)
    (case t_NoTurn => k_is)
    (case h_NoTurn => k_is)
    (case u_NoTurn_NoTurn => k_is)
    (case u_NoTurn_RestError => k_is)
    (case ig_NoTurn => k_is)
    (case ik_NoTurn => k_is)
    (case ia_NoTurn => k_is)
    (case im_NoTurn => k_is)
    (case v_NoTurn => k_is)
    (case in_ => k_is)
    (case it_ => k_is)
    (case z_ValueError => k_is)
    (case z_abs => k_is)
    (case z_bool => k_is)
    (case z_int => k_is)
    (case z_isinstance => k_is)
    (case z_len => k_is)
