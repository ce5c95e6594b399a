import PyProof.Rows.All
import Wide.All
import OpenK.AllK
import Wide.FinOn
import PyProof.EqAt
import PyProof.EqKinds
import PyProof.TupleCall
import HandS.ForMost
import HandS.Exc
import HandS.TryOnly
import HandS.TryMany
import HandS.ExcOwn
import HandS.ExcIs
import HandS.WordsExc
import HandS.IsInst
import HandS.Wide
import HandS.Style
import HandS.Zip
import HandS.Evl
import KE.KDictZip
import KE.KItemsList
import HandS.ListItems
import PySem.Challenge.RW_restrow_k03_bases_refused
set_option Elab.async false
set_option linter.all false
set_option maxRecDepth 100000
set_option maxHeartbeats 4000000
set_option exponentiation.threshold 400
local macro_rules | `(tactic| walk_at "ns") => `(tactic| (try (conv => (arg 4; simp only [L2.start, List.map_cons, List.map_nil, List.cons_append, List.nil_append, List.reduceReplicate, List.length_cons, List.length_nil, Nat.reduceAdd, Nat.reduceSub, List.set_cons_zero, List.set_cons_succ]))))
namespace Rw
/-! ## The mathematics: bases, rows, figures. No program here. -/

/-- two numbers without a common divisor above 1 -/
abbrev Cop (a b : Int) : Prop := Int.gcd a b = 1
theorem Cop.symm {a b : Int} (h : Cop a b) : Cop b a := by
  show Int.gcd b a = 1
  rw [Int.gcd_comm]
  exact h
theorem Cop.mul_right {a b c : Int} (h1 : Cop a b) (h2 : Cop a c) : Cop a (b * c) := by
  show Int.gcd a (b * c) = 1
  rw [Int.gcd_mul_right_right_of_gcd_eq_one h1]
  exact h2
theorem Cop.one_right (a : Int) : Cop a 1 := by
  show Int.gcd a 1 = 1
  simp
theorem Cop.mul_dvd {a b x : Int} (h : Cop a b) (ha : a ∣ x) (hb : b ∣ x) : a * b ∣ x := by
  have h' : Nat.Coprime a.natAbs b.natAbs := h
  have := Nat.Coprime.mul_dvd_of_dvd_of_dvd h' (Int.natAbs_dvd_natAbs.mpr ha) (Int.natAbs_dvd_natAbs.mpr hb)
  rw [← Int.natAbs_mul] at this
  exact Int.natAbs_dvd_natAbs.mp this
theorem Cop.dvd_left {a b c : Int} (h : Cop a b) (hd : c ∣ a) : Cop c b := by
  have h' : Nat.Coprime a.natAbs b.natAbs := h
  exact Nat.Coprime.coprime_dvd_left (Int.natAbs_dvd_natAbs.mpr hd) h'

/-! ### products -/
def prod : List Int → Int
  | [] => 1
  | b :: bs => b * prod bs
theorem prod_append : ∀ (l m : List Int), prod (l ++ m) = prod l * prod m
  | [], m => by simp [prod]
  | a :: l, m => by
    show a * prod (l ++ m) = a * prod l * prod m
    rw [prod_append l m, Int.mul_assoc]
theorem prod_pos : ∀ {l : List Int}, (∀ b ∈ l, 0 < b) → 0 < prod l
  | [], _ => by decide
  | a :: l, h => by
    show 0 < a * prod l
    exact Int.mul_pos (h a List.mem_cons_self) (prod_pos fun b hb => h b (List.mem_cons_of_mem _ hb))
theorem dvd_prod : ∀ {l : List Int} {b : Int}, b ∈ l → b ∣ prod l
  | a :: l, b, h => by
    show b ∣ a * prod l
    rcases List.mem_cons.mp h with h | h
    · rw [h]; exact Int.dvd_mul_right _ _
    · exact Int.dvd_trans (dvd_prod h) (Int.dvd_mul_left _ _)
theorem cop_prod : ∀ {l : List Int} {a : Int}, (∀ b ∈ l, Cop a b) → Cop a (prod l)
  | [], a, _ => Cop.one_right a
  | b :: l, a, h => Cop.mul_right (h b List.mem_cons_self) (cop_prod fun c hc => h c (List.mem_cons_of_mem _ hc))
theorem prod_take_succ {bs : List Int} {k : Nat} {b : Int} (h : bs[k]? = some b) : prod (bs.take (k + 1)) = prod (bs.take k) * b := by
  obtain ⟨hk, e⟩ := List.getElem?_eq_some_iff.mp h
  rw [List.take_succ_eq_append_getElem hk, prod_append, e]
  simp [prod]

/-! ### the chinese remainders -/
abbrev PC (bs : List Int) : Prop := bs.Pairwise Cop
abbrev Pos (bs : List Int) : Prop := ∀ b ∈ bs, 0 < b
/-- x has the rests rs over bs -/
def Has (bs : List Int) (rs : List Int) (x : Int) : Prop := ∀ (k : Nat) (b r : Int), bs[k]? = some b → rs[k]? = some r → x % b = r % b
/-- same rests -/
def Like (bs : List Int) (x y : Int) : Prop := ∀ b ∈ bs, x % b = y % b
theorem mod_eq_iff {x y b : Int} : x % b = y % b ↔ b ∣ x - y := by
  rw [Int.emod_eq_emod_iff_emod_sub_eq_zero, ← Int.dvd_iff_emod_eq_zero]
theorem like_dvd : ∀ {bs : List Int} {x y : Int}, PC bs → Like bs x y → prod bs ∣ x - y
  | [], x, y, _, _ => Int.one_dvd _
  | b :: bs, x, y, pc, h => by
    obtain ⟨h1, h2⟩ := List.pairwise_cons.mp pc
    exact Cop.mul_dvd (cop_prod h1) (mod_eq_iff.mp (h b List.mem_cons_self)) (like_dvd h2 fun c hc => h c (List.mem_cons_of_mem _ hc))
theorem eq_of_dvd {x y m p : Int} (hd : p ∣ x - y) (hm : m ≤ p) (x0 : 0 ≤ x) (x1 : x < m) (y0 : 0 ≤ y) (y1 : y < m) : x = y := by
  have h := mod_eq_iff.mpr hd
  rwa [Int.emod_eq_of_lt x0 (by omega), Int.emod_eq_of_lt y0 (by omega)] at h
theorem like_eq {bs : List Int} {x y m : Int} (pc : PC bs) (h : Like bs x y) (hm : m ≤ prod bs) (x0 : 0 ≤ x) (x1 : x < m) (y0 : 0 ≤ y) (y1 : y < m) : x = y :=
  eq_of_dvd (like_dvd pc h) hm x0 x1 y0 y1
theorem has_like {bs rs : List Int} {x y : Int} (hl : bs.length ≤ rs.length) (hx : Has bs rs x) (hy : Has bs rs y) : Like bs x y := fun b hb => by
  obtain ⟨k, hk⟩ := List.mem_iff_getElem?.mp hb
  have hk' := (List.getElem?_eq_some_iff.mp hk).1
  have hr : rs[k]? = some (rs[k]'(by omega)) := List.getElem?_eq_getElem (by omega)
  rw [hx k b _ hk hr, hy k b _ hk hr]
theorem Like.symm {bs : List Int} {x y : Int} (h : Like bs x y) : Like bs y x := fun b hb => (h b hb).symm
theorem Like.trans {bs : List Int} {x y z : Int} (h : Like bs x y) (h' : Like bs y z) : Like bs x z := fun b hb => (h b hb).trans (h' b hb)

/-! ### turning numbers -/
theorem bez (n m : Nat) : ∃ u v : Int, u * n + v * m = Nat.gcd n m := by
  induction n, m using Nat.gcd.induction with
  | H0 m => exact ⟨0, 1, by simp⟩
  | H1 n m hn ih =>
    obtain ⟨u, v, h⟩ := ih
    refine ⟨v - u * (m / n : Nat), u, ?_⟩
    rw [Nat.gcd_rec, ← h]
    have e : (m : Int) = n * (m / n : Nat) + (m % n : Nat) := by
      have := Nat.div_add_mod m n
      rw [← Int.natCast_mul, ← Int.natCast_add, this]
    generalize ((m / n : Nat) : Int) = q at *
    generalize ((m % n : Nat) : Int) = r at *
    rw [e]
    grind
theorem bezI {a b : Int} (h : Cop a b) : ∃ u v : Int, u * a + v * b = 1 := by
  obtain ⟨u, v, e⟩ := bez a.natAbs b.natAbs
  have e1 : Nat.gcd a.natAbs b.natAbs = 1 := h
  rw [e1] at e
  rcases Int.natAbs_eq a with ha | ha <;> rcases Int.natAbs_eq b with hb | hb
  · exact ⟨u, v, by rw [ha, hb]; exact e⟩
  · exact ⟨u, -v, by rw [ha, hb]; grind⟩
  · exact ⟨-u, v, by rw [ha, hb]; grind⟩
  · exact ⟨-u, -v, by rw [ha, hb]; grind⟩
theorem cop_of_bez {a b u v : Int} (h : u * a + v * b = 1) : Cop a b := by
  show Int.gcd a b = 1
  have h1 : ((Int.gcd a b : Nat) : Int) ∣ 1 := by
    rw [← h]
    exact Int.dvd_add (Int.dvd_mul_of_dvd_right (Int.gcd_dvd_left ..)) (Int.dvd_mul_of_dvd_right (Int.gcd_dvd_right ..))
  have := Int.eq_one_of_dvd_one (Int.natCast_nonneg _) h1
  omega
/-- t turns a over b -/
structure Turns (a b t : Int) : Prop where
  lo : 0 ≤ t
  hi : t < b
  eq : t * a % b = 1 % b
theorem turns_ex {a b : Int} (h : Cop a b) (hb : 0 < b) : ∃ t, Turns a b t := by
  obtain ⟨u, v, e⟩ := bezI h
  refine ⟨u % b, Int.emod_nonneg _ (by omega), Int.emod_lt_of_pos _ hb, ?_⟩
  rw [Int.mul_emod, Int.emod_emod, ← Int.mul_emod]
  have : u * a = 1 + b * (-v) := by grind
  rw [this, Int.add_mul_emod_self_left]
theorem Turns.uniq {a b t s : Int} (h : Turns a b t) (h' : Turns a b s) : t = s := by
  have e : t * a % b = s * a % b := h.eq.trans h'.eq.symm
  have e2 : t * a * t % b = s * a * t % b := by rw [Int.mul_emod, e, ← Int.mul_emod]
  have x1 : t * a * t % b = t % b := by rw [Int.mul_emod, h.eq, ← Int.mul_emod, Int.one_mul]
  have x2 : s * a * t % b = s % b := by
    have : s * a * t = s * (t * a) := by grind
    rw [this, Int.mul_emod, h.eq, ← Int.mul_emod, Int.mul_one]
  rw [x1, x2, Int.emod_eq_of_lt h.lo h.hi, Int.emod_eq_of_lt h'.lo h'.hi] at e2
  exact e2
/-- the step that both the chinese remainders and the figures make -/
theorem turn_step {a b t x r : Int} (h : t * a % b = 1 % b) : (x + a * ((r - x) * t % b)) % b = r % b := by
  have e : (a * ((r - x) * t % b)) % b = (r - x) % b := by
    rw [Int.mul_emod, Int.emod_emod, ← Int.mul_emod]
    have : a * ((r - x) * t) = (r - x) * (t * a) := by grind
    rw [this, Int.mul_emod, h, ← Int.mul_emod, Int.mul_one]
  rw [Int.add_emod, e, ← Int.add_emod]
  congr 1
  omega
theorem crt : ∀ {bs : List Int} (rs : List Int), PC bs → Pos bs → rs.length = bs.length → ∃ x, 0 ≤ x ∧ x < prod bs ∧ Has bs rs x
  | [], rs, _, _, _ => ⟨0, by decide, by decide, fun k b r h => by simp at h⟩
  | b :: bs, [], _, _, h => by simp at h
  | b :: bs, r :: rs, pc, ps, hl => by
    obtain ⟨h1, h2⟩ := List.pairwise_cons.mp pc
    have pos2 : Pos bs := fun c hc => ps c (List.mem_cons_of_mem _ hc)
    have hb : 0 < b := ps b List.mem_cons_self
    obtain ⟨x, x0, x1, hx⟩ := crt rs h2 pos2 (by simpa using hl)
    obtain ⟨t, ht⟩ := turns_ex (cop_prod h1).symm hb
    have pp := prod_pos pos2
    have s0 := Int.emod_nonneg ((r - x) * t) (show b ≠ 0 by omega)
    have s1 := Int.emod_lt_of_pos ((r - x) * t) hb
    refine ⟨x + prod bs * ((r - x) * t % b), ?_, ?_, ?_⟩
    · have := Int.mul_nonneg (Int.le_of_lt pp) s0
      omega
    · have : prod bs * ((r - x) * t % b) ≤ prod bs * (b - 1) := Int.mul_le_mul_of_nonneg_left (by omega) (Int.le_of_lt pp)
      show _ < b * prod bs
      have e : prod bs * (b - 1) = b * prod bs - prod bs := by grind
      omega
    · rintro (_ | k) c s hc hs
      · have e1 : b = c := by simpa using hc
        have e2 : r = s := by simpa using hs
        subst e1 e2
        exact turn_step ht.eq
      · have hc' : bs[k]? = some c := by simpa using hc
        have hs' : rs[k]? = some s := by simpa using hs
        rw [← hx k c s hc' hs']
        obtain ⟨q, hq⟩ := dvd_prod (List.mem_of_getElem? hc')
        rw [hq, Int.mul_assoc, Int.add_mul_emod_self_left]

/-! ### figures -/
def digits : List Int → Int → List Int
  | [], _ => []
  | b :: bs, x => x % b :: digits bs (x / b)
theorem digits_length : ∀ (bs : List Int) (x : Int), (digits bs x).length = bs.length
  | [], _ => rfl
  | b :: bs, x => by show (digits bs (x / b)).length + 1 = bs.length + 1; rw [digits_length bs]
theorem digits_get : ∀ {bs : List Int} {x : Int} {k : Nat} {b : Int}, Pos bs → bs[k]? = some b → (digits bs x)[k]? = some (x / prod (bs.take k) % b)
  | c :: bs, x, 0, b, _, h => by
    have e : c = b := by simpa using h
    subst e
    simp [digits, prod]
  | c :: bs, x, k + 1, b, ps, h => by
    have h' : bs[k]? = some b := by simpa using h
    have ih := digits_get (x := x / c) (fun d hd => ps d (List.mem_cons_of_mem _ hd)) h'
    have hc : 0 < c := ps c List.mem_cons_self
    show (digits bs (x / c))[k]? = some (x / (c * prod (bs.take k)) % b)
    rw [ih, Int.ediv_ediv_of_nonneg (Int.le_of_lt hc)]
theorem digits_range {bs : List Int} {x : Int} {k : Nat} {b d : Int} (ps : Pos bs) (hb : bs[k]? = some b) (hd : (digits bs x)[k]? = some d) : 0 ≤ d ∧ d < b := by
  rw [digits_get ps hb] at hd
  have e := Option.some.inj hd
  have hb' := ps b (List.mem_of_getElem? hb)
  exact ⟨by rw [← e]; exact Int.emod_nonneg _ (by omega), by rw [← e]; exact Int.emod_lt_of_pos _ hb'⟩
theorem digits_drop : ∀ {bs : List Int} (x : Int) (k : Nat), Pos bs → (digits bs x).drop k = digits (bs.drop k) (x / prod (bs.take k))
  | bs, x, 0, _ => by simp [prod]
  | [], x, k + 1, _ => rfl
  | c :: bs, x, k + 1, ps => by
    have hc : 0 < c := ps c List.mem_cons_self
    show (digits bs (x / c)).drop k = digits (bs.drop k) (x / (c * prod (bs.take k)))
    rw [digits_drop (x / c) k (fun d hd => ps d (List.mem_cons_of_mem _ hd)), Int.ediv_ediv_of_nonneg (Int.le_of_lt hc)]
theorem div_step {x p b : Int} (hp : 0 < p) : x / p = x / (p * b) * b + x / p % b := by
  rw [← Int.ediv_ediv_of_nonneg (Int.le_of_lt hp)]
  have := Int.emod_add_ediv_mul (x / p) b
  omega
theorem mod_div_mod {x p b m : Int} (hp : 0 < p) (hm : p * b ∣ m) : x % m / p % b = x / p % b := by
  obtain ⟨q, rfl⟩ := hm
  have e := Int.emod_add_mul_ediv x (p * b * q)
  conv => rhs; rw [← e]
  have : p * b * q * (x / (p * b * q)) = p * (b * (q * (x / (p * b * q)))) := by grind
  rw [this, Int.add_mul_ediv_left _ _ (by omega), Int.add_mul_emod_self_left]
theorem prod_take_dvd {bs : List Int} {i k : Nat} (h : i ≤ k) : prod (bs.take i) ∣ prod (bs.take k) := by
  have : bs.take k = bs.take i ++ (bs.take k).drop i := by
    have := List.take_append_drop i (bs.take k)
    rw [List.take_take, Nat.min_eq_left h] at this
    exact this.symm
  rw [this, prod_append]
  exact Int.dvd_mul_right _ _
theorem pos_take {bs : List Int} (ps : Pos bs) (k : Nat) : Pos (bs.take k) := fun b hb => ps b (List.mem_of_mem_take hb)
/-- Horner's step, as led does it -/
theorem horner {bs : List Int} {x : Int} {i k : Nat} {b m : Int} (ps : Pos bs) (hb : bs[i]? = some b) (hi : i < k) :
    (x % prod (bs.take k) / prod (bs.take (i + 1)) % m * b + x / prod (bs.take i) % b) % m = x % prod (bs.take k) / prod (bs.take i) % m := by
  have hp := prod_pos (pos_take ps i)
  have e := div_step (x := x % prod (bs.take k)) (b := b) hp
  have dv : prod (bs.take i) * b ∣ prod (bs.take k) := by
    rw [← prod_take_succ hb]
    exact prod_take_dvd hi
  rw [mod_div_mod hp dv, ← prod_take_succ hb] at e
  rw [Int.add_emod, Int.mul_emod, Int.emod_emod, ← Int.mul_emod, ← Int.add_emod, ← e]
theorem horner0 {bs : List Int} {x : Int} {k : Nat} {m : Int} (ps : Pos bs) : x % prod (bs.take k) / prod (bs.take k) % m = 0 := by
  have hp := prod_pos (pos_take ps k)
  rw [Int.ediv_eq_zero_of_lt (Int.emod_nonneg _ (by omega)) (Int.emod_lt_of_pos _ hp), Int.zero_emod]
theorem horner_top {bs : List Int} {x : Int} {k : Nat} {m : Int} : x % prod (bs.take k) / prod (bs.take 0) % m = x % prod (bs.take k) % m := by
  simp [prod]
/-- the figure that led appends -/
theorem fig_step {x p b t r : Int} (hp : 0 < p) (hb : 0 < b) (ht : t * p % b = 1 % b) (hr : x % b = r % b) : (r - x % p % b) * t % b = x / p % b := by
  have e := Int.emod_add_mul_ediv x p
  have e1 : (r - x % p % b) % b = (p * (x / p)) % b := by
    have : (r - x % p % b) % b = (x - x % p) % b := by
      rw [Int.sub_emod, ← hr, Int.emod_emod, ← Int.sub_emod]
    rw [this]
    congr 1
    omega
  rw [Int.mul_emod, e1, ← Int.mul_emod]
  have : p * (x / p) * t = x / p * (t * p) := by grind
  rw [this, Int.mul_emod, ht, ← Int.mul_emod, Int.mul_one]
/-- number's Horner -/
theorem numb_step {bs : List Int} {x : Int} {i : Nat} {b : Int} (ps : Pos bs) (hb : bs[i]? = some b) : x / prod (bs.take (i + 1)) * b + x / prod (bs.take i) % b = x / prod (bs.take i) := by
  have hp := prod_pos (pos_take ps i)
  rw [prod_take_succ hb]
  have := div_step (x := x) (b := b) hp
  omega
theorem sum_odd : ∀ {bs : List Int} {x : Int}, (∀ b ∈ bs, 0 < b ∧ b % 2 = 1) → 0 ≤ x → x < prod bs → (digits bs x).sum % 2 = x % 2
  | [], x, _, h0, h1 => by
    have : x = 0 := by have : prod [] = 1 := rfl; omega
    subst this
    rfl
  | b :: bs, x, h, h0, h1 => by
    obtain ⟨hb, ho⟩ := h b List.mem_cons_self
    have h1' : x < b * prod bs := h1
    have ih := sum_odd (bs := bs) (x := x / b) (fun c hc => h c (List.mem_cons_of_mem _ hc)) (Int.ediv_nonneg h0 (Int.le_of_lt hb)) (Int.ediv_lt_of_lt_mul hb (by rw [Int.mul_comm]; exact h1'))
    show (x % b :: digits bs (x / b)).sum % 2 = x % 2
    rw [List.sum_cons]
    have e := Int.emod_add_mul_ediv x b
    have e2 : (b * (x / b)) % 2 = x / b % 2 := by rw [Int.mul_emod, ho, Int.one_mul, Int.emod_emod]
    omega
theorem value_two {g1 g2 y : Int} (h1 : 0 < g1) (h2 : 0 < g2) (y0 : 0 ≤ y) (y1 : y < g1 * g2) : digits [g1, g2] y = [0, 0] ↔ y = 0 := by
  constructor
  · intro h
    have h' : [y % g1, y / g1 % g2] = [0, 0] := h
    have a1 : y % g1 = 0 := by simpa using congrArg (·.head?) h'
    have a2 : y / g1 % g2 = 0 := by
      have := List.cons.inj h'
      have := List.cons.inj this.2
      exact this.1
    have l : y / g1 < g2 := Int.ediv_lt_of_lt_mul h1 (by rw [Int.mul_comm]; exact y1)
    rw [Int.emod_eq_of_lt (Int.ediv_nonneg y0 (Int.le_of_lt h1)) l] at a2
    have e := Int.emod_add_mul_ediv y g1
    rw [a1, a2] at e
    omega
  · intro h
    subst h
    simp [digits]
end Rw

namespace Rw
/-! ## Bases as the board takes them -/
structure Good (bs : List Int) : Prop where
  len3 : 3 ≤ bs.length
  len14 : bs.length ≤ 14
  rng : ∀ b ∈ bs, 3 ≤ b ∧ b ≤ 999999
  odd : ∀ b ∈ bs, b % 2 = 1
  rise : bs.Pairwise (· < ·)
  cop : PC bs
theorem Good.pos {bs : List Int} (g : Good bs) : Pos bs := fun b hb => by have := (g.rng b hb).1; omega
def room (bs : List Int) : Int := prod (bs.take (bs.length - 2))
def rowOf (bs : List Int) (x : Int) : List Int := bs.map (fun b => x % b)
theorem rowOf_length (bs : List Int) (x : Int) : (rowOf bs x).length = bs.length := by simp [rowOf]
theorem rowOf_get {bs : List Int} {x : Int} {k : Nat} {b : Int} (h : bs[k]? = some b) : (rowOf bs x)[k]? = some (x % b) := by simp [rowOf, h]
theorem has_rowOf (bs : List Int) (x : Int) : Has bs (rowOf bs x) x := fun k b r hb hr => by
  rw [rowOf_get hb] at hr
  have e := Option.some.inj hr
  rw [← e, Int.emod_emod]
theorem rowOf_eq_iff {bs : List Int} {x y : Int} : rowOf bs x = rowOf bs y ↔ Like bs x y := by
  unfold rowOf Like
  constructor
  · intro h b hb
    obtain ⟨k, hk⟩ := List.mem_iff_getElem?.mp hb
    have := congrArg (fun l => l[k]?) h
    simp only [List.getElem?_map, hk, Option.map_some] at this
    exact Option.some.inj this
  · intro h
    exact List.map_congr_left h
/-- the two guards -/
theorem Good.guards {bs : List Int} (g : Good bs) : ∃ g1 g2, bs.drop (bs.length - 2) = [g1, g2] ∧ bs[bs.length - 2]? = some g1 ∧ bs[bs.length - 1]? = some g2 ∧ 3 ≤ g1 ∧ 3 ≤ g2 ∧ g1 ∈ bs ∧ g2 ∈ bs := by
  have h3 := g.len3
  have l1 : bs.length - 2 < bs.length := by omega
  have l2 : bs.length - 2 + 1 < bs.length := by omega
  refine ⟨bs[bs.length - 2], bs[bs.length - 1], ?_, by simp [l1], by simp, (g.rng _ (List.getElem_mem _)).1, (g.rng _ (List.getElem_mem _)).1, List.getElem_mem _, List.getElem_mem _⟩
  rw [List.drop_eq_getElem_cons l1, List.drop_eq_getElem_cons l2]
  have e : bs.length - 2 + 1 = bs.length - 1 := by omega
  have e2 : bs.length - 2 + 1 + 1 = bs.length := by omega
  simp only [e2, List.drop_length]
  congr 2
  simp only [e]
theorem Good.room_pos {bs : List Int} (g : Good bs) : 0 < room bs := prod_pos (pos_take g.pos _)
theorem Good.prod_eq {bs : List Int} (g : Good bs) : ∃ g1 g2, bs.drop (bs.length - 2) = [g1, g2] ∧ 3 ≤ g1 ∧ 3 ≤ g2 ∧ bs[bs.length - 2]? = some g1 ∧ bs[bs.length - 1]? = some g2 ∧ prod bs = room bs * (g1 * g2) := by
  obtain ⟨g1, g2, h, k1, k2, p1, p2, _, _⟩ := g.guards
  refine ⟨g1, g2, h, p1, p2, k1, k2, ?_⟩
  have := List.take_append_drop (bs.length - 2) bs
  conv => lhs; rw [← this, prod_append, h]
  simp [prod, room]
theorem Good.room9 {bs : List Int} (g : Good bs) : room bs * 9 ≤ prod bs := by
  obtain ⟨g1, g2, _, p1, p2, _, _, e⟩ := g.prod_eq
  rw [e]
  have hp := g.room_pos
  refine Int.mul_le_mul_of_nonneg_left ?_ (Int.le_of_lt hp)
  have : 3 * 3 ≤ g1 * g2 := Int.mul_le_mul p1 p2 (by decide) (by omega)
  omega
/-- a row tells a number just where the last two figures are 0 -/
theorem Good.tells {bs : List Int} (g : Good bs) {x : Int} (x0 : 0 ≤ x) (x1 : x < prod bs) : (digits bs x).drop (bs.length - 2) = [0, 0] ↔ x < room bs := by
  obtain ⟨g1, g2, h, p1, p2, _, _, e⟩ := g.prod_eq
  have hp := g.room_pos
  rw [digits_drop x _ g.pos, h]
  show digits [g1, g2] (x / room bs) = [0, 0] ↔ _
  rw [value_two (by omega) (by omega) (Int.ediv_nonneg x0 (Int.le_of_lt hp)) (Int.ediv_lt_of_lt_mul hp (by rw [Int.mul_comm, ← e]; exact x1))]
  constructor
  · intro h0
    have := Int.emod_add_mul_ediv x (room bs)
    have l := Int.emod_lt_of_pos x hp
    rw [h0] at this
    omega
  · intro h0
    exact Int.ediv_eq_zero_of_lt x0 h0
theorem Good.crt {bs : List Int} (g : Good bs) {rs : List Int} (h : rs.length = bs.length) : ∃ x, 0 ≤ x ∧ x < prod bs ∧ Has bs rs x := Rw.crt rs g.cop g.pos h

/-! ### one place left out -/
theorem prod_erase : ∀ {bs : List Int} {p : Nat} {b : Int}, bs[p]? = some b → prod (bs.eraseIdx p) * b = prod bs
  | c :: bs, 0, b, h => by
    have e : c = b := by simpa using h
    subst e
    show prod bs * c = c * prod bs
    exact Int.mul_comm _ _
  | c :: bs, p + 1, b, h => by
    have h' : bs[p]? = some b := by simpa using h
    show c * prod (bs.eraseIdx p) * b = c * prod bs
    rw [Int.mul_assoc, prod_erase h']
theorem pos_erase {bs : List Int} (ps : Pos bs) (p : Nat) : Pos (bs.eraseIdx p) := fun b hb => ps b (List.mem_of_mem_eraseIdx hb)
theorem pc_erase {bs : List Int} (h : PC bs) (p : Nat) : PC (bs.eraseIdx p) := List.Pairwise.sublist (List.eraseIdx_sublist ..) h
theorem rise_le {bs : List Int} (h : bs.Pairwise (· < ·)) {i j : Nat} {a b : Int} (hi : bs[i]? = some a) (hj : bs[j]? = some b) (hij : i ≤ j) : a ≤ b := by
  obtain ⟨li, ei⟩ := List.getElem?_eq_some_iff.mp hi
  obtain ⟨lj, ej⟩ := List.getElem?_eq_some_iff.mp hj
  rcases Nat.lt_or_eq_of_le hij with h1 | h1
  · have := List.pairwise_iff_getElem.mp h i j li lj h1
    omega
  · subst h1
    rw [hi] at hj
    have := Option.some.inj hj
    omega
theorem Good.room_erase {bs : List Int} (g : Good bs) (p : Nat) (hp : p < bs.length) : room bs * 3 ≤ prod (bs.eraseIdx p) := by
  obtain ⟨g1, g2, _, p1, p2, k1, k2, e⟩ := g.prod_eq
  have hb : bs[p]? = some bs[p] := List.getElem?_eq_getElem hp
  have e2 := prod_erase hb
  have b3 := (g.rng _ (List.getElem_mem hp)).1
  have le : bs[p] ≤ g2 := rise_le g.rise hb k2 (by omega)
  have pe := prod_pos (pos_erase g.pos p)
  have pr := g.room_pos
  have h1 : prod (bs.eraseIdx p) * bs[p] ≤ prod (bs.eraseIdx p) * g2 := Int.mul_le_mul_of_nonneg_left le (Int.le_of_lt pe)
  rw [e2, e, ← Int.mul_assoc] at h1
  have h2 : room bs * g1 ≤ prod (bs.eraseIdx p) := Int.le_of_mul_le_mul_right h1 (by omega)
  have h3 : room bs * 3 ≤ room bs * g1 := Int.mul_le_mul_of_nonneg_left p1 (Int.le_of_lt pr)
  omega
/-- two numbers of the room whose rests differ at two places at most are one -/
theorem Good.uniq2 {bs : List Int} (g : Good bs) {x y : Int} (x0 : 0 ≤ x) (x1 : x < room bs) (y0 : 0 ≤ y) (y1 : y < room bs) {p q : Nat} (hpq : p < q) (hq : q < bs.length)
    (h : ∀ (k : Nat) (b : Int), bs[k]? = some b → k ≠ p → k ≠ q → x % b = y % b) : x = y := by
  obtain ⟨g1, g2, _, p1, p2, k1, k2, e⟩ := g.prod_eq
  have hb : bs[q]? = some bs[q] := List.getElem?_eq_getElem hq
  have ha : bs[p]? = some (bs[p]'(by omega)) := List.getElem?_eq_getElem (by omega)
  have ha' : (bs.eraseIdx q)[p]? = some (bs[p]'(by omega)) := by rw [List.getElem?_eraseIdx_of_lt hpq]; exact ha
  have e1 := prod_erase hb
  have e2 := prod_erase ha'
  have la : bs[p]'(by omega) ≤ g1 := rise_le g.rise ha k1 (by omega)
  have lb : bs[q] ≤ g2 := rise_le g.rise hb k2 (by omega)
  have a3 := (g.rng _ (List.getElem_mem (show p < bs.length by omega))).1
  have b3 := (g.rng _ (List.getElem_mem hq)).1
  have pe := prod_pos (pos_erase (pos_erase g.pos q) p)
  have pr := g.room_pos
  generalize hC : prod ((bs.eraseIdx q).eraseIdx p) = C at *
  generalize hA : bs[p]'(by omega) = A at *
  generalize hB : bs[q] = B at *
  have hm : room bs ≤ C := by
    have h1 : C * (A * B) = room bs * (g1 * g2) := by rw [← Int.mul_assoc, e2, e1, e]
    have h2 : A * B ≤ g1 * g2 := Int.mul_le_mul la lb (by omega) (by omega)
    have h3 : 0 < A * B := Int.mul_pos (by omega) (by omega)
    have h4 : room bs * (A * B) ≤ room bs * (g1 * g2) := Int.mul_le_mul_of_nonneg_left h2 (Int.le_of_lt pr)
    rw [← h1] at h4
    exact Int.le_of_mul_le_mul_right h4 h3
  refine like_eq (bs := (bs.eraseIdx q).eraseIdx p) (pc_erase (pc_erase g.cop q) p) (fun b hb' => ?_) (by rw [hC]; exact hm) x0 x1 y0 y1
  obtain ⟨i, hi⟩ := List.mem_iff_getElem?.mp hb'
  rw [List.getElem?_eraseIdx, List.getElem?_eraseIdx, List.getElem?_eraseIdx] at hi
  split at hi <;> split at hi
  · exact h i b hi (by omega) (by omega)
  · exact h (i + 1) b hi (by omega) (by omega)
  · exact h (i + 1) b hi (by omega) (by omega)
  · exact h (i + 1 + 1) b hi (by omega) (by omega)
theorem Good.uniq1 {bs : List Int} (g : Good bs) {x y : Int} (x0 : 0 ≤ x) (x1 : x < room bs) (y0 : 0 ≤ y) (y1 : y < room bs) {p : Nat} (hp : p < bs.length)
    (h : ∀ (k : Nat) (b : Int), bs[k]? = some b → k ≠ p → x % b = y % b) : x = y := by
  have h3 := g.len3
  by_cases hq : p + 1 < bs.length
  · exact g.uniq2 x0 x1 y0 y1 (Nat.lt_succ_self p) hq fun k b hb h1 _ => h k b hb h1
  · exact g.uniq2 x0 x1 y0 y1 (p := p - 1) (q := p) (by omega) hp fun k b hb _ h1 => h k b hb h1
theorem Good.uniq0 {bs : List Int} (g : Good bs) {x y : Int} (x0 : 0 ≤ x) (x1 : x < room bs) (y0 : 0 ≤ y) (y1 : y < room bs) (h : Like bs x y) : x = y :=
  g.uniq1 x0 x1 y0 y1 (p := 0) (by have := g.len3; omega) fun _ b hb _ => h b (List.mem_of_getElem? hb)

/-- the least number that has the other rests -/
structure Others (bs rs : List Int) (p : Nat) (y : Int) : Prop where
  lo : 0 ≤ y
  hi : y < prod (bs.eraseIdx p)
  has : ∀ (k : Nat) (b r : Int), k ≠ p → bs[k]? = some b → rs[k]? = some r → y % b = r % b
theorem Good.others {bs : List Int} (g : Good bs) {rs : List Int} (h : rs.length = bs.length) (p : Nat) (hp : p < bs.length) : ∃ y, Others bs rs p y := by
  obtain ⟨y, y0, y1, hy⟩ := Rw.crt (bs := bs.eraseIdx p) (rs.eraseIdx p) (pc_erase g.cop p) (pos_erase g.pos p) (by simp [List.length_eraseIdx, h])
  refine ⟨y, y0, y1, fun k b r hk hb hr => ?_⟩
  by_cases hlt : k < p
  · exact hy k b r (by rw [List.getElem?_eraseIdx_of_lt hlt]; exact hb) (by rw [List.getElem?_eraseIdx_of_lt hlt]; exact hr)
  · obtain ⟨j, rfl⟩ : ∃ j, k = j + 1 := ⟨k - 1, by omega⟩
    exact hy j b r (by rw [List.getElem?_eraseIdx_of_ge (by omega)]; exact hb) (by rw [List.getElem?_eraseIdx_of_ge (by omega)]; exact hr)
/-- a number of the room with the other rests is it -/
theorem Others.is {bs rs : List Int} {p : Nat} {y m : Int} (o : Others bs rs p y) (g : Good bs) (hl : bs.length ≤ rs.length) (hp : p < bs.length) (m0 : 0 ≤ m) (m1 : m < room bs)
    (h : ∀ (k : Nat) (b r : Int), k ≠ p → bs[k]? = some b → rs[k]? = some r → m % b = r % b) : y = m := by
  have hr := g.room_erase p hp
  have pr := g.room_pos
  refine like_eq (pc_erase g.cop p) (fun b hb => ?_) (Int.le_refl _) o.lo o.hi m0 (by omega)
  obtain ⟨i, hi⟩ := List.mem_iff_getElem?.mp hb
  rw [List.getElem?_eraseIdx] at hi
  have key : ∀ k, k ≠ p → bs[k]? = some b → y % b = m % b := fun k hk hb' => by
    have := (List.getElem?_eq_some_iff.mp hb').1
    have hr' : rs[k]? = some (rs[k]'(by omega)) := List.getElem?_eq_getElem (by omega)
    rw [o.has k b _ hk hb' hr', h k b _ hk hb' hr']
  split at hi
  · exact key i (by omega) hi
  · exact key (i + 1) (by omega) hi
/-- with its own rest at the place it has all rests, and is the number of the whole row -/
theorem Others.whole {bs rs : List Int} {p : Nat} {y b : Int} (o : Others bs rs p y) (g : Good bs) (hb : bs[p]? = some b) : y < prod bs ∧ Has bs (rs.set p (y % b)) y := by
  have b3 := (g.rng _ (List.mem_of_getElem? hb)).1
  refine ⟨?_, fun k c r hc hr => ?_⟩
  · have e := prod_erase hb
    have : prod (bs.eraseIdx p) * 1 ≤ prod (bs.eraseIdx p) * b := Int.mul_le_mul_of_nonneg_left (by omega) (by have := o.lo; have := o.hi; omega)
    have := o.hi
    omega
  · by_cases hk : k = p
    · subst hk
      rw [hb] at hc
      have e := Option.some.inj hc
      subst e
      rw [List.getElem?_set] at hr
      simp only [if_true] at hr
      split at hr
      · rw [← Option.some.inj hr, Int.emod_emod]
      · cases hr
    · rw [List.getElem?_set_ne (fun e => hk e.symm)] at hr
      exact o.has k c r hk hc hr
theorem Good.two280 {bs : List Int} (g : Good bs) : ∀ (l : List Int), (∀ b ∈ l, 0 < b ∧ b ≤ 999999) → prod l ≤ 2 ^ (20 * l.length)
  | [], _ => by decide
  | b :: l, h => by
    have ih := g.two280 l fun c hc => h c (List.mem_cons_of_mem _ hc)
    obtain ⟨b0, b1⟩ := h b List.mem_cons_self
    have pp : 0 < prod l := prod_pos fun c hc => (h c (List.mem_cons_of_mem _ hc)).1
    show b * prod l ≤ 2 ^ (20 * (l.length + 1))
    have e : (2 : Int) ^ (20 * (l.length + 1)) = 2 ^ 20 * 2 ^ (20 * l.length) := by rw [← Int.pow_add]; congr 1; omega
    rw [e]
    refine Int.mul_le_mul ?_ ih (Int.le_of_lt pp) (by decide)
    have : (2 : Int) ^ 20 = 1048576 := by decide
    omega
theorem Good.prod_lt {bs : List Int} (g : Good bs) : prod bs < 2 ^ 300 := by
  have h := g.two280 bs fun b hb => ⟨g.pos b hb, (g.rng b hb).2⟩
  have h1 : (2 : Nat) ^ (20 * bs.length) ≤ 2 ^ 280 := Nat.pow_le_pow_right (by decide) (by have := g.len14; omega)
  have h2 : (2 : Nat) ^ 280 < 2 ^ 300 := Nat.pow_lt_pow_right (by decide) (by decide)
  have h3 : (2 : Int) ^ (20 * bs.length) < 2 ^ 300 := by exact_mod_cast Nat.lt_of_le_of_lt h1 h2
  exact Int.lt_of_le_of_lt h h3
theorem Good.room_lt {bs : List Int} (g : Good bs) : room bs < 2 ^ 300 := by
  have := g.prod_lt
  have := g.room9
  have := g.room_pos
  omega
end Rw

namespace Rw
/-! ## Euclid -/
theorem gcd_emod (a b : Int) : Int.gcd a b = Int.gcd b (a % b) := by
  have h1 : Int.gcd a b ∣ Int.gcd b (a % b) := by
    refine Int.dvd_gcd (Int.gcd_dvd_right ..) ?_
    rw [Int.emod_def]
    exact Int.dvd_sub (Int.gcd_dvd_left ..) (Int.dvd_mul_of_dvd_left (Int.gcd_dvd_right ..))
  have h2 : Int.gcd b (a % b) ∣ Int.gcd a b := by
    refine Int.dvd_gcd ?_ (Int.gcd_dvd_left ..)
    have e := Int.emod_add_mul_ediv a b
    have : ((Int.gcd b (a % b) : Nat) : Int) ∣ a % b + b * (a / b) := Int.dvd_add (Int.gcd_dvd_right ..) (Int.dvd_mul_of_dvd_left (Int.gcd_dvd_left ..))
    rwa [e] at this
  exact Nat.dvd_antisymm h1 h2
theorem gcd_zero (a : Int) (h : 0 ≤ a) : (Int.gcd a 0 : Int) = a := by simp; omega
/-- turned's loop -/
structure EG (number base high low ahead behind : Int) : Prop where
  l0 : 0 ≤ low
  lh : low < high
  hb : high ≤ base
  gcd : Int.gcd high low = Int.gcd number base
  c1 : (ahead * number - high) % base = 0
  c2 : (behind * number - low) % base = 0
  sg : ∃ A B : Int, 0 ≤ A ∧ 0 ≤ B ∧ B * high + A * low = base ∧ ((ahead = -A ∧ behind = B) ∨ (ahead = A ∧ behind = -B))
theorem EG.start {number base : Int} (hb : 2 ≤ base) : EG number base base (number % base) 0 1 := by
  have h0 := Int.emod_nonneg number (show base ≠ 0 by omega)
  have h1 := Int.emod_lt_of_pos number (show 0 < base by omega)
  refine ⟨h0, h1, Int.le_refl _, (gcd_emod number base).symm, ?_, ?_, 0, 1, by decide, by decide, by omega, .inl ⟨rfl, rfl⟩⟩
  · rw [Int.zero_mul, Int.zero_sub, Int.neg_emod_self]
  · rw [Int.one_mul, ← Int.dvd_iff_emod_eq_zero]
    have := Int.emod_add_mul_ediv number base
    exact ⟨number / base, by omega⟩
theorem EG.step {number base high low ahead behind : Int} (e : EG number base high low ahead behind) (hl : 0 < low) :
    EG number base low (high - high / low * low) behind (ahead - high / low * behind) := by
  obtain ⟨l0, lh, hb, g, c1, c2, A, B, a0, b0, s, sg⟩ := e
  have em : high - high / low * low = high % low := by
    have := Int.emod_add_ediv_mul high low
    omega
  have m0 : 0 ≤ high / low := Int.ediv_nonneg (by omega) l0
  refine ⟨?_, ?_, by omega, ?_, c2, ?_, B, A + high / low * B, b0, ?_, ?_, ?_⟩
  · rw [em]; exact Int.emod_nonneg _ (by omega)
  · rw [em]; exact Int.emod_lt_of_pos _ hl
  · rw [em, ← gcd_emod, g]
  · rw [← Int.dvd_iff_emod_eq_zero] at c1 c2 ⊢
    have : (ahead - high / low * behind) * number - (high - high / low * low) = (ahead * number - high) - high / low * (behind * number - low) := by grind
    rw [this]
    exact Int.dvd_sub c1 (Int.dvd_mul_of_dvd_right c2)
  · have := Int.mul_nonneg m0 b0
    omega
  · rw [← s]; grind
  · rcases sg with ⟨e1, e2⟩ | ⟨e1, e2⟩
    · right; exact ⟨e2, by rw [e1, e2]; grind⟩
    · left; exact ⟨e2, by rw [e1, e2]; grind⟩
theorem EG.bound {number base high low ahead behind : Int} (e : EG number base high low ahead behind) (hl : 0 < low) : ahead.natAbs ≤ base.natAbs ∧ behind.natAbs ≤ base.natAbs ∧ high.natAbs ≤ base.natAbs ∧ low.natAbs ≤ base.natAbs ∧ (high / low).natAbs ≤ base.natAbs := by
  obtain ⟨l0, lh, hb, g, c1, c2, A, B, a0, b0, s, sg⟩ := e
  have h1 : B * 1 ≤ B * high := Int.mul_le_mul_of_nonneg_left (by omega) b0
  have h2 : A * 1 ≤ A * low := Int.mul_le_mul_of_nonneg_left (by omega) a0
  have h3 := Int.mul_nonneg b0 (show 0 ≤ high by omega)
  have h4 := Int.mul_nonneg a0 l0
  have h5 := Int.ediv_nonneg (show 0 ≤ high by omega) l0
  have h6 := Int.ediv_le_self low (show 0 ≤ high by omega)
  refine ⟨?_, ?_, by omega, by omega, by omega⟩
  · rcases sg with ⟨e1, e2⟩ | ⟨e1, e2⟩ <;> omega
  · rcases sg with ⟨e1, e2⟩ | ⟨e1, e2⟩ <;> omega
theorem EG.end_ {number base high ahead behind : Int} (e : EG number base high 0 ahead behind) : high = 1 ↔ Cop number base := by
  have h := e.gcd
  have h0 := e.lh
  have := gcd_zero high (by omega)
  show high = 1 ↔ Int.gcd number base = 1
  omega
theorem EG.turns {number base ahead behind : Int} (hb : 2 ≤ base) (e : EG number base 1 0 ahead behind) : Turns number base (ahead % base) := by
  refine ⟨Int.emod_nonneg _ (by omega), Int.emod_lt_of_pos _ (by omega), ?_⟩
  rw [Int.mul_emod, Int.emod_emod, ← Int.mul_emod]
  exact mod_eq_iff.mpr (Int.dvd_iff_emod_eq_zero.mpr e.c1)
theorem Turns.pos {a b t : Int} (h : Turns a b t) (hb : 2 ≤ b) : 0 < t := by
  have := h.lo
  have e := h.eq
  rw [Int.emod_eq_of_lt (a := 1) (by decide) (by omega)] at e
  rcases Int.lt_or_eq_of_le this with h | h
  · exact h
  · rw [← h] at e
    simp at e

/-! ## where the other places are -/
/-- the at-th of the places but p -/
def oth (p a : Nat) : Nat := if a < p then a else a + 1
theorem oth_ne (p a : Nat) : oth p a ≠ p := by unfold oth; split <;> omega
theorem oth_lt {p a n : Nat} (h : a < n - 1) (hp : p < n) : oth p a < n := by unfold oth; split <;> omega
theorem erase_oth {α : Type} (l : List α) (p a : Nat) : (l.eraseIdx p)[a]? = l[oth p a]? := by
  rw [List.getElem?_eraseIdx]
  unfold oth
  split <;> rfl
theorem range_but : ∀ {n p : Nat}, p < n → (List.range n).filter (fun i => decide (i ≠ p)) = (List.range n).eraseIdx p
  | n + 1, p, hp => by
    rw [List.range_succ, List.filter_append]
    by_cases e : p = n
    · subst e
      have h1 : (List.range p).filter (fun i => decide (i ≠ p)) = List.range p := List.filter_eq_self.mpr fun a ha => by
        have := List.mem_range.mp ha
        exact decide_eq_true (by omega)
      rw [h1, List.eraseIdx_append_of_length_le (by simp)]
      simp
    · have hlt : p < n := by omega
      rw [range_but hlt, List.eraseIdx_append_of_lt_length (by simpa using hlt)]
      have : ([n] : List Nat).filter (fun i => decide (i ≠ p)) = [n] := by
        simp
        omega
      rw [this]
theorem prod_erase_take {bs : List Int} {p a : Nat} {b : Int} (hb : bs[p]? = some b) : prod ((bs.eraseIdx p).take a) * (if oth p a > p then b else 1) = prod (bs.take (oth p a)) := by
  obtain ⟨hp, _⟩ := List.getElem?_eq_some_iff.mp hb
  unfold oth
  by_cases h : a < p
  · rw [if_pos h, if_neg (by omega), Int.mul_one]
    congr 1
    rw [List.eraseIdx_eq_take_drop_succ, List.take_append_of_le_length (by simp; omega), List.take_take, Nat.min_eq_left (by omega)]
  · rw [if_neg h, if_pos (by omega)]
    have e : (bs.eraseIdx p).take a = (bs.take (a + 1)).eraseIdx p := by
      apply List.ext_getElem?
      intro i
      rw [List.getElem?_eraseIdx]
      by_cases hi : i < a
      · rw [List.getElem?_take_of_lt hi, List.getElem?_eraseIdx]
        split
        · rw [List.getElem?_take_of_lt (by omega)]
        · rw [List.getElem?_take_of_lt (by omega)]
      · rw [List.getElem?_eq_none (by simp; omega)]
        rw [if_neg (by omega), List.getElem?_eq_none (by simp; omega)]
    rw [e, prod_erase]
    rw [List.getElem?_take_of_lt (by omega)]
    exact hb
end Rw
namespace Rw
/- the number that turns a over b -/
open Classical in
noncomputable def inv (a b : Int) : Int := if h : ∃ t, Turns a b t then Classical.choose h else 0
theorem inv_spec {a b : Int} (h : Cop a b) (hb : 0 < b) : Turns a b (inv a b) := by
  have e := turns_ex h hb
  unfold inv
  rw [dif_pos e]
  exact Classical.choose_spec e
theorem inv_eq {a b t : Int} (h : Cop a b) (hb : 0 < b) (ht : Turns a b t) : inv a b = t := (inv_spec h hb).uniq ht
theorem natAbs_lt300 {b : Int} (h0 : 0 ≤ b) (h : b < 2 ^ 300) : b.natAbs < 2 ^ 300 := by
  have e : ((b.natAbs : Nat) : Int) = b := Int.natAbs_of_nonneg h0
  have h2 : ((b.natAbs : Nat) : Int) < ((2 ^ 300 : Nat) : Int) := by
    rw [e]
    exact_mod_cast h
  exact_mod_cast h2
end Rw

namespace Rw
open Classical
/-! ## The number of a row, the turning numbers of a board -/
/- the number whose rests a row has -/
noncomputable def num (bs rs : List Int) : Int := if h : ∃ x, 0 ≤ x ∧ x < prod bs ∧ Has bs rs x then Classical.choose h else 0
theorem num_spec {bs rs : List Int} (g : Good bs) (h : rs.length = bs.length) : 0 ≤ num bs rs ∧ num bs rs < prod bs ∧ Has bs rs (num bs rs) := by
  have e := g.crt h
  unfold num
  rw [dif_pos e]
  exact Classical.choose_spec e
theorem num_eq {bs rs : List Int} {x : Int} (g : Good bs) (h : rs.length = bs.length) (x0 : 0 ≤ x) (x1 : x < prod bs) (hx : Has bs rs x) : num bs rs = x := by
  obtain ⟨n0, n1, hn⟩ := num_spec g h
  exact like_eq g.cop (has_like (by omega) hn hx) (Int.le_refl _) n0 n1 x0 x1
theorem num_row {bs : List Int} {x : Int} (g : Good bs) (x0 : 0 ≤ x) (x1 : x < prod bs) : num bs (rowOf bs x) = x := num_eq g (rowOf_length _ _) x0 x1 (has_rowOf _ _)
theorem num_rowR {bs : List Int} {x : Int} (g : Good bs) (x0 : 0 ≤ x) (x1 : x < room bs) : num bs (rowOf bs x) = x := num_row g x0 (by have := g.room9; have := g.room_pos; omega)
/-- a row over the bases -/
structure IsRow (bs rs : List Int) : Prop where
  len : rs.length = bs.length
  rng : ∀ (k : Nat) (r b : Int), rs[k]? = some r → bs[k]? = some b → 0 ≤ r ∧ r < b
theorem isRow_rowOf {bs : List Int} (g : Good bs) (x : Int) : IsRow bs (rowOf bs x) := ⟨rowOf_length _ _, fun k r b hr hb => by
  rw [rowOf_get hb] at hr
  have e := Option.some.inj hr
  have p := g.pos b (List.mem_of_getElem? hb)
  rw [← e]
  exact ⟨Int.emod_nonneg _ (by omega), Int.emod_lt_of_pos _ p⟩⟩
/-- a row is the row of its number -/
theorem row_num {bs rs : List Int} (g : Good bs) (h : IsRow bs rs) : rowOf bs (num bs rs) = rs := by
  obtain ⟨_, _, hn⟩ := num_spec g h.len
  apply List.ext_getElem?
  intro k
  by_cases hk : k < bs.length
  · have hb : bs[k]? = some bs[k] := List.getElem?_eq_getElem hk
    have hr : rs[k]? = some (rs[k]'(by rw [h.len]; exact hk)) := List.getElem?_eq_getElem (by rw [h.len]; exact hk)
    rw [rowOf_get hb, hr, hn k _ _ hb hr]
    obtain ⟨r0, r1⟩ := h.rng k _ _ hr hb
    rw [Int.emod_eq_of_lt r0 r1]
  · rw [List.getElem?_eq_none (by rw [rowOf_length]; omega), List.getElem?_eq_none (by rw [h.len]; omega)]
theorem is_row_of {bs rs : List Int} {x : Int} (g : Good bs) (h : IsRow bs rs) (hx : num bs rs = x) : rs = rowOf bs x := by rw [← hx, row_num g h]
/-- the turning numbers -/
noncomputable def turnsOf (bs : List Int) : List Int := (List.range bs.length).map fun k => inv (prod (bs.take k)) (bs.getD k 0)
theorem turnsOf_length (bs : List Int) : (turnsOf bs).length = bs.length := by simp [turnsOf]
theorem getD_of {bs : List Int} {k : Nat} {b : Int} (h : bs[k]? = some b) : bs.getD k 0 = b := by rw [List.getD_eq_getElem?_getD, h]; rfl
theorem turnsOf_get {bs : List Int} {k : Nat} {b : Int} (h : bs[k]? = some b) : (turnsOf bs)[k]? = some (inv (prod (bs.take k)) b) := by
  have hk := (List.getElem?_eq_some_iff.mp h).1
  simp only [turnsOf, List.getElem?_map, List.getElem?_range hk, Option.map_some, getD_of h]
theorem Good.copTake {bs : List Int} (g : Good bs) {k : Nat} {b : Int} (h : bs[k]? = some b) : Cop (prod (bs.take k)) b := by
  refine (cop_prod fun c hc => ?_).symm
  obtain ⟨j, hj⟩ := List.mem_iff_getElem?.mp hc
  have hjk : j < k := by
    have := (List.getElem?_eq_some_iff.mp hj).1
    simp at this
    omega
  rw [List.getElem?_take_of_lt hjk] at hj
  obtain ⟨lj, ej⟩ := List.getElem?_eq_some_iff.mp hj
  obtain ⟨lk, ek⟩ := List.getElem?_eq_some_iff.mp h
  have := List.pairwise_iff_getElem.mp g.cop j k lj lk hjk
  rw [ej, ek] at this
  exact this.symm
theorem Good.turns {bs : List Int} (g : Good bs) {k : Nat} {b : Int} (h : bs[k]? = some b) : Turns (prod (bs.take k)) b (inv (prod (bs.take k)) b) := inv_spec (g.copTake h) (g.pos b (List.mem_of_getElem? h))
theorem Good.get3 {bs : List Int} (g : Good bs) {k : Nat} {b : Int} (h : bs[k]? = some b) : 3 ≤ b ∧ b ≤ 999999 ∧ b % 2 = 1 := ⟨(g.rng b (List.mem_of_getElem? h)).1, (g.rng b (List.mem_of_getElem? h)).2, g.odd b (List.mem_of_getElem? h)⟩
/-- the weight's own rest turns as well -/
theorem inv_mod {a b : Int} (h : Cop a b) (hb : 0 < b) : Cop (a % b) b ∧ inv (a % b) b = inv a b := by
  have c : Cop (a % b) b := by
    show Int.gcd (a % b) b = 1
    rw [Int.gcd_comm, ← gcd_emod]
    exact h
  refine ⟨c, inv_eq c hb ⟨(inv_spec h hb).lo, (inv_spec h hb).hi, ?_⟩⟩
  rw [Int.mul_emod, Int.emod_emod, ← Int.mul_emod]
  exact (inv_spec h hb).eq
/-- as need_bases looks -/
theorem good_of {bs : List Int} (h3 : 3 ≤ bs.length) (h14 : bs.length ≤ 14) (hr : ∀ (k : Nat) (b : Int), bs[k]? = some b → 3 ≤ b ∧ b ≤ 999999 ∧ b % 2 = 1)
    (hn : ∀ (k : Nat) (a b : Int), bs[k]? = some a → bs[k + 1]? = some b → a < b) (hc : ∀ (j k : Nat) (a b : Int), j < k → bs[j]? = some a → bs[k]? = some b → Cop a b) : Good bs := by
  refine ⟨h3, h14, fun b hb => ?_, fun b hb => ?_, ?_, ?_⟩
  · obtain ⟨k, hk⟩ := List.mem_iff_getElem?.mp hb
    exact ⟨(hr k b hk).1, (hr k b hk).2.1⟩
  · obtain ⟨k, hk⟩ := List.mem_iff_getElem?.mp hb
    exact (hr k b hk).2.2
  · rw [List.pairwise_iff_getElem]
    intro i j hi hj hij
    have key : ∀ d, ∀ (h : i + 1 + d < bs.length), bs[i] < bs[i + 1 + d] := by
      intro d
      induction d with
      | zero => intro h; exact hn i _ _ (List.getElem?_eq_getElem hi) (List.getElem?_eq_getElem h)
      | succ d ih =>
        intro h
        have h1 := ih (by omega)
        have h2 := hn (i + 1 + d) _ _ (List.getElem?_eq_getElem (by omega)) (List.getElem?_eq_getElem h)
        have h2' : bs[i + 1 + d]'(by omega) < bs[i + 1 + (d + 1)] := h2
        omega
    have e : i + 1 + (j - i - 1) = j := by omega
    have := key (j - i - 1) (by omega)
    simp only [e] at this
    exact this
  · rw [show PC bs ↔ bs.Pairwise Cop from Iff.rfl, List.pairwise_iff_getElem]
    intro i j hi hj hij
    exact hc i j _ _ hij (List.getElem?_eq_getElem hi) (List.getElem?_eq_getElem hj)
theorem Good.next {bs : List Int} (g : Good bs) {k : Nat} {a b : Int} (ha : bs[k]? = some a) (hb : bs[k + 1]? = some b) : a < b := by
  obtain ⟨li, ei⟩ := List.getElem?_eq_some_iff.mp ha
  obtain ⟨lj, ej⟩ := List.getElem?_eq_some_iff.mp hb
  have := List.pairwise_iff_getElem.mp g.rise k (k + 1) li lj (by omega)
  rw [ei, ej] at this
  exact this
theorem Good.cop2 {bs : List Int} (g : Good bs) {j k : Nat} {a b : Int} (hjk : j < k) (ha : bs[j]? = some a) (hb : bs[k]? = some b) : Cop a b := by
  obtain ⟨li, ei⟩ := List.getElem?_eq_some_iff.mp ha
  obtain ⟨lj, ej⟩ := List.getElem?_eq_some_iff.mp hb
  have := List.pairwise_iff_getElem.mp g.cop j k li lj hjk
  rw [ei, ej] at this
  exact this
/-- the least number with the other rests -/
noncomputable def onum (bs rs : List Int) (p : Nat) : Int := if h : ∃ y, Others bs rs p y then Classical.choose h else 0
theorem onum_spec {bs rs : List Int} {p : Nat} (g : Good bs) (h : rs.length = bs.length) (hp : p < bs.length) : Others bs rs p (onum bs rs p) := by
  have e := g.others h p hp
  unfold onum
  rw [dif_pos e]
  exact Classical.choose_spec e
end Rw
namespace Rw
/-! ## Sums, halves -/
theorem prod_like {bs : List Int} (x : Int) : Like bs (x % prod bs) x := fun b hb => Int.emod_emod_of_dvd x (dvd_prod hb)
theorem num_rowOf {bs : List Int} (g : Good bs) (x : Int) : num bs (rowOf bs x) = x % prod bs := by
  have pp := prod_pos g.pos
  rw [← rowOf_eq_iff.mpr (prod_like (bs := bs) x)]
  exact num_row g (Int.emod_nonneg _ (by omega)) (Int.emod_lt_of_pos _ pp)
theorem sum_row {bs : List Int} {x y : Int} {k : Nat} {b : Int} (_hb : bs[k]? = some b) : (x % b + y % b) % b = (x + y) % b := (Int.add_emod x y b).symm
theorem sub_row {x y b : Int} : (x % b - y % b) % b = (x - y) % b := (Int.sub_emod x y b).symm
theorem num_sum {bs : List Int} (g : Good bs) {x y : Int} (x0 : 0 ≤ x) (x1 : x < room bs) (y0 : 0 ≤ y) (y1 : y < room bs) : num bs (rowOf bs (x + y)) = x + y := by
  have := g.room9
  rw [num_rowOf g, Int.emod_eq_of_lt (by omega) (by omega)]
theorem num_sub {bs : List Int} (g : Good bs) {x y : Int} (x0 : 0 ≤ x) (x1 : x < room bs) (y0 : 0 ≤ y) (y1 : y < room bs) : (0 ≤ x - y ∧ num bs (rowOf bs (x - y)) = x - y) ∨ (x - y < 0 ∧ room bs ≤ num bs (rowOf bs (x - y))) := by
  have h9 := g.room9
  rw [num_rowOf g]
  by_cases h : 0 ≤ x - y
  · exact .inl ⟨h, Int.emod_eq_of_lt h (by omega)⟩
  · refine .inr ⟨by omega, ?_⟩
    have e : (x - y) % prod bs = x - y + prod bs := by
      rw [← Int.add_emod_right, Int.emod_eq_of_lt (by omega) (by omega)]
    omega
theorem cop_two {b : Int} (h : b % 2 = 1) : Cop 2 b := by
  show Int.gcd 2 b = 1
  rw [Int.gcd_comm, gcd_emod, h]
  decide
theorem half_step {x r b : Int} (h3 : 3 ≤ b) (ho : b % 2 = 1) (hr : x % b = r % b) : (r - x % 2) * inv 2 b % b = x / 2 % b := by
  have t := inv_spec (cop_two ho) (show 0 < b by omega)
  have e := fig_step (x := x) (p := 2) (b := b) (t := inv 2 b) (r := r) (by decide) (by omega) t.eq hr
  have m0 := Int.emod_nonneg x (show (2 : Int) ≠ 0 by decide)
  have m1 := Int.emod_lt_of_pos x (show (0 : Int) < 2 by decide)
  rw [Int.emod_eq_of_lt m0 (by omega)] at e
  exact e
theorem num_get {bs rs : List Int} (g : Good bs) (hl : rs.length = bs.length) {k : Nat} {b r : Int} (hb : bs[k]? = some b) (hr : rs[k]? = some r) : num bs rs % b = r % b := (num_spec g hl).2.2 k b r hb hr
theorem Good.oddpos {bs : List Int} (g : Good bs) : ∀ b ∈ bs, 0 < b ∧ b % 2 = 1 := fun b hb => ⟨g.pos b hb, g.odd b hb⟩
/-! ## what the others tell -/
/-- the turning number of the at-th of the other places -/
theorem oturn {bs : List Int} (g : Good bs) {p a : Nat} {b c : Int} (hp : bs[p]? = some b) (hc : bs[oth p a]? = some c) :
    (if oth p a > p then inv (prod (bs.take (oth p a))) c * b % c else inv (prod (bs.take (oth p a))) c) * prod ((bs.eraseIdx p).take a) % c = 1 % c := by
  have e := prod_erase_take (a := a) hp
  have t := (g.turns hc).eq
  by_cases h : oth p a > p
  · rw [if_pos h] at e ⊢
    rw [Int.mul_emod, Int.emod_emod, ← Int.mul_emod]
    rw [← e] at t
    have e2 : inv (prod ((bs.eraseIdx p).take a) * b) c * b * prod ((bs.eraseIdx p).take a) = inv (prod ((bs.eraseIdx p).take a) * b) c * (prod ((bs.eraseIdx p).take a) * b) := by
      rw [Int.mul_assoc, Int.mul_comm b]
    rw [← e, e2, t]
  · rw [if_neg h, Int.mul_one] at e
    rw [if_neg h, ← e]
    rw [← e] at t
    exact t
end Rw

namespace Rw
/-! ## The bases that the laws build -/
structure Cfg (N : Int) (ps es : List Int) : Prop where
  pcop : PC ps
  podd : ∀ p ∈ ps, p % 2 = 1 ∧ 3 ≤ p ∧ p ≤ 13 ∧ p ∣ N
  ecop : ∀ e ∈ es, Cop e N ∧ e % 2 = 1 ∧ 3 ≤ e ∧ e ≤ 47
  ediff : es.Pairwise fun a b => (b - a) ∣ N ^ 5
  even : (2 : Int) ∣ N
  plen : ps.length ≤ 5
  elen : 3 ≤ es.length ∧ es.length ≤ 9
  len : ps.length + es.length ≤ 14
theorem cfg1 : Cfg 30030 [3, 5, 7, 11, 13] [17, 19, 23, 29, 31, 37, 41, 43, 47] := ⟨by decide +kernel, by decide +kernel, by decide +kernel, by decide +kernel, by decide +kernel, by decide, by decide, by decide⟩
theorem cfg2 : Cfg 2310 [3, 5, 7, 11] [13, 17, 19, 23, 29, 31] := ⟨by decide +kernel, by decide +kernel, by decide +kernel, by decide +kernel, by decide +kernel, by decide, by decide, by decide⟩
theorem Cop.mul_left {a b c : Int} (h1 : Cop a c) (h2 : Cop b c) : Cop (a * b) c := (Cop.mul_right h1.symm h2.symm).symm
theorem Cop.dvd_right {a b c : Int} (h : Cop a b) (hd : c ∣ b) : Cop a c := (h.symm.dvd_left hd).symm
theorem Cop.pow_right {a b : Int} (h : Cop a b) : ∀ n : Nat, Cop a (b ^ n)
  | 0 => by rw [Int.pow_zero]; exact Cop.one_right a
  | n + 1 => by rw [Int.pow_succ]; exact Cop.mul_right (h.pow_right n) h
theorem Cop.shift {a b : Int} (h : Cop a (b - a)) : Cop a b := by
  obtain ⟨u, v, e⟩ := bezI h
  refine cop_of_bez (u := u - v) (v := v) ?_
  rw [← e]
  grind
theorem odd_mul {a b : Int} (ha : a % 2 = 1) (hb : b % 2 = 1) : a * b % 2 = 1 := by
  rw [Int.mul_emod, ha, hb]
  decide
/-- behind i of the primes -/
structure InvA (N : Int) (ps : List Int) (i : Nat) (some : List Int) : Prop where
  el : ∀ x ∈ some, x % 2 = 1 ∧ 3 ≤ x ∧ x ≤ 2197 ∧ (∀ y, Cop y N → Cop y x) ∧ ∀ j p, i ≤ j → ps[j]? = .some p → Cop x p
  pc : PC some
  len : some.length ≤ i
theorem InvA.start (N : Int) (ps : List Int) : InvA N ps 0 [] := ⟨fun x h => by simp at h, List.Pairwise.nil, Nat.le_refl _⟩
theorem InvA.skip {N : Int} {ps : List Int} {i : Nat} {some : List Int} (h : InvA N ps i some) : InvA N ps (i + 1) some :=
  ⟨fun x hx => ⟨(h.el x hx).1, (h.el x hx).2.1, (h.el x hx).2.2.1, (h.el x hx).2.2.2.1, fun j p hj hp => (h.el x hx).2.2.2.2 j p (by omega) hp⟩, h.pc, Nat.le_succ_of_le h.len⟩
theorem pc_append {l : List Int} {x : Int} (h : PC l) (hx : ∀ y ∈ l, Cop y x) : PC (l ++ [x]) := by
  show (l ++ [x]).Pairwise Cop
  rw [List.pairwise_append]
  refine ⟨h, List.pairwise_singleton _ _, fun a ha b hb => ?_⟩
  have : b = x := by simpa using hb
  rw [this]
  exact hx a ha
theorem InvA.add {N : Int} {ps es : List Int} {i : Nat} {some : List Int} {p m : Int} (h : InvA N ps i some) (c : Cfg N ps es) (hp : ps[i]? = .some p) (hm : m = 1 ∨ m = p ∨ m = p * p) : InvA N ps (i + 1) (some ++ [p * m]) := by
  obtain ⟨po, p3, p13, pd⟩ := c.podd p (List.mem_of_getElem? hp)
  have cy : ∀ y, Cop y p → Cop y (p * m) := fun y hy => by
    rcases hm with hm | hm | hm <;> rw [hm]
    · rw [Int.mul_one]; exact hy
    · exact hy.mul_right hy
    · exact hy.mul_right (hy.mul_right hy)
  have bnd : 3 ≤ p * m ∧ p * m ≤ 2197 := by
    rcases hm with hm | hm | hm <;> rw [hm]
    · omega
    · have h1 : 3 * 3 ≤ p * p := Int.mul_le_mul p3 p3 (by decide) (by omega)
      have h2 : p * p ≤ 13 * 13 := Int.mul_le_mul p13 p13 (by omega) (by decide)
      omega
    · have h1 : 3 * 3 ≤ p * p := Int.mul_le_mul p3 p3 (by decide) (by omega)
      have h2 : p * p ≤ 13 * 13 := Int.mul_le_mul p13 p13 (by omega) (by decide)
      have h3 : 3 * 9 ≤ p * (p * p) := Int.mul_le_mul p3 (by omega) (by decide) (by omega)
      have h4 : p * (p * p) ≤ 13 * 169 := Int.mul_le_mul p13 (by omega) (by omega) (by decide)
      omega
  have od : p * m % 2 = 1 := by
    rcases hm with hm | hm | hm <;> rw [hm]
    · rw [Int.mul_one]; exact po
    · exact odd_mul po po
    · exact odd_mul po (odd_mul po po)
  refine ⟨fun x hx => ?_, pc_append h.pc fun y hy => cy y ((h.el y hy).2.2.2.2 i p (Nat.le_refl _) hp), by rw [List.length_append]; have := h.len; simp; omega⟩
  rcases List.mem_append.mp hx with hx | hx
  · exact ⟨(h.el x hx).1, (h.el x hx).2.1, (h.el x hx).2.2.1, (h.el x hx).2.2.2.1, fun j q hj hq => (h.el x hx).2.2.2.2 j q (by omega) hq⟩
  · have ex : x = p * m := by simpa using hx
    subst ex
    refine ⟨od, bnd.1, bnd.2, fun y hy => cy y (hy.dvd_right pd), fun j q hj hq => ?_⟩
    have : Cop p q := by
      obtain ⟨li, ei⟩ := List.getElem?_eq_some_iff.mp hp
      obtain ⟨lj, ej⟩ := List.getElem?_eq_some_iff.mp hq
      have := List.pairwise_iff_getElem.mp c.pcop i j li lj (by omega)
      rw [ei, ej] at this
      exact this
    exact (cy q this.symm).symm
/-- behind the primes, two of them as one or not -/
structure InvB (N : Int) (n : Nat) (some : List Int) : Prop where
  el : ∀ x ∈ some, x % 2 = 1 ∧ 3 ≤ x ∧ x ≤ 999999 ∧ ∀ y, Cop y N → Cop y x
  pc : PC some
  len : some.length ≤ n
theorem InvA.toB {N : Int} {ps : List Int} {some : List Int} (h : InvA N ps ps.length some) : InvB N ps.length some :=
  ⟨fun x hx => ⟨(h.el x hx).1, (h.el x hx).2.1, by have := (h.el x hx).2.2.1; omega, (h.el x hx).2.2.2.1⟩, h.pc, h.len⟩
theorem InvB.merge {N : Int} {n : Nat} {a b : Int} {r : List Int} (h : InvB N n (a :: b :: r)) (hl : a * b < 900000) : InvB N n (a * b :: r) := by
  obtain ⟨ha, ha3, _, hac⟩ := h.el a List.mem_cons_self
  obtain ⟨hb, hb3, _, hbc⟩ := h.el b (List.mem_cons_of_mem _ List.mem_cons_self)
  obtain ⟨p1, p2⟩ := List.pairwise_cons.mp h.pc
  obtain ⟨p3, p4⟩ := List.pairwise_cons.mp p2
  refine ⟨fun x hx => ?_, List.pairwise_cons.mpr ⟨fun y hy => Cop.mul_left (p1 y (List.mem_cons_of_mem _ hy)) (p3 y hy), p4⟩, by have := h.len; simp at this ⊢; omega⟩
  rcases List.mem_cons.mp hx with hx | hx
  · subst hx
    have : 3 * 3 ≤ a * b := Int.mul_le_mul ha3 hb3 (by decide) (by omega)
    exact ⟨odd_mul ha hb, by omega, by omega, fun y hy => (hac y hy).mul_right (hbc y hy)⟩
  · exact h.el x (List.mem_cons_of_mem _ (List.mem_cons_of_mem _ hx))
/-- behind k of the ends -/
structure InvC (far : Int) (es : List Int) (n k : Nat) (some : List Int) : Prop where
  el : ∀ x ∈ some, x % 2 = 1 ∧ 3 ≤ x ∧ x ≤ 999999 ∧ ∀ j e, k ≤ j → es[j]? = .some e → Cop x (far + e)
  pc : PC some
  len : some.length ≤ n + k
  low : 3 ≤ some.length + (es.length - k)
/-- how far the ends lie -/
def Far (N far : Int) : Prop := N ∣ far ∧ 0 ≤ far ∧ far ≤ 990990
theorem far_cop {N far e : Int} (h : N ∣ far) (he : Cop e N) : Cop (far + e) N := by
  obtain ⟨t, rfl⟩ := h
  obtain ⟨u, v, q⟩ := bezI he
  refine cop_of_bez (u := u) (v := v - u * t) ?_
  rw [← q]
  grind
theorem InvB.toC {N far : Int} {ps es : List Int} {some : List Int} (h : InvB N ps.length some) (c : Cfg N ps es) (hf : Far N far) : InvC far es ps.length 0 some :=
  ⟨fun x hx => ⟨(h.el x hx).1, (h.el x hx).2.1, (h.el x hx).2.2.1, fun j e _ he => ((h.el x hx).2.2.2 _ (far_cop hf.1 (c.ecop e (List.mem_of_getElem? he)).1)).symm⟩, h.pc, by have := h.len; omega, by have := c.elen; omega⟩
theorem InvC.skip {far : Int} {es : List Int} {n k : Nat} {some : List Int} (h : InvC far es n k some) (hk : k < es.length) (hl : ¬ (some.length : Int) + es.length - k ≤ 3) : InvC far es n (k + 1) some :=
  ⟨fun x hx => ⟨(h.el x hx).1, (h.el x hx).2.1, (h.el x hx).2.2.1, fun j e hj he => (h.el x hx).2.2.2 j e (by omega) he⟩, h.pc, by have := h.len; omega, by omega⟩
theorem InvC.add {N far e : Int} {ps es : List Int} {n k : Nat} {some : List Int} (h : InvC far es n k some) (c : Cfg N ps es) (hf : Far N far) (he : es[k]? = .some e) : InvC far es n (k + 1) (some ++ [far + e]) := by
  obtain ⟨ec, eo, e3, e47⟩ := c.ecop e (List.mem_of_getElem? he)
  obtain ⟨f1, f2, f3⟩ := hf
  have f2' : far % 2 = 0 := by
    have := Int.dvd_trans c.even f1
    omega
  refine ⟨fun x hx => ?_, pc_append h.pc fun y hy => (h.el y hy).2.2.2 k e (Nat.le_refl _) he, by rw [List.length_append]; have := h.len; simp; omega, by rw [List.length_append]; have := h.low; simp; omega⟩
  rcases List.mem_append.mp hx with hx | hx
  · exact ⟨(h.el x hx).1, (h.el x hx).2.1, (h.el x hx).2.2.1, fun j e' hj he' => (h.el x hx).2.2.2 j e' (by omega) he'⟩
  · have ex : x = far + e := by simpa using hx
    subst ex
    refine ⟨by omega, by omega, by omega, fun j e' hj he' => Cop.shift ?_⟩
    have d : (e' - e) ∣ N ^ 5 := by
      obtain ⟨li, ei⟩ := List.getElem?_eq_some_iff.mp he
      obtain ⟨lj, ej⟩ := List.getElem?_eq_some_iff.mp he'
      have := List.pairwise_iff_getElem.mp c.ediff k j li lj (by omega)
      rw [ei, ej] at this
      exact this
    have e1 : far + e' - (far + e) = e' - e := by omega
    rw [e1]
    exact ((far_cop f1 ec).pow_right 5).dvd_right d
theorem InvC.good {far : Int} {es ps : List Int} {N : Int} {some srt : List Int} (h : InvC far es ps.length es.length some) (c : Cfg N ps es) (hp : srt.Perm some) (hs : srt.Pairwise (· ≤ ·)) : Good srt := by
  have hl := hp.length_eq
  have hm : ∀ x ∈ srt, x ∈ some := fun x hx => hp.mem_iff.mp hx
  have pc : PC srt := (hp.pairwise_iff (fun {a b} (z : Cop a b) => z.symm)).mpr h.pc
  refine ⟨by have := h.low; omega, by have := h.len; have := c.len; omega, fun b hb => ⟨(h.el b (hm b hb)).2.1, (h.el b (hm b hb)).2.2.1⟩, fun b hb => (h.el b (hm b hb)).1, ?_, pc⟩
  rw [List.pairwise_iff_getElem]
  intro i j hi hj hij
  have h1 := List.pairwise_iff_getElem.mp hs i j hi hj hij
  have h2 := List.pairwise_iff_getElem.mp pc i j hi hj hij
  rcases Int.lt_or_eq_of_le h1 with h3 | h3
  · exact h3
  · rw [h3] at h2
    have h4 : Int.gcd srt[j] srt[j] = 1 := h2
    have h5 := (h.el srt[j] (hm _ (List.getElem_mem hj))).2.1
    simp at h4
    omega
end Rw

namespace Rk
open PySem PySem.Spec PyProof.Rows L2 Evl
/-! ## The layer: what a reading comes to -/
/-- P tells of the heap ahead, the value and the heap behind -/
def EvG (te : TE) (σ : L2.St) (H : Hp) (P : Hp → V → Hp → Prop) : Prop := ∀ H1, Ex H H1 → ∀ Q : VK, (∀ v H2, Ex H1 H2 → P H1 v H2 → Q v H2) → te σ H1 Q
def SpG (sp : Sp) (vs : List V) (H : Hp) (P : Hp → V → Hp → Prop) : Prop := ∀ H1, Ex H H1 → ∀ Q : VK, (∀ v H2, Ex H1 H2 → P H1 v H2 → Q v H2) → ∀ E : XK, sp vs H1 Q E
/-- it goes out by an exception that is wished -/
def Dv (te : TE) (σ : L2.St) (H : Hp) : Prop := ∀ H1, Ex H H1 → ∀ Q : VK, te σ H1 Q
def SpD (sp : Sp) (vs : List V) (H : Hp) (E : XK) : Prop := ∀ H1, Ex H H1 → ∀ Q : VK, sp vs H1 Q E
section
variable {P : Program} {w : World} {K : PySem.W.Frag} {mg : Str → Option Value} {base : Heap} {N : List Str} {qual : Str} {scope : Scope} {f : Addr} {cd : Value} {A : Around} {outer : List Env} {s : Shared} {H : Hp} {E : XK}
theorem hk : Takes (cxOf (L2.CX P w) P w K mg base N qual scope f cd A outer s H E) (fun cls d _ H' => E cls d H') := takes_of rfl rfl rfl rfl
theorem hx : Passes (L2.CX P w) (cxOf (L2.CX P w) P w K mg base N qual scope f cd A outer s H E) E := passes_call hk fun _ _ _ _ h => h
end
section
variable {K : PySem.W.Frag} {σ : L2.St} {H H' : Hp} {ta tb te tx : TE} {t u : TT} {x y z v : V} {r : R2} {D : Ends} {tz tu tw : TS}
theorem Dv.mono (e : Ex H H') (h : Dv te σ H) : Dv te σ H' := fun H1 a Q => h H1 (e.trans a) Q
theorem dv_op1 (h : Dv ta σ H) : Dv (tOp r ta tb) σ H := fun H1 e Q => h H1 e _
theorem q_dv (h : Dv te σ H) : tSeq (tDrop te) tz D σ H := h H (Ex.refl H) _
theorem q_dvA {i : Nat} (h : Dv te σ H) : tSeq (tAsg te (gName i)) tz D σ H := h H (Ex.refl H) _
theorem s_dvA {i : Nat} (h : Dv te σ H) : tAsg te (gName i) D σ H := h H (Ex.refl H) _
theorem s_dvR (h : Dv te σ H) : tRet te D σ H := h H (Ex.refl H) _
theorem dv_call {sp : Sp} {vs : List V} {E : XK} {tA : TA} (h : EvA tA σ H vs) (hs : SpD sp vs H E) : Dv (tCall sp [] E tA) σ H := fun H1 e Q =>
  h H1 e _ fun H2 e2 => by
    show sp (vs ++ []) H2 Q E
    rw [List.append_nil]
    exact hs H2 (e.trans e2) Q
theorem dv_meth {C a dx : Addr} {m : Str} {fs : List (Str × V)} {sp : Sp} {vs : List V} {E : XK} {tA : TA} (ho : Ev ta σ H (.ref a)) (hi : H a = some (.ins C dx fs)) (hl : fs.lookup m = none) (h : EvA tA σ H vs) (hs : SpD sp (.ref a :: vs) H E) :
    Dv (tMeth C m sp [] E ta tA) σ H := fun H1 e Q => ho H1 e _ fun H2 e2 => ⟨a, dx, fs, rfl, e2 _ _ (e _ _ hi), hl, h H2 (e.trans e2) _ fun H3 e3 => by
    show sp (.ref a :: (vs ++ [])) H3 Q E
    rw [List.append_nil]
    exact hs H3 ((e.trans e2).trans e3) Q⟩
theorem ev_call0 {sp : Sp} {vs : List V} {E : XK} {tA : TA} (h : EvA tA σ H vs) (hs : SpV sp vs H z) : Ev (tCall sp [] E tA) σ H z := ev_call h (by rw [List.append_nil]; exact hs)
theorem el_call0 {sp : Sp} {vs xs : List V} {E : XK} {tA : TA} (h : EvA tA σ H vs) (hs : SpL sp vs H xs) : EvL (tCall sp [] E tA) σ H xs := el_call h (by rw [List.append_nil]; exact hs)
theorem eg_call {sp : Sp} {vs : List V} {E : XK} {tA : TA} {R : Hp → V → Hp → Prop} (hR : ∀ H0 H1 v H2, Ex H0 H1 → R H1 v H2 → R H0 v H2) (h : EvA tA σ H vs) (hs : SpG sp vs H R) : EvG (tCall sp [] E tA) σ H R := fun H1 e Q q =>
  h H1 e _ fun H2 e2 => by
    show sp (vs ++ []) H2 Q E
    rw [List.append_nil]
    exact hs H2 (e.trans e2) Q (fun v H3 e3 p => q v H3 (e2.trans e3) (hR _ _ _ _ e2 p)) E
theorem ev_meth {C a dx : Addr} {m : Str} {fs : List (Str × V)} {sp : Sp} {vs : List V} {E : XK} {tA : TA} (ho : Ev ta σ H (.ref a)) (hi : H a = some (.ins C dx fs)) (hl : fs.lookup m = none) (h : EvA tA σ H vs) (hs : SpV sp (.ref a :: vs) H z) :
    Ev (tMeth C m sp [] E ta tA) σ H z := fun H1 e Q q => ho H1 e _ fun H2 e2 => ⟨a, dx, fs, rfl, e2 _ _ (e _ _ hi), hl, h H2 (e.trans e2) _ fun H3 e3 => by
    show sp (.ref a :: (vs ++ [])) H3 Q E
    rw [List.append_nil]
    exact hs H3 ((e.trans e2).trans e3) Q (fun H4 e4 => q H4 ((e2.trans e3).trans e4)) E⟩
theorem el_meth {C a dx : Addr} {m : Str} {fs : List (Str × V)} {sp : Sp} {vs xs : List V} {E : XK} {tA : TA} (ho : Ev ta σ H (.ref a)) (hi : H a = some (.ins C dx fs)) (hl : fs.lookup m = none) (h : EvA tA σ H vs) (hs : SpL sp (.ref a :: vs) H xs) :
    EvL (tMeth C m sp [] E ta tA) σ H xs := fun H1 e Q q => ho H1 e _ fun H2 e2 => ⟨a, dx, fs, rfl, e2 _ _ (e _ _ hi), hl, h H2 (e.trans e2) _ fun H3 e3 => by
    show sp (.ref a :: (vs ++ [])) H3 Q E
    rw [List.append_nil]
    exact hs H3 ((e.trans e2).trans e3) Q (fun p H4 hp e4 h4 => q p H4 (fresh_back (e2.trans e3) hp) ((e2.trans e3).trans e4) h4) E⟩
theorem ev_fld {a C dx : Addr} {fs : List (Str × V)} {f : Str} (h : Ev ta σ H (.ref a)) (ho : H a = some (.ins C dx fs)) (hc : Cls K C) (hn : NoAttr K C f) (hl : fs.lookup f = some v) : Ev (tFld K ta f) σ H v := fun H1 e Q q =>
  h H1 e _ fun H2 e2 => ⟨a, C, dx, fs, v, rfl, e2 _ _ (e _ _ ho), hc, hn, hl, q H2 e2⟩
theorem rc_abs {i : Int} : RC (fun xs H Q => ∃ i, xs = [V.int i] ∧ Q (V.int (if i < 0 then -i else i)) H) [.int i] H (.int (if i < 0 then -i else i)) := fun H1 _ _ q => ⟨i, rfl, q H1 (Ex.refl H1)⟩
theorem rc_min {i j : Int} : RC (fun xs H Q => ∃ i j, xs = [V.int i, V.int j] ∧ Q (V.int (if j < i then j else i)) H) [.int i, .int j] H (.int (if j < i then j else i)) := fun H1 _ _ q => ⟨i, j, rfl, q H1 (Ex.refl H1)⟩
theorem rc_max {i j : Int} : RC (fun xs H Q => ∃ i j, xs = [V.int i, V.int j] ∧ Q (V.int (if j > i then j else i)) H) [.int i, .int j] H (.int (if j > i then j else i)) := fun H1 _ _ q => ⟨i, j, rfl, q H1 (Ex.refl H1)⟩
theorem rc_isi {c : V} {cv t : Value} {b : Bool} (hc : ClsV c cv) (ht : ∀ H1, Ex H H1 → TyX K H1 x t) (hk : PySem.W.kitOne K t cv = some b) : RC (rIsi K) [x, c] H (.bl b) := fun H1 e _ q => ⟨x, c, t, cv, b, rfl, hc, ht H1 e, hk, q H1 (Ex.refl H1)⟩
theorem ru_i {g : Int → V} {i : Int} : RU (rU g) (.int i) H (g i) := fun H1 _ _ q => ⟨i, rfl, q H1 (Ex.refl H1)⟩
theorem at_map {bs : List Int} {k : Nat} {b : Int} (h : bs[k]? = some b) : atI (bs.map V.int) (k : Int) = some (.int b) := atI_nat (by rw [List.getElem?_map, h]; rfl)
/-- for j in range(a, b, -1) -/
theorem q_forD {tA : TA} {j : Nat} {lo hi : Int} {n : Nat} (h : EvA tA σ H [.int lo, .int hi, .int (-1)]) (hn : -(2 ^ 62) ≤ lo ∧ lo < 2 ^ 62 ∧ -(2 ^ 62) ≤ hi ∧ hi < 2 ^ 62) (en : (lo - hi).toNat = n) (Pv : Nat → L2.St → Hp → Prop) (h0 : ∀ H1, Ex H H1 → Pv 0 σ H1)
    (hs : ∀ (i : Nat) σ' H', i < n → Pv i σ' H' → tu { D with nx := Pv (i + 1), ct := Pv (i + 1), bk := tz D } (σ'.set j (some (.int (lo - (i : Int))))) H') (hd : ∀ σ' H', Pv n σ' H' → tz D σ' H') : tSeq (tFor (iRng3 tA) (gName j) tu) tz D σ H := by
  refine h H (Ex.refl H) _ fun H1 e => ⟨lo, hi, -1, n, rfl, ?_, ?_⟩
  · rw [← en]
    exact RgC.neg hn.1 hn.2.1 hn.2.2.1 hn.2.2.2
  · refine for_rangeC (lo := lo) (c := -1) (n := n) (D := { D with nx := tz D }) Pv (h0 H1 e) (fun i σ' H' hi p => ?_) hd
    have e1 : lo + (i : Int) * (-1) = lo - (i : Int) := by omega
    show tu _ (σ'.set j (some (.int (lo + (i : Int) * (-1))))) H'
    rw [e1]
    exact hs i σ' H' hi p
end
/-! ### a board -/
def bf (l t : Addr) : List (Str × V) := [("bases", .ref l), ("turns", .ref t)]
theorem bf_bases (l t : Addr) : (bf l t).lookup ("bases" : Str) = some (V.ref l) := by simp [bf, List.lookup]
theorem bf_turns (l t : Addr) : (bf l t).lookup ("turns" : Str) = some (V.ref t) := by
  have h : (("turns" : Str) == "bases") = false := by decide +kernel
  simp [bf, List.lookup, h]
theorem bf_none (l t : Addr) {m : Str} (h1 : (m == ("bases" : Str)) = false) (h2 : (m == ("turns" : Str)) = false) : (bf l t).lookup m = none := by simp [bf, List.lookup, h1, h2]
end Rk

namespace Rk
open PySem PySem.Spec PyProof.Rows L2 Evl
section
variable {K : PySem.W.Frag} {σ : L2.St} {H H' : Hp} {ta tb te tx : TE} {t u : TT} {x y z v : V} {r : R2} {D : Ends} {tz tu tw : TS}
theorem ev_callS {sp : Sp} {vs : List V} {E : L2.St → XK} {tA : TA} (h : EvA tA σ H vs) (hs : SpV sp vs H z) : Ev (tCallS sp E tA) σ H z := fun H1 e Q q =>
  h H1 e _ fun H2 e2 => hs H2 (e.trans e2) Q (fun H3 e3 => q H3 (e2.trans e3)) (E σ)
theorem el_callS {sp : Sp} {vs xs : List V} {E : L2.St → XK} {tA : TA} (h : EvA tA σ H vs) (hs : SpL sp vs H xs) : EvL (tCallS sp E tA) σ H xs := fun H1 e Q q =>
  h H1 e _ fun H2 e2 => hs H2 (e.trans e2) Q (fun p H3 hp e3 h3 => q p H3 (fresh_back e2 hp) (e2.trans e3) h3) (E σ)
theorem dv_callS {sp : Sp} {vs : List V} {E : L2.St → XK} {tA : TA} (h : EvA tA σ H vs) (hs : SpD sp vs H (E σ)) : Dv (tCallS sp E tA) σ H := fun H1 e Q =>
  h H1 e _ fun H2 e2 => hs H2 (e.trans e2) Q
/-- what the class of an exception says to isinstance, the class read off the exception itself -/
def rIsX (K : PySem.W.Frag) (cls : Value) (d : Option Addr) (a : Addr) : List V → Hp → VK → Prop := fun xs H Q =>
  ∃ (C : Addr) (c : V) (cv : Value) (b : Bool), cls = .ref C ∧ d = none ∧ ExcC K C ∧ xs = [.ref a, c] ∧ (∀ u, RelV c u → u = cv) ∧ PySem.W.kitOne K (.ref C) cv = some b ∧ Q (.bl b) H
theorem call_isE' {X : Cx} {a : Addr} {cls : Value} {d : Option Addr} {oe : Obj} {pn : List (Addr × Obj)} (hz : Zc cls d oe) (hf : ∃ vs, oe.data = .fields vs) : CallR (X.suite a ((a, oe) :: pn)) (.builtin "isinstance") (rIsX X.K cls d a) := by
  intro p1 s1 σ1 H1 xs us Q1 I1 r1 hh
  obtain ⟨C, c, cv, b, e1, e2, k1, k2, k3, k4, k5⟩ := hh
  subst e1 e2
  exact call_isE k1 hz hf p1 s1 σ1 H1 xs us Q1 I1 r1 ⟨c, cv, b, k2, k3, k4, k5⟩
theorem rc_isX {a C : Addr} {c : V} {cv : Value} {b : Bool} (k1 : ExcC K C) (k3 : ∀ u, RelV c u → u = cv) (k4 : PySem.W.kitOne K (.ref C) cv = some b) : RC (rIsX K (.ref C) none a) [.ref a, c] H (.bl b) :=
  fun H1 _ _ q => ⟨C, c, cv, b, rfl, rfl, k1, rfl, k3, k4, q H1 (Ex.refl H1)⟩
theorem rel_ty (n : String) : ∀ u, RelV (.ty n) u → u = .type n := fun _ h => h
theorem rel_ref (C : Addr) : ∀ u, RelV (.ref C) u → u = .ref C := fun _ h => h
/-! ### the script's cells -/
def cell (ns : List Int) (i : Int) : Int := ns.getD i.toNat 0
end
/-! ### a field, the written part told (within a comprehension) -/
theorem pe_fldK {X : Cx} {K : PySem.W.Frag} {e : Expr} {f : Str} {pos : Pos} {ta : TE} (he : PE X e ta) (hb : attributeBase e f X.env (eval e X.env) = eval e X.env) (hK : X.K = K := by rfl) : PE X (.Attribute e f pos) (tFld K ta f) := by
  subst hK
  exact pe_fld he hb
theorem ix_listK {X : Cx} {K : PySem.W.Frag} (hK : X.K = K := by rfl) : IxR X (rIxL K) := by
  subst hK
  exact ix_list
theorem ix_tupK {X : Cx} {K : PySem.W.Frag} (hK : X.K = K := by rfl) : IxR X (rIxT K) := by
  subst hK
  exact ix_tup
theorem sl_listK {X : Cx} {K : PySem.W.Frag} (hK : X.K = K := by rfl) : SlR X (rSlL K) := by
  subst hK
  exact sl_list
theorem pi_listK {X : Cx} {K : PySem.W.Frag} {tg e : Expr} {tl : TE} (hl : PE X e tl) (hK : X.K = K := by rfl) : PI X tg e (iList K tl) := by
  subst hK
  exact pi_list hl
/-! ### methods and makers whose exceptions are wished for at the slots -/
section
variable {X : Cx} {C : Addr} {m : Str} {sp : Sp} {k : Nat} {f : Addr} {fd : FuncData} {ps : List Str} {E : L2.St → XK} {o e : Expr} {es : List Expr} {ta : TE} {tA : TA} {pos apos p : Pos} {x : Str}
def tMethW (C : Addr) (m : Str) (sp : Sp) (E : L2.St → XK) (ta : TE) (tA : TA) : TE := fun σ H Q =>
  ta σ H fun y H1 => ∃ a dx fs, y = .ref a ∧ H1 a = some (.ins C dx fs) ∧ fs.lookup m = none ∧ tA σ H1 fun vs H2 => sp (y :: vs) H2 Q (E σ)
theorem pe_methS1 {pl : Sem Bool} (ho : PE X o ta) (c : Cls X.K C) (hm : Meth X.K C m f) (F : FnOk X.prog X.w X.K X.mg X.base (L2.CX X.prog X.w) k f fd ps sp) (hr : Room k X.A) (hb : Binds X.K fd ps []) (hp : ∀ σ, PassesAt (L2.CX X.prog X.w) X σ (E σ)) (ha : PA X (e :: es) tA)
    (h1 : starEach (e :: es) X.env = (false, eval e X.env) :: starEach es X.env := by rfl) (h2 : (backTo pos (starEach es X.env)).any (·.1) = false := by rfl)
    (h3 : eval (.Call (.Attribute o m apos) (e :: es) [] pos) X.env = (eval o X.env >>= fun ov => standAt apos.atName >>= fun _ => holding [ov] (getMethod ov m pl) >>= fun z =>
      callWith pos z.1 z.2 (backTo pos (starEach (e :: es) X.env)) (backToKw pos (keywordEach [] X.env))) := by rfl) :
    PE X (.Call (.Attribute o m apos) (e :: es) [] pos) (tMethW C m sp E ta tA) := .mk fun P1 s1 σ1 H1 Q1 I1 hh => by
  refine PySem.W.methodCall_KW (pl := pl) (thn (ho.run P1 s1 σ1 H1 _ I1 hh) fun u s2 z2 => ?_) h3
  obtain ⟨y, H2, I2, ry, a, dx, fs, ey, ea, el, q⟩ := z2
  subst ey
  cases (show u = Value.ref a from ry)
  refine getmeth_ok I2 ea c hm el (PySem.W.callWith_K (first := [.ref a]) (h₀ := X.base) I2.ok.mod.kin hm.kp (thn (ha.run pos P1 s2 σ1 H2 _ I2 q) fun us s3 z3 => ?_) h1 h2)
  obtain ⟨vs, H3, I3, r3, q3⟩ := z3
  exact ⟨I3.kIn, run_fnS (us := .ref a :: us) (vs := .ref a :: vs) F hr hb (hp σ1) I3 (.cons rfl r3) q3⟩
theorem pe_methS0 {pl : Sem Bool} (ho : PE X o ta) (c : Cls X.K C) (hm : Meth X.K C m f) (F : FnOk X.prog X.w X.K X.mg X.base (L2.CX X.prog X.w) k f fd ps sp) (hr : Room k X.A) (hb : Binds X.K fd ps []) (hp : ∀ σ, PassesAt (L2.CX X.prog X.w) X σ (E σ))
    (h3 : eval (.Call (.Attribute o m apos) [] [] pos) X.env = (eval o X.env >>= fun ov => standAt apos.atName >>= fun _ => holding [ov] (getMethod ov m pl) >>= fun z =>
      callWith pos z.1 z.2 (backTo pos (starEach [] X.env)) (backToKw pos (keywordEach [] X.env))) := by rfl) :
    PE X (.Call (.Attribute o m apos) [] [] pos) (tMethW C m sp E ta tNil) := .mk fun P1 s1 σ1 H1 Q1 I1 hh => by
  refine PySem.W.methodCall_KW (pl := pl) (thn (ho.run P1 s1 σ1 H1 _ I1 hh) fun u s2 z2 => ?_) h3
  obtain ⟨y, H2, I2, ry, a, dx, fs, ey, ea, el, q⟩ := z2
  subst ey
  cases (show u = Value.ref a from ry)
  exact getmeth_ok I2 ea c hm el (PySem.W.callWith_K0 (first := [.ref a]) I2.kIn hm.kp (run_fnS (us := [.ref a]) (vs := [.ref a]) F hr hb (hp σ1) I2 (.cons rfl .nil) q))
end
section
variable {K : PySem.W.Frag} {σ : L2.St} {H H' : Hp} {ta tb te tx : TE} {t u : TT} {x y z v : V} {r : R2} {D : Ends} {tz tu tw : TS}
theorem ev_methW {C a dx : Addr} {m : Str} {fs : List (Str × V)} {sp : Sp} {vs : List V} {E : L2.St → XK} {tA : TA} (ho : Ev ta σ H (.ref a)) (hi : H a = some (.ins C dx fs)) (hl : fs.lookup m = none) (h : EvA tA σ H vs) (hs : SpV sp (.ref a :: vs) H z) :
    Ev (tMethW C m sp E ta tA) σ H z := fun H1 e Q q => ho H1 e _ fun H2 e2 => ⟨a, dx, fs, rfl, e2 _ _ (e _ _ hi), hl, h H2 (e.trans e2) _ fun H3 e3 => hs H3 ((e.trans e2).trans e3) Q (fun H4 e4 => q H4 ((e2.trans e3).trans e4)) (E σ)⟩
theorem el_methW {C a dx : Addr} {m : Str} {fs : List (Str × V)} {sp : Sp} {vs xs : List V} {E : L2.St → XK} {tA : TA} (ho : Ev ta σ H (.ref a)) (hi : H a = some (.ins C dx fs)) (hl : fs.lookup m = none) (h : EvA tA σ H vs) (hs : SpL sp (.ref a :: vs) H xs) :
    EvL (tMethW C m sp E ta tA) σ H xs := fun H1 e Q q => ho H1 e _ fun H2 e2 => ⟨a, dx, fs, rfl, e2 _ _ (e _ _ hi), hl, h H2 (e.trans e2) _ fun H3 e3 => hs H3 ((e.trans e2).trans e3) Q (fun p H4 hp e4 h4 => q p H4 (fresh_back (e2.trans e3) hp) ((e2.trans e3).trans e4) h4) (E σ)⟩
theorem dv_methW {C a dx : Addr} {m : Str} {fs : List (Str × V)} {sp : Sp} {vs : List V} {E : L2.St → XK} {tA : TA} (ho : Ev ta σ H (.ref a)) (hi : H a = some (.ins C dx fs)) (hl : fs.lookup m = none) (h : EvA tA σ H vs) (hs : SpD sp (.ref a :: vs) H (E σ)) :
    Dv (tMethW C m sp E ta tA) σ H := fun H1 e Q => ho H1 e _ fun H2 e2 => ⟨a, dx, fs, rfl, e2 _ _ (e _ _ hi), hl, h H2 (e.trans e2) _ fun H3 e3 => hs H3 ((e.trans e2).trans e3) Q⟩
end
section
variable {K : PySem.W.Frag} {σ : L2.St} {H H' : Hp} {ta tb tc te tx : TE} {t u : TT} {x y z v : V} {r r' : R2} {D : Ends} {tz tu tw : TS}
theorem ev_chain {b1 b2 : Bool} (ha : Ev ta σ H x) (hb : Ev tb σ H y) (h1 : RV r x y H (.bl b1)) (hc : b1 = true → Ev tc σ H z) (h2 : b1 = true → RV r' y z H (.bl b2)) : Ev (tChain r r' ta tb tc) σ H (.bl (b1 && b2)) := fun H1 e Q q =>
  ha H1 e _ fun H2 e2 => hb H2 (e.trans e2) _ fun H3 e3 => h1 H3 ((e.trans e2).trans e3) _ fun H4 e4 => ⟨b1, rfl, by
    cases b1 with
    | true =>
      show tc σ H4 fun w' H5 => r' y w' H5 Q
      exact hc rfl H4 (((e.trans e2).trans e3).trans e4) _ fun H5 e5 => h2 rfl H5 ((((e.trans e2).trans e3).trans e4).trans e5) Q fun H6 e6 => q H6 ((((e2.trans e3).trans e4).trans e5).trans e6)
    | false => exact q H4 ((e2.trans e3).trans e4)⟩
theorem set_same {i : Nat} {o : Option V} (h : σ[i]? = some o) : σ.set i o = σ := by
  obtain ⟨hi, e⟩ := List.getElem?_eq_some_iff.mp h
  rw [← e, List.set_getElem_self]
/-- if c: x = e, both numbers -/
theorem q_ifI {i : Nat} {b : Bool} {x0 x1 : Int} (h : EvT t σ H b) (h0 : σ[i]? = some (some (.int x0))) (h1 : b = true → Ev te σ H (.int x1)) (k : ∀ H1, Ex H H1 → tz D (σ.set i (some (.int (if b = true then x1 else x0)))) H1) : tSeq (tIfS t (tAsg te (gName i)) tNext) tz D σ H := by
  cases b with
  | true => exact q_ifAsg h h1 (fun z => nomatch z) k
  | false => exact q_ifAsg h (fun z => nomatch z) (fun _ => set_same h0) k
/-- what an own class in an except clause says -/
theorem exm_yes {A B : Addr} {b : Bool} (h1 : PySem.W.subIn K (.ref B) (.type "BaseException") = some true) (h2 : PySem.W.hasDictIn K B = true) (h3 : PySem.W.typeIn K (.ref B) = some (.type "type")) (h4 : PySem.W.subIn K (.ref A) (.ref B) = some b) : PySem.W.exmOne K (.ref A) (.ref B) = some b := PySem.W.exm_ref h1 h2 h3 h4
end
section
variable {K : PySem.W.Frag}
theorem kit_exT {C : Addr} {T : String} {b : Bool} (hT : PySem.W.kitMeta T = true) (h : PySem.W.subIn K (.ref C) (.type T) = some b) : PySem.W.kitOne K (.ref C) (.type T) = some b := by
  show (if (Value.ref C == Value.type T) = true then some true else (if PySem.W.kitMeta T = true then PySem.W.subIn K (.ref C) (.type T) else none)) = some b
  rw [if_neg (by simp), if_pos hT, h]
theorem kit_exC {A B : Addr} {b : Bool} (hb : b = true ∨ A ≠ B) (h : PySem.W.subIn K (.ref A) (.ref B) = some b) (j : PySem.W.isClsIn K B = true) (t : PySem.W.typeIn K (.ref B) = some (.type "type")) : PySem.W.kitOne K (.ref A) (.ref B) = some b := by
  have e2 : ((PySem.W.clsIn K B).isSome && PySem.W.typeIn K (.ref B) == some (.type "type")) = true := by
    have j' : (PySem.W.clsIn K B).isSome = true := j
    rw [j', t] <;> rfl
  show (if (Value.ref A == Value.ref B) = true then some true else (if ((PySem.W.clsIn K B).isSome && PySem.W.typeIn K (.ref B) == some (.type "type")) = true then PySem.W.subIn K (.ref A) (.ref B) else none)) = some b
  by_cases e : A = B
  · rcases hb with hb | hb
    · rw [if_pos (by rw [e]; simp), hb]
    · exact absurd e hb
  · rw [if_neg (by simp [e]), if_pos e2, h]
end
theorem ten60 : (0 : Int) < 10 ^ (60 : Int).toNat := by decide +kernel
/-! ### a board in the heap -/
def BoardAt (C : Addr) (H : Hp) (b : Addr) (bs : List Int) : Prop := ∃ dx l t, H b = some (.ins C dx (bf l t)) ∧ H l = some (.lst (bs.map V.int)) ∧ H t = some (.lst ((Rw.turnsOf bs).map V.int))
theorem BoardAt.mono {C b : Addr} {H H' : Hp} {bs : List Int} (h : BoardAt C H b bs) (e : Ex H H') : BoardAt C H' b bs := by
  obtain ⟨dx, l, t, h1, h2, h3⟩ := h
  exact ⟨dx, l, t, e _ _ h1, e _ _ h2, e _ _ h3⟩
/-- the same, its lists told -/
def BoardIs (C : Addr) (H : Hp) (b : Addr) (bs : List Int) (dx l t : Addr) : Prop := H b = some (.ins C dx (bf l t)) ∧ H l = some (.lst (bs.map V.int)) ∧ H t = some (.lst ((Rw.turnsOf bs).map V.int))
theorem BoardIs.at_ {C : Addr} {H : Hp} {b : Addr} {bs : List Int} {dx l t : Addr} (h : BoardIs C H b bs dx l t) : BoardAt C H b bs := ⟨dx, l, t, h⟩
theorem BoardIs.mono {C : Addr} {H H' : Hp} {b : Addr} {bs : List Int} {dx l t : Addr} (h : BoardIs C H b bs dx l t) (e : Ex H H') : BoardIs C H' b bs dx l t := ⟨e _ _ h.1, e _ _ h.2.1, e _ _ h.2.2⟩
/-- a list that is none of its objects changes -/
theorem BoardIs.put {C : Addr} {H : Hp} {b : Addr} {bs : List Int} {dx l t p : Addr} {o : HO} (h : BoardIs C H b bs dx l t) (n1 : b ≠ p) (n2 : l ≠ p) (n3 : t ≠ p) : BoardIs C (upd H p o) b bs dx l t :=
  ⟨by rw [upd_ne n1]; exact h.1, by rw [upd_ne n2]; exact h.2.1, by rw [upd_ne n3]; exact h.2.2⟩
/-- a list made behind it changes -/
theorem BoardIs.putN {C : Addr} {H H1 : Hp} {b : Addr} {bs : List Int} {dx l t p : Addr} {o : HO} (h : BoardIs C H b bs dx l t) (e : Ex H H1) (hp : H p = none) : BoardIs C (upd H1 p o) b bs dx l t := (h.mono e).put (ne_of_none h.1 hp) (ne_of_none h.2.1 hp) (ne_of_none h.2.2 hp)
section
variable {K : PySem.W.Frag} {σ : L2.St} {H H' : Hp} {ta tb tc te tx : TE} {t u : TT} {x y z v : V} {r r' : R2} {D : Ends} {tz tu tw : TS}
theorem s_forNLn {xs : List V} {tl : TE} {j : Nat} (h : EvL tl σ H xs) (Pv : Addr → Nat → L2.St → Hp → Prop) (h0 : ∀ p H1, H p = none → Ex H H1 → H1 p = some (.lst xs) → Pv p 0 σ H1) (hl : ∀ p i σ' H', i ≤ xs.length → Pv p i σ' H' → SqL K H' p xs)
    (hs : ∀ p i x σ' H', xs[i]? = some x → Pv p i σ' H' → tu { D with nx := Pv p (i + 1), ct := Pv p (i + 1), bk := D.nx } (σ'.set j (some x)) H') (hd : ∀ p σ' H', Pv p xs.length σ' H' → D.nx σ' H') : tFor (iList K tl) (gName j) tu D σ H := s_forNL h Pv h0 hl hs hd
theorem s_forD {tA : TA} {j : Nat} {lo hi : Int} {n : Nat} (h : EvA tA σ H [.int lo, .int hi, .int (-1)]) (hn : -(2 ^ 62) ≤ lo ∧ lo < 2 ^ 62 ∧ -(2 ^ 62) ≤ hi ∧ hi < 2 ^ 62) (en : (lo - hi).toNat = n) (Pv : Nat → L2.St → Hp → Prop) (h0 : ∀ H1, Ex H H1 → Pv 0 σ H1)
    (hs : ∀ (i : Nat) σ' H', i < n → Pv i σ' H' → tu { D with nx := Pv (i + 1), ct := Pv (i + 1), bk := D.nx } (σ'.set j (some (.int (lo - (i : Int))))) H') (hd : ∀ σ' H', Pv n σ' H' → D.nx σ' H') : tFor (iRng3 tA) (gName j) tu D σ H := by
  have z := q_forD (tz := tNext) (D := D) (tu := tu) (σ := σ) (H := H) h hn en Pv h0 (fun i σ' H' hi p => hs i σ' H' hi p) hd
  exact z
theorem q_fldL {a C dx : Addr} {fs : List (Str × V)} {f : Str} {xs : List V} {tv : TE} (hv : EvL tv σ H xs) (ha : Ev ta σ H (.ref a)) (ho : H a = some (.ins C dx fs)) (hc : Cls K C) (hn : NoAttr K C f) (hl : fs.length < 1000)
    (k : ∀ p H1, H p = none → Ex H H1 → H1 p = some (.lst xs) → tz D σ (upd H1 a (.ins C dx (putF f (.ref p) fs)))) : tSeq (sFld K ta tv f) tz D σ H :=
  hv H (Ex.refl H) _ fun p H1 hp e1 h1 => ha H1 e1 _ fun H2 e2 => ⟨a, C, dx, fs, rfl, e2 _ _ (e1 _ _ ho), hc, hn, hl, k p H2 hp (e1.trans e2) (e2 _ _ h1)⟩
theorem dv_sl {rr : V → Option Int → Option Int → Hp → VK → Prop} {tl th : TO} (h : Dv te σ H) : Dv (tSl rr te tl th) σ H := fun H1 e Q => h H1 e _
/-- a test that goes out -/
def DvT (t : TT) (σ : L2.St) (H : Hp) : Prop := ∀ H1, Ex H H1 → ∀ Q : Bool → Hp → Prop, t σ H1 Q
theorem dt_B (h : Dv te σ H) : DvT (tB te) σ H := fun H1 e _ => h H1 e _
theorem dt_test (h : Dv te σ H) : DvT (tTest te) σ H := fun H1 e _ => h H1 e _
theorem dt_not (h : DvT t σ H) : DvT (tNot t) σ H := fun H1 e _ => h H1 e _
theorem s_dvI (h : DvT t σ H) : tIfS t tu tw D σ H := h H (Ex.refl H) _
theorem q_dvI (h : DvT t σ H) : tSeq (tIfS t tu tw) tz D σ H := h H (Ex.refl H) _
/-- for x, y in zip(xs, ys), of one length -/
theorem s_forZip {a b : Addr} {xs ys : List V} {g : TG} (h1 : Ev ta σ H (.ref a)) (hx : SqL K H a xs) (h2 : Ev tb σ H (.ref b)) (hy : SqL K H b ys) (hl : xs.length = ys.length) (Pv : Nat → L2.St → Hp → Prop) (h0 : ∀ H1, Ex H H1 → Pv 0 σ H1)
    (hq : ∀ i σ' H', Pv i σ' H' → SqL K H' a xs ∧ SqL K H' b ys) (hs : ∀ (i : Nat) (x y : V) (T : Addr) σ' H', xs[i]? = some x → ys[i]? = some y → Pv i σ' H' → H' T = none → g (.ref T) σ' (upd H' T (.tup [x, y])) fun σ2 H2 => tu { D with nx := Pv (i + 1), ct := Pv (i + 1), bk := D.nx } σ2 H2)
    (hd : ∀ σ' H', Pv xs.length σ' H' → D.nx σ' H') : tFor (iZip K (tCons ta (tCons tb tNil))) g tu D σ H :=
  h1 H (Ex.refl H) _ fun H1 e1 => h2 H1 e1 _ fun H2 e2 => ⟨a, b, xs, ys, rfl, ex_l (e1.trans e2) hx, ex_l (e1.trans e2) hy, RZ.for_zipL hl Pv (h0 H2 (e1.trans e2)) hq hs hd⟩
theorem cut_to (xs : List V) (k : Nat) : cutV xs none (some (k : Int)) = xs.take k := by
  unfold cutV
  rw [HT.sIx_none, show HT.sIx xs.length xs.length (some (k : Int)) = min k xs.length from HT.sIx_nat xs.length _ k]
  simp only [List.drop_zero, Nat.sub_zero]
  rw [List.take_eq_take_iff]
  omega
theorem cut_from (xs : List V) (k : Nat) : cutV xs (some (k : Int)) none = xs.drop k := by
  unfold cutV
  rw [HT.sIx_none, show HT.sIx xs.length 0 (some (k : Int)) = min k xs.length from HT.sIx_nat xs.length _ k]
  rcases Nat.le_total k xs.length with h | h
  · rw [Nat.min_eq_left h, List.take_of_length_le (by rw [List.length_drop]; exact Nat.le_refl _)]
  · rw [Nat.min_eq_right h, List.drop_length, List.drop_of_length_le h]
    simp
theorem sIx_m2 (n d : Nat) (h : 2 ≤ n) : HT.sIx n d (some (-2)) = n - 2 := by
  unfold HT.sIx
  simp
  try omega
theorem cut_last2 (xs : List V) (h : 2 ≤ xs.length) : cutV xs (some (-2)) none = xs.drop (xs.length - 2) := by
  unfold cutV
  rw [HT.sIx_none, sIx_m2 _ _ h, List.take_of_length_le (by rw [List.length_drop]; exact Nat.le_refl _)]
theorem cut_but2 (xs : List V) (h : 2 ≤ xs.length) : cutV xs none (some (-2)) = xs.take (xs.length - 2) := by
  unfold cutV
  rw [HT.sIx_none, sIx_m2 _ _ h]
  rfl
/-! ### lists that stand in the heap, new or old -/
def EvH (te : TE) (σ : L2.St) (H : Hp) (xs : List V) : Prop := ∀ H1, Ex H H1 → ∀ Q : VK, (∀ p H2, Ex H1 H2 → H2 p = some (.lst xs) → Q (.ref p) H2) → te σ H1 Q
theorem eh_new {xs : List V} (h : EvL te σ H xs) : EvH te σ H xs := fun H1 e Q q => h H1 e Q fun p H2 _ e2 h2 => q p H2 e2 h2
theorem eh_old {xs : List V} {a : Addr} (h : Ev te σ H (.ref a)) (ha : H a = some (.lst xs)) : EvH te σ H xs := fun H1 e Q q => h H1 e Q fun H2 e2 => q a H2 e2 (e2 _ _ (e _ _ ha))
theorem EvH.mono {xs : List V} (e : Ex H H') (h : EvH te σ H xs) : EvH te σ H' xs := fun H1 a Q q => h H1 (e.trans a) Q q
theorem ev_opHH {xs ys : List V} (ha : EvH ta σ H xs) (hb : EvH tb σ H ys) (hr : ∀ p q H1, H1 p = some (.lst xs) → H1 q = some (.lst ys) → Ex H H1 → RV r (.ref p) (.ref q) H1 z) : Ev (tOp r ta tb) σ H z := fun H1 e Q k =>
  ha H1 e _ fun p H2 e2 hp => hb H2 (e.trans e2) _ fun q H3 e3 hq => hr p q H3 (e3 p _ hp) hq ((e.trans e2).trans e3) H3 (Ex.refl H3) Q fun H4 e4 => k H4 ((e2.trans e3).trans e4)
theorem ev_opHV {xs : List V} (ha : EvH ta σ H xs) (hb : Ev tb σ H y) (hr : ∀ p H1, H1 p = some (.lst xs) → Ex H H1 → RV r (.ref p) y H1 z) : Ev (tOp r ta tb) σ H z := fun H1 e Q k =>
  ha H1 e _ fun p H2 e2 hp => hb H2 (e.trans e2) _ fun H3 e3 => hr p H3 (e3 p _ hp) ((e.trans e2).trans e3) H3 (Ex.refl H3) Q fun H4 e4 => k H4 ((e2.trans e3).trans e4)
theorem el_cat {xs ys : List V} (ha : EvH ta σ H xs) (hb : EvH tb σ H ys) (hl : xs.length + ys.length ≤ 100000) : EvL (tOp rCat ta tb) σ H (xs ++ ys) := fun H1 e Q k =>
  ha H1 e _ fun p H2 e2 hp => hb H2 (e.trans e2) _ fun q H3 e3 hq => ⟨p, q, xs, ys, rfl, rfl, e3 p _ hp, hq, sz_of hl, fun l hl2 => k l _ (fresh_back (e2.trans e3) hl2) ((e2.trans e3).trans (Ex.new hl2)) upd_same⟩
theorem el_slH {tl th : TO} {xs : List V} {lo hi : Option Int} (h : EvH te σ H xs) (h1 : EvO tl σ H lo) (h2 : EvO th σ H hi) : EvL (tSl (rSlL K) te tl th) σ H (cutV xs lo hi) := fun H1 e Q q =>
  h H1 e _ fun a H2 e2 ha => h1 H2 (e.trans e2) _ fun H3 e3 => h2 H3 ((e.trans e2).trans e3) _ fun H4 e4 =>
    ⟨a, xs, rfl, sq_of (e4 _ _ (e3 _ _ ha)), fun p hp => q p _ (fresh_back ((e2.trans e3).trans e4) hp) (((e2.trans e3).trans e4).trans (Ex.new hp)) upd_same⟩
theorem ev_lenH {xs : List V} (ha : EvH ta σ H xs) : Ev (tCB (rLenS K) (tCons ta tNil)) σ H (.int (xs.length : Int)) := fun H1 e Q q =>
  ha H1 e _ fun p H2 e2 h2 => ⟨p, xs, rfl, Or.inl (sq_of h2), q H2 e2⟩
theorem el_listH {xs : List V} (ha : EvH ta σ H xs) : EvL (tCB (rListS K) (tCons ta tNil)) σ H xs := fun H1 e Q q =>
  ha H1 e _ fun p H2 e2 h2 => ⟨p, xs, rfl, Or.inl (sq_of h2), fun l hl => q l _ (fresh_back e2 hl) (e2.trans (Ex.new hl)) upd_same⟩
theorem ev_ixH {xs : List V} {i : Int} (ha : EvH ta σ H xs) (hb : Ev tb σ H (.int i)) (h : atI xs i = some v) : Ev (tOp (rIxL K) ta tb) σ H v := ev_opHV ha hb fun p H1 hp _ => rv_ixL (sq_of hp) h
theorem map_get {bs : List Int} {k : Nat} {y : V} (h : (bs.map V.int)[k]? = some y) : ∃ b, bs[k]? = some b ∧ y = .int b := by
  rw [List.getElem?_map] at h
  cases e : bs[k]? with
  | none => rw [e] at h; cases h
  | some b => rw [e] at h; exact ⟨b, rfl, (Option.some.inj h).symm⟩
/-! ### comprehensions that give a number each -/
theorem given_map {n : Nat} {f : Nat → Bool} {v : Nat → V} {ys : List V} (hf : ∀ i, f i = true) (hl : ys.length = n) (hv : ∀ i, i < n → ys[i]? = some (v i)) : given n f v = ys := by
  apply List.ext_getElem?
  intro i
  have e : (List.range n).filter f = List.range n := List.filter_eq_self.mpr fun a _ => hf a
  unfold given
  rw [e]
  by_cases hi : i < n
  · simp [List.getElem?_range hi, hv i hi]
  · rw [List.getElem?_eq_none (by simp; omega), List.getElem?_eq_none (by omega)]
/-- [f(m) for m in ns] -/
theorem el_mapL {a : Addr} {ns : List Int} {f : Int → Int} {tl : TE} {j : Nat} {vs : List Nat} (h : Ev tl σ H (.ref a)) (hx : SqL K H a (ns.map V.int)) (hz : ns.length ≤ 40000) (hw : ∀ x, wipe ((wipe σ vs).set j (some x)) vs = wipe σ vs)
    (he : ∀ (i : Nat) (m : Int) H1, Ex H H1 → ns[i]? = some m → Ev te ((wipe σ vs).set j (some (.int m))) H1 (.int (f m))) : EvL (tLc (iList K tl) (gName j) tYes te vs) σ H ((ns.map f).map V.int) := by
  have z := el_lcL (K := K) (t := tYes) (te := te) (fun _ => true) (fun i => .int (f (ns.getD i 0))) h hx (by rw [List.length_map]; exact hz) hw (fun _ _ _ _ _ H1 _ Q q => q H1 (Ex.refl H1)) (fun i x H1 e hi _ => by
    obtain ⟨m, hm, rfl⟩ := map_get hi
    rw [Rw.getD_of hm]
    exact he i m H1 e hm)
  rw [given_map (ys := (ns.map f).map V.int) (fun _ => rfl) (by simp) (fun i hi => by
    rw [List.length_map] at hi
    have hg : ns[i]? = some ns[i] := List.getElem?_eq_getElem hi
    rw [Rw.getD_of hg, List.getElem?_map, List.getElem?_map, hg]
    rfl)] at z
  exact z
/-- [x % b for b in bs] -/
theorem el_rowL {a : Addr} {bs : List Int} {x : Int} {tl : TE} {j : Nat} {vs : List Nat} (h : Ev tl σ H (.ref a)) (hx : SqL K H a (bs.map V.int)) (hz : bs.length ≤ 40000) (hw : ∀ x, wipe ((wipe σ vs).set j (some x)) vs = wipe σ vs)
    (he : ∀ (i : Nat) (m : Int) H1, Ex H H1 → bs[i]? = some m → Ev te ((wipe σ vs).set j (some (.int m))) H1 (.int (x % m))) : EvL (tLc (iList K tl) (gName j) tYes te vs) σ H ((Rw.rowOf bs x).map V.int) := el_mapL (f := fun m => x % m) h hx hz hw he
/-- [v(k) for k in range(n)] -/
theorem el_mapR {tA : TA} {n : Nat} {ys : List Int} {j : Nat} {vs : List Nat} (h : EvA tA σ H [.int (n : Int)]) (hz : n ≤ 40000) (hl : ys.length = n) (hw : ∀ x, wipe ((wipe σ vs).set j (some x)) vs = wipe σ vs)
    (he : ∀ (i : Nat) (y : Int) H1, Ex H H1 → i < n → ys[i]? = some y → Ev te ((wipe σ vs).set j (some (.int (i : Int)))) H1 (.int y)) : EvL (tLc (iRng1 tA) (gName j) tYes te vs) σ H (ys.map V.int) := by
  have z := el_lcR1 (t := tYes) (te := te) (fun _ => true) (fun i => .int (ys.getD i 0)) h (by omega) hw (fun _ _ _ _ H1 _ Q q => q H1 (Ex.refl H1)) (fun i H1 e hi _ => by
    have hi' : i < ys.length := by omega
    have hg : ys[i]? = some ys[i] := List.getElem?_eq_getElem hi'
    rw [Rw.getD_of hg]
    exact he i _ H1 e (by omega) hg)
  rw [Int.toNat_natCast, given_map (ys := ys.map V.int) (fun _ => rfl) (by simpa using hl) (fun i hi => by
    have hi' : i < ys.length := by omega
    have hg : ys[i]? = some ys[i] := List.getElem?_eq_getElem hi'
    rw [Rw.getD_of hg, List.getElem?_map, hg]
    rfl)] at z
  exact z
theorem s_retG {R : Hp → V → Hp → Prop} (h : EvG te σ H R) (k : ∀ v H1, Ex H H1 → R H v H1 → D.rt v H1) : tRet te D σ H := h H (Ex.refl H) _ k
theorem q_asgG {i : Nat} {R : Hp → V → Hp → Prop} (h : EvG te σ H R) (k : ∀ v H1, Ex H H1 → R H v H1 → tz D (σ.set i (some v)) H1) : tSeq (tAsg te (gName i)) tz D σ H := h H (Ex.refl H) _ k
theorem s_dv (h : Dv te σ H) : tDrop te D σ H := h H (Ex.refl H) _
theorem ev_sumH {ns : List Int} (ha : EvH ta σ H (ns.map V.int)) : Ev (tCB (rSum K) (tCons ta tNil)) σ H (.int ns.sum) := fun H1 e Q q => ha H1 e _ fun p H2 e2 h2 => ⟨p, ns, rfl, sq_of h2, q H2 e2⟩
/-- if c: xs[j] = e, c just where j is a place of xs -/
theorem q_ifSetL {l : Addr} {xs : List V} {j : Nat} {b : Bool} (h : EvT t σ H b) (hb : b = decide (j < xs.length)) (hl : H l = some (.lst xs)) (he : Ev te σ H v) (ho : Ev ta σ H (.ref l)) (hi : Ev tb σ H (.int (j : Int)))
    (k : ∀ H', (∀ c o, c ≠ l → H c = some o → H' c = some o) → H' l = some (.lst (xs.set j v)) → tz D σ H') : tSeq (tIfS t (tAsg te (gSub ta tb rSetL)) tNext) tz D σ H := by
  refine q_when h (fun e1 H1 x1 => ?_) (fun e1 H1 x1 => ?_)
  · subst hb
    refine s_setL (D := { D with nx := tz D }) (x1 _ _ hl) (he.mono x1) (ho.mono x1) (hi.mono x1) (of_decide_eq_true e1) fun H2 x2 => k _ (fun c o nc hc => ?_) upd_same
    rw [upd_ne nc]
    exact x2 _ _ (x1 _ _ hc)
  · subst hb
    refine k H1 (fun c o _ hc => x1 _ _ hc) ?_
    rw [List.set_eq_of_length_le (Nat.le_of_not_lt (of_decide_eq_false e1))]
    exact x1 _ _ hl
/-- (a new list, a value) -/
theorem eg_pairN {xs : List V} (h : EvL ta σ H xs) (hv : ∀ H1, Ex H H1 → Ev tb σ H1 v) : EvG (tTup (tCons ta (tCons tb tNil))) σ H (fun H1 u H2 => ∃ p h, u = .ref p ∧ H1 p = none ∧ H1 h = none ∧ p ≠ h ∧ H2 h = some (.lst xs) ∧ H2 p = some (.tup [.ref h, v])) := fun H1 e Q q =>
  h H1 e _ fun l H2 hl e2 h2 => hv H2 (e.trans e2) H2 (Ex.refl H2) _ fun H3 e3 => ⟨sz_of (by show 2 ≤ 100000; decide), fun p hp =>
    q _ _ ((e2.trans e3).trans (Ex.new hp)) ⟨p, l, rfl, fresh_back (e2.trans e3) hp, hl, (fun z => by rw [z, e3 _ _ h2] at hp; cases hp), Ex.new hp _ _ (e3 _ _ h2), upd_same⟩⟩
theorem s_retSorted {a : Addr} {ns : List Int} (h : Ev ta σ H (.ref a)) (hx : SqL K H a (ns.map V.int)) (hl : ns.length < 64) (k : ∀ (ns' : List Int) p H1, ns'.Perm ns → ns'.Pairwise (· ≤ ·) → H p = none → Ex H H1 → H1 p = some (.lst (ns'.map V.int)) → D.rt (.ref p) H1) :
    tRet (tCB (rSorted K) (tCons ta tNil)) D σ H := h H (Ex.refl H) _ fun H1 e1 => ⟨a, ns, rfl, ex_l e1 hx, hl, fun ns' p hp hs hn => k ns' p _ hp hs (fresh_back e1 hn) (e1.trans (Ex.new hn)) upd_same⟩
theorem at_mapI {bs : List Int} {i : Int} {k : Nat} {b : Int} (e : i = (k : Int)) (h : bs[k]? = some b) : atI (bs.map V.int) i = some (.int b) := by rw [e]; exact at_map h
/-! ### data, compared -/
theorem dpA_ints : ∀ ns : List Int, DpAll K H (ns.map V.int) (ns.map PyData.int)
  | [] => .nil
  | n :: ns => .cons (.int n) (dpA_ints ns)
theorem dp_ints {p : Addr} {ns : List Int} (h : SqL K H p (ns.map V.int)) : Dp K H (.ref p) (.list (ns.map PyData.int)) := .lst h (dpA_ints ns)
theorem lay_ints : ∀ ns : List Int, PyData.canLayAll0 (ns.map PyData.int) = true
  | [] => rfl
  | n :: ns => by
    show (PyData.canLay0 (.int n) && PyData.canLayAll0 (ns.map PyData.int)) = true
    rw [lay_ints ns]
    rfl
theorem dep_ints : ∀ ns : List Int, PyData.depthAll (ns.map PyData.int) = 0
  | [] => rfl
  | n :: ns => by
    show max 0 (PyData.depthAll (ns.map PyData.int)) = 0
    rw [dep_ints ns]
    rfl
theorem shp_ints (ns : List Int) : SeqAt.shaped (.list (ns.map PyData.int)) = true := by
  show (PyData.canLayAll0 (ns.map PyData.int) && decide (PyData.depthAll (ns.map PyData.int) + 1 ≤ 64)) = true
  rw [lay_ints, dep_ints]
  rfl
theorem eqvA_ints : ∀ xs ys : List Int, PyData.eqvAll (xs.map PyData.int) (ys.map PyData.int) = decide (xs = ys)
  | [], [] => by simp [PyData.eqvAll]
  | [], _ :: _ => by simp [PyData.eqvAll]
  | _ :: _, [] => by simp [PyData.eqvAll]
  | x :: xs, y :: ys => by
    show ((x == y) && PyData.eqvAll (xs.map PyData.int) (ys.map PyData.int)) = decide (x :: xs = y :: ys)
    rw [eqvA_ints xs ys, Bool.eq_iff_iff]
    simp
theorem rv_eqI {p q : Addr} {xs ys : List Int} (h1 : SqL K H p (xs.map V.int)) (h2 : SqL K H q (ys.map V.int)) : RV (rEqD K) (.ref p) (.ref q) H (.bl (decide (xs = ys))) := fun H1 e _ k =>
  ⟨_, _, dp_ints (ex_l e h1), dp_ints (ex_l e h2), shp_ints _, shp_ints _, by
    show _
    rw [show PyData.eqv (.list (xs.map PyData.int)) (.list (ys.map PyData.int)) = decide (xs = ys) from eqvA_ints xs ys]
    exact k H1 (Ex.refl H1)⟩
theorem rv_neI {p q : Addr} {xs ys : List Int} (h1 : SqL K H p (xs.map V.int)) (h2 : SqL K H q (ys.map V.int)) : RV (rNeD K) (.ref p) (.ref q) H (.bl (!decide (xs = ys))) := fun H1 e _ k =>
  ⟨_, _, dp_ints (ex_l e h1), dp_ints (ex_l e h2), shp_ints _, shp_ints _, by
    show _
    rw [show PyData.eqv (.list (xs.map PyData.int)) (.list (ys.map PyData.int)) = decide (xs = ys) from eqvA_ints xs ys]
    exact k H1 (Ex.refl H1)⟩
theorem ev_eqH {xs ys : List Int} (ha : EvH ta σ H (xs.map V.int)) (hb : EvH tb σ H (ys.map V.int)) : Ev (tOp (rEqD K) ta tb) σ H (.bl (decide (xs = ys))) := ev_opHH ha hb fun p q H1 hp hq _ => rv_eqI (sq_of hp) (sq_of hq)
theorem ev_neH {xs ys : List Int} (ha : EvH ta σ H (xs.map V.int)) (hb : EvH tb σ H (ys.map V.int)) : Ev (tOp (rNeD K) ta tb) σ H (.bl (!decide (xs = ys))) := ev_opHH ha hb fun p q H1 hp hq _ => rv_neI (sq_of hp) (sq_of hq)
/-- row[-2:] == [0, 0], the row's figures -/
theorem last2_iff {bs rs : List Int} (g : Rw.Good bs) (hl : rs.length = bs.length) : cutV ((Rw.digits bs (Rw.num bs rs)).map V.int) (some (-2)) none = ((Rw.digits bs (Rw.num bs rs)).drop (bs.length - 2)).map V.int := by
  have h3 := g.len3
  rw [cut_last2 _ (by rw [List.length_map, Rw.digits_length]; omega), List.length_map, Rw.digits_length, List.map_drop]
theorem num_tells {bs rs : List Int} (g : Rw.Good bs) (hl : rs.length = bs.length) : decide ((Rw.digits bs (Rw.num bs rs)).drop (bs.length - 2) = [0, 0]) = decide (Rw.num bs rs < Rw.room bs) := by
  obtain ⟨n0, n1, _⟩ := Rw.num_spec g hl
  rw [Bool.eq_iff_iff, decide_eq_true_eq, decide_eq_true_eq]
  exact g.tells n0 n1
theorem el_00 : EvL (tLst (tCons (tC (.int 0)) (tCons (tC (.int 0)) tNil))) σ H (([0, 0] : List Int).map V.int) := el_lst (ea_cons ev_c (ea_cons ev_c ea_nil)) (by decide)
theorem ev_last2 {bs rs : List Int} (g : Rw.Good bs) (hl : rs.length = bs.length) (h : EvL te σ H ((Rw.digits bs (Rw.num bs rs)).map V.int)) :
    Ev (tOp (rEqD K) (tSl (rSlL K) te (tPart (tUn (rU fun i => .int (-i)) (tC (.int 2)))) tNoPart) (tLst (tCons (tC (.int 0)) (tCons (tC (.int 0)) tNil)))) σ H (.bl (decide (Rw.num bs rs < Rw.room bs))) := by
  rw [← num_tells g hl]
  refine ev_eqH (eh_new ?_) (eh_new el_00)
  have z := el_slH (K := K) (eh_new h) (eo_some (ev_un (r := rU fun i => V.int (-i)) (ev_c (v := .int 2)) ru_i)) eo_none
  rw [last2_iff g hl] at z
  exact z
theorem ev_last2N {bs rs : List Int} (g : Rw.Good bs) (hl : rs.length = bs.length) (h : EvL te σ H ((Rw.digits bs (Rw.num bs rs)).map V.int)) :
    Ev (tOp (rNeD K) (tSl (rSlL K) te (tPart (tUn (rU fun i => .int (-i)) (tC (.int 2)))) tNoPart) (tLst (tCons (tC (.int 0)) (tCons (tC (.int 0)) tNil)))) σ H (.bl (!decide (Rw.num bs rs < Rw.room bs))) := by
  rw [← num_tells g hl]
  refine ev_neH (eh_new ?_) (eh_new el_00)
  have z := el_slH (K := K) (eh_new h) (eo_some (ev_un (r := rU fun i => V.int (-i)) (ev_c (v := .int 2)) ru_i)) eo_none
  rw [last2_iff g hl] at z
  exact z
theorem cmulR {i j : Int} (h : -(2 ^ 64) < j ∧ j < 2 ^ 64) : CMul i j := .inr h
theorem cmulL {i j : Int} (h : -(2 ^ 64) < i ∧ i < 2 ^ 64) : CMul i j := .inl h
/-- a and -a in range(len(..)) -/
theorem ev_neg1 {i : Int} : Ev (tUn (rU fun i => .int (-i)) (tC (.int i))) σ H (.int (-i)) := ev_un ev_c ru_i
theorem take_next {l : List Int} {k : Nat} {b : Int} (h : l[k]? = some b) : (l.take (k + 1)).map V.int = (l.take k).map V.int ++ [.int b] := by
  obtain ⟨hk, e⟩ := List.getElem?_eq_some_iff.mp h
  rw [List.take_succ_eq_append_getElem hk, List.map_append, e]
  rfl
end
theorem ty_int {K : PySem.W.Frag} {H : Hp} {i : Int} : TyX K H (.int i) (.type "int") := .base (.int i)
theorem ty_lst {K : PySem.W.Frag} {H : Hp} {p : Addr} {xs : List V} (h : H p = some (.lst xs)) : TyX K H (.ref p) (.type "list") := .base (.lst h)
theorem ty_tup {K : PySem.W.Frag} {H : Hp} {p : Addr} {xs : List V} (h : H p = some (.tup xs)) : TyX K H (.ref p) (.type "tuple") := .base (.tup h)
end Rk

namespace Rk
open PySem PySem.Spec PyProof.Rows L2 Evl
/-! ## Words that the laws share -/
/-! ### comparing, the written part told (within an except clause) -/
theorem op_eqDK {X : Cx} {K : PySem.W.Frag} (hu : X.A.units + 64 < cLine) (hK : X.K = K := by rfl) : OpR X (compareOp .Eq) (rEqD K) := by
  subst hK
  exact op_eqD hu
theorem call_lenK {X : Cx} {K : PySem.W.Frag} (hK : X.K = K := by rfl) : CallR X (.builtin "len") (rLenS K) := by
  subst hK
  exact call_len_seq
theorem op_neDK {X : Cx} {K : PySem.W.Frag} (hu : X.A.units + 64 < cLine) (hK : X.K = K := by rfl) : OpR X (compareOp .NotEq) (rNeD K) := by
  subst hK
  exact op_neD hu
section
variable {K : PySem.W.Frag} {σ : L2.St} {H H' : Hp} {ta tb tc te tx : TE} {t u : TT} {x y z v : V} {r r' : R2} {D : Ends} {tz tu tw : TS}
/-! ### lists of lists of numbers -/
/-- ps are the places of the lists ds -/
inductive Rows (H : Hp) : List V → List (List Int) → Prop
  | nil : Rows H [] []
  | cons {a : Addr} {xs : List Int} {ps : List V} {ds : List (List Int)} : H a = some (.lst (xs.map V.int)) → Rows H ps ds → Rows H (.ref a :: ps) (xs :: ds)
theorem Rows.mono {ps : List V} {ds : List (List Int)} (h : Rows H ps ds) (e : Ex H H') : Rows H' ps ds := by
  induction h with
  | nil => exact .nil
  | cons h1 _ ih => exact .cons (e _ _ h1) ih
theorem Rows.dp {ps : List V} {ds : List (List Int)} (h : Rows H ps ds) : DpAll K H ps (ds.map fun xs => PyData.list (xs.map PyData.int)) := by
  induction h with
  | nil => exact .nil
  | cons h1 _ ih => exact .cons (dp_ints (sq_of h1)) ih
theorem lay_rows : ∀ ds : List (List Int), PyData.canLayAll0 (ds.map fun xs => PyData.list (xs.map PyData.int)) = true
  | [] => rfl
  | d :: ds => by
    show (PyData.canLayAll0 (d.map PyData.int) && PyData.canLayAll0 (ds.map fun xs => PyData.list (xs.map PyData.int))) = true
    rw [lay_ints, lay_rows ds]
    rfl
theorem dep_rows : ∀ ds : List (List Int), PyData.depthAll (ds.map fun xs => PyData.list (xs.map PyData.int)) ≤ 1
  | [] => by decide
  | d :: ds => by
    show max (PyData.depthAll (d.map PyData.int) + 1) (PyData.depthAll (ds.map fun xs => PyData.list (xs.map PyData.int))) ≤ 1
    rw [dep_ints]
    have := dep_rows ds
    omega
theorem shp_rows (ds : List (List Int)) : SeqAt.shaped (.list (ds.map fun xs => PyData.list (xs.map PyData.int))) = true := by
  show (PyData.canLayAll0 (ds.map fun xs => PyData.list (xs.map PyData.int)) && decide (PyData.depthAll (ds.map fun xs => PyData.list (xs.map PyData.int)) + 1 ≤ 64)) = true
  rw [lay_rows]
  have := dep_rows ds
  rw [decide_eq_true (show PyData.depthAll (ds.map fun xs => PyData.list (xs.map PyData.int)) + 1 ≤ 64 by omega)]
  rfl
theorem eqvA_rows : ∀ ds es : List (List Int), PyData.eqvAll (ds.map fun xs => PyData.list (xs.map PyData.int)) (es.map fun xs => PyData.list (xs.map PyData.int)) = decide (ds = es)
  | [], [] => by simp [PyData.eqvAll]
  | [], _ :: _ => by simp [PyData.eqvAll]
  | _ :: _, [] => by simp [PyData.eqvAll]
  | x :: xs, y :: ys => by
    show (PyData.eqvAll (x.map PyData.int) (y.map PyData.int) && PyData.eqvAll (xs.map fun xs => PyData.list (xs.map PyData.int)) (ys.map fun xs => PyData.list (xs.map PyData.int))) = decide (x :: xs = y :: ys)
    rw [eqvA_rows xs ys, eqvA_ints, Bool.eq_iff_iff]
    simp
theorem rv_neRows {p q : Addr} {ps qs : List V} {ds es : List (List Int)} (h1 : H p = some (.lst ps)) (h2 : Rows H ps ds) (h3 : H q = some (.lst qs)) (h4 : Rows H qs es) : RV (rNeD K) (.ref p) (.ref q) H (.bl (!decide (ds = es))) := fun H1 e _ k =>
  ⟨_, _, .lst (sq_of (e _ _ h1)) (h2.mono e).dp, .lst (sq_of (e _ _ h3)) (h4.mono e).dp, shp_rows _, shp_rows _, by
    show _
    rw [show PyData.eqv (.list (ds.map fun xs => PyData.list (xs.map PyData.int))) (.list (es.map fun xs => PyData.list (xs.map PyData.int))) = decide (ds = es) from eqvA_rows ds es]
    exact k H1 (Ex.refl H1)⟩
/-- handed != [left, right] -/
theorem ev_neRows {ps qs : List V} {ds es : List (List Int)} (ha : EvH ta σ H ps) (h2 : Rows H ps ds) (hb : EvH tb σ H qs) (h4 : Rows H qs es) : Ev (tOp (rNeD K) ta tb) σ H (.bl (!decide (ds = es))) :=
  ev_opHH ha hb fun p q H1 hp hq e => rv_neRows hp (h2.mono e) hq (h4.mono e)
/-- [list, list], both new: the three places -/
theorem eg_two {xs ys : List V} (h1 : EvL ta σ H xs) (h2 : EvL tb σ H ys) : EvG (tLst (tCons ta (tCons tb tNil))) σ H (fun H1 w H2 => ∃ p a b, w = .ref p ∧ H1 p = none ∧ H1 a = none ∧ H1 b = none ∧ H2 p = some (.lst [.ref a, .ref b]) ∧ H2 a = some (.lst xs) ∧ H2 b = some (.lst ys)) := fun H1 e Q q =>
  h1 H1 e _ fun a H2 ha e2 ha2 => h2 H2 (e.trans e2) _ fun b H3 hb e3 hb3 => ⟨sz_of (by show 2 ≤ 100000; decide), fun p hp =>
    q _ _ ((e2.trans e3).trans (Ex.new hp)) ⟨p, a, b, rfl, fresh_back (e2.trans e3) hp, ha, fresh_back e2 hb, upd_same, Ex.new hp _ _ (e3 _ _ ha2), Ex.new hp _ _ hb3⟩⟩
/-- a display of lists of numbers, each new or old -/
def EvR (ta : TA) (σ : L2.St) (H : Hp) (ds : List (List Int)) : Prop := ∀ H1, Ex H H1 → ∀ Q : List V → Hp → Prop, (∀ ps H2, Ex H1 H2 → Rows H2 ps ds → ps.length = ds.length → Q ps H2) → ta σ H1 Q
theorem er_nil : EvR tNil σ H [] := fun H1 _ _ q => q [] H1 (Ex.refl H1) .nil rfl
theorem er_cons {tA : TA} {d : List Int} {ds : List (List Int)} (h : EvH te σ H (d.map V.int)) (hr : EvR tA σ H ds) : EvR (tCons te tA) σ H (d :: ds) := fun H1 e Q q =>
  h H1 e _ fun a H2 e2 h2 => hr H2 (e.trans e2) _ fun ps H3 e3 h3 hl => q _ H3 (e2.trans e3) (.cons (e3 _ _ h2) h3) (by rw [List.length_cons, List.length_cons, hl])
theorem eg_rows {tA : TA} {ds : List (List Int)} (h : EvR tA σ H ds) (hl : ds.length ≤ 1000) : EvG (tLst tA) σ H (fun H1 w H2 => ∃ p ps, w = .ref p ∧ H1 p = none ∧ H2 p = some (.lst ps) ∧ Rows H2 ps ds) := fun H1 e Q q =>
  h H1 e _ fun ps H2 e2 h2 hpl => ⟨sz_of (by rw [hpl]; omega), fun p hp => q _ _ (e2.trans (Ex.new hp)) ⟨p, ps, rfl, fresh_back e2 hp, upd_same, h2.mono (Ex.new hp)⟩⟩
theorem Rows.get {ps : List V} {ds : List (List Int)} (h : Rows H ps ds) : ∀ {i : Nat} {x : V}, ps[i]? = some x → ∃ a d, x = .ref a ∧ d ∈ ds ∧ H a = some (.lst (d.map V.int)) := by
  induction h with
  | nil => intro i x hx; simp at hx
  | @cons a xs ps ds h1 _ ih =>
    intro i x hx
    cases i with
    | zero =>
      have e : V.ref a = x := by simpa using hx
      exact ⟨a, xs, e.symm, List.mem_cons_self, h1⟩
    | succ i =>
      obtain ⟨a', d', e, hd, hh⟩ := ih (i := i) (x := x) (by simpa using hx)
      exact ⟨a', d', e, List.mem_cons_of_mem _ hd, hh⟩
/-- for x in [list, ..]: a look at each that changes nothing -/
theorem q_forChk {tA : TA} {ds : List (List Int)} {j : Nat} {o0 : Option V} (h : EvR tA σ H ds) (hl : ds.length ≤ 1000) (hj : σ[j]? = some o0)
    (hb : ∀ (d : List Int) (a : Addr) H' (N : L2.St → Hp → Prop), d ∈ ds → Ex H H' → H' a = some (.lst (d.map V.int)) → (∀ H2, Ex H' H2 → N (σ.set j (some (.ref a))) H2) → tu { D with nx := N, ct := N, bk := tz D } (σ.set j (some (.ref a))) H')
    (hd : ∀ o H', Ex H H' → tz D (σ.set j o) H') : tSeq (tFor (iList K (tLst tA)) (gName j) tu) tz D σ H := by
  have key : ∀ (p : Addr) (ps : List V) H1, Ex H H1 → H1 p = some (.lst ps) → Rows H1 ps ds → ∃ W : Nat → Nat → L2.St → Hp → Prop, (∃ m, W 0 m σ H1) ∧ ∀ i m σ H, W i m σ H →
      ((Itl K p).stop i H ∧ tz D σ H) ∨ ((Itl K p).go i H ∧ ∃ N : L2.St → Hp → Prop, (∀ σ' H', N σ' H' → ∃ m', m' < m ∧ W (i + 1) m' σ' H') ∧ ∀ x H', (Itl K p).yld i H x H' → gName j x σ H' fun σ2 H2 => tu { { D with nx := tz D } with nx := N, ct := N, bk := tz D } σ2 H2) := by
    intro p ps H1 e1 hps hR
    refine for_list (K := K) (a := p) (xs := ps) (D := { D with nx := tz D }) (fun i σ' H' => (∃ o, σ' = σ.set j o) ∧ Ex H1 H') ⟨⟨o0, (set_same hj).symm⟩, Ex.refl H1⟩ (fun i σ' H' _ ⟨_, e⟩ => sq_of (e _ _ hps)) ?_ ?_
    · rintro i x σ' H' hi ⟨⟨o, rfl⟩, e⟩
      obtain ⟨a, d, rfl, hd', ha⟩ := hR.get hi
      show tu _ ((σ.set j o).set j (some (.ref a))) H'
      rw [List.set_set]
      exact hb d a H' (fun σ' H' => (∃ o, σ' = σ.set j o) ∧ Ex H1 H') hd' (e1.trans e) (e _ _ ha) fun H2 e2 => ⟨⟨_, rfl⟩, e.trans e2⟩
    · rintro σ' H' ⟨⟨o, rfl⟩, e⟩
      exact hd o H' (e1.trans e)
  unfold tSeq tFor iList
  refine (eg_rows h hl) H (Ex.refl H) _ fun v H1 e1 hh => ?_
  obtain ⟨p, ps, ev, hp, hps, hR⟩ := hh
  subst ev
  exact ⟨p, rfl, ⟨ps, sq_of hps⟩, key p ps H1 e1 hps hR⟩
/-! ### lists of numbers and None, compared -/
def NI (v : V) : Prop := v = .non ∨ ∃ i, v = .int i
def fd : V → PyData
  | .int i => .int i
  | _ => .none
theorem dpA_ni : ∀ xs : List V, (∀ v ∈ xs, NI v) → DpAll K H xs (xs.map fd)
  | [], _ => .nil
  | x :: xs, h => by
    refine .cons ?_ (dpA_ni xs fun v hv => h v (List.mem_cons_of_mem _ hv))
    rcases h x List.mem_cons_self with e | ⟨i, e⟩ <;> subst e
    · exact .non
    · exact .int i
theorem shp_ni (xs : List V) : SeqAt.shaped (.list (xs.map fd)) = true := by
  have h1 : ∀ xs : List V, PyData.canLayAll0 (xs.map fd) = true := fun xs => by
    induction xs with
    | nil => rfl
    | cons x xs ih =>
      show (PyData.canLay0 (fd x) && PyData.canLayAll0 (xs.map fd)) = true
      rw [ih]
      cases x <;> rfl
  have h2 : ∀ xs : List V, PyData.depthAll (xs.map fd) = 0 := fun xs => by
    induction xs with
    | nil => rfl
    | cons x xs ih =>
      show max (PyData.depth (fd x)) (PyData.depthAll (xs.map fd)) = 0
      rw [ih]
      cases x <;> rfl
  show (PyData.canLayAll0 (xs.map fd) && decide (PyData.depthAll (xs.map fd) + 1 ≤ 64)) = true
  rw [h1, h2]
  rfl
theorem rv_neNI {p q : Addr} {xs : List V} (hx : ∀ v ∈ xs, NI v) (h1 : SqL K H p xs) (h2 : SqL K H q xs) : RV (rNeD K) (.ref p) (.ref q) H (.bl false) := fun H1 e _ k =>
  ⟨_, _, .lst (ex_l e h1) (dpA_ni xs hx), .lst (ex_l e h2) (dpA_ni xs hx), shp_ni xs, shp_ni xs, by
    show _
    rw [show PyData.eqv (.list (xs.map fd)) (.list (xs.map fd)) = true from SeqAt.eqv_refl _ (SeqAt.canLay_of_shaped (shp_ni xs))]
    exact k H1 (Ex.refl H1)⟩
/-- return f(..) in a try -/
theorem s_retCallS {sp : Sp} {E : L2.St → XK} {tA : TA} {vs : List V} (h : EvA tA σ H vs) (k : ∀ H1, Ex H H1 → sp vs H1 D.rt (E σ)) : tRet (tCallS sp E tA) D σ H := h H (Ex.refl H) _ k
theorem s_asgCallS {sp : Sp} {E : L2.St → XK} {tA : TA} {vs : List V} {i : Nat} (h : EvA tA σ H vs) (k : ∀ H1, Ex H H1 → sp vs H1 (fun v H2 => D.nx (σ.set i (some v)) H2) (E σ)) : tAsg (tCallS sp E tA) (gName i) D σ H := h H (Ex.refl H) _ k
/-! ### texts in a list, compared -/
theorem dpA_strs : ∀ ns : List Str, DpAll K H (ns.map V.str) (ns.map PyData.str)
  | [] => .nil
  | n :: ns => .cons (.str n) (dpA_strs ns)
theorem dp_strs {p : Addr} {ns : List Str} (h : SqL K H p (ns.map V.str)) : Dp K H (.ref p) (.list (ns.map PyData.str)) := .lst h (dpA_strs ns)
theorem rv_eqS {p q : Addr} {xs : List Str} (hs : SeqAt.shaped (.list (xs.map PyData.str)) = true) (h1 : SqL K H p (xs.map V.str)) (h2 : SqL K H q (xs.map V.str)) : RV (rEqD K) (.ref p) (.ref q) H (.bl true) := fun H1 e _ k =>
  ⟨_, _, dp_strs (ex_l e h1), dp_strs (ex_l e h2), hs, hs, by
    show _
    rw [show PyData.eqv (.list (xs.map PyData.str)) (.list (xs.map PyData.str)) = true from SeqAt.eqv_refl _ (SeqAt.canLay_of_shaped hs)]
    exact k H1 (Ex.refl H1)⟩
theorem rv_neS {p q : Addr} {xs : List Str} (hs : SeqAt.shaped (.list (xs.map PyData.str)) = true) (h1 : SqL K H p (xs.map V.str)) (h2 : SqL K H q (xs.map V.str)) : RV (rNeD K) (.ref p) (.ref q) H (.bl false) := fun H1 e _ k =>
  ⟨_, _, dp_strs (ex_l e h1), dp_strs (ex_l e h2), hs, hs, by
    show _
    rw [show PyData.eqv (.list (xs.map PyData.str)) (.list (xs.map PyData.str)) = true from SeqAt.eqv_refl _ (SeqAt.canLay_of_shaped hs)]
    exact k H1 (Ex.refl H1)⟩
theorem ev_eqS {xs : List Str} (hs : SeqAt.shaped (.list (xs.map PyData.str)) = true) (ha : EvH ta σ H (xs.map V.str)) (hb : EvH tb σ H (xs.map V.str)) : Ev (tOp (rEqD K) ta tb) σ H (.bl true) := ev_opHH ha hb fun p q H1 hp hq _ => rv_eqS hs (sq_of hp) (sq_of hq)
theorem ev_neS {xs : List Str} (hs : SeqAt.shaped (.list (xs.map PyData.str)) = true) (ha : EvH ta σ H (xs.map V.str)) (hb : EvH tb σ H (xs.map V.str)) : Ev (tOp (rNeD K) ta tb) σ H (.bl false) := ev_opHH ha hb fun p q H1 hp hq _ => rv_neS hs (sq_of hp) (sq_of hq)
theorem ev_callVHV {sp : Sp} {E : XK} {t1 t2 t3 : TE} {x1 z1 w : V} {xs : List V} (h1 : Ev t1 σ H x1) (h2 : EvH t2 σ H xs) (h3 : Ev t3 σ H z1) (hs : ∀ p H1, Ex H H1 → H1 p = some (.lst xs) → SpV sp [x1, .ref p, z1] H1 w) :
    Ev (tCall sp [] E (tCons t1 (tCons t2 (tCons t3 tNil)))) σ H w := fun H1 e Q q => by
  show t1 σ H1 fun _ H2 => t2 σ H2 fun _ H3 => t3 σ H3 fun _ H4 => sp _ H4 Q E
  exact h1 H1 e _ fun H2 e2 => h2 H2 (e.trans e2) _ fun p H3 e3 hp => h3 H3 ((e.trans e2).trans e3) _ fun H4 e4 =>
    hs p H4 (((e.trans e2).trans e3).trans e4) (e4 _ _ hp) H4 (Ex.refl H4) Q (fun H5 e5 => q H5 (((e2.trans e3).trans e4).trans e5)) E
theorem strs_eq {a b : Str} : decide (V.str a = V.str b) = decide (a = b) := by simp
/-! ### taking a row apart -/
theorem cut_set (us : List Int) (p : Nat) (v : Int) (hp : p < us.length) : cutV (us.map V.int) none (some (p : Int)) ++ [V.int v] ++ cutV (us.map V.int) (some ((p : Int) + 1)) none = (us.set p v).map V.int := by
  rw [cut_to, show ((p : Int) + 1) = ((p + 1 : Nat) : Int) by omega, cut_from, List.set_eq_take_append_cons_drop, if_pos hp]
  simp
theorem cut_del (us : List Int) (p : Nat) : cutV (us.map V.int) none (some (p : Int)) ++ cutV (us.map V.int) (some ((p : Int) + 1)) none = (us.eraseIdx p).map V.int := by
  rw [cut_to, show ((p : Int) + 1) = ((p + 1 : Nat) : Int) by omega, cut_from, List.eraseIdx_eq_take_drop_succ]
  simp
end
/-! ### rows that tell a number, and others -/
def Tells' (bs rs : List Int) : Prop := Rw.IsRow bs rs ∧ Rw.num bs rs < Rw.room bs
theorem set_ne_row {bs : List Int} (g : Rw.Good bs) {x v m : Int} {p : Nat} (x0 : 0 ≤ x) (x1 : x < Rw.room bs) (hm : bs[p]? = some m) (v0 : 0 ≤ v) (v1 : v < m) (hv : v ≠ x % m) :
    Rw.IsRow bs ((Rw.rowOf bs x).set p v) ∧ ¬ Rw.num bs ((Rw.rowOf bs x).set p v) < Rw.room bs := by
  have hp : p < bs.length := (List.getElem?_eq_some_iff.mp hm).1
  have hl : ((Rw.rowOf bs x).set p v).length = bs.length := by rw [List.length_set, Rw.rowOf_length]
  have r : Rw.IsRow bs ((Rw.rowOf bs x).set p v) := by
    refine ⟨hl, fun k r b hr hb => ?_⟩
    by_cases e : k = p
    · subst e
      rw [hm] at hb
      have := Option.some.inj hb
      rw [List.getElem?_set_self (by rw [Rw.rowOf_length]; exact hp)] at hr
      have := Option.some.inj hr
      omega
    · rw [List.getElem?_set_ne (fun z => e z.symm)] at hr
      exact (Rw.isRow_rowOf g x).rng k r b hr hb
  refine ⟨r, fun h => ?_⟩
  obtain ⟨n0, n1, hn⟩ := Rw.num_spec g hl
  have same : Rw.num bs ((Rw.rowOf bs x).set p v) = x := g.uniq1 n0 h x0 x1 hp fun k b hb hk => by
    have hr : ((Rw.rowOf bs x).set p v)[k]? = some (x % b) := by rw [List.getElem?_set_ne (fun z => hk z.symm), Rw.rowOf_get hb]
    rw [hn k b _ hb hr, Int.emod_emod]
  have hr : ((Rw.rowOf bs x).set p v)[p]? = some v := List.getElem?_set_self (by rw [Rw.rowOf_length]; exact hp)
  have := hn p m v hm hr
  rw [same, Int.emod_eq_of_lt v0 v1] at this
  exact hv this.symm
theorem far_row {bs : List Int} (g : Rw.Good bs) {x : Int} (x0 : 0 ≤ x) (x1 : x < Rw.room bs) : Rw.IsRow bs (Rw.rowOf bs (x + Rw.room bs)) ∧ ¬ Rw.num bs (Rw.rowOf bs (x + Rw.room bs)) < Rw.room bs := by
  have := g.room9
  have := g.room_pos
  refine ⟨Rw.isRow_rowOf g _, ?_⟩
  rw [Rw.num_row g (by omega) (by omega)]
  omega
theorem spoil_ne {x m d : Int} (h3 : 3 ≤ m) (d1 : 1 ≤ d) (d2 : d < m) : (x % m + d) % m ≠ x % m ∧ 0 ≤ (x % m + d) % m ∧ (x % m + d) % m < m := by
  have h0 := Int.emod_nonneg x (show m ≠ 0 by omega)
  have h1 := Int.emod_lt_of_pos x (show 0 < m by omega)
  refine ⟨fun h => ?_, Int.emod_nonneg _ (by omega), Int.emod_lt_of_pos _ (by omega)⟩
  by_cases c : x % m + d < m
  · rw [Int.emod_eq_of_lt (by omega) c] at h
    omega
  · have e : (x % m + d) % m = x % m + d - m := by
      rw [← Int.sub_emod_right, Int.emod_eq_of_lt (by omega) (by omega)]
    omega
theorem not_row_len {bs us : List Int} (h : us.length ≠ bs.length) : ¬ Rw.IsRow bs us := fun w => h w.len
theorem not_row_at {bs us : List Int} {p : Nat} {v m : Int} (hu : us[p]? = some v) (hm : bs[p]? = some m) (h : v < 0 ∨ m ≤ v) : ¬ Rw.IsRow bs us := fun w => by
  have := w.rng p v m hu hm
  omega
/-! ### one place lost -/
theorem isRow_set {bs rs : List Int} {p : Nat} {m v : Int} (w : Rw.IsRow bs rs) (hm : bs[p]? = some m) (v0 : 0 ≤ v) (v1 : v < m) : Rw.IsRow bs (rs.set p v) := by
  refine ⟨by rw [List.length_set]; exact w.len, fun k r b hr hb => ?_⟩
  by_cases e : k = p
  · subst e
    rw [hm] at hb
    have := Option.some.inj hb
    have hp := (List.getElem?_eq_some_iff.mp hm).1
    rw [List.getElem?_set_self (by rw [w.len]; exact hp)] at hr
    have := Option.some.inj hr
    omega
  · rw [List.getElem?_set_ne (fun z => e z.symm)] at hr
    exact w.rng k r b hr hb
theorem onum_is {bs rs : List Int} {p : Nat} {x : Int} (g : Rw.Good bs) (hl : rs.length = bs.length) (hp : p < bs.length) (x0 : 0 ≤ x) (x1 : x < Rw.room bs) (h : ∀ (k : Nat) (b r : Int), k ≠ p → bs[k]? = some b → rs[k]? = some r → x % b = r % b) : Rw.onum bs rs p = x :=
  (Rw.onum_spec g hl hp).is g (by omega) hp x0 x1 h
theorem onum_row {bs : List Int} {p : Nat} {x v : Int} (g : Rw.Good bs) (hp : p < bs.length) (x0 : 0 ≤ x) (x1 : x < Rw.room bs) : Rw.onum bs ((Rw.rowOf bs x).set p v) p = x :=
  onum_is g (by rw [List.length_set, Rw.rowOf_length]) hp x0 x1 fun k b r hk hb hr => by
    rw [List.getElem?_set_ne (fun z => hk z.symm), Rw.rowOf_get hb] at hr
    rw [← Option.some.inj hr, Int.emod_emod]
/-- two places differ from a number's row: what the others of the one tell is beyond the room -/
theorem onum_two {bs rs : List Int} {p q : Nat} {x mq rq : Int} (g : Rw.Good bs) (hl : rs.length = bs.length) (hp : p < bs.length) (hq : bs[q]? = some mq) (hpq : q ≠ p) (x0 : 0 ≤ x) (x1 : x < Rw.room bs)
    (h : ∀ (k : Nat) (b r : Int), k ≠ p → k ≠ q → bs[k]? = some b → rs[k]? = some r → x % b = r % b) (hr : rs[q]? = some rq) (hne : x % mq ≠ rq % mq) : ¬ Rw.onum bs rs p < Rw.room bs := by
  intro y1
  have o := Rw.onum_spec g hl hp
  have hq' := (List.getElem?_eq_some_iff.mp hq).1
  have e : Rw.onum bs rs p = x := by
    have ag : ∀ (k : Nat) (b : Int), bs[k]? = some b → k ≠ p → k ≠ q → Rw.onum bs rs p % b = x % b := fun k b hb h1 h2 => by
      have hk := (List.getElem?_eq_some_iff.mp hb).1
      have hrk : rs[k]? = some (rs[k]'(by omega)) := List.getElem?_eq_getElem (by omega)
      rw [o.has k b _ h1 hb hrk, h k b _ h1 h2 hb hrk]
    rcases Nat.lt_or_gt_of_ne hpq with c | c
    · exact g.uniq2 o.lo y1 x0 x1 c hp fun k b hb h1 h2 => ag k b hb h2 h1
    · exact g.uniq2 o.lo y1 x0 x1 c hq' fun k b hb h1 h2 => ag k b hb h1 h2
  have := o.has q mq rq hpq hq hr
  rw [e] at this
  exact hne this
theorem set_back {bs : List Int} {p : Nat} {x v m : Int} (hm : bs[p]? = some m) : ((Rw.rowOf bs x).set p v).set p (x % m) = Rw.rowOf bs x := by
  rw [List.set_set]
  apply List.ext_getElem?
  intro k
  by_cases e : k = p
  · subst e
    rw [List.getElem?_set_self (by rw [Rw.rowOf_length]; exact (List.getElem?_eq_some_iff.mp hm).1), Rw.rowOf_get hm]
  · rw [List.getElem?_set_ne (fun z => e z.symm)]
/-! ### calls with a list that may be new among the arguments -/
section
variable {σ : L2.St} {H : Hp} {t1 t2 t3 : TE} {sp : Sp} {E : XK} {x1 z1 w : V} {xs zs : List V}
theorem el_callVHV (h1 : Ev t1 σ H x1) (h2 : EvH t2 σ H xs) (h3 : Ev t3 σ H z1) (hs : ∀ p H1, Ex H H1 → H1 p = some (.lst xs) → SpL sp [x1, .ref p, z1] H1 zs) :
    EvL (tCall sp [] E (tCons t1 (tCons t2 (tCons t3 tNil)))) σ H zs := fun H1 e Q q => by
  show t1 σ H1 fun _ H2 => t2 σ H2 fun _ H3 => t3 σ H3 fun _ H4 => sp _ H4 Q E
  exact h1 H1 e _ fun H2 e2 => h2 H2 (e.trans e2) _ fun p H3 e3 hp => h3 H3 ((e.trans e2).trans e3) _ fun H4 e4 =>
    hs p H4 (((e.trans e2).trans e3).trans e4) (e4 _ _ hp) H4 (Ex.refl H4) Q (fun l H5 hl e5 h5 => q l H5 (fresh_back ((e2.trans e3).trans e4) hl) (((e2.trans e3).trans e4).trans e5) h5) E
theorem el_callVH (h1 : Ev t1 σ H x1) (h2 : EvH t2 σ H xs) (hs : ∀ p H1, Ex H H1 → H1 p = some (.lst xs) → SpL sp [x1, .ref p] H1 zs) :
    EvL (tCall sp [] E (tCons t1 (tCons t2 tNil))) σ H zs := fun H1 e Q q => by
  show t1 σ H1 fun _ H2 => t2 σ H2 fun _ H3 => sp _ H3 Q E
  exact h1 H1 e _ fun H2 e2 => h2 H2 (e.trans e2) _ fun p H3 e3 hp =>
    hs p H3 ((e.trans e2).trans e3) hp H3 (Ex.refl H3) Q (fun l H5 hl e5 h5 => q l H5 (fresh_back (e2.trans e3) hl) ((e2.trans e3).trans e5) h5) E
end
/-! ### the places where two rows differ -/
def apartL (xs ys : List Int) (f : Nat → Bool) : List Int := ((List.range xs.length).filter fun k => decide (xs.getD k 0 ≠ ys.getD k 0) && f k).map fun k : Nat => (k : Int)
theorem apart_nil {xs ys : List Int} {f : Nat → Bool} (h : apartL xs ys f = []) {k : Nat} (hk : k < xs.length) (hf : f k = true) : xs.getD k 0 = ys.getD k 0 := by
  unfold apartL at h
  rw [List.map_eq_nil_iff, List.filter_eq_nil_iff] at h
  have z := h k (List.mem_range.mpr hk)
  rw [hf, Bool.and_true, decide_eq_true_eq] at z
  exact Decidable.of_not_not z
theorem apart_nil_of {xs ys : List Int} {f : Nat → Bool} (h : ∀ k, k < xs.length → f k = true → xs.getD k 0 = ys.getD k 0) : apartL xs ys f = [] := by
  unfold apartL
  rw [List.map_eq_nil_iff, List.filter_eq_nil_iff]
  intro k hk hc
  rw [Bool.and_eq_true, decide_eq_true_eq] at hc
  exact hc.1 (h k (List.mem_range.mp hk) hc.2)
theorem one_of {l : List Nat} {p : Nat} (hn : l.Nodup) (h : ∀ x, x ∈ l ↔ x = p) : l = [p] := by
  cases l with
  | nil => exact absurd ((h p).mpr rfl) List.not_mem_nil
  | cons a l =>
    have ea : a = p := (h a).mp List.mem_cons_self
    cases l with
    | nil => rw [ea]
    | cons b l =>
      have eb : b = p := (h b).mp (List.mem_cons_of_mem _ List.mem_cons_self)
      subst ea eb
      exact absurd List.mem_cons_self (List.nodup_cons.mp hn).1
theorem apart_one {xs ys : List Int} {p : Nat} (hp : p < xs.length) (hn : xs.getD p 0 ≠ ys.getD p 0) (h : ∀ k, k < xs.length → k ≠ p → xs.getD k 0 = ys.getD k 0) : apartL xs ys (fun _ => true) = [(p : Int)] := by
  unfold apartL
  rw [one_of (p := p) (List.Nodup.sublist List.filter_sublist List.nodup_range) (fun x => ?_)]
  · rfl
  · rw [List.mem_filter, List.mem_range, Bool.and_true, decide_eq_true_eq]
    constructor
    · intro z
      by_cases e : x = p
      · exact e
      · exact absurd (h x z.1 e) z.2
    · intro e
      subst e
      exact ⟨hp, hn⟩
theorem apart_few {xs ys : List Int} (hx : 0 < xs.length) (h : ¬ 1 < (apartL xs ys fun _ => true).length) : ∃ q, q < xs.length ∧ ∀ k, k < xs.length → k ≠ q → xs.getD k 0 = ys.getD k 0 := by
  unfold apartL at h
  rw [List.length_map] at h
  generalize hl : (List.range xs.length).filter (fun k => decide (xs.getD k 0 ≠ ys.getD k 0) && true) = l at h
  have hm : ∀ k, k < xs.length → k ∉ l → xs.getD k 0 = ys.getD k 0 := fun k hk hn => by
    rw [← hl, List.mem_filter, List.mem_range, Bool.and_true, decide_eq_true_eq] at hn
    by_cases e : xs.getD k 0 = ys.getD k 0
    · exact e
    · exact absurd ⟨hk, e⟩ hn
  match l, h with
  | [], _ => exact ⟨0, hx, fun k hk _ => hm k hk List.not_mem_nil⟩
  | [q], _ =>
    have hq : q < xs.length := by
      have : q ∈ (List.range xs.length).filter (fun k => decide (xs.getD k 0 ≠ ys.getD k 0) && true) := by rw [hl]; exact List.mem_cons_self
      exact List.mem_range.mp (List.mem_filter.mp this).1
    exact ⟨q, hq, fun k hk hne => hm k hk (by rw [List.mem_singleton]; exact hne)⟩
  | _ :: _ :: _, h => exact absurd (by simp) h
theorem agree_at {bs rs : List Int} {m : Int} {k : Nat} {b r : Int} (h : rs.getD k 0 = (Rw.rowOf bs m).getD k 0) (hb : bs[k]? = some b) (hr : rs[k]? = some r) : m % b = r % b := by
  rw [Rw.getD_of hr, Rw.getD_of (Rw.rowOf_get hb)] at h
  rw [h, Int.emod_emod]
/-- where all others agree with a number of the room, they tell it -/
theorem far_onum {bs rs : List Int} {p : Nat} {m v : Int} (g : Rw.Good bs) (hl : rs.length = bs.length) (hp : p < bs.length) (m0 : 0 ≤ m) (m1 : m < Rw.room bs) (h : ∀ k, k < rs.length → k ≠ p → rs.getD k 0 = (Rw.rowOf bs m).getD k 0) : Rw.onum bs (rs.set p v) p = m :=
  onum_is g (by rw [List.length_set]; exact hl) hp m0 m1 fun k b r hk hb hr => by
    rw [List.getElem?_set_ne (fun z => hk z.symm)] at hr
    exact agree_at (h k (List.getElem?_eq_some_iff.mp hr).1 hk) hb hr
theorem far_onum' {bs rs : List Int} {p : Nat} {m : Int} (g : Rw.Good bs) (hl : rs.length = bs.length) (hp : p < bs.length) (m0 : 0 ≤ m) (m1 : m < Rw.room bs) (h : ∀ k, k < rs.length → k ≠ p → rs.getD k 0 = (Rw.rowOf bs m).getD k 0) : Rw.onum bs rs p = m :=
  onum_is g hl hp m0 m1 fun k b r hk hb hr => agree_at (h k (List.getElem?_eq_some_iff.mp hr).1 hk) hb hr
/-- the row with what the others tell is that number's -/
theorem refill_row {bs rs : List Int} {p : Nat} {mp : Int} (g : Rw.Good bs) (w : Rw.IsRow bs rs) (hm : bs[p]? = some mp) : rs.set p (Rw.onum bs rs p % mp) = Rw.rowOf bs (Rw.onum bs rs p) := by
  have hp := (List.getElem?_eq_some_iff.mp hm).1
  have m3 := g.get3 hm
  have ot := Rw.onum_spec g w.len hp
  have hw := ot.whole g hm
  have w2 : Rw.IsRow bs (rs.set p (Rw.onum bs rs p % mp)) := isRow_set w hm (Int.emod_nonneg _ (by omega)) (Int.emod_lt_of_pos _ (by omega))
  exact Rw.is_row_of g w2 (Rw.num_eq g w2.len ot.lo hw.1 hw.2)
theorem getD_set_ne {xs : List Int} {p k : Nat} {v : Int} (h : k ≠ p) : (xs.set p v).getD k 0 = xs.getD k 0 := by
  rw [List.getD_eq_getElem?_getD, List.getD_eq_getElem?_getD, List.getElem?_set_ne (fun z => h z.symm)]
theorem isRow_range {bs : List Int} (g : Rw.Good bs) (f : Nat → Int) : Rw.IsRow bs ((List.range bs.length).map fun k => f k % bs.getD k 0) := by
  refine ⟨by rw [List.length_map, List.length_range], fun k r b hr hb => ?_⟩
  have hk := (List.getElem?_eq_some_iff.mp hb).1
  rw [List.getElem?_map, List.getElem?_range hk] at hr
  have e : f k % bs.getD k 0 = r := Option.some.inj hr
  rw [Rw.getD_of hb] at e
  have b3 := g.get3 hb
  rw [← e]
  exact ⟨Int.emod_nonneg _ (by omega), Int.emod_lt_of_pos _ (by omega)⟩
theorem range_get {bs : List Int} {f : Nat → Int} {i : Nat} {y : Int} (h : ((List.range bs.length).map fun k => f k % bs.getD k 0)[i]? = some y) (hi : i < bs.length) : y = f i % bs.getD i 0 := by
  rw [List.getElem?_map, List.getElem?_range hi] at h
  exact (Option.some.inj h).symm
theorem getD_le {bs : List Int} {i : Nat} (hi : i < bs.length) : bs[i]? = some (bs.getD i 0) := by
  rw [List.getD_eq_getElem?_getD, List.getElem?_eq_getElem hi]
  rfl
/-- one place apart at most from another number's row -/
theorem few_num {bs rs : List Int} {m : Int} {q : Nat} (g : Rw.Good bs) (w : Rw.IsRow bs rs) (hq : q < bs.length) (m0 : 0 ≤ m) (m1 : m < Rw.room bs) (h : ∀ k, k < rs.length → k ≠ q → rs.getD k 0 = (Rw.rowOf bs m).getD k 0) (hn : Rw.num bs rs < Rw.room bs) : Rw.num bs rs = m := by
  obtain ⟨x0, x1, hx⟩ := Rw.num_spec g w.len
  refine g.uniq1 x0 hn m0 m1 hq fun k b hb hk => ?_
  have hkl := (List.getElem?_eq_some_iff.mp hb).1
  have hr : rs[k]? = some (rs[k]'(by rw [w.len]; exact hkl)) := List.getElem?_eq_getElem (by rw [w.len]; exact hkl)
  rw [agree_at (h k (by rw [w.len]; exact hkl) hk) hb hr]
  exact hx k b _ hb hr
theorem few_onum {bs rs : List Int} {m : Int} {q p : Nat} (g : Rw.Good bs) (w : Rw.IsRow bs rs) (hq : q < bs.length) (hp : p < bs.length) (m0 : 0 ≤ m) (m1 : m < Rw.room bs) (h : ∀ k, k < rs.length → k ≠ q → rs.getD k 0 = (Rw.rowOf bs m).getD k 0) (hn : Rw.onum bs rs p < Rw.room bs) : Rw.onum bs rs p = m := by
  have o := Rw.onum_spec g w.len hp
  have ag : ∀ (k : Nat) (b : Int), bs[k]? = some b → k ≠ p → k ≠ q → Rw.onum bs rs p % b = m % b := fun k b hb h1 h2 => by
    have hkl := (List.getElem?_eq_some_iff.mp hb).1
    have hr : rs[k]? = some (rs[k]'(by rw [w.len]; exact hkl)) := List.getElem?_eq_getElem (by rw [w.len]; exact hkl)
    rw [o.has k b _ h1 hb hr, agree_at (h k (by rw [w.len]; exact hkl) h2) hb hr]
  rcases Nat.lt_trichotomy p q with c | c | c
  · exact g.uniq2 o.lo hn m0 m1 c hq fun k b hb h1 h2 => ag k b hb h1 h2
  · subst c
    exact g.uniq1 o.lo hn m0 m1 hp fun k b hb h1 => ag k b hb h1 h1
  · exact g.uniq2 o.lo hn m0 m1 c hp fun k b hb h1 h2 => ag k b hb h2 h1
/-! ### C(..) whose exceptions are wished for at the slots -/
def tMakeS (C : Addr) (sp : Sp) (E : L2.St → XK) (t : TA) : TE := fun σ H Q => t σ H fun vs H1 => ∀ x dx, H1 x = none → H1 dx = none → dx ≠ x →
  sp (.ref x :: vs) (upd (upd H1 dx (.own x)) x (.ins C dx [])) (fun v H2 => v = .non ∧ Q (.ref x) H2) (E σ)
section
variable {X : Cx} {CX : CXT} {k : Nat} {f C : Addr} {fd : FuncData} {ps : List Str} {sp : Sp} {E : L2.St → XK} {x : Str} {p pos : Pos} {e : Expr} {es : List Expr} {t : TA}
theorem run_makeS {pins : List (Addr × Obj)} {σ : L2.St} {H : Hp} {s : Shared} {Q : VK} {us : List Value} {vs : List V} (M : Mk X.K C f) (F : FnOk X.prog X.w X.K X.mg X.base CX k f fd ps sp) (hr : Room (k + 1) X.A) (hb : Binds X.K fd ps [])
    (hx : PassesAt CX X σ (E σ)) (I : Inv X pins σ H s) (r : Vals vs us)
    (h : ∀ x dx, H x = none → H dx = none → dx ≠ x → sp (.ref x :: vs) (upd (upd H dx (.own x)) x (.ins C dx [])) (fun v H2 => v = .non ∧ Q (.ref x) H2) (E σ)) :
    wpAny (model X.prog X.w) X.A (call (.ref C) us) (EP X pins σ Q) X.xe s := by
  have hq := h (s.heap.objs.size + 1) s.heap.objs.size (I.hok.fresh (Nat.le_succ _)) (I.hok.fresh (Nat.le_refl _)) (Nat.ne_of_lt (Nat.lt_succ_self _))
  have I2 := Inv.made (C := C) I
  have r2 : Vals (V.ref (s.heap.objs.size + 1) :: vs) (Value.ref (s.heap.objs.size + 1) :: us) := .cons rfl r
  have hl : (Value.ref (s.heap.objs.size + 1) :: us).length = ps.length := by
    have e := r2.length
    rw [F.len _ _ _ _ hq] at e
    exact e.symm
  have b := hb _ (Value.ref (s.heap.objs.size + 1) :: us) I2.kIn (by rw [List.append_nil]; exact hl)
  rw [List.append_nil] at b
  refine wpAny_call (make_map (f := f) I.kIn M.makes M.init (beq_iff_eq.mp M.fn) (codeAny_mono (F.run _ X.stack _ _ ⟨Value.ref (s.heap.objs.size + 1) :: us, []⟩ (Value.ref (s.heap.objs.size + 1) :: us) _ _ (E σ) (hr.make C us [])
    (I2.env0.make C us []) b r2 hq) fun r s' hq' => ?_))
  cases r with
  | error e => exact hx pins _ _ e s' I2 hq'
  | ok fl =>
    cases fl with
    | ret u =>
      obtain ⟨v, H', I3, rv, ev, q3⟩ := I2.after hq'
      subst ev
      exact ⟨rv, ⟨V.ref (s.heap.objs.size + 1), H', I3, rfl, q3⟩⟩
    | next => exact False.elim hq'
    | brk => exact False.elim hq'
    | cont => exact False.elim hq'
theorem pe_makeS (M : Mk X.K C f) (F : FnOk X.prog X.w X.K X.mg X.base CX k f fd ps sp) (hr : Room (k + 1) X.A) (hg : Gl X x) (hm : X.mg x = some (.ref C)) (hb : Binds X.K fd ps []) (hx : ∀ σ, PassesAt CX X σ (E σ))
    (ha : PA X (e :: es) t) (hdb : (x == ("__debug__" : Str)) = false := by decide) (he : starEach (e :: es) X.env = (false, eval e X.env) :: starEach es X.env := by rfl) (hpl : (backTo pos (starEach es X.env)).any (·.1) = false := by rfl) :
    PE X (.Call (.Name x p) (e :: es) [] pos) (tMakeS C sp E t) := by
  refine ⟨fun pins s σ H Q I h => ?_⟩
  refine wpAny_Call_Name_kw (ld_glob I hg hm ?_ hdb)
  refine PySem.W.callWith_K (h₀ := X.base) I.ok.mod.kin M.kp (thn (ha.run pos pins s σ H _ I h) fun us s1 ⟨vs, H1, I1, r, q⟩ => ⟨I1.kIn, ?_⟩) he hpl
  exact run_makeS M F hr hb (hx σ) I1 r q
end
theorem cut_int (us : List Int) (lo hi : Option Int) : ∃ vs : List Int, cutV (us.map V.int) lo hi = vs.map V.int ∧ vs.length ≤ us.length := by
  refine ⟨(us.drop (HT.sIx us.length 0 lo)).take (HT.sIx us.length us.length hi - HT.sIx us.length 0 lo), ?_, ?_⟩
  · unfold cutV
    rw [List.length_map, List.map_take, List.map_drop]
  · rw [List.length_take, List.length_drop]
    omega
theorem cut_first (us : List Int) {n : Nat} (hn : n ≤ us.length) : cutV (us.map V.int) none (some (n : Int)) = (us.take n).map V.int ∧ (us.take n).length = n := by
  refine ⟨by rw [cut_to, List.map_take], by rw [List.length_take]; omega⟩
end Rk

namespace Rk
open PySem PySem.Spec PyProof.Rows L2 Evl
def topS (i : Nat) : Stmt := PySem.Challenge.pw_restrow_k03_bases_refused.main.body.getD i (.Pass ⟨0, 0, 0, 0⟩)
abbrev s_common : Stmt := topS 12
theorem sc_common : FnScope ["one", "other", "rest"] ["one", "other"] (defScope s_common) := ⟨rfl, rfl, rfl, by decide +kernel, rfl, by decide +kernel, by decide +kernel⟩
abbrev s_turned : Stmt := topS 13
theorem sc_turned : FnScope ["number", "base", "high", "low", "ahead", "behind", "many", "rest", "step"] ["number", "base"] (defScope s_turned) := ⟨rfl, rfl, rfl, by decide +kernel, rfl, by decide +kernel, by decide +kernel⟩
abbrev s_need_bases : Stmt := topS 14
theorem sc_need_bases : FnScope ["bases", "base", "k", "ahead"] ["bases"] (defScope s_need_bases) := ⟨rfl, rfl, rfl, by decide +kernel, rfl, by decide +kernel, by decide +kernel⟩
abbrev s___init__ : Stmt := inClass (topS 16) 0
theorem sc___init__ : FnScope ["self", "bases", "k", "weight", "ahead"] ["self", "bases"] (defScope s___init__) := ⟨rfl, rfl, rfl, by decide +kernel, rfl, by decide +kernel, by decide +kernel⟩
abbrev s__law_cell_at : Stmt := topS 18
theorem sc__law_cell_at : FnScope ["_law_script", "_law_k"] ["_law_script", "_law_k"] (defScope s__law_cell_at) := ⟨rfl, rfl, rfl, by decide +kernel, rfl, by decide +kernel, by decide +kernel⟩
abbrev s__law_bases : Stmt := topS 19
theorem sc__law_bases : FnScope ["_law_one", "_law_other", "_law_some", "_law_primes", "_law_ends", "_law_far", "_law_picks", "_law_prime", "_law_k"] ["_law_one", "_law_other"] (defScope s__law_bases) := ⟨rfl, rfl, rfl, by decide +kernel, rfl, by decide +kernel, by decide +kernel⟩
abbrev s__law_common : Stmt := topS 20
theorem sc__law_common : FnScope ["_law_one", "_law_other"] ["_law_one", "_law_other"] (defScope s__law_common) := ⟨rfl, rfl, rfl, by decide +kernel, rfl, by decide +kernel, by decide +kernel⟩
abbrev s__law_good : Stmt := topS 21
theorem sc__law_good : FnScope ["_law_bases_here", "_law_k", "_law_j"] ["_law_bases_here"] (defScope s__law_good) := ⟨rfl, rfl, rfl, by decide +kernel, rfl, by decide +kernel, by decide +kernel⟩
abbrev s__law_built : Stmt := topS 22
theorem sc__law_built : FnScope ["_law_script", "_law_way", "_law_some"] ["_law_script"] (defScope s__law_built) := ⟨rfl, rfl, rfl, by decide +kernel, rfl, by decide +kernel, by decide +kernel⟩
abbrev s__law_changed : Stmt := topS 23
theorem sc__law_changed : FnScope ["_law_bases_here", "_law_script", "_law_way", "_law_at", "_law_old", "_law_any_one", "_law_kind", "_law_new"] ["_law_bases_here", "_law_script"] (defScope s__law_changed) := ⟨rfl, rfl, rfl, by decide +kernel, rfl, by decide +kernel, by decide +kernel⟩
abbrev s__law_refused_by_any : Stmt := topS 24
theorem sc__law_refused_by_any : FnScope ["_law_bases_here", "e"] ["_law_bases_here"] (defScope s__law_refused_by_any) := ⟨rfl, rfl, rfl, by decide +kernel, rfl, by decide +kernel, by decide +kernel⟩
abbrev s_law : Stmt := topS 25
theorem sc_law : FnScope ["_law_script", "_law_bases_here", "_law_handed", "_law_refused", "_law_board"] ["_law_script"] (defScope s_law) := ⟨rfl, rfl, rfl, by decide +kernel, rfl, by decide +kernel, by decide +kernel⟩
/-- what the top has written -/
structure Lk (K : PySem.W.Frag) (mg : Str → Option Value) where
  f_common : Addr
  d_common : FuncData
  F_common : Fun K "common" "common" s_common f_common d_common
  b_common : Binds K d_common ["one", "other"] []
  f_turned : Addr
  d_turned : FuncData
  F_turned : Fun K "turned" "turned" s_turned f_turned d_turned
  b_turned : Binds K d_turned ["number", "base"] []
  f_need_bases : Addr
  d_need_bases : FuncData
  F_need_bases : Fun K "need_bases" "need_bases" s_need_bases f_need_bases d_need_bases
  b_need_bases : Binds K d_need_bases ["bases"] []
  f___init__ : Addr
  d___init__ : FuncData
  F___init__ : Fun K "__init__" "Board.__init__" s___init__ f___init__ d___init__
  b___init__ : Binds K d___init__ ["self", "bases"] []
  f__law_cell_at : Addr
  d__law_cell_at : FuncData
  F__law_cell_at : Fun K "_law_cell_at" "_law_cell_at" s__law_cell_at f__law_cell_at d__law_cell_at
  b__law_cell_at : Binds K d__law_cell_at ["_law_script", "_law_k"] []
  f__law_bases : Addr
  d__law_bases : FuncData
  F__law_bases : Fun K "_law_bases" "_law_bases" s__law_bases f__law_bases d__law_bases
  b__law_bases : Binds K d__law_bases ["_law_one", "_law_other"] []
  f__law_common : Addr
  d__law_common : FuncData
  F__law_common : Fun K "_law_common" "_law_common" s__law_common f__law_common d__law_common
  b__law_common : Binds K d__law_common ["_law_one", "_law_other"] []
  f__law_good : Addr
  d__law_good : FuncData
  F__law_good : Fun K "_law_good" "_law_good" s__law_good f__law_good d__law_good
  b__law_good : Binds K d__law_good ["_law_bases_here"] []
  f__law_built : Addr
  d__law_built : FuncData
  F__law_built : Fun K "_law_built" "_law_built" s__law_built f__law_built d__law_built
  b__law_built : Binds K d__law_built ["_law_script"] []
  f__law_changed : Addr
  d__law_changed : FuncData
  F__law_changed : Fun K "_law_changed" "_law_changed" s__law_changed f__law_changed d__law_changed
  b__law_changed : Binds K d__law_changed ["_law_bases_here", "_law_script"] []
  f__law_refused_by_any : Addr
  d__law_refused_by_any : FuncData
  F__law_refused_by_any : Fun K "_law_refused_by_any" "_law_refused_by_any" s__law_refused_by_any f__law_refused_by_any d__law_refused_by_any
  b__law_refused_by_any : Binds K d__law_refused_by_any ["_law_bases_here"] []
  f_law : Addr
  d_law : FuncData
  F_law : Fun K "law" "law" s_law f_law d_law
  b_law : Binds K d_law ["_law_script"] []
  C : Addr
  cl : Cls K C
  nB : NoAttr K C "bases"
  nT : NoAttr K C "turns"
  gC : mg "Board" = some (.ref C)
  mkC : Mk K C f___init__
  g_common : mg "common" = some (.ref f_common)
  k_common : PySem.W.keepIn K (.ref f_common) = true
  g_turned : mg "turned" = some (.ref f_turned)
  k_turned : PySem.W.keepIn K (.ref f_turned) = true
  g_need_bases : mg "need_bases" = some (.ref f_need_bases)
  k_need_bases : PySem.W.keepIn K (.ref f_need_bases) = true
  g__law_cell_at : mg "_law_cell_at" = some (.ref f__law_cell_at)
  k__law_cell_at : PySem.W.keepIn K (.ref f__law_cell_at) = true
  g__law_bases : mg "_law_bases" = some (.ref f__law_bases)
  k__law_bases : PySem.W.keepIn K (.ref f__law_bases) = true
  g__law_common : mg "_law_common" = some (.ref f__law_common)
  k__law_common : PySem.W.keepIn K (.ref f__law_common) = true
  g__law_good : mg "_law_good" = some (.ref f__law_good)
  k__law_good : PySem.W.keepIn K (.ref f__law_good) = true
  g__law_built : mg "_law_built" = some (.ref f__law_built)
  k__law_built : PySem.W.keepIn K (.ref f__law_built) = true
  g__law_changed : mg "_law_changed" = some (.ref f__law_changed)
  k__law_changed : PySem.W.keepIn K (.ref f__law_changed) = true
  g__law_refused_by_any : mg "_law_refused_by_any" = some (.ref f__law_refused_by_any)
  k__law_refused_by_any : PySem.W.keepIn K (.ref f__law_refused_by_any) = true
  g_law : mg "law" = some (.ref f_law)
  k_law : PySem.W.keepIn K (.ref f_law) = true
  c_RestError : Addr
  g_RestError : mg "RestError" = some (.ref c_RestError)
  x_RestError : PySem.W.excIn K c_RestError [.type "ValueError", .type "Exception", .type "BaseException", .type "object"] "ValueError.__new__" = true
  e_RestError : PySem.W.keepIn K (.ref c_RestError) = true
  s_RestError : PySem.W.subIn K (.ref c_RestError) (.type "BaseException") = some true
  t_RestError : PySem.W.typeIn K (.ref c_RestError) = some (.type "type")
  h_RestError : PySem.W.hasDictIn K c_RestError = true
  c_NoBases : Addr
  g_NoBases : mg "NoBases" = some (.ref c_NoBases)
  x_NoBases : PySem.W.excIn K c_NoBases [.type "ValueError", .type "Exception", .type "BaseException", .type "object"] "ValueError.__new__" = true
  e_NoBases : PySem.W.keepIn K (.ref c_NoBases) = true
  s_NoBases : PySem.W.subIn K (.ref c_NoBases) (.type "BaseException") = some true
  t_NoBases : PySem.W.typeIn K (.ref c_NoBases) = some (.type "type")
  h_NoBases : PySem.W.hasDictIn K c_NoBases = true
  c_NoRow : Addr
  g_NoRow : mg "NoRow" = some (.ref c_NoRow)
  x_NoRow : PySem.W.excIn K c_NoRow [.type "ValueError", .type "Exception", .type "BaseException", .type "object"] "ValueError.__new__" = true
  e_NoRow : PySem.W.keepIn K (.ref c_NoRow) = true
  s_NoRow : PySem.W.subIn K (.ref c_NoRow) (.type "BaseException") = some true
  t_NoRow : PySem.W.typeIn K (.ref c_NoRow) = some (.type "type")
  h_NoRow : PySem.W.hasDictIn K c_NoRow = true
  c_NoNumber : Addr
  g_NoNumber : mg "NoNumber" = some (.ref c_NoNumber)
  x_NoNumber : PySem.W.excIn K c_NoNumber [.type "ValueError", .type "Exception", .type "BaseException", .type "object"] "ValueError.__new__" = true
  e_NoNumber : PySem.W.keepIn K (.ref c_NoNumber) = true
  s_NoNumber : PySem.W.subIn K (.ref c_NoNumber) (.type "BaseException") = some true
  t_NoNumber : PySem.W.typeIn K (.ref c_NoNumber) = some (.type "type")
  h_NoNumber : PySem.W.hasDictIn K c_NoNumber = true
  c_NoTurn : Addr
  g_NoTurn : mg "NoTurn" = some (.ref c_NoTurn)
  x_NoTurn : PySem.W.excIn K c_NoTurn [.type "ValueError", .type "Exception", .type "BaseException", .type "object"] "ValueError.__new__" = true
  e_NoTurn : PySem.W.keepIn K (.ref c_NoTurn) = true
  s_NoTurn : PySem.W.subIn K (.ref c_NoTurn) (.type "BaseException") = some true
  t_NoTurn : PySem.W.typeIn K (.ref c_NoTurn) = some (.type "type")
  h_NoTurn : PySem.W.hasDictIn K c_NoTurn = true
  u_NoBases_NoBases : PySem.W.subIn K (.ref c_NoBases) (.ref c_NoBases) = some true
  u_NoBases_RestError : PySem.W.subIn K (.ref c_NoBases) (.ref c_RestError) = some true
  u_NoNumber_NoBases : PySem.W.subIn K (.ref c_NoNumber) (.ref c_NoBases) = some false
  u_NoNumber_RestError : PySem.W.subIn K (.ref c_NoNumber) (.ref c_RestError) = some true
  u_NoRow_NoBases : PySem.W.subIn K (.ref c_NoRow) (.ref c_NoBases) = some false
  u_NoRow_RestError : PySem.W.subIn K (.ref c_NoRow) (.ref c_RestError) = some true
  u_NoTurn_NoBases : PySem.W.subIn K (.ref c_NoTurn) (.ref c_NoBases) = some false
  u_NoTurn_RestError : PySem.W.subIn K (.ref c_NoTurn) (.ref c_RestError) = some true
  i_NoBases : ExcC K c_NoBases
  v_NoBases : PySem.W.kitOne K (.ref c_NoBases) (.type "ValueError") = some true
  i_NoNumber : ExcC K c_NoNumber
  v_NoNumber : PySem.W.kitOne K (.ref c_NoNumber) (.type "ValueError") = some true
  i_NoRow : ExcC K c_NoRow
  v_NoRow : PySem.W.kitOne K (.ref c_NoRow) (.type "ValueError") = some true
  i_NoTurn : ExcC K c_NoTurn
  v_NoTurn : PySem.W.kitOne K (.ref c_NoTurn) (.type "ValueError") = some true
  t_LEAST : Tok
  k_LEAST : mg "LEAST" = some (.int 3 t_LEAST)
  t_MOST : Tok
  k_MOST : mg "MOST" = some (.int 999999 t_MOST)
  t_FEWEST : Tok
  k_FEWEST : mg "FEWEST" = some (.int 3 t_FEWEST)
  t_SO_MANY : Tok
  k_SO_MANY : mg "SO_MANY" = some (.int 14 t_SO_MANY)
  z_ValueError : mg "ValueError" = none
  z_isinstance : mg "isinstance" = none
  z_len : mg "len" = none
  z_list : mg "list" = none
  z_range : mg "range" = none
  z_sorted : mg "sorted" = none
  z_zip : mg "zip" = none
end Rk
namespace Rk
open PySem PySem.Spec PyProof.Rows L2 Evl
section
variable {P : Program} {w : World} {K : PySem.W.Frag} {mg : Str → Option Value} {base : Heap}
/-! ### common -/
def sp_common : Sp := fun vs H Q _ => ∃ one other : Int, vs = [.int one, .int other] ∧ 0 ≤ one ∧ 0 ≤ other ∧ ∀ H', Ex H H' → Q (.int (Int.gcd one other)) H'
theorem ok_common (L : Lk K mg) : FnOk P w K mg base (L2.CX P w) 1 L.f_common L.d_common ["one", "other"] sp_common := by
  refine L.F_common.okX sc_common (fun vs H Q E h => ?_) (fun cdv A outer s H vs Q E hr h => ?_)
  · obtain ⟨_, _, rfl, _⟩ := h; rfl
  · obtain ⟨one, other, rfl, h1, h2, q⟩ := h
    refine ⟨_, (pss_cons (ps_while (passes_of rfl) (pt_cmpR op_gt (pv 1) pe_int (nomark _)) (pss_cons (ps_set (i := 2) sc_common.nd rfl (Or.inl rfl) (pe_op op_mod (pv 0) (pv 1)))
      (pss_cons (ps_set (i := 0) sc_common.nd rfl (Or.inl rfl) (pv 1))
      (pss_one (ps_set (i := 1) sc_common.nd rfl (Or.inl rfl) (pv 2))))))
      (pss_one (ps_ret (pv 0)))), ?_⟩
    refine q_while (fun m σ' H' => ∃ (a b : Int) (r : Option V), σ' = [some (.int a), some (.int b), r] ∧ 0 ≤ a ∧ 0 ≤ b ∧ b.toNat = m ∧ Int.gcd a b = Int.gcd one other ∧ Ex H H') other.toNat ⟨one, other, none, rfl, h1, h2, rfl, rfl, Ex.refl H⟩ ?_
    rintro m σ' H' ⟨a, b, r, rfl, a0, b0, hm, hg, e⟩
    refine ⟨_, et_test (ev_op (ev_var rfl) ev_c rv_I0), fun hb H1 e1 => ?_, fun hb H1 e1 => ?_⟩
    · have hb' : 0 < b := of_decide_eq_true hb
      refine ⟨fun σ' H' => ∃ r, σ' = [some (.int b), some (.int (a % b)), r] ∧ Ex H H', ?_, ?_⟩
      · rintro σ2 H2 ⟨r, rfl, e2⟩
        have l1 := Int.emod_nonneg a (show b ≠ 0 by omega)
        have l2 := Int.emod_lt_of_pos a hb'
        exact ⟨(a % b).toNat, by omega, b, a % b, r, rfl, b0, l1, rfl, by rw [← Rw.gcd_emod]; exact hg, e2⟩
      · refine q_asg (ev_op (ev_var rfl) (ev_var rfl) (rv_I hb')) fun H2 e2 => ?_
        refine q_asg (ev_var rfl) fun H3 e3 => ?_
        refine s_asg (ev_var rfl) fun H4 e4 => ?_
        exact ⟨_, rfl, (((e.trans e1).trans e2).trans e3).trans e4⟩
    · have hb' : ¬ 0 < b := of_decide_eq_false hb
      have : b = 0 := by omega
      subst this
      refine s_ret (ev_var rfl) fun H2 e2 => ?_
      have : (Int.gcd one other : Int) = a := by rw [← hg]; exact Rw.gcd_zero a a0
      rw [← this]
      exact q H2 ((e.trans e1).trans e2)
theorem sv_common {H : Hp} {a b : Int} (h1 : 0 ≤ a) (h2 : 0 ≤ b) : SpV sp_common [.int a, .int b] H (.int (Int.gcd a b)) := fun H1 e Q q _ => ⟨a, b, rfl, h1, h2, q⟩
end
end Rk
namespace Rk
open PySem PySem.Spec PyProof.Rows L2 Evl
section
variable {P : Program} {w : World} {K : PySem.W.Frag} {mg : Str → Option Value} {base : Heap}
/-! ### need_bases -/
def sp_need_bases (K : PySem.W.Frag) (cN : Addr) : Sp := fun vs H Q E => ∃ (a : Addr) (bs : List Int), vs = [.ref a] ∧ SqL K H a (bs.map V.int) ∧ (Rw.Good bs → ∀ H', Ex H H' → Q .non H') ∧ (¬ Rw.Good bs → ∀ H', Ex H H' → E (.ref cN) none H')
theorem ok_need_bases (L : Lk K mg) : FnOk P w K mg base (L2.CX P w) 2 L.f_need_bases L.d_need_bases ["bases"] (sp_need_bases K L.c_NoBases) := by
  refine L.F_need_bases.okX sc_need_bases (fun vs H Q E h => ?_) (fun cdv A outer s H vs Q E hr h => ?_)
  · obtain ⟨_, _, rfl, _⟩ := h; rfl
  · obtain ⟨a, bs, rfl, hS, q, kE⟩ := h
    refine ⟨_, (pss_cons (ps_if (PW.pt (pw_or (pt_cmpR op_lt (pe_callB call_len_seq (by rfl) L.z_len PySem.boot_len (pa_cons (pv 0) pa_nil)) (pe_glob (v := .int 3) rfl L.k_FEWEST ⟨_, rfl⟩) (nomark _)) (pw_or1 (pt_cmpR op_gt (pe_callB call_len_seq (by rfl) L.z_len PySem.boot_len (pa_cons (pv 0) pa_nil)) (pe_glob (v := .int 14) rfl L.k_SO_MANY ⟨_, rfl⟩) (nomark _))))) (pss_one (ps_raise rfl hk (pmk_own PySem.F.excBase_ValueError L.x_NoBases L.g_NoBases L.e_NoBases (raises_own L.s_NoBases L.t_NoBases) (by rfl)))) pss_nil)
      (pss_cons (ps_for (passes_of rfl) rfl (pi_list (pv 0)) (pg_name (i := 1) sc_need_bases.nd rfl (Or.inl rfl)) (pss_one (ps_if (PW.pt (pw_or (pt_cmpR op_lt (pv 1) (pe_glob (v := .int 3) rfl L.k_LEAST ⟨_, rfl⟩) (nomark _)) (pw_or (pt_cmpR op_gt (pv 1) (pe_glob (v := .int 999999) rfl L.k_MOST ⟨_, rfl⟩) (nomark _)) (pw_or1 (pt_cmpR op_eq (pe_op op_mod (pv 1) pe_int) pe_int (nomark _)))))) (pss_one (ps_raise rfl hk (pmk_own PySem.F.excBase_ValueError L.x_NoBases L.g_NoBases L.e_NoBases (raises_own L.s_NoBases L.t_NoBases) (by rfl)))) pss_nil)))
      (pss_one (ps_for (passes_of rfl) rfl (pi_range2 (by rfl) L.z_range (pa_cons pe_int (pa_cons (pe_callB call_len_seq (by rfl) L.z_len PySem.boot_len (pa_cons (pv 0) pa_nil)) pa_nil))) (pg_name (i := 2) sc_need_bases.nd rfl (Or.inl rfl)) (pss_cons (ps_if (pt_cmpR op_le (pe_ix ix_list (pv 0) (pv 2) (fun _ _ => rfl)) (pe_ix ix_list (pv 0) (pe_op op_sub (pv 2) pe_int) (fun _ _ => rfl)) (nomark _)) (pss_one (ps_raise rfl hk (pmk_own PySem.F.excBase_ValueError L.x_NoBases L.g_NoBases L.e_NoBases (raises_own L.s_NoBases L.t_NoBases) (by rfl)))) pss_nil)
      (pss_one (ps_for (passes_of rfl) rfl (pi_list (pe_slice sl_list (pv 0) po_none (po_some (pv 2)))) (pg_name (i := 3) sc_need_bases.nd rfl (Or.inl rfl)) (pss_one (ps_if (pt_cmpR op_gt (pe_call (E := E) (ok_common L) (hr.mono (by decide)) (by rfl) L.g_common L.k_common L.b_common .nil hx (pa_cons (pe_ix ix_list (pv 0) (pv 2) (fun _ _ => rfl)) (pa_cons (pv 3) pa_nil))) pe_int (nomark _)) (pss_one (ps_raise rfl hk (pmk_own PySem.F.excBase_ValueError L.x_NoBases L.g_NoBases L.e_NoBases (raises_own L.s_NoBases L.t_NoBases) (by rfl)))) pss_nil))))))))), ?_⟩
    have hlm : (bs.map V.int).length = bs.length := List.length_map _
    refine q_when (et_or (et_test (ev_op (ev_len (ev_var rfl) hS) ev_c rv_I0)) (fun _ => et_test (ev_op (ev_len (ev_var rfl) hS) ev_c rv_I0))) (fun hb H1 e1 => ?_) (fun hb H1 e1 => ?_)
    · rw [hlm, Bool.or_eq_true, decide_eq_true_eq, decide_eq_true_eq] at hb
      exact kE (fun g => by have := g.len3; have := g.len14; omega) H1 e1
    rw [hlm, Bool.or_eq_false_iff, decide_eq_false_iff_not, decide_eq_false_iff_not] at hb
    refine q_forLn (ev_var rfl) (ex_l e1 hS) (fun i σ' H' => ∃ v1 v2 v3, σ' = [some (.ref a), v1, v2, v3] ∧ Ex H H' ∧ ∀ (k : Nat) (b : Int), k < i → bs[k]? = some b → 3 ≤ b ∧ b ≤ 999999 ∧ b % 2 = 1)
      (fun H2 e2 => ⟨none, none, none, rfl, e1.trans e2, fun k b h => absurd h (Nat.not_lt_zero k)⟩) (fun i σ' H' _ ⟨_, _, _, _, e, _⟩ => ex_l e hS) ?_ ?_
    · rintro i x σ' H' hi ⟨v1, v2, v3, rfl, e, inv⟩
      obtain ⟨b, hb', rfl⟩ := map_get hi
      refine s_when (et_or (et_test (ev_op (ev_var rfl) ev_c rv_I0)) (fun _ => et_or (et_test (ev_op (ev_var rfl) ev_c rv_I0)) (fun _ => et_test (ev_op (ev_op (ev_var rfl) ev_c (rv_I (show (0 : Int) < 2 by decide))) ev_c (rv_eq rfl))))) (fun hc H2 e2 => ?_) (fun hc H2 e2 => ?_)
      · rw [Bool.or_eq_true, Bool.or_eq_true, decide_eq_true_eq, decide_eq_true_eq, decide_eq_true_eq] at hc
        refine kE (fun g => ?_) H2 (e.trans e2)
        obtain ⟨g1, g2, g3⟩ := g.get3 hb'
        rcases hc with hc | hc | hc
        · omega
        · omega
        · have := V.int.inj hc
          omega
      · rw [Bool.or_eq_false_iff, Bool.or_eq_false_iff, decide_eq_false_iff_not, decide_eq_false_iff_not, decide_eq_false_iff_not] at hc
        refine ⟨_, _, _, rfl, e.trans e2, fun k c hk hk' => ?_⟩
        by_cases e3 : k = i
        · subst e3
          rw [hb'] at hk'
          have := Option.some.inj hk'
          subst this
          have h2 : ¬ b % 2 = 0 := fun z => hc.2.2 (by rw [z])
          omega
        · exact inv k c (by omega) hk'
    · rintro σ' H2 ⟨v1, v2, v3, rfl, e, inv⟩
      rw [hlm] at inv
      have inv1 : ∀ (k : Nat) (b : Int), bs[k]? = some b → 3 ≤ b ∧ b ≤ 999999 ∧ b % 2 = 1 := fun k b hk => inv k b (List.getElem?_eq_some_iff.mp hk).1 hk
      refine s_forR2 (lo := 1) (n := (bs.length : Int)) (ea_cons ev_c (ea_cons (ev_is (ev_len (ev_var rfl) (ex_l e hS)) (by rw [hlm])) ea_nil)) (by omega)
        (fun i σ' H' => ∃ v1 v2 v3, σ' = [some (.ref a), v1, v2, v3] ∧ Ex H H' ∧ (∀ (k : Nat) (x y : Int), k < i → bs[k]? = some x → bs[k + 1]? = some y → x < y) ∧ ∀ (j k : Nat) (x y : Int), j < k → k < 1 + i → bs[j]? = some x → bs[k]? = some y → Rw.Cop x y)
        (fun H3 e3 => ⟨_, _, _, rfl, e.trans e3, fun k x y h => absurd h (Nat.not_lt_zero k), fun j k x y h1 h2 => by omega⟩) ?_ ?_
      · rintro i σ' H3 hi ⟨v1, v2, v3, rfl, e3, i1, i2⟩
        have hk : 1 + i < bs.length := by omega
        have hB : bs[1 + i]? = some bs[1 + i] := List.getElem?_eq_getElem hk
        have hA : bs[i]? = some (bs[i]'(by omega)) := List.getElem?_eq_getElem (by omega)
        have hB' : bs[i + 1]? = some bs[1 + i] := by rw [Nat.add_comm i 1]; exact hB
        generalize bs[1 + i] = y at hB hB'
        generalize bs[i]'(by omega) = x at hA
        have y3 := inv1 _ _ hB
        refine q_when (et_test (ev_op (ev_op (ev_var rfl) (ev_var rfl) (rv_ixL (ex_l e3 hS) (at_mapI (k := 1 + i) (by omega) hB))) (ev_op (ev_var rfl) (ev_op (ev_var rfl) ev_c rv_I0) (rv_ixL (ex_l e3 hS) (at_mapI (k := i) (by omega) hA))) rv_I0)) (fun hc H4 e4 => ?_) (fun hc H4 e4 => ?_)
        · have hc' : y ≤ x := of_decide_eq_true hc
          exact kE (fun g => by have := g.next hA hB'; omega) H4 (e3.trans e4)
        have hc' : ¬ y ≤ x := of_decide_eq_false hc
        have e04 := e3.trans e4
        refine s_forNLn (el_sl (ev_var rfl) eo_none (eo_some (ev_var rfl)) (ex_l e04 hS)) (fun p j σ' H' => ∃ v3, σ' = [some (.ref a), v1, some (.int (1 + (i : Int))), v3] ∧ Ex H H' ∧ H' p = some (.lst ((bs.take (1 + i)).map V.int)) ∧ ∀ (jj : Nat) (x : Int), jj < j → bs[jj]? = some x → Rw.Cop x y)
          (fun p H5 hp e5 h5 => ⟨_, rfl, e04.trans e5, by rw [h5, show (1 + (i : Int)) = ((1 + i : Nat) : Int) by omega, cut_to, List.map_take], fun jj x h => absurd h (Nat.not_lt_zero jj)⟩)
          (fun p j σ' H' _ ⟨_, _, _, h, _⟩ => by rw [show (1 + (i : Int)) = ((1 + i : Nat) : Int) by omega, cut_to, ← List.map_take]; exact sq_of h) ?_ ?_
        · rintro p j z σ' H5 hj ⟨v3, rfl, e5, h5, i3⟩
          rw [show (1 + (i : Int)) = ((1 + i : Nat) : Int) by omega, cut_to, ← List.map_take] at hj
          obtain ⟨c, hc2, rfl⟩ := map_get hj
          have hjl : j < 1 + i := by
            have := (List.getElem?_eq_some_iff.mp hc2).1
            simp at this
            omega
          rw [List.getElem?_take_of_lt hjl] at hc2
          have c3 := inv1 _ _ hc2
          refine s_when (et_test (ev_op (ev_call0 (ea_cons (ev_op (ev_var rfl) (ev_var rfl) (rv_ixL (ex_l e5 hS) (at_mapI (k := 1 + i) (by omega) hB))) (ea_cons (ev_var rfl) ea_nil)) (sv_common (by omega) (by omega))) ev_c rv_I0)) (fun hd H6 e6 => ?_) (fun hd H6 e6 => ?_)
          · have hd' : (1 : Int) < (Int.gcd y c : Int) := of_decide_eq_true hd
            refine kE (fun g => ?_) H6 (e5.trans e6)
            have := (g.cop2 hjl hc2 hB).symm
            rw [show Int.gcd y c = 1 from this] at hd'
            exact absurd hd' (by decide)
          · have hd' : ¬ (1 : Int) < (Int.gcd y c : Int) := of_decide_eq_false hd
            refine ⟨_, rfl, e5.trans e6, e6 _ _ h5, fun jj x hjj hx => ?_⟩
            by_cases e7 : jj = j
            · subst e7
              rw [hc2] at hx
              have := Option.some.inj hx
              subst this
              refine Rw.Cop.symm ?_
              have g0 : Int.gcd y c ≠ 0 := fun z => by have := (Int.gcd_eq_zero_iff.mp z).1; omega
              show Int.gcd y c = 1
              omega
            · exact i3 jj x (by omega) hx
        · rintro p σ' H5 ⟨v3, rfl, e5, h5, i3⟩
          rw [show (1 + (i : Int)) = ((1 + i : Nat) : Int) by omega, cut_to, ← List.map_take, List.length_map, List.length_take, Nat.min_eq_left (by omega)] at i3
          refine ⟨_, _, _, rfl, e5, fun k u v hk hu hv => ?_, fun j k u v hjk hk hu hv => ?_⟩
          · by_cases e7 : k = i
            · subst e7
              rw [hA] at hu
              rw [hB'] at hv
              have := Option.some.inj hu
              have := Option.some.inj hv
              omega
            · exact i1 k u v (by omega) hu hv
          · by_cases e7 : k = 1 + i
            · subst e7
              rw [hB] at hv
              have := Option.some.inj hv
              subst this
              exact i3 j u (by omega) hu
            · exact i2 j k u v hjk (by omega) hu hv
      · rintro σ' H3 ⟨v1, v2, v3, rfl, e3, i1, i2⟩
        refine q (Rw.good_of (by omega) (by omega) inv1 (fun k x y hx hy => i1 k x y ?_ hx hy) (fun j k x y hjk hx hy => i2 j k x y hjk ?_ hx hy)) H3 e3
        · have := (List.getElem?_eq_some_iff.mp hy).1
          omega
        · have := (List.getElem?_eq_some_iff.mp hy).1
          omega
theorem sv_need_bases {cN a : Addr} {H : Hp} {bs : List Int} (hS : SqL K H a (bs.map V.int)) (g : Rw.Good bs) : SpV (sp_need_bases K cN) [.ref a] H .non := fun H1 e Q q E => ⟨a, bs, rfl, ex_l e hS, fun _ => q, fun n => absurd g n⟩
theorem sd_need_bases {cN a : Addr} {H : Hp} {E : XK} {bs : List Int} (hS : SqL K H a (bs.map V.int)) (g : ¬ Rw.Good bs) (k : ∀ H', Ex H H' → E (.ref cN) none H') : SpD (sp_need_bases K cN) [.ref a] H E := fun H1 e Q => ⟨a, bs, rfl, ex_l e hS, fun y => absurd y g, fun _ H' e' => k H' (e.trans e')⟩
end
end Rk
namespace Rk
open PySem PySem.Spec PyProof.Rows L2 Evl
section
variable {P : Program} {w : World} {K : PySem.W.Frag} {mg : Str → Option Value} {base : Heap}
/-! ### turned -/
def sp_turned (cN : Addr) : Sp := fun vs H Q E => ∃ number base : Int, vs = [.int number, .int base] ∧ 2 ≤ base ∧ base < 2 ^ 300 ∧
  (Rw.Cop number base → ∀ H', Ex H H' → Q (.int (Rw.inv number base)) H') ∧ (¬ Rw.Cop number base → ∀ H', Ex H H' → E (.ref cN) none H')
theorem ok_turned (L : Lk K mg) : FnOk P w K mg base (L2.CX P w) 1 L.f_turned L.d_turned ["number", "base"] (sp_turned L.c_NoTurn) := by
  refine L.F_turned.okX sc_turned (fun vs H Q E h => ?_) (fun cdv A outer s H vs Q E hr h => ?_)
  · obtain ⟨_, _, rfl, _⟩ := h; rfl
  · obtain ⟨number, base, rfl, hb, hw, q, kE⟩ := h
    refine ⟨_, (pss_cons (ps_set (i := 2) sc_turned.nd rfl (Or.inl rfl) (pv 1))
      (pss_cons (ps_set (i := 3) sc_turned.nd rfl (Or.inl rfl) (pe_op op_mod (pv 0) (pv 1)))
      (pss_cons (ps_set (i := 4) sc_turned.nd rfl (Or.inl rfl) pe_int)
      (pss_cons (ps_set (i := 5) sc_turned.nd rfl (Or.inl rfl) pe_int)
      (pss_cons (ps_while (passes_of rfl) (pt_cmpR op_gt (pv 3) pe_int (nomark _)) (pss_cons (ps_set (i := 6) sc_turned.nd rfl (Or.inl rfl) (pe_op op_fdivW (pv 2) (pv 3)))
      (pss_cons (ps_set (i := 7) sc_turned.nd rfl (Or.inl rfl) (pe_op op_sub (pv 2) (pe_op op_mulW (pv 6) (pv 3))))
      (pss_cons (ps_set (i := 2) sc_turned.nd rfl (Or.inl rfl) (pv 3))
      (pss_cons (ps_set (i := 3) sc_turned.nd rfl (Or.inl rfl) (pv 7))
      (pss_cons (ps_set (i := 8) sc_turned.nd rfl (Or.inl rfl) (pe_op op_sub (pv 4) (pe_op op_mulW (pv 6) (pv 5))))
      (pss_cons (ps_set (i := 4) sc_turned.nd rfl (Or.inl rfl) (pv 5))
      (pss_one (ps_set (i := 5) sc_turned.nd rfl (Or.inl rfl) (pv 8))))))))))
      (pss_cons (ps_if (pt_cmpR op_ne (pv 2) pe_int (nomark _)) (pss_one (ps_raise rfl hk (pmk_own PySem.F.excBase_ValueError L.x_NoTurn L.g_NoTurn L.e_NoTurn (raises_own L.s_NoTurn L.t_NoTurn) (by rfl)))) pss_nil)
      (pss_one (ps_ret (pe_op op_mod (pv 4) (pv 1)))))))))), ?_⟩
    refine q_asg (ev_var rfl) fun H1 e1 => ?_
    refine q_asg (ev_op (ev_var rfl) (ev_var rfl) (rv_I (show 0 < base by omega))) fun H2 e2 => ?_
    refine q_asg ev_c fun H3 e3 => ?_
    refine q_asg ev_c fun H4 e4 => ?_
    have eA : Ex H H4 := ((e1.trans e2).trans e3).trans e4
    refine q_while (fun m σ' H' => ∃ (high low ahead behind : Int) (r1 r2 r3 : Option V), σ' = [some (.int number), some (.int base), some (.int high), some (.int low), some (.int ahead), some (.int behind), r1, r2, r3] ∧
      Rw.EG number base high low ahead behind ∧ low.toNat = m ∧ Ex H H') (number % base).toNat ⟨base, number % base, 0, 1, none, none, none, rfl, Rw.EG.start hb, rfl, eA⟩ ?_
    rintro m σ' H' ⟨high, low, ahead, behind, r1, r2, r3, rfl, G, hm, e⟩
    refine ⟨_, et_test (ev_op (ev_var rfl) ev_c rv_I0), fun hc H1 e1 => ?_, fun hc H1 e1 => ?_⟩
    · have hl : 0 < low := of_decide_eq_true hc
      obtain ⟨b1, b2, b3, b4, b5⟩ := G.bound hl
      have hB : base.natAbs < 2 ^ 300 := by have := Rw.natAbs_lt300 (show 0 ≤ base by omega) hw; exact this
      have wm : ∀ {i j : Int}, i.natAbs ≤ base.natAbs → j.natAbs ≤ base.natAbs → CMulW i j := fun hi hj => wide_mul (a := 300) (b := 300) (Nat.lt_of_le_of_lt hi hB) (Nat.lt_of_le_of_lt hj hB) (by decide) (by decide) (by decide)
      have wd : CDivW high low := wide_div (b := 300) hl (Nat.lt_of_le_of_lt b4 hB) (by decide) (by decide)
      refine ⟨fun σ' H' => ∃ r1 r2 r3, σ' = [some (.int number), some (.int base), some (.int low), some (.int (high - high / low * low)), some (.int behind), some (.int (ahead - high / low * behind)), r1, r2, r3] ∧ Ex H H', ?_, ?_⟩
      · rintro σ2 H2 ⟨r1, r2, r3, rfl, e2⟩
        have G2 := G.step hl
        have := G2.l0
        have := G2.lh
        exact ⟨_, by omega, low, _, behind, _, r1, r2, r3, rfl, G2, rfl, e2⟩
      · refine q_asg (ev_op (ev_var rfl) (ev_var rfl) (rv_I wd)) fun H2 e2 => ?_
        refine q_asg (ev_op (ev_var rfl) (ev_op (ev_var rfl) (ev_var rfl) (rv_I (wm b5 b4))) rv_I0) fun H3 e3 => ?_
        refine q_asg (ev_var rfl) fun H4 e4 => ?_
        refine q_asg (ev_var rfl) fun H5 e5 => ?_
        refine q_asg (ev_op (ev_var rfl) (ev_op (ev_var rfl) (ev_var rfl) (rv_I (wm b5 b2))) rv_I0) fun H6 e6 => ?_
        refine q_asg (ev_var rfl) fun H7 e7 => ?_
        refine s_asg (ev_var rfl) fun H8 e8 => ?_
        exact ⟨_, _, _, rfl, (((((((e.trans e1).trans e2).trans e3).trans e4).trans e5).trans e6).trans e7).trans e8⟩
    · have hl : ¬ 0 < low := of_decide_eq_false hc
      have h0 := G.l0
      have : low = 0 := by omega
      subst this
      refine q_when (et_test (ev_op (ev_var rfl) ev_c (rv_ne rfl))) (fun hn H2 e2 => ?_) (fun hn H2 e2 => ?_)
      · have hn' : ¬ high = 1 := by simpa using hn
        exact kE (fun c => hn' (G.end_.mpr c)) H2 ((e.trans e1).trans e2)
      · have hn' : high = 1 := by simpa using hn
        subst hn'
        refine s_ret (ev_op (ev_var rfl) (ev_var rfl) (rv_I (show 0 < base by omega))) fun H3 e3 => ?_
        have c := G.end_.mp rfl
        rw [← Rw.inv_eq c (show 0 < base by omega) (G.turns hb)]
        exact q c H3 (((e.trans e1).trans e2).trans e3)
theorem sv_turned {cN : Addr} {H : Hp} {a b : Int} (hb : 2 ≤ b) (hw : b < 2 ^ 300) (c : Rw.Cop a b) : SpV (sp_turned cN) [.int a, .int b] H (.int (Rw.inv a b)) := fun H1 e Q q E => ⟨a, b, rfl, hb, hw, fun _ => q, fun n => absurd c n⟩
theorem sd_turned {cN : Addr} {H : Hp} {E : XK} {a b : Int} (hb : 2 ≤ b) (hw : b < 2 ^ 300) (c : ¬ Rw.Cop a b) (k : ∀ H', Ex H H' → E (.ref cN) none H') : SpD (sp_turned cN) [.int a, .int b] H E :=
  fun H1 e Q => ⟨a, b, rfl, hb, hw, fun y => absurd y c, fun _ H' e' => k H' (e.trans e')⟩
end
end Rk
namespace Rk
open PySem PySem.Spec PyProof.Rows L2 Evl
section
variable {P : Program} {w : World} {K : PySem.W.Frag} {mg : Str → Option Value} {base : Heap}
/-! ### Board(bases) -/
def sp___init__ (K : PySem.W.Frag) (C cN : Addr) : Sp := fun vs H Q E => ∃ (H0 : Hp) (x dx a : Addr) (bs : List Int), vs = [.ref x, .ref a] ∧ Ex H0 H ∧ H0 x = none ∧ H x = some (.ins C dx []) ∧ SqL K H0 a (bs.map V.int) ∧
  (Rw.Good bs → ∀ H' l t, Ex H0 H' → H0 l = none → H0 t = none → BoardIs C H' x bs dx l t → Q .non H') ∧ (¬ Rw.Good bs → ∀ H', Ex H0 H' → E (.ref cN) none H')
theorem bases_turns : ¬ (("bases" : Str) = "turns") := by decide +kernel
theorem putF2 (l t : Addr) : putF "turns" (.ref t) (putF "bases" (.ref l) []) = bf l t := by
  show (if ("bases" : Str) = "turns" then [(("bases" : Str), V.ref t)] else (("bases" : Str), V.ref l) :: putF "turns" (V.ref t) []) = bf l t
  rw [if_neg bases_turns]
  rfl
theorem ok___init__ (L : Lk K mg) : FnOk P w K mg base (L2.CX P w) 3 L.f___init__ L.d___init__ ["self", "bases"] (sp___init__ K L.C L.c_NoBases) := by
  refine L.F___init__.okX sc___init__ (fun vs H Q E h => ?_) (fun cdv A outer s H vs Q E hr h => ?_)
  · obtain ⟨_, _, _, _, _, rfl, _⟩ := h; rfl
  · obtain ⟨H0, x, dx, a, bs, rfl, e0, x0, hX, hS, q, kE⟩ := h
    refine ⟨_, (pss_cons (ps_expr (pe_call (E := E) (ok_need_bases L) (hr.mono (by decide)) (by rfl) L.g_need_bases L.k_need_bases L.b_need_bases .nil hx (pa_cons (pv 1) pa_nil)))
      (pss_cons (ps_fld (pv 0) (pe_callTy call_list_of (by rfl) L.z_list (by decide +kernel) (pa_cons (pv 1) pa_nil)) rfl)
      (pss_cons (ps_fld (pv 0) (pe_lst pa_nil) rfl)
      (pss_one (ps_for (passes_of rfl) rfl (pi_range1 (by rfl) L.z_range (pa_cons (pe_callB call_len_seq (by rfl) L.z_len PySem.boot_len (pa_cons (pv 1) pa_nil)) pa_nil)) (pg_name (i := 2) sc___init__.nd rfl (Or.inl rfl)) (pss_cons (ps_set (i := 3) sc___init__.nd rfl (Or.inl rfl) pe_int)
      (pss_cons (ps_for (passes_of rfl) rfl (pi_list (pe_slice sl_list (pv 1) po_none (po_some (pv 2)))) (pg_name (i := 4) sc___init__.nd rfl (Or.inl rfl)) (pss_one (ps_set (i := 3) sc___init__.nd rfl (Or.inl rfl) (pe_op op_mod (pe_op op_mul (pv 3) (pv 4)) (pe_ix ix_list (pv 1) (pv 2) (fun _ _ => rfl))))))
      (pss_one (ps_expr (pe_bm PySem.F.plainAttrs_list PySem.F.slot_list_append PySem.F.type_list_append mt_append (pe_fld (pv 0) (by rfl)) (pa_cons (pe_call (E := E) (ok_turned L) (hr.mono (by decide)) (by rfl) L.g_turned L.k_turned L.b_turned .nil hx (pa_cons (pv 3) (pa_cons (pe_ix ix_list (pv 1) (pv 2) (fun _ _ => rfl)) pa_nil))) pa_nil))))))))))), ?_⟩
    by_cases g : Rw.Good bs
    case neg => exact q_dv (dv_call (ea_cons (ev_var rfl) ea_nil) (sd_need_bases (ex_l e0 hS) g fun H' e' => kE g H' (e0.trans e')))
    have hlm : (bs.map V.int).length = bs.length := List.length_map _
    refine q_drop (ev_call0 (ea_cons (ev_var rfl) ea_nil) (sv_need_bases (ex_l e0 hS) g)) fun H1 e1 => ?_
    -- self.bases = list(bases)
    have E1 := e0.trans e1
    refine q_fldL (el_list (ev_var rfl) (ex_l E1 hS)) (ev_var rfl) (e1 _ _ hX) L.cl L.nB (by decide) fun l H2 hl e2 hL => ?_
    have E2 := E1.trans e2
    have nlx : l ≠ x := fun z => by rw [z, e1 _ _ hX] at hl; cases hl
    have E3 : Ex H0 (upd H2 x (.ins L.C dx (putF "bases" (.ref l) []))) := E2.mut x0
    generalize h3 : upd H2 x (.ins L.C dx (putF "bases" (.ref l) [])) = H3 at E3 ⊢
    have hX3 : H3 x = some (.ins L.C dx (putF "bases" (.ref l) [])) := by rw [← h3]; exact upd_same
    have hL3 : H3 l = some (.lst (bs.map V.int)) := by rw [← h3, upd_ne nlx]; exact hL
    -- self.turns = []
    refine q_fldL (el_lst ea_nil (by decide)) (ev_var rfl) hX3 L.cl L.nT (by show 1 < 1000; decide) fun t H4 ht e4 hT => ?_
    rw [putF2]
    have ntx : t ≠ x := fun z => by rw [z, hX3] at ht; cases ht
    have nlt : l ≠ t := fun z => by rw [← z, hL3] at ht; cases ht
    have E4 : Ex H0 (upd H4 x (.ins L.C dx (bf l t))) := (E3.trans e4).mut x0
    have t0 : H0 t = none := fresh_back E3 ht
    have l0 : H0 l = none := fresh_back E1 hl
    generalize h5 : upd H4 x (.ins L.C dx (bf l t)) = H5 at E4 ⊢
    have hX5 : H5 x = some (.ins L.C dx (bf l t)) := by rw [← h5]; exact upd_same
    have hL5 : H5 l = some (.lst (bs.map V.int)) := by rw [← h5, upd_ne nlx]; exact e4 _ _ hL3
    have hT5 : H5 t = some (.lst []) := by rw [← h5, upd_ne ntx]; exact hT
    -- for k in range(len(bases))
    refine s_forR1 (n := (bs.length : Int)) (ea_cons (ev_is (ev_len (ev_var rfl) (ex_l E4 hS)) (by rw [hlm])) ea_nil) (by have := g.len14; omega)
      (fun i σ' H' => ∃ v1 v2 v3, σ' = [some (.ref x), some (.ref a), v1, v2, v3] ∧ Ex H0 H' ∧ H' x = some (.ins L.C dx (bf l t)) ∧ H' l = some (.lst (bs.map V.int)) ∧ H' t = some (.lst (((Rw.turnsOf bs).take i).map V.int)))
      (fun H6 e6 => ⟨none, none, none, rfl, E4.trans e6, e6 _ _ hX5, e6 _ _ hL5, e6 _ _ hT5⟩) ?_ ?_
    · rintro k σ' H6 hk ⟨v1, v2, v3, rfl, E6, hX6, hL6, hT6⟩
      have hk' : k < bs.length := by omega
      have hB : bs[k]? = some bs[k] := List.getElem?_eq_getElem hk'
      generalize bs[k] = b at hB
      have hb := g.get3 hB
      have b0 : 0 < b := by omega
      refine q_asg ev_c fun H7 e7 => ?_
      have E7 := E6.trans e7
      -- for ahead in bases[:k]
      refine q_forNLn (el_sl (ev_var rfl) eo_none (eo_some (ev_var rfl)) (ex_l E7 hS))
        (fun p i σ' H' => ∃ v3, σ' = [some (.ref x), some (.ref a), some (.int (k : Int)), some (.int (Rw.prod (bs.take i) % b)), v3] ∧ Ex H6 H' ∧ H' p = some (.lst ((bs.take k).map V.int)))
        (fun p H8 hp e8 h8 => ⟨v3, by simp [Rw.prod, Int.emod_eq_of_lt (a := 1) (b := b) (by decide) (by omega)], e7.trans e8, by rw [h8, cut_to, List.map_take]⟩)
        (fun p i σ' H' _ ⟨_, _, _, h⟩ => by rw [cut_to, ← List.map_take]; exact sq_of h) ?_ ?_
      · rintro p i z σ' H8 hi ⟨v3, rfl, e8, h8⟩
        rw [cut_to, ← List.map_take] at hi
        obtain ⟨c, hc, rfl⟩ := map_get hi
        have hik : i < k := by
          have := (List.getElem?_eq_some_iff.mp hc).1
          simp at this
          omega
        rw [List.getElem?_take_of_lt hik] at hc
        have c3 := g.get3 hc
        refine s_asg (ev_op (ev_op (ev_var rfl) (ev_var rfl) (rv_I (cmulR (by omega)))) (ev_op (ev_var rfl) (ev_var rfl) (rv_ixL (ex_l (E6.trans e8) hS) (at_map hB))) (rv_I b0)) fun H9 e9 => ?_
        refine ⟨some (.int c), ?_, e8.trans e9, e9 _ _ h8⟩
        have e10 : Rw.prod (bs.take i) % b * c % b = Rw.prod (bs.take (i + 1)) % b := by
          rw [Rw.prod_take_succ hc, Int.mul_emod, Int.emod_emod, ← Int.mul_emod]
        show [some (V.ref x), some (V.ref a), some (V.int (k : Int)), some (V.int (Rw.prod (bs.take i) % b * c % b)), some (V.int c)] = _
        rw [e10]
      · rintro p σ' H8 ⟨v3, rfl, e8, h8⟩
        rw [cut_to, ← List.map_take, List.length_map, List.length_take, Nat.min_eq_left (by omega)]
        have E8 := E6.trans e8
        have cw := Rw.inv_mod (g.copTake hB) b0
        have hT8 := e8 _ _ hT6
        have hw : b < 2 ^ 300 := Int.lt_of_le_of_lt hb.2.1 (by decide +kernel)
        refine s_app hT8 (ev_fld (ev_var rfl) (e8 _ _ hX6) L.cl L.nT (bf_turns l t)) (ev_call0 (ea_cons (ev_var rfl) (ea_cons (ev_op (ev_var rfl) (ev_var rfl) (rv_ixL (ex_l E8 hS) (at_map hB))) ea_nil)) (sv_turned (by omega) hw cw.1)) (by rw [List.length_map, List.length_take, Rw.turnsOf_length]; have := g.len14; omega) fun H9 e9 => ?_
        refine ⟨_, _, _, rfl, (E8.trans e9).mut t0, ?_, ?_, ?_⟩
        · rw [upd_ne ntx.symm]; exact e9 _ _ (e8 _ _ hX6)
        · rw [upd_ne nlt]; exact e9 _ _ (e8 _ _ hL6)
        · rw [upd_same, cw.2, take_next (Rw.turnsOf_get hB)]
    · rintro σ' H6 ⟨v1, v2, v3, rfl, E6, hX6, hL6, hT6⟩
      refine q g H6 l t E6 l0 t0 ⟨hX6, hL6, ?_⟩
      rw [Int.toNat_natCast, List.take_of_length_le (by rw [Rw.turnsOf_length]; exact Nat.le_refl _)] at hT6
      exact hT6
/-- a new board -/
def NewBoard (C : Addr) (bs : List Int) : Hp → V → Hp → Prop := fun H1 v H2 => ∃ x dx l t, v = .ref x ∧ H1 x = none ∧ H1 l = none ∧ H1 t = none ∧ BoardIs C H2 x bs dx l t
theorem NewBoard.back {C : Addr} {bs : List Int} (H0 H1 : Hp) (v : V) (H2 : Hp) (e : Ex H0 H1) (h : NewBoard C bs H1 v H2) : NewBoard C bs H0 v H2 := by
  obtain ⟨x, dx, l, t, e1, e2, e3, e4, e5⟩ := h
  exact ⟨x, dx, l, t, e1, fresh_back e e2, fresh_back e e3, fresh_back e e4, e5⟩
theorem eg_make {C cN a : Addr} {σ : L2.St} {H : Hp} {E : XK} {tA : TA} {bs : List Int} (hA : EvA tA σ H [.ref a]) (hS : SqL K H a (bs.map V.int)) (g : Rw.Good bs) : EvG (tMake C (sp___init__ K C cN) [] E tA) σ H (NewBoard C bs) := fun H1 e Q q =>
  hA H1 e _ fun H2 e2 => fun x dx nx ndx ne => ⟨H2, x, dx, a, bs, rfl, (Ex.new ndx).mut nx, nx, upd_same, ex_l (e.trans e2) hS, fun _ H3 l t e3 hl ht hB => ⟨rfl, q _ H3 (e2.trans e3) ⟨x, dx, l, t, rfl, fresh_back e2 nx, fresh_back e2 hl, fresh_back e2 ht, hB⟩⟩, fun n => absurd g n⟩
end
end Rk
namespace Rk
open PySem PySem.Spec PyProof.Rows L2 Evl
section
variable {P : Program} {w : World} {K : PySem.W.Frag} {mg : Str → Option Value} {base : Heap}
/-! ### the law's bases -/
def sp__law_bases : Sp := fun vs H Q _ => ∃ one other : Int, vs = [.int one, .int other] ∧ ∀ bs, Rw.Good bs → RetL (bs.map V.int) H Q
theorem pick {p r : Int} (h : 0 < r) (h4 : r < 4) : ∃ m, atI ([V.int 1, V.int 1, V.int p, V.int (p * p)] : List V) r = some (V.int m) ∧ (m = 1 ∨ m = p ∨ m = p * p) := by
  rcases (show r = ((1 : Nat) : Int) ∨ r = ((2 : Nat) : Int) ∨ r = ((3 : Nat) : Int) by omega) with e | e | e <;> subst e
  · exact ⟨1, atI_nat rfl, .inl rfl⟩
  · exact ⟨p, atI_nat rfl, .inr (.inl rfl)⟩
  · exact ⟨p * p, atI_nat rfl, .inr (.inr rfl)⟩
theorem ok__law_bases (L : Lk K mg) : FnOk P w K mg base (L2.CX P w) 1 L.f__law_bases L.d__law_bases ["_law_one", "_law_other"] sp__law_bases := by
  refine L.F__law_bases.okX sc__law_bases (fun vs H Q E h => ?_) (fun cdv A outer s H vs Q E hr h => ?_)
  · obtain ⟨_, _, rfl, _⟩ := h; rfl
  · obtain ⟨one, other, rfl, q⟩ := h
    refine ⟨_, (pss_cons (ps_set (i := 2) sc__law_bases.nd rfl (Or.inl rfl) (pe_lst pa_nil))
      (pss_cons (ps_set (i := 3) sc__law_bases.nd rfl (Or.inl rfl) (pe_lst (pa_cons pe_int (pa_cons pe_int (pa_cons pe_int (pa_cons pe_int (pa_cons pe_int pa_nil)))))))
      (pss_cons (ps_set (i := 4) sc__law_bases.nd rfl (Or.inl rfl) (pe_lst (pa_cons pe_int (pa_cons pe_int (pa_cons pe_int (pa_cons pe_int (pa_cons pe_int (pa_cons pe_int (pa_cons pe_int (pa_cons pe_int (pa_cons pe_int pa_nil)))))))))))
      (pss_cons (ps_set (i := 5) sc__law_bases.nd rfl (Or.inl rfl) (pe_op op_mul pe_int (pe_op op_mod (pv 1) pe_int)))
      (pss_cons (ps_set (i := 6) sc__law_bases.nd rfl (Or.inl rfl) (pe_op op_fdiv (pv 1) pe_int))
      (pss_cut (ps_if (pt_cmpR op_eq (pe_op op_mod (pv 0) pe_int) pe_int (nomark _)) (pss_cons (ps_set (i := 3) sc__law_bases.nd rfl (Or.inl rfl) (pe_lst (pa_cons pe_int (pa_cons pe_int (pa_cons pe_int (pa_cons pe_int pa_nil))))))
      (pss_cons (ps_set (i := 4) sc__law_bases.nd rfl (Or.inl rfl) (pe_lst (pa_cons pe_int (pa_cons pe_int (pa_cons pe_int (pa_cons pe_int (pa_cons pe_int (pa_cons pe_int pa_nil))))))))
      (pss_cons (ps_set (i := 5) sc__law_bases.nd rfl (Or.inl rfl) (pe_op op_mul pe_int (pe_op op_mod (pv 1) pe_int)))
      (pss_one (ps_set (i := 6) sc__law_bases.nd rfl (Or.inl rfl) (pe_op op_fdiv (pv 1) pe_int)))))) pss_nil)
      (pss_cons (ps_for (passes_of rfl) rfl (pi_list (pv 3)) (pg_name (i := 7) sc__law_bases.nd rfl (Or.inl rfl)) (pss_cut (ps_if (pt_cmpR op_gt (pe_op op_mod (pv 0) pe_int) pe_int (nomark _)) (pss_one (ps_expr (pe_bm PySem.F.plainAttrs_list PySem.F.slot_list_append PySem.F.type_list_append mt_append (pv 2) (pa_cons (pe_op op_mul (pv 7) (pe_ix ix_list (pe_lst (pa_cons pe_int (pa_cons pe_int (pa_cons (pv 7) (pa_cons (pe_op op_mul (pv 7) (pv 7)) pa_nil))))) (pe_op op_mod (pv 0) pe_int) (fun _ _ => rfl))) pa_nil)))) pss_nil)
      (pss_one (ps_set (i := 0) sc__law_bases.nd rfl (Or.inl rfl) (pe_op op_fdiv (pv 0) pe_int)))))
      (pss_cut (ps_if (PW.pt (pw_and (pt_cmpR op_eq (pe_op op_mod (pv 0) pe_int) pe_int (nomark _)) (pw_and (pt_cmpR op_gt (pe_callB call_len_seq (by rfl) L.z_len PySem.boot_len (pa_cons (pv 2) pa_nil)) pe_int (nomark _)) (pw_and1 (pt_cmpR op_lt (pe_op op_mul (pe_ix ix_list (pv 2) pe_int (fun _ _ => rfl)) (pe_ix ix_list (pv 2) pe_int (fun _ _ => rfl))) pe_int (nomark _)))))) (pss_one (ps_set (i := 2) sc__law_bases.nd rfl (Or.inl rfl) (pe_op op_cat (pe_lst (pa_cons (pe_op op_mul (pe_ix ix_list (pv 2) pe_int (fun _ _ => rfl)) (pe_ix ix_list (pv 2) pe_int (fun _ _ => rfl))) pa_nil)) (pe_slice sl_list (pv 2) (po_some pe_int) po_none)))) pss_nil)
      (pss_cons (ps_for (passes_of rfl) rfl (pi_range1 (by rfl) L.z_range (pa_cons (pe_callB call_len_seq (by rfl) L.z_len PySem.boot_len (pa_cons (pv 4) pa_nil)) pa_nil)) (pg_name (i := 8) sc__law_bases.nd rfl (Or.inl rfl)) (pss_cut (ps_if (PW.pt (pw_or (pt_cmpR op_eq (pe_op op_mod (pv 6) pe_int) pe_int (nomark _)) (pw_or1 (pt_cmpR op_le (pe_op op_sub (pe_op op_add (pe_callB call_len_seq (by rfl) L.z_len PySem.boot_len (pa_cons (pv 2) pa_nil)) (pe_callB call_len_seq (by rfl) L.z_len PySem.boot_len (pa_cons (pv 4) pa_nil))) (pv 8)) pe_int (nomark _))))) (pss_one (ps_expr (pe_bm PySem.F.plainAttrs_list PySem.F.slot_list_append PySem.F.type_list_append mt_append (pv 2) (pa_cons (pe_op op_add (pv 5) (pe_ix ix_list (pv 4) (pv 8) (fun _ _ => rfl))) pa_nil)))) pss_nil)
      (pss_one (ps_set (i := 6) sc__law_bases.nd rfl (Or.inl rfl) (pe_op op_fdiv (pv 6) pe_int)))))
      (pss_one (ps_ret (pe_callB cr_sorted (by rfl) L.z_sorted (by decide +kernel) (pa_cons (pv 2) pa_nil))))))))))))), ?_⟩
    refine q_asgL (el_lst ea_nil (by decide)) fun sl H1 hsl e1 h1 => ?_
    refine q_asgL (el_lst (vs := ([3, 5, 7, 11, 13] : List Int).map V.int) (ea_cons ev_c (ea_cons ev_c (ea_cons ev_c (ea_cons ev_c (ea_cons ev_c ea_nil))))) (by decide)) fun pl H2 hpl e2 h2 => ?_
    refine q_asgL (el_lst (vs := ([17, 19, 23, 29, 31, 37, 41, 43, 47] : List Int).map V.int) (ea_cons ev_c (ea_cons ev_c (ea_cons ev_c (ea_cons ev_c (ea_cons ev_c (ea_cons ev_c (ea_cons ev_c (ea_cons ev_c (ea_cons ev_c ea_nil))))))))) (by decide)) fun el H3 hel e3 h3 => ?_
    have spl : sl ≠ pl := fun z => by rw [← z, h1] at hpl; cases hpl
    have sel : sl ≠ el := fun z => by rw [← z, e2 _ _ h1] at hel; cases hel
    have o0 := Int.emod_nonneg other (show (34 : Int) ≠ 0 by decide)
    have o1 := Int.emod_lt_of_pos other (show (0 : Int) < 34 by decide)
    refine q_asg (ev_op ev_c (ev_op (ev_var rfl) ev_c (rv_I (show (0 : Int) < 34 by decide))) (rv_I (cmulL (by decide)))) fun H4 e4 => ?_
    refine q_asg (ev_op (ev_var rfl) ev_c (rv_I ⟨by decide, by decide⟩)) fun H5 e5 => ?_
    have E5 := (((e1.trans e2).trans e3).trans e4).trans e5
    have e45 := e4.trans e5
    have h15 := e45 _ _ (e3 _ _ (e2 _ _ h1))
    have h25 := e45 _ _ (e3 _ _ h2)
    have h35 := e45 _ _ h3
    refine q_cut (M := fun σ' H' => ∃ (N : Int) (ps es : List Int) (far picks : Int) (pl el : Addr), σ' = [some (.int one), some (.int other), some (.ref sl), some (.ref pl), some (.ref el), some (.int far), some (.int picks), none, none] ∧
      Rw.Cfg N ps es ∧ Rw.Far N far ∧ Ex H H' ∧ sl ≠ pl ∧ sl ≠ el ∧ H' sl = some (.lst []) ∧ H' pl = some (.lst (ps.map V.int)) ∧ H' el = some (.lst (es.map V.int))) ?_ ?_
    · refine s_when (et_test (ev_op (ev_op (ev_var rfl) ev_c (rv_I (show (0 : Int) < 7 by decide))) ev_c (rv_eq rfl))) (fun _ H6 e6 => ?_) (fun _ H6 e6 => ?_)
      · refine q_asgL (el_lst (vs := ([3, 5, 7, 11] : List Int).map V.int) (ea_cons ev_c (ea_cons ev_c (ea_cons ev_c (ea_cons ev_c ea_nil)))) (by decide)) fun pl H7 hpl e7 h7 => ?_
        refine q_asgL (el_lst (vs := ([13, 17, 19, 23, 29, 31] : List Int).map V.int) (ea_cons ev_c (ea_cons ev_c (ea_cons ev_c (ea_cons ev_c (ea_cons ev_c (ea_cons ev_c ea_nil)))))) (by decide)) fun el H8 hel e8 h8 => ?_
        have o2 := Int.emod_nonneg other (show (429 : Int) ≠ 0 by decide)
        have o3 := Int.emod_lt_of_pos other (show (0 : Int) < 429 by decide)
        refine q_asg (ev_op ev_c (ev_op (ev_var rfl) ev_c (rv_I (show (0 : Int) < 429 by decide))) (rv_I (cmulL (by decide)))) fun H9 e9 => ?_
        refine s_asg (ev_op (ev_var rfl) ev_c (rv_I ⟨by decide, by decide⟩)) fun H10 e10 => ?_
        have e78 := (e7.trans e8).trans (e9.trans e10)
        refine ⟨2310, _, _, _, _, pl, el, rfl, Rw.cfg2, ⟨Int.dvd_mul_right _ _, by omega, by omega⟩, (E5.trans e6).trans e78, fun z => ?_, fun z => ?_, e78 _ _ (e6 _ _ h15), (e9.trans e10) _ _ (e8 _ _ h7), (e9.trans e10) _ _ h8⟩
        · rw [← z, e6 _ _ h15] at hpl; cases hpl
        · rw [← z, e7 _ _ (e6 _ _ h15)] at hel; cases hel
      · exact ⟨30030, _, _, _, _, pl, el, rfl, Rw.cfg1, ⟨Int.dvd_mul_right _ _, by omega, by omega⟩, E5.trans e6, spl, sel, e6 _ _ h15, e6 _ _ h25, e6 _ _ h35⟩
    clear h15 h25 h35 h1 h2 h3 spl sel hpl hel E5 e45 e1 e2 e3 e4 e5
    rintro σ' H6 ⟨N, ps, es, far, picks, pl, el, rfl, c, hf, e6, spl, sel, h1, h2, h3⟩
    have plen := c.plen
    have elen := c.elen
    refine q_forLn (ev_var rfl) (sq_of h2) (fun i σ' H' => ∃ (one' : Int) (sm : List Int) (v7 : Option V), σ' = [some (.int one'), some (.int other), some (.ref sl), some (.ref pl), some (.ref el), some (.int far), some (.int picks), v7, none] ∧
      Rw.InvA N ps i sm ∧ Ex H H' ∧ H' sl = some (.lst (sm.map V.int)) ∧ H' pl = some (.lst (ps.map V.int)) ∧ H' el = some (.lst (es.map V.int)))
      (fun H7 e7 => ⟨one, [], none, rfl, Rw.InvA.start _ _, e6.trans e7, e7 _ _ h1, e7 _ _ h2, e7 _ _ h3⟩) (fun i σ' H' _ ⟨_, _, _, _, _, _, _, h, _⟩ => sq_of h) ?_ ?_
    · rintro i x σ' H7 hi ⟨one', sm, v7, rfl, inv, e7, h1, h2, h3⟩
      obtain ⟨p, hp, rfl⟩ := map_get hi
      obtain ⟨po, p3, p13, pd⟩ := c.podd p (List.mem_of_getElem? hp)
      have r0 := Int.emod_nonneg one' (show (4 : Int) ≠ 0 by decide)
      have r1 := Int.emod_lt_of_pos one' (show (0 : Int) < 4 by decide)
      refine q_cut (M := fun σ' H' => ∃ (sm : List Int), σ' = [some (.int one'), some (.int other), some (.ref sl), some (.ref pl), some (.ref el), some (.int far), some (.int picks), some (.int p), none] ∧
        Rw.InvA N ps (i + 1) sm ∧ Ex H H' ∧ H' sl = some (.lst (sm.map V.int)) ∧ H' pl = some (.lst (ps.map V.int)) ∧ H' el = some (.lst (es.map V.int))) ?_ ?_
      · refine s_when (et_test (ev_op (ev_op (ev_var rfl) ev_c (rv_I (show (0 : Int) < 4 by decide))) ev_c rv_I0)) (fun hc H8 e8 => ?_) (fun hc H8 e8 => ?_)
        · have hc' : 0 < one' % 4 := of_decide_eq_true hc
          obtain ⟨m, hm, hm3⟩ := pick (p := p) hc' r1
          refine s_app (e8 _ _ h1) (ev_var rfl) (ev_op (ev_var rfl) (ev_ixH (eh_new (el_lst (ea_cons ev_c (ea_cons ev_c (ea_cons (ev_var rfl) (ea_cons (ev_op (ev_var rfl) (ev_var rfl) (rv_I (cmulL (by omega)))) ea_nil)))) (by show 4 ≤ 100000; decide))) (ev_op (ev_var rfl) ev_c (rv_I (show (0 : Int) < 4 by decide))) hm) (rv_I (cmulL (by omega))))
            (by rw [List.length_map]; have := inv.len; have := (List.getElem?_eq_some_iff.mp hp).1; omega) fun H9 e9 => ?_
          refine ⟨sm ++ [p * m], rfl, inv.add c hp hm3, ((e7.trans e8).trans e9).mut hsl, ?_, ?_, ?_⟩
          · rw [upd_same, List.map_append]; rfl
          · rw [upd_ne spl.symm]; exact e9 _ _ (e8 _ _ h2)
          · rw [upd_ne sel.symm]; exact e9 _ _ (e8 _ _ h3)
        · exact ⟨sm, rfl, inv.skip, e7.trans e8, e8 _ _ h1, e8 _ _ h2, e8 _ _ h3⟩
      · rintro σ' H8 ⟨sm, rfl, inv, e8, h1, h2, h3⟩
        refine s_asg (ev_op (ev_var rfl) ev_c (rv_I ⟨by decide, by decide⟩)) fun H9 e9 => ?_
        exact ⟨_, sm, _, rfl, inv, e8.trans e9, e9 _ _ h1, e9 _ _ h2, e9 _ _ h3⟩
    rintro σ' H7 ⟨one', sm, v7, rfl, inv, e7, h1, h2, h3⟩
    rw [List.length_map] at inv
    have inv := inv.toB
    refine q_cut (M := fun σ' H' => ∃ (sm : List Int) (sl : Addr), σ' = [some (.int one'), some (.int other), some (.ref sl), some (.ref pl), some (.ref el), some (.int far), some (.int picks), v7, none] ∧ H sl = none ∧ sl ≠ el ∧
      Rw.InvB N ps.length sm ∧ Ex H H' ∧ H' sl = some (.lst (sm.map V.int)) ∧ H' el = some (.lst (es.map V.int))) ?_ ?_
    · have at0 : ∀ {a b : Int} {r : List Int}, atI ((a :: b :: r).map V.int) 0 = some (.int a) := fun {a b r} => at_mapI (k := 0) rfl rfl
      have at1 : ∀ {a b : Int} {r : List Int}, atI ((a :: b :: r).map V.int) 1 = some (.int b) := fun {a b r} => at_mapI (k := 1) rfl rfl
      rcases sm with _ | ⟨a, _ | ⟨b, r⟩⟩
      · refine s_when (b := false) (et_is (et_and (et_test (ev_op (ev_op (ev_var rfl) ev_c (rv_I (show (0 : Int) < 2 by decide))) ev_c (rv_eq rfl))) (fun _ => et_and (b := false) (a := false) (et_test (ev_op (ev_len (ev_var rfl) (sq_of h1)) ev_c rv_I0)) (fun z => nomatch z))) (by simp)) (fun z => nomatch z) (fun _ H8 e8 => ?_)
        exact ⟨_, sl, rfl, hsl, sel, inv, e7.trans e8, e8 _ _ h1, e8 _ _ h3⟩
      · refine s_when (b := false) (et_is (et_and (et_test (ev_op (ev_op (ev_var rfl) ev_c (rv_I (show (0 : Int) < 2 by decide))) ev_c (rv_eq rfl))) (fun _ => et_and (b := false) (a := false) (et_test (ev_op (ev_len (ev_var rfl) (sq_of h1)) ev_c rv_I0)) (fun z => nomatch z))) (by simp)) (fun z => nomatch z) (fun _ H8 e8 => ?_)
        exact ⟨_, sl, rfl, hsl, sel, inv, e7.trans e8, e8 _ _ h1, e8 _ _ h3⟩
      · have ax := inv.el a List.mem_cons_self
        have ev2 : ∀ {H8}, Ex H7 H8 → Ev (tOp (rI CMul fun i j => .int (i * j)) (tOp (rIxL K) (tVar 2) (tC (.int 0))) (tOp (rIxL K) (tVar 2) (tC (.int 1)))) [some (.int one'), some (.int other), some (.ref sl), some (.ref pl), some (.ref el), some (.int far), some (.int picks), v7, none] H8 (.int (a * b)) := fun {H8} e8 =>
          ev_op (ev_op (ev_var rfl) ev_c (rv_ixL (sq_of (e8 _ _ h1)) at0)) (ev_op (ev_var rfl) ev_c (rv_ixL (sq_of (e8 _ _ h1)) at1)) (rv_I (cmulL (by omega)))
        refine s_when (et_and (et_test (ev_op (ev_op (ev_var rfl) ev_c (rv_I (show (0 : Int) < 2 by decide))) ev_c (rv_eq rfl))) (fun _ => et_and (et_test (ev_op (ev_len (ev_var rfl) (sq_of h1)) ev_c rv_I0)) (fun _ => et_test (ev_op (ev2 (Ex.refl H7)) ev_c rv_I0)))) (fun hc H8 e8 => ?_) (fun hc H8 e8 => ?_)
        · rw [Bool.and_eq_true, Bool.and_eq_true, decide_eq_true_eq, decide_eq_true_eq, decide_eq_true_eq] at hc
          refine s_asgL (el_cat (eh_new (el_lst (ea_cons (ev2 e8) ea_nil) (by show 1 ≤ 100000; decide))) (eh_new (el_slH (eh_old (ev_var rfl) (e8 _ _ h1)) (eo_some ev_c) eo_none)) (Nat.le_trans (Nat.add_le_add_left (cutV_length _ _ _) _) (by have := inv.len; simp at this ⊢; omega))) fun l H9 hl e9 h9 => ?_
          refine ⟨a * b :: r, l, rfl, fresh_back (e7.trans e8) hl, (fun z => by rw [z, e8 _ _ h3] at hl; cases hl), inv.merge hc.2.2, (e7.trans e8).trans e9, ?_, e9 _ _ (e8 _ _ h3)⟩
          rw [h9, show (2 : Int) = ((2 : Nat) : Int) from rfl, cut_from]
          rfl
        · exact ⟨_, sl, rfl, hsl, sel, inv, e7.trans e8, e8 _ _ h1, e8 _ _ h3⟩
    clear h1 h2 h3 hsl spl sel inv
    rintro σ' H8 ⟨sm, sl, rfl, hsl, sel, inv, e8, h1, h3⟩
    have hle : (es.map V.int).length = es.length := List.length_map _
    refine q_forR1 (n := (es.length : Int)) (ea_cons (ev_is (ev_len (ev_var rfl) (sq_of h3)) (by rw [hle])) ea_nil) (by omega)
      (fun k σ' H' => ∃ (pk : Int) (sm : List Int) (v8 : Option V), σ' = [some (.int one'), some (.int other), some (.ref sl), some (.ref pl), some (.ref el), some (.int far), some (.int pk), v7, v8] ∧
        Rw.InvC far es ps.length k sm ∧ Ex H H' ∧ H' sl = some (.lst (sm.map V.int)) ∧ H' el = some (.lst (es.map V.int)))
      (fun H9 e9 => ⟨_, sm, none, rfl, inv.toC c hf, e8.trans e9, e9 _ _ h1, e9 _ _ h3⟩) ?_ ?_
    · rintro k σ' H9 hk ⟨pk, sm, v8, rfl, inv, e9, h1, h3⟩
      have hk' : k < es.length := by omega
      have hE : es[k]? = some es[k] := List.getElem?_eq_getElem hk'
      generalize es[k] = ek at hE
      have hls : (sm.map V.int).length = sm.length := List.length_map _
      refine q_cut (M := fun σ' H' => ∃ (sm : List Int), σ' = [some (.int one'), some (.int other), some (.ref sl), some (.ref pl), some (.ref el), some (.int far), some (.int pk), v7, some (.int (k : Int))] ∧
        Rw.InvC far es ps.length (k + 1) sm ∧ Ex H H' ∧ H' sl = some (.lst (sm.map V.int)) ∧ H' el = some (.lst (es.map V.int))) ?_ ?_
      · refine s_when (et_or (et_test (ev_op (ev_op (ev_var rfl) ev_c (rv_I (show (0 : Int) < 2 by decide))) ev_c (rv_eq rfl))) (fun _ => et_test (ev_op (ev_op (ev_op (ev_len (ev_var rfl) (sq_of h1)) (ev_len (ev_var rfl) (sq_of h3)) rv_I0) (ev_var rfl) rv_I0) ev_c rv_I0))) (fun hc H10 e10 => ?_) (fun hc H10 e10 => ?_)
        · refine s_app (e10 _ _ h1) (ev_var rfl) (ev_op (ev_var rfl) (ev_op (ev_var rfl) (ev_var rfl) (rv_ixL (sq_of (e10 _ _ h3)) (at_map hE))) rv_I0) (by rw [hls]; have := inv.len; omega) fun H11 e11 => ?_
          refine ⟨sm ++ [far + ek], rfl, inv.add c hf hE, ((e9.trans e10).trans e11).mut hsl, ?_, ?_⟩
          · rw [upd_same, List.map_append]; rfl
          · rw [upd_ne sel.symm]; exact e11 _ _ (e10 _ _ h3)
        · rw [Bool.or_eq_false_iff, decide_eq_false_iff_not, decide_eq_false_iff_not, hls, hle] at hc
          exact ⟨sm, rfl, inv.skip hk' hc.2, e9.trans e10, e10 _ _ h1, e10 _ _ h3⟩
      · rintro σ' H10 ⟨sm, rfl, inv, e10, h1, h3⟩
        refine s_asg (ev_op (ev_var rfl) ev_c (rv_I ⟨by decide, by decide⟩)) fun H11 e11 => ?_
        exact ⟨_, sm, _, rfl, inv, e10.trans e11, e11 _ _ h1, e11 _ _ h3⟩
    · rintro σ' H9 ⟨pk, sm, v8, rfl, inv, e9, h1, h3⟩
      rw [Int.toNat_natCast] at inv
      refine s_retSorted (ev_var rfl) (sq_of h1) (by have := inv.len; have := c.len; omega) fun ns' p H10 hp hs hn e10 h10 => ?_
      exact q ns' (inv.good c hp hs) p H10 (fresh_back e9 hn) (e9.trans e10) h10
/-- the law's bases: good ones, a new list -/
theorem q_bases {σ : L2.St} {H : Hp} {E : XK} {D : Ends} {tz : TS} {tA : TA} {i : Nat} {a b : Int} (h : EvA tA σ H [.int a, .int b]) (k : ∀ bs p H1, Rw.Good bs → H p = none → Ex H H1 → H1 p = some (.lst (bs.map V.int)) → tz D (σ.set i (some (.ref p))) H1) :
    tSeq (tAsg (tCall sp__law_bases [] E tA) (gName i)) tz D σ H := h H (Ex.refl H) _ fun H1 e1 => ⟨a, b, rfl, fun bs g p H2 hp e2 h2 => k bs p H2 g (fresh_back e1 hp) (e1.trans e2) h2⟩
end
end Rk
namespace Rk
open PySem PySem.Spec PyProof.Rows L2 Evl
section
variable {P : Program} {w : World} {K : PySem.W.Frag} {mg : Str → Option Value} {base : Heap}
/-! ### a cell of the script -/
def sp__law_cell_at (K : PySem.W.Frag) : Sp := fun vs H Q _ => ∃ (a : Addr) (ns : List Int) (i : Int), vs = [.ref a, .int i] ∧ SqL K H a (ns.map V.int) ∧ 0 ≤ i ∧ ∀ H', Ex H H' → Q (.int (cell ns i)) H'
theorem ok__law_cell_at (L : Lk K mg) : FnOk P w K mg base (L2.CX P w) 1 L.f__law_cell_at L.d__law_cell_at ["_law_script", "_law_k"] (sp__law_cell_at K) := by
  refine L.F__law_cell_at.okX sc__law_cell_at (fun vs H Q E h => ?_) (fun cdv A outer s H vs Q E hr h => ?_)
  · obtain ⟨_, _, _, rfl, _⟩ := h; rfl
  · obtain ⟨a, ns, i, rfl, hS, h0, q⟩ := h
    refine ⟨_, (pss_cons (ps_if (pt_cmpR op_lt (pv 1) (pe_callB call_len_seq (by rfl) L.z_len PySem.boot_len (pa_cons (pv 0) pa_nil)) (nomark _)) (pss_one (ps_ret (pe_ix ix_list (pv 0) (pv 1) (fun _ _ => rfl)))) pss_nil)
      (pss_one (ps_ret pe_int))), ?_⟩
    refine q_when (et_test (ev_op (ev_var rfl) (ev_len (ev_var rfl) hS) rv_I0)) (fun hc H1 e1 => ?_) (fun hc H1 e1 => ?_)
    · have hc' : i < ((ns.map V.int).length : Int) := of_decide_eq_true hc
      rw [List.length_map] at hc'
      have hg : ns[i.toNat]? = some (cell ns i) := by
        unfold cell
        rw [List.getD_eq_getElem?_getD, List.getElem?_eq_getElem (show i.toNat < ns.length by omega)]
        rfl
      have ei : i = ((i.toNat : Nat) : Int) := by omega
      refine s_ret (ev_op (ev_var rfl) (ev_var rfl) (rv_ixL (ex_l e1 hS) (by rw [ei]; exact at_map hg))) fun H2 e2 => ?_
      exact q H2 (e1.trans e2)
    · have hc' : ¬ i < ((ns.map V.int).length : Int) := of_decide_eq_false hc
      rw [List.length_map] at hc'
      have hg : cell ns i = 0 := by
        unfold cell
        rw [List.getD_eq_getElem?_getD, List.getElem?_eq_none (by omega)]
        rfl
      refine s_ret ev_c fun H2 e2 => ?_
      have := q H2 (e1.trans e2)
      rw [hg] at this
      exact this
theorem sv_cell {H : Hp} {a : Addr} {ns : List Int} {i : Int} (hS : SqL K H a (ns.map V.int)) (h0 : 0 ≤ i := by decide) : SpV (sp__law_cell_at K) [.ref a, .int i] H (.int (cell ns i)) :=
  fun H1 e Q q _ => ⟨a, ns, i, rfl, ex_l e hS, h0, q⟩
/-- the k-th cell, written -/
theorem ev_cell {σ : L2.St} {H : Hp} {a : Addr} {ns : List Int} {i : Int} {E : XK} {j : Nat} (hv : σ[j]? = some (some (.ref a))) (hS : SqL K H a (ns.map V.int)) (h0 : 0 ≤ i := by decide) :
    Ev (tCall (sp__law_cell_at K) [] E (tCons (tVar j) (tCons (tC (.int i)) tNil))) σ H (.int (cell ns i)) := ev_call0 (ea_cons (ev_var hv) (ea_cons ev_c ea_nil)) (sv_cell hS h0)
end
end Rk
namespace Rk
open PySem PySem.Spec PyProof.Rows L2 Evl
section
variable {P : Program} {w : World} {K : PySem.W.Frag} {mg : Str → Option Value} {base : Heap}
/-! ### a list of numbers, built -/
theorem s_retBases {σ : L2.St} {H : Hp} {E : XK} {D : Ends} {tA : TA} {a b : Int} (h : EvA tA σ H [.int a, .int b]) (k : ∀ bs p H1, Rw.Good bs → H p = none → Ex H H1 → H1 p = some (.lst (bs.map V.int)) → D.rt (.ref p) H1) :
    tRet (tCall sp__law_bases [] E tA) D σ H := h H (Ex.refl H) _ fun H1 e1 => ⟨a, b, rfl, fun bs g p H2 hp e2 h2 => k bs p H2 g (fresh_back e1 hp) (e1.trans e2) h2⟩
def sp__law_built (K : PySem.W.Frag) : Sp := fun vs H Q _ => ∃ (a : Addr) (ns : List Int), vs = [.ref a] ∧ SqL K H a (ns.map V.int) ∧ ∀ us : List Int, 3 ≤ us.length → us.length ≤ 20 → RetL (us.map V.int) H Q
theorem ok__law_built (L : Lk K mg) : FnOk P w K mg base (L2.CX P w) 2 L.f__law_built L.d__law_built ["_law_script"] (sp__law_built K) := by
  refine L.F__law_built.okX sc__law_built (fun vs H Q E h => ?_) (fun cdv A outer s H vs Q E hr h => ?_)
  · obtain ⟨_, _, rfl, _⟩ := h; rfl
  · obtain ⟨a, ns, rfl, hS, q⟩ := h
    refine ⟨_, (pss_cons (ps_set (i := 1) sc__law_built.nd rfl (Or.inl rfl) (pe_call (E := E) (ok__law_cell_at L) (hr.mono (by decide)) (by rfl) L.g__law_cell_at L.k__law_cell_at L.b__law_cell_at .nil hx (pa_cons (pv 0) (pa_cons pe_int pa_nil))))
      (pss_cons (ps_if (pt_cmpR op_in_seq (pe_op op_mod (pv 1) pe_int) (pe_tup (pa_cons pe_int (pa_cons pe_int pa_nil))) (by rfl)) (pss_cons (ps_set (i := 2) sc__law_built.nd rfl (Or.inl rfl) (pe_lst (pa_cons pe_int (pa_cons pe_int (pa_cons pe_int (pa_cons pe_int (pa_cons pe_int (pa_cons pe_int (pa_cons pe_int (pa_cons pe_int (pa_cons pe_int (pa_cons pe_int (pa_cons pe_int (pa_cons pe_int (pa_cons pe_int (pa_cons pe_int (pa_cons pe_int (pa_cons pe_int (pa_cons pe_int (pa_cons pe_int (pa_cons pe_int (pa_cons pe_int pa_nil))))))))))))))))))))))
      (pss_one (ps_ret (pe_slice sl_list (pv 2) po_none (po_some (pe_op op_add pe_int (pe_op op_mod (pe_op op_fdiv (pv 1) pe_int) pe_int))))))) pss_nil)
      (pss_cons (ps_if (pt_cmpR op_in_seq (pe_op op_mod (pv 1) pe_int) (pe_tup (pa_cons pe_int (pa_cons pe_int pa_nil))) (by rfl)) (pss_one (ps_ret (pe_lst (pa_cons pe_int (pa_cons pe_int (pa_cons (pe_op op_add pe_int (pe_op op_mod (pe_op op_fdiv (pv 1) pe_int) pe_int)) pa_nil)))))) pss_nil)
      (pss_one (ps_ret (pe_call (E := E) (ok__law_bases L) (hr.mono (by decide)) (by rfl) L.g__law_bases L.k__law_bases L.b__law_bases .nil hx (pa_cons (pe_call (E := E) (ok__law_cell_at L) (hr.mono (by decide)) (by rfl) L.g__law_cell_at L.k__law_cell_at L.b__law_cell_at .nil hx (pa_cons (pv 0) (pa_cons pe_int pa_nil))) (pa_cons (pe_call (E := E) (ok__law_cell_at L) (hr.mono (by decide)) (by rfl) L.g__law_cell_at L.k__law_cell_at L.b__law_cell_at .nil hx (pa_cons (pv 0) (pa_cons pe_int pa_nil))) pa_nil)))))))), ?_⟩
    refine q_asg (ev_cell rfl hS) fun H1 e1 => ?_
    generalize cell ns 2 = way
    refine q_when (et_test (ev_inU (ev_op (ev_var rfl) ev_c (rv_I (show (0 : Int) < 7 by decide))) (eu_tup (ea_cons ev_c (ea_cons ev_c ea_nil)) (by show 2 ≤ 100000; decide)) rfl rfl)) (fun _ H2 e2 => ?_) (fun _ H2 e2 => ?_)
    · have z0 := Int.emod_nonneg (way / 7) (show (8 : Int) ≠ 0 by decide)
      have z1 := Int.emod_lt_of_pos (way / 7) (show (0 : Int) < 8 by decide)
      obtain ⟨k, hk⟩ : ∃ k : Nat, 13 + way / 7 % 8 = (k : Int) := ⟨(13 + way / 7 % 8).toNat, by omega⟩
      refine q_asgL (el_lst (vs := ([3, 5, 7, 11, 13, 17, 19, 23, 29, 31, 37, 41, 43, 47, 53, 59, 61, 67, 71, 73] : List Int).map V.int) (ea_cons ev_c (ea_cons ev_c (ea_cons ev_c (ea_cons ev_c (ea_cons ev_c (ea_cons ev_c (ea_cons ev_c (ea_cons ev_c (ea_cons ev_c (ea_cons ev_c (ea_cons ev_c (ea_cons ev_c (ea_cons ev_c (ea_cons ev_c (ea_cons ev_c (ea_cons ev_c (ea_cons ev_c (ea_cons ev_c (ea_cons ev_c (ea_cons ev_c ea_nil)))))))))))))))))))) (by show 20 ≤ 100000; decide)) fun sp H3 hsp e3 h3 => ?_
      have E3 := (e1.trans e2).trans e3
      have ct := cut_first [3, 5, 7, 11, 13, 17, 19, 23, 29, 31, 37, 41, 43, 47, 53, 59, 61, 67, 71, 73] (n := k) (by show k ≤ 20; omega)
      refine s_retL (xs := (([3, 5, 7, 11, 13, 17, 19, 23, 29, 31, 37, 41, 43, 47, 53, 59, 61, 67, 71, 73] : List Int).take k).map V.int) (by
        rw [← ct.1]
        exact el_slH (eh_old (ev_var rfl) h3) eo_none (eo_some (ev_is (ev_op ev_c (ev_op (ev_op (ev_var rfl) ev_c (rv_I ⟨by decide, by decide⟩)) ev_c (rv_I (show (0 : Int) < 8 by decide))) rv_I0) (by rw [hk])))) fun p H4 hp e4 h4 => ?_
      exact q _ (by rw [ct.2]; omega) (by rw [ct.2]; omega) p H4 (fresh_back E3 hp) (E3.trans e4) h4
    have E2 := e1.trans e2
    refine q_when (et_test (ev_inU (ev_op (ev_var rfl) ev_c (rv_I (show (0 : Int) < 7 by decide))) (eu_tup (ea_cons ev_c (ea_cons ev_c ea_nil)) (by show 2 ≤ 100000; decide)) rfl rfl)) (fun _ H3 e3 => ?_) (fun _ H3 e3 => ?_)
    · have E3 := E2.trans e3
      refine s_retL (xs := ([17, 19, 999995 + way / 7 % 9] : List Int).map V.int) (el_lst (ea_cons ev_c (ea_cons ev_c (ea_cons (ev_op ev_c (ev_op (ev_op (ev_var rfl) ev_c (rv_I ⟨by decide, by decide⟩)) ev_c (rv_I (show (0 : Int) < 9 by decide))) rv_I0) ea_nil))) (by show 3 ≤ 100000; decide)) fun p H4 hp e4 h4 => ?_
      exact q _ (by show 3 ≤ 3; decide) (by show 3 ≤ 20; decide) p H4 (fresh_back E3 hp) (E3.trans e4) h4
    · have E3 := E2.trans e3
      refine s_retBases (ea_cons (ev_cell rfl (ex_l E3 hS)) (ea_cons (ev_cell rfl (ex_l E3 hS)) ea_nil)) fun bs p H4 g hp e4 h4 => ?_
      exact q bs g.len3 (by have := g.len14; omega) p H4 (fresh_back E3 hp) (E3.trans e4) h4
end
end Rk
namespace Rk
open PySem PySem.Spec PyProof.Rows L2 Evl
section
variable {P : Program} {w : World} {K : PySem.W.Frag} {mg : Str → Option Value} {base : Heap}
/-! ### the list, changed -/
theorem at_prev {us : List Int} {p : Nat} (hp : p < us.length) : ∃ v, atI (us.map V.int) ((p : Int) - 1) = some (.int v) := by
  by_cases h : 1 ≤ p
  · exact ⟨_, at_mapI (k := p - 1) (by omega) (List.getElem?_eq_getElem (by omega))⟩
  · have hn : us ≠ [] := fun z => by rw [z] at hp; simp at hp
    have e : us.map V.int = us.dropLast.map V.int ++ [V.int (us.getLast hn)] := by
      conv => lhs; rw [← List.dropLast_concat_getLast hn]
      rw [List.map_append]
      rfl
    refine ⟨us.getLast hn, ?_⟩
    rw [e, show ((p : Int) - 1) = -1 by omega]
    exact atI_last _ _
theorem ints_list {xs : List Int} {j : Nat} (h : j < xs.length) : atI (xs.map V.int) (j : Int) = some (.int xs[j]) := at_map (List.getElem?_eq_getElem h)
def sp__law_changed (K : PySem.W.Frag) : Sp := fun vs H Q _ => ∃ (b a : Addr) (us ns : List Int), vs = [.ref b, .ref a] ∧ H b = some (.lst (us.map V.int)) ∧ SqL K H a (ns.map V.int) ∧ 3 ≤ us.length ∧ us.length ≤ 20 ∧ ∀ (vs : List Int) (p : Addr) H', vs.length ≤ 45 → Ex H H' → H' p = some (.lst (vs.map V.int)) → Q (.ref p) H'
theorem ok__law_changed (L : Lk K mg) : FnOk P w K mg base (L2.CX P w) 2 L.f__law_changed L.d__law_changed ["_law_bases_here", "_law_script"] (sp__law_changed K) := by
  refine L.F__law_changed.okX sc__law_changed (fun vs H Q E h => ?_) (fun cdv A outer s H vs Q E hr h => ?_)
  · obtain ⟨_, _, _, _, rfl, _⟩ := h; rfl
  · obtain ⟨b, a, us, ns, rfl, hb, hS, h3, h20, q⟩ := h
    refine ⟨_, (pss_cons (ps_set (i := 2) sc__law_changed.nd rfl (Or.inl rfl) (pe_call (E := E) (ok__law_cell_at L) (hr.mono (by decide)) (by rfl) L.g__law_cell_at L.k__law_cell_at L.b__law_cell_at .nil hx (pa_cons (pv 1) (pa_cons pe_int pa_nil))))
      (pss_cons (ps_set (i := 3) sc__law_changed.nd rfl (Or.inl rfl) (pe_op op_mod (pe_call (E := E) (ok__law_cell_at L) (hr.mono (by decide)) (by rfl) L.g__law_cell_at L.k__law_cell_at L.b__law_cell_at .nil hx (pa_cons (pv 1) (pa_cons pe_int pa_nil))) (pe_callB call_len_seq (by rfl) L.z_len PySem.boot_len (pa_cons (pv 0) pa_nil))))
      (pss_cons (ps_set (i := 4) sc__law_changed.nd rfl (Or.inl rfl) (pe_ix ix_list (pv 0) (pv 3) (fun _ _ => rfl)))
      (pss_cons (ps_set (i := 5) sc__law_changed.nd rfl (Or.inl rfl) (pe_op op_sub (pe_op op_mod (pe_call (E := E) (ok__law_cell_at L) (hr.mono (by decide)) (by rfl) L.g__law_cell_at L.k__law_cell_at L.b__law_cell_at .nil hx (pa_cons (pv 1) (pa_cons pe_int pa_nil))) pe_int) pe_int))
      (pss_cons (ps_if (pt_cmpR op_eq (pe_op op_mod (pe_call (E := E) (ok__law_cell_at L) (hr.mono (by decide)) (by rfl) L.g__law_cell_at L.k__law_cell_at L.b__law_cell_at .nil hx (pa_cons (pv 1) (pa_cons pe_int pa_nil))) pe_int) pe_int (nomark _)) (pss_one (ps_set (i := 5) sc__law_changed.nd rfl (Or.inl rfl) (pe_op op_sub (pe_op op_mod (pe_op op_mul (pe_call (E := E) (ok__law_cell_at L) (hr.mono (by decide)) (by rfl) L.g__law_cell_at L.k__law_cell_at L.b__law_cell_at .nil hx (pa_cons (pv 1) (pa_cons pe_int pa_nil))) pe_int) (pe_op op_pow pe_int pe_int)) (pe_op op_pow pe_int pe_int)))) pss_nil)
      (pss_cons (ps_set (i := 6) sc__law_changed.nd rfl (Or.inl rfl) (pe_op op_mod (pv 2) pe_int))
      (pss_cons (ps_if (pt_cmpR op_eq (pv 6) pe_int (nomark _)) (pss_one (ps_ret (pe_op op_cat (pe_slice sl_list (pv 0) po_none (po_some (pv 3))) (pe_slice sl_list (pv 0) (po_some (pe_op op_add (pv 3) pe_int)) po_none)))) pss_nil)
      (pss_cons (ps_if (pt_cmpR op_eq (pv 6) pe_int (nomark _)) (pss_one (ps_ret (pe_slice sl_list (pv 0) po_none (po_some (pe_op op_mod (pe_call (E := E) (ok__law_cell_at L) (hr.mono (by decide)) (by rfl) L.g__law_cell_at L.k__law_cell_at L.b__law_cell_at .nil hx (pa_cons (pv 1) (pa_cons pe_int pa_nil))) pe_int))))) pss_nil)
      (pss_cons (ps_if (PW.pt (pw_and (pt_cmpR op_in_seq (pv 6) (pe_tup (pa_cons pe_int (pa_cons pe_int (pa_cons pe_int pa_nil)))) (by rfl)) (pw_and1 (pt_cmpR op_gt (pv 3) pe_int (nomark _))))) (pss_one (ps_ret (pe_op op_cat (pe_op op_cat (pe_slice sl_list (pv 0) po_none (po_some (pe_op op_sub (pv 3) pe_int))) (pe_lst (pa_cons (pv 4) (pa_cons (pe_ix ix_list (pv 0) (pe_op op_sub (pv 3) pe_int) (fun _ _ => rfl)) pa_nil)))) (pe_slice sl_list (pv 0) (po_some (pe_op op_add (pv 3) pe_int)) po_none)))) pss_nil)
      (pss_cons (ps_if (pt_cmpR op_in_seq (pv 6) (pe_tup (pa_cons pe_int (pa_cons pe_int (pa_cons pe_int pa_nil)))) (by rfl)) (pss_one (ps_ret (pe_op op_cat (pe_slice sl_list (pv 0) po_none (po_some (pe_op op_sub (pe_callB call_len_seq (by rfl) L.z_len PySem.boot_len (pa_cons (pv 0) pa_nil)) pe_int))) (pe_lst (pa_cons (pe_op op_mul (pe_ix ix_list (pv 0) (pe_op op_sub (pv 3) pe_int) (fun _ _ => rfl)) (pe_ix ix_list (pe_lst (pa_cons pe_int (pa_cons pe_int (pa_cons pe_int pa_nil)))) (pe_op op_sub (pv 6) pe_int) (fun _ _ => rfl))) pa_nil))))) pss_nil)
      (pss_cons (ps_if (pt_cmpR op_gt (pv 6) pe_int (nomark _)) (pss_one (ps_ret (pv 0))) pss_nil)
      (pss_cons (ps_set (i := 7) sc__law_changed.nd rfl (Or.inl rfl) (pe_ix ix_list (pe_lst (pa_cons (pv 4) (pa_cons (pv 4) (pa_cons (pv 4) (pa_cons (pe_op op_add (pv 4) pe_int) (pa_cons (pe_op op_mul pe_int (pv 4)) (pa_cons (pe_op op_mul pe_int (pv 4)) (pa_cons (pe_ix ix_list (pv 0) (pe_op op_sub (pv 3) pe_int) (fun _ _ => rfl)) (pa_cons (pe_op op_sub (pe_op op_mod (pe_op op_fdiv (pv 2) pe_int) pe_int) pe_int) (pa_cons (pv 5) (pa_cons (pe_op op_sub (pv 4) pe_int) pa_nil))))))))))) (pv 6) (fun _ _ => rfl)))
      (pss_one (ps_ret (pe_op op_cat (pe_op op_cat (pe_slice sl_list (pv 0) po_none (po_some (pv 3))) (pe_lst (pa_cons (pv 7) pa_nil))) (pe_slice sl_list (pv 0) (po_some (pe_op op_add (pv 3) pe_int)) po_none)))))))))))))))), ?_⟩
    try dsimp only [cxOf]
    walk_at "ns"
    have hlu : (us.map V.int).length = us.length := List.length_map _
    refine q_asg (ev_cell rfl hS) fun H1 e1 => ?_
    walk_at "ns"
    have k0 := Int.emod_nonneg (cell ns 4) (show (us.length : Int) ≠ 0 by omega)
    have k1 := Int.emod_lt_of_pos (cell ns 4) (show 0 < (us.length : Int) by omega)
    obtain ⟨p, hp'⟩ : ∃ p : Nat, cell ns 4 % (us.length : Int) = (p : Int) := ⟨(cell ns 4 % (us.length : Int)).toNat, by omega⟩
    have hpl : p < us.length := by omega
    have hc : us[p]? = some us[p] := List.getElem?_eq_getElem hpl
    generalize us[p] = c at hc
    obtain ⟨pv, hpv⟩ := at_prev hpl
    refine q_asg (ev_is (ev_op (ev_cell rfl (ex_l e1 hS)) (ev_len (ev_var rfl) (sq_of (e1 _ _ hb))) (rv_I (by rw [hlu]; omega))) (by rw [hlu, hp'])) fun H2 e2 => ?_
    walk_at "ns"
    have E2 := e1.trans e2
    refine q_asg (ev_op (ev_var rfl) (ev_var rfl) (rv_ixL (sq_of (E2 _ _ hb)) (at_map hc))) fun H3 e3 => ?_
    walk_at "ns"
    have E3 := E2.trans e3
    refine q_asg (ev_op (ev_op (ev_cell rfl (ex_l E3 hS)) ev_c (rv_I (show (0 : Int) < 1100000 by decide))) ev_c rv_I0) fun H4 e4 => ?_
    walk_at "ns"
    have E4 := E3.trans e4
    have T30 : (0 : Int) < 10 ^ (30 : Int).toNat := by decide +kernel
    refine q_ifI (et_test (ev_op (ev_op (ev_cell rfl (ex_l E4 hS)) ev_c (rv_I (show (0 : Int) < 3 by decide))) ev_c (rv_eq rfl))) rfl (fun _ => ev_op (ev_op (ev_op (ev_cell rfl (ex_l E4 hS)) ev_c (rv_I (cmulR (by decide)))) (ev_op ev_c ev_c (rv_I ⟨by decide, by decide, by decide⟩)) (rv_I T30)) (ev_op ev_c ev_c (rv_I ⟨by decide, by decide, by decide⟩)) rv_I0) fun H5 e5 => ?_
    generalize (if decide (V.int (cell ns 5 % 3) = V.int 1) = true then cell ns 5 * 1000000007 % 10 ^ (30 : Int).toNat - 10 ^ (29 : Int).toNat else cell ns 5 % 1100000 - 50000) = ao
    walk_at "ns"
    have w0 := Int.emod_nonneg (cell ns 3) (show (22 : Int) ≠ 0 by decide)
    obtain ⟨k, hk⟩ : ∃ k : Nat, cell ns 3 % 22 = (k : Int) := ⟨(cell ns 3 % 22).toNat, by omega⟩
    refine q_asg (ev_is (ev_op (ev_var rfl) ev_c (rv_I (show (0 : Int) < 22 by decide))) (by rw [hk])) fun H6 e6 => ?_
    walk_at "ns"
    have E6 := (E4.trans e5).trans e6
    have fin : ∀ {H7 : Hp} {te : TE} {σ : L2.St} {xs : List V}, Ex H H7 → EvL te σ H7 xs → (∃ vs : List Int, xs = vs.map V.int ∧ vs.length ≤ 45) → tRet te { nx := fun _ H' => Q V.non H', rt := Q } σ H7 := fun {H7 te σ xs} e h ⟨vs, e1, e2⟩ => by
      subst e1
      exact s_retL h fun pp H8 hpp e8 h8 => q vs pp H8 e2 (e.trans e8) h8
    have len1 : ∀ lo hi, (cutV (us.map V.int) lo hi).length ≤ 20 := fun lo hi => by
      have := cutV_length (us.map V.int) lo hi
      rw [hlu] at this
      omega
    have two : ∀ lo hi lo' hi', ∃ vs : List Int, cutV (us.map V.int) lo hi ++ cutV (us.map V.int) lo' hi' = vs.map V.int ∧ vs.length ≤ 45 := fun lo hi lo' hi' => by
      obtain ⟨v1, h1, l1⟩ := cut_int us lo hi
      obtain ⟨v2, h2, l2⟩ := cut_int us lo' hi'
      exact ⟨v1 ++ v2, by rw [h1, h2, List.map_append], by rw [List.length_append]; omega⟩
    have thr : ∀ lo hi (ms : List Int) lo' hi', ms.length ≤ 2 → ∃ vs : List Int, cutV (us.map V.int) lo hi ++ ms.map V.int ++ cutV (us.map V.int) lo' hi' = vs.map V.int ∧ vs.length ≤ 45 := fun lo hi ms lo' hi' hm => by
      obtain ⟨v1, h1, l1⟩ := cut_int us lo hi
      obtain ⟨v2, h2, l2⟩ := cut_int us lo' hi'
      exact ⟨v1 ++ ms ++ v2, by rw [h1, h2, List.map_append, List.map_append], by rw [List.length_append, List.length_append]; omega⟩
    -- one left out
    refine q_when (et_test (ev_op (ev_var rfl) ev_c (rv_eq rfl))) (fun _ H7 e7 => ?_) (fun _ H7 e7 => ?_)
    · have E7 := E6.trans e7
      exact fin E7 (el_cat (eh_new (el_slH (eh_old (ev_var rfl) (E7 _ _ hb)) eo_none (eo_some (ev_var rfl)))) (eh_new (el_slH (eh_old (ev_var rfl) (E7 _ _ hb)) (eo_some (ev_op (ev_var rfl) ev_c rv_I0)) eo_none)) (by have := len1 none (some (p : Int)); have := len1 (some ((p : Int) + 1)) none; omega)) (two _ _ _ _)
    have E7 := E6.trans e7
    refine q_when (et_test (ev_op (ev_var rfl) ev_c (rv_eq rfl))) (fun _ H8 e8 => ?_) (fun _ H8 e8 => ?_)
    · have E8 := E7.trans e8
      obtain ⟨vs, h1, l1⟩ := cut_int us none (some (cell ns 4 % 3))
      exact fin E8 (el_slH (eh_old (ev_var rfl) (E8 _ _ hb)) eo_none (eo_some (ev_op (ev_cell rfl (ex_l E8 hS)) ev_c (rv_I (show (0 : Int) < 3 by decide))))) ⟨vs, h1, by omega⟩
    have E8 := E7.trans e8
    refine q_when (et_and (et_test (ev_inU (ev_var rfl) (eu_tup (ea_cons ev_c (ea_cons ev_c (ea_cons ev_c ea_nil))) (by show 3 ≤ 100000; decide)) rfl rfl)) (fun _ => et_test (ev_op (ev_var rfl) ev_c rv_I0))) (fun _ H9 e9 => ?_) (fun _ H9 e9 => ?_)
    · have E9 := E8.trans e9
      exact fin E9 (el_cat (eh_new (el_cat (eh_new (el_slH (eh_old (ev_var rfl) (E9 _ _ hb)) eo_none (eo_some (ev_op (ev_var rfl) ev_c rv_I0)))) (eh_new (el_lst (vs := ([c, pv] : List Int).map V.int) (ea_cons (ev_var rfl) (ea_cons (ev_op (ev_var rfl) (ev_op (ev_var rfl) ev_c rv_I0) (rv_ixL (sq_of (E9 _ _ hb)) hpv)) ea_nil)) (by show 2 ≤ 100000; decide))) (by have := len1 none (some ((p : Int) - 1)); show _ + 2 ≤ _; omega)))
        (eh_new (el_slH (eh_old (ev_var rfl) (E9 _ _ hb)) (eo_some (ev_op (ev_var rfl) ev_c rv_I0)) eo_none)) (by have := len1 none (some ((p : Int) - 1)); have := len1 (some ((p : Int) + 1)) none; rw [List.length_append]; show _ + 2 + _ ≤ _; omega)) (thr _ _ [c, pv] _ _ (by show 2 ≤ 2; decide))
    have E9 := E8.trans e9
    refine q_when (et_test (ev_inU (ev_var rfl) (eu_tup (ea_cons ev_c (ea_cons ev_c (ea_cons ev_c ea_nil))) (by show 3 ≤ 100000; decide)) rfl rfl)) (fun hc3 H10 e10 => ?_) (fun _ H10 e10 => ?_)
    · have E10 := E9.trans e10
      have hk3 : k = 12 ∨ k = 13 ∨ k = 14 := by
        simp [inV, eqV] at hc3
        omega
      have ht : ∃ tm : Int, atI (([3, 5, 7] : List Int).map V.int) ((k : Int) - 12) = some (.int tm) ∧ -(2 ^ 64) < tm ∧ tm < 2 ^ 64 := by
        rcases hk3 with e | e | e <;> subst e
        · exact ⟨3, at_mapI (k := 0) rfl rfl, by decide, by decide⟩
        · exact ⟨5, at_mapI (k := 1) rfl rfl, by decide, by decide⟩
        · exact ⟨7, at_mapI (k := 2) rfl rfl, by decide, by decide⟩
      obtain ⟨tm, hix, hsm⟩ := ht
      obtain ⟨v1, h1, l1⟩ := cut_int us none (some ((us.length : Int) - 1))
      exact fin E10 (el_cat (eh_new (el_slH (eh_old (ev_var rfl) (E10 _ _ hb)) eo_none (eo_some (ev_op (ev_is (ev_len (ev_var rfl) (sq_of (E10 _ _ hb))) (by rw [hlu])) ev_c rv_I0)))) (eh_new (el_lst (vs := ([pv * tm] : List Int).map V.int) (ea_cons (ev_op (ev_op (ev_var rfl) (ev_op (ev_var rfl) ev_c rv_I0) (rv_ixL (sq_of (E10 _ _ hb)) hpv)) (ev_ixH (eh_new (el_lst (vs := ([3, 5, 7] : List Int).map V.int) (ea_cons ev_c (ea_cons ev_c (ea_cons ev_c ea_nil))) (by show 3 ≤ 100000; decide))) (ev_op (ev_var rfl) ev_c rv_I0) hix) (rv_I (cmulR hsm))) ea_nil) (by show 1 ≤ 100000; decide))) (by have := len1 none (some ((us.length : Int) - 1)); show _ + 1 ≤ _; omega))
        ⟨v1 ++ [pv * tm], by rw [h1, List.map_append], by rw [List.length_append]; show _ + 1 ≤ _; omega⟩
    have E10 := E9.trans e10
    refine q_when (et_test (ev_op (ev_var rfl) ev_c rv_I0)) (fun _ H11 e11 => ?_) (fun h9 H11 e11 => ?_)
    · have E11 := E10.trans e11
      exact s_ret (ev_var rfl) fun H12 e12 => q us b H12 (by omega) (E11.trans e12) ((E11.trans e12) _ _ hb)
    have E11 := E10.trans e11
    have k9 : k < 10 := by have := of_decide_eq_false h9; omega
    have hix : ∃ nw, atI (([c, c, c, c + 1, 2 * c, 3 * c, pv, cell ns 3 / 22 % 7 - 3, ao, c - 2] : List Int).map V.int) (k : Int) = some (.int nw) := ⟨_, ints_list (by show k < 10; exact k9)⟩
    obtain ⟨nw, hix⟩ := hix
    refine q_asg (ev_ixH (eh_new (el_lst (vs := ([c, c, c, c + 1, 2 * c, 3 * c, pv, cell ns 3 / 22 % 7 - 3, ao, c - 2] : List Int).map V.int) (ea_cons (ev_var rfl) (ea_cons (ev_var rfl) (ea_cons (ev_var rfl) (ea_cons (ev_op (ev_var rfl) ev_c rv_I0) (ea_cons (ev_op ev_c (ev_var rfl) (rv_I (cmulL (by decide)))) (ea_cons (ev_op ev_c (ev_var rfl) (rv_I (cmulL (by decide)))) (ea_cons (ev_op (ev_var rfl) (ev_op (ev_var rfl) ev_c rv_I0) (rv_ixL (sq_of (E11 _ _ hb)) hpv)) (ea_cons (ev_op (ev_op (ev_op (ev_var rfl) ev_c (rv_I ⟨by decide, by decide⟩)) ev_c (rv_I (show (0 : Int) < 7 by decide))) ev_c rv_I0) (ea_cons (ev_var rfl) (ea_cons (ev_op (ev_var rfl) ev_c rv_I0) ea_nil)))))))))) (by show 10 ≤ 100000; decide))) (ev_var rfl) hix) fun H12 e12 => ?_
    walk_at "ns"
    have E12 := E11.trans e12
    exact fin E12 (el_cat (eh_new (el_cat (eh_new (el_slH (eh_old (ev_var rfl) (E12 _ _ hb)) eo_none (eo_some (ev_var rfl)))) (eh_new (el_lst (vs := ([nw] : List Int).map V.int) (ea_cons (ev_var rfl) ea_nil) (by show 1 ≤ 100000; decide))) (by have := len1 none (some (p : Int)); show _ + 1 ≤ _; omega)))
      (eh_new (el_slH (eh_old (ev_var rfl) (E12 _ _ hb)) (eo_some (ev_op (ev_var rfl) ev_c rv_I0)) eo_none)) (by have := len1 none (some (p : Int)); have := len1 (some ((p : Int) + 1)) none; rw [List.length_append]; show _ + 1 + _ ≤ _; omega)) (thr _ _ [nw] _ _ (by show 1 ≤ 2; decide))
end
end Rk
namespace Rk
open PySem PySem.Spec PyProof.Rows L2 Evl
section
variable {P : Program} {w : World} {K : PySem.W.Frag} {mg : Str → Option Value} {base : Heap}
/-! ### the law's own divisor -/
def sp__law_common : Sp := fun vs H Q _ => ∃ one other : Int, vs = [.int one, .int other] ∧ 0 ≤ one ∧ 0 ≤ other ∧ ∀ H', Ex H H' → Q (.int (Int.gcd one other)) H'
theorem ok__law_common (L : Lk K mg) : FnOk P w K mg base (L2.CX P w) 1 L.f__law_common L.d__law_common ["_law_one", "_law_other"] sp__law_common := by
  refine L.F__law_common.okX sc__law_common (fun vs H Q E h => ?_) (fun cdv A outer s H vs Q E hr h => ?_)
  · obtain ⟨_, _, rfl, _⟩ := h; rfl
  · obtain ⟨one, other, rfl, h1, h2, q⟩ := h
    refine ⟨_, (pss_cons (ps_while (passes_of rfl) (PW.pt (pw_and (pt_cmpR op_gt (pv 0) pe_int (nomark _)) (pw_and1 (pt_cmpR op_gt (pv 1) pe_int (nomark _))))) (pss_one (ps_if (pt_cmpR op_gt (pv 0) (pv 1) (nomark _)) (pss_one (ps_set (i := 0) sc__law_common.nd rfl (Or.inl rfl) (pe_op op_mod (pv 0) (pv 1)))) (pss_one (ps_set (i := 1) sc__law_common.nd rfl (Or.inl rfl) (pe_op op_mod (pv 1) (pv 0)))))))
      (pss_one (ps_ret (pe_op op_add (pv 0) (pv 1))))), ?_⟩
    refine q_while (fun m σ' H' => ∃ (a b : Int), σ' = [some (.int a), some (.int b)] ∧ 0 ≤ a ∧ 0 ≤ b ∧ (a + b).toNat = m ∧ Int.gcd a b = Int.gcd one other ∧ Ex H H') (one + other).toNat ⟨one, other, rfl, h1, h2, rfl, rfl, Ex.refl H⟩ ?_
    rintro m σ' H' ⟨a, b, rfl, a0, b0, hm, hg, e⟩
    refine ⟨_, et_and (et_test (ev_op (ev_var rfl) ev_c rv_I0)) (fun _ => et_test (ev_op (ev_var rfl) ev_c rv_I0)), fun hb H1 e1 => ?_, fun hb H1 e1 => ?_⟩
    · rw [Bool.and_eq_true, decide_eq_true_eq, decide_eq_true_eq] at hb
      obtain ⟨ha', hb'⟩ := hb
      refine ⟨fun σ' H' => ∃ a' b', σ' = [some (.int a'), some (.int b')] ∧ 0 ≤ a' ∧ 0 ≤ b' ∧ a' + b' < a + b ∧ Int.gcd a' b' = Int.gcd a b ∧ Ex H H', ?_, ?_⟩
      · rintro σ2 H2 ⟨a', b', rfl, x0, y0, l, g, e2⟩
        exact ⟨_, by omega, a', b', rfl, x0, y0, rfl, g.trans hg, e2⟩
      · refine s_if (et_test (ev_op (ev_var rfl) (ev_var rfl) rv_I0)) (fun hc H2 e2 => ?_) (fun hc H2 e2 => ?_)
        · have hc' : b < a := of_decide_eq_true hc
          refine s_asg (ev_op (ev_var rfl) (ev_var rfl) (rv_I hb')) fun H3 e3 => ?_
          have l1 := Int.emod_nonneg a (show b ≠ 0 by omega)
          have l2 := Int.emod_lt_of_pos a hb'
          exact ⟨_, _, rfl, l1, b0, by omega, by rw [Int.gcd_comm, ← Rw.gcd_emod], ((e.trans e1).trans e2).trans e3⟩
        · have hc' : ¬ b < a := of_decide_eq_false hc
          refine s_asg (ev_op (ev_var rfl) (ev_var rfl) (rv_I ha')) fun H3 e3 => ?_
          have l1 := Int.emod_nonneg b (show a ≠ 0 by omega)
          have l2 := Int.emod_lt_of_pos b ha'
          exact ⟨_, _, rfl, a0, l1, by omega, by rw [← Rw.gcd_emod, Int.gcd_comm], ((e.trans e1).trans e2).trans e3⟩
    · rw [Bool.and_eq_false_iff, decide_eq_false_iff_not, decide_eq_false_iff_not] at hb
      refine s_ret (ev_op (ev_var rfl) (ev_var rfl) rv_I0) fun H2 e2 => ?_
      have hz : (Int.gcd one other : Int) = a + b := by
        rw [← hg]
        rcases hb with hb | hb
        · have : a = 0 := by omega
          subst this
          rw [Int.gcd_comm, Rw.gcd_zero b b0]
          omega
        · have : b = 0 := by omega
          subst this
          rw [Rw.gcd_zero a a0]
          omega
      rw [← hz]
      exact q H2 ((e.trans e1).trans e2)
theorem sv__law_common {H : Hp} {a b : Int} (h1 : 0 ≤ a) (h2 : 0 ≤ b) : SpV sp__law_common [.int a, .int b] H (.int (Int.gcd a b)) := fun H1 e Q q _ => ⟨a, b, rfl, h1, h2, q⟩
end
end Rk
namespace Rk
open PySem PySem.Spec PyProof.Rows L2 Evl
section
variable {P : Program} {w : World} {K : PySem.W.Frag} {mg : Str → Option Value} {base : Heap}
/-! ### whether a list is one of bases -/
def sp__law_good (K : PySem.W.Frag) : Sp := fun vs H Q _ => ∃ (a : Addr) (bs : List Int), vs = [.ref a] ∧ SqL K H a (bs.map V.int) ∧ (Rw.Good bs → ∀ H', Ex H H' → Q (.bl true) H') ∧ (¬ Rw.Good bs → ∀ H', Ex H H' → Q (.bl false) H')
theorem ok__law_good (L : Lk K mg) : FnOk P w K mg base (L2.CX P w) 2 L.f__law_good L.d__law_good ["_law_bases_here"] (sp__law_good K) := by
  refine L.F__law_good.okX sc__law_good (fun vs H Q E h => ?_) (fun cdv A outer s H vs Q E hr h => ?_)
  · obtain ⟨_, _, rfl, _⟩ := h; rfl
  · obtain ⟨a, bs, rfl, hS, q, kE⟩ := h
    refine ⟨_, (pss_cons (ps_if (PW.pt (pw_or (pt_cmpR op_lt (pe_callB call_len_seq (by rfl) L.z_len PySem.boot_len (pa_cons (pv 0) pa_nil)) pe_int (nomark _)) (pw_or1 (pt_cmpR op_gt (pe_callB call_len_seq (by rfl) L.z_len PySem.boot_len (pa_cons (pv 0) pa_nil)) pe_int (nomark _))))) (pss_one (ps_ret pe_bl)) pss_nil)
      (pss_cons (ps_for (passes_of rfl) rfl (pi_range1 (by rfl) L.z_range (pa_cons (pe_callB call_len_seq (by rfl) L.z_len PySem.boot_len (pa_cons (pv 0) pa_nil)) pa_nil)) (pg_name (i := 1) sc__law_good.nd rfl (Or.inl rfl)) (pss_cons (ps_if (PW.pt (pw_or (pt_cmpR op_lt (pe_ix ix_list (pv 0) (pv 1) (fun _ _ => rfl)) pe_int (nomark _)) (pw_or (pt_cmpR op_gt (pe_ix ix_list (pv 0) (pv 1) (fun _ _ => rfl)) pe_int (nomark _)) (pw_or1 (pt_cmpR op_eq (pe_op op_mod (pe_ix ix_list (pv 0) (pv 1) (fun _ _ => rfl)) pe_int) pe_int (nomark _)))))) (pss_one (ps_ret pe_bl)) pss_nil)
      (pss_one (ps_for (passes_of rfl) rfl (pi_range1 (by rfl) L.z_range (pa_cons (pv 1) pa_nil)) (pg_name (i := 2) sc__law_good.nd rfl (Or.inl rfl)) (pss_one (ps_if (PW.pt (pw_or (pt_cmpR op_ge (pe_ix ix_list (pv 0) (pv 2) (fun _ _ => rfl)) (pe_ix ix_list (pv 0) (pv 1) (fun _ _ => rfl)) (nomark _)) (pw_or1 (pt_cmpR op_gt (pe_call (E := E) (ok__law_common L) (hr.mono (by decide)) (by rfl) L.g__law_common L.k__law_common L.b__law_common .nil hx (pa_cons (pe_ix ix_list (pv 0) (pv 2) (fun _ _ => rfl)) (pa_cons (pe_ix ix_list (pv 0) (pv 1) (fun _ _ => rfl)) pa_nil))) pe_int (nomark _))))) (pss_one (ps_ret pe_bl)) pss_nil))))))
      (pss_one (ps_ret pe_bl)))), ?_⟩
    have hlm : (bs.map V.int).length = bs.length := List.length_map _
    refine q_when (et_or (et_test (ev_op (ev_len (ev_var rfl) hS) ev_c rv_I0)) (fun _ => et_test (ev_op (ev_len (ev_var rfl) hS) ev_c rv_I0))) (fun hb H1 e1 => ?_) (fun hb H1 e1 => ?_)
    · rw [hlm, Bool.or_eq_true, decide_eq_true_eq, decide_eq_true_eq] at hb
      exact s_ret ev_c fun H2 e2 => kE (fun g => by have := g.len3; have := g.len14; omega) H2 (e1.trans e2)
    rw [hlm, Bool.or_eq_false_iff, decide_eq_false_iff_not, decide_eq_false_iff_not] at hb
    refine q_forR1 (n := (bs.length : Int)) (ea_cons (ev_is (ev_len (ev_var rfl) (ex_l e1 hS)) (by rw [hlm])) ea_nil) (by omega)
      (fun i σ' H' => ∃ v1 v2, σ' = [some (.ref a), v1, v2] ∧ Ex H H' ∧ (∀ (k : Nat) (b : Int), k < i → bs[k]? = some b → 3 ≤ b ∧ b ≤ 999999 ∧ b % 2 = 1) ∧ ∀ (j k : Nat) (x y : Int), j < k → k < i → bs[j]? = some x → bs[k]? = some y → x < y ∧ Rw.Cop x y)
      (fun H2 e2 => ⟨none, none, rfl, e1.trans e2, fun k b h => absurd h (Nat.not_lt_zero k), fun j k x y _ h => absurd h (Nat.not_lt_zero k)⟩) ?_ ?_
    · rintro i σ' H2 hi ⟨v1, v2, rfl, e2, inv, i2⟩
      have hil : i < bs.length := by omega
      have hB : bs[i]? = some bs[i] := List.getElem?_eq_getElem hil
      generalize bs[i] = y at hB
      refine q_when (et_or (et_test (ev_op (ev_op (ev_var rfl) (ev_var rfl) (rv_ixL (ex_l e2 hS) (at_map hB))) ev_c rv_I0)) (fun _ => et_or (et_test (ev_op (ev_op (ev_var rfl) (ev_var rfl) (rv_ixL (ex_l e2 hS) (at_map hB))) ev_c rv_I0)) (fun _ => et_test (ev_op (ev_op (ev_op (ev_var rfl) (ev_var rfl) (rv_ixL (ex_l e2 hS) (at_map hB))) ev_c (rv_I (show (0 : Int) < 2 by decide))) ev_c (rv_eq rfl))))) (fun hc H3 e3 => ?_) (fun hc H3 e3 => ?_)
      · rw [Bool.or_eq_true, Bool.or_eq_true, decide_eq_true_eq, decide_eq_true_eq, decide_eq_true_eq] at hc
        refine s_ret ev_c fun H4 e4 => kE (fun g => ?_) H4 ((e2.trans e3).trans e4)
        obtain ⟨g1, g2, g3⟩ := g.get3 hB
        rcases hc with hc | hc | hc
        · omega
        · omega
        · have := V.int.inj hc
          omega
      rw [Bool.or_eq_false_iff, Bool.or_eq_false_iff, decide_eq_false_iff_not, decide_eq_false_iff_not, decide_eq_false_iff_not] at hc
      have h2 : ¬ y % 2 = 0 := fun z => hc.2.2 (by rw [z])
      have y3 : 3 ≤ y ∧ y ≤ 999999 ∧ y % 2 = 1 := by omega
      have E3 := e2.trans e3
      refine s_forR1 (n := (i : Int)) (ea_cons (ev_var rfl) ea_nil) (by omega)
        (fun j σ' H' => ∃ v2, σ' = [some (.ref a), some (.int (i : Int)), v2] ∧ Ex H H' ∧ ∀ (jj : Nat) (x : Int), jj < j → bs[jj]? = some x → x < y ∧ Rw.Cop x y) (fun H4 e4 => ⟨_, rfl, E3.trans e4, fun jj x h => absurd h (Nat.not_lt_zero jj)⟩) ?_ ?_
      · rintro j σ' H4 hj ⟨v2, rfl, e4, i3⟩
        have hjl : j < i := by omega
        have hA : bs[j]? = some (bs[j]'(by omega)) := List.getElem?_eq_getElem (by omega)
        generalize bs[j]'(by omega) = x at hA
        have x3 := inv j x hjl hA
        refine s_when (et_or (et_test (ev_op (ev_op (ev_var rfl) (ev_var rfl) (rv_ixL (ex_l e4 hS) (at_map hA))) (ev_op (ev_var rfl) (ev_var rfl) (rv_ixL (ex_l e4 hS) (at_map hB))) rv_I0)) (fun _ => et_test (ev_op (ev_call0 (ea_cons (ev_op (ev_var rfl) (ev_var rfl) (rv_ixL (ex_l e4 hS) (at_map hA))) (ea_cons (ev_op (ev_var rfl) (ev_var rfl) (rv_ixL (ex_l e4 hS) (at_map hB))) ea_nil)) (sv__law_common (by omega) (by omega))) ev_c rv_I0))) (fun hd H5 e5 => ?_) (fun hd H5 e5 => ?_)
        · rw [Bool.or_eq_true, decide_eq_true_eq, decide_eq_true_eq] at hd
          refine s_ret ev_c fun H6 e6 => kE (fun g => ?_) H6 ((e4.trans e5).trans e6)
          rcases hd with hd | hd
          · have := List.pairwise_iff_getElem.mp g.rise j i (by omega) hil hjl
            have e1 := (List.getElem?_eq_some_iff.mp hA).2
            have e2 := (List.getElem?_eq_some_iff.mp hB).2
            omega
          · have := g.cop2 hjl hA hB
            rw [show Int.gcd x y = 1 from this] at hd
            exact absurd hd (by decide)
        · rw [Bool.or_eq_false_iff, decide_eq_false_iff_not, decide_eq_false_iff_not] at hd
          refine ⟨_, rfl, e4.trans e5, fun jj z hjj hz => ?_⟩
          by_cases e7 : jj = j
          · subst e7
            rw [hA] at hz
            have := Option.some.inj hz
            subst this
            refine ⟨by omega, ?_⟩
            have g0 : Int.gcd x y ≠ 0 := fun z => by have := (Int.gcd_eq_zero_iff.mp z).1; omega
            show Int.gcd x y = 1
            omega
          · exact i3 jj z (by omega) hz
      · rintro σ' H4 ⟨v2, rfl, e4, i3⟩
        rw [Int.toNat_natCast] at i3
        refine ⟨_, _, rfl, e4, fun k b hk hb' => ?_, fun j k u v hjk hk hu hv => ?_⟩
        · by_cases e7 : k = i
          · subst e7
            rw [hB] at hb'
            have := Option.some.inj hb'
            subst this
            exact y3
          · exact inv k b (by omega) hb'
        · by_cases e7 : k = i
          · subst e7
            rw [hB] at hv
            have := Option.some.inj hv
            subst this
            exact i3 j u hjk hu
          · exact i2 j k u v hjk (by omega) hu hv
    · rintro σ' H2 ⟨v1, v2, rfl, e2, inv, i2⟩
      rw [Int.toNat_natCast] at inv i2
      have lt : ∀ {k : Nat} {b : Int}, bs[k]? = some b → k < bs.length := fun h => (List.getElem?_eq_some_iff.mp h).1
      exact s_ret ev_c fun H3 e3 => q (Rw.good_of (by omega) (by omega) (fun k b hk => inv k b (lt hk) hk) (fun k x y hx hy => (i2 k (k + 1) x y (Nat.lt_succ_self k) (lt hy) hx hy).1) (fun j k x y hjk hx hy => (i2 j k x y hjk (lt hy) hx hy).2)) H3 (e2.trans e3)
end
end Rk
namespace Rk
open PySem PySem.Spec PyProof.Rows L2 Evl
section
variable {P : Program} {w : World} {K : PySem.W.Frag} {mg : Str → Option Value} {base : Heap}
/-! ### refused -/
theorem dv_makeS {C cN a : Addr} {σ : L2.St} {H : Hp} {E : L2.St → XK} {tA : TA} {bs : List Int} (hA : EvA tA σ H [.ref a]) (hS : SqL K H a (bs.map V.int)) (g : ¬ Rw.Good bs) (k : ∀ H', Ex H H' → E σ (.ref cN) none H') : Dv (tMakeS C (sp___init__ K C cN) E tA) σ H := fun H1 e Q =>
  hA H1 e _ fun H2 e2 => fun x dx nx ndx ne => ⟨H2, x, dx, a, bs, rfl, (Ex.new ndx).mut nx, nx, upd_same, ex_l (e.trans e2) hS, fun y => absurd y g, fun _ H' e' => k H' ((e.trans e2).trans e')⟩
theorem eg_makeS {C cN a : Addr} {σ : L2.St} {H : Hp} {E : L2.St → XK} {tA : TA} {bs : List Int} (hA : EvA tA σ H [.ref a]) (hS : SqL K H a (bs.map V.int)) (g : Rw.Good bs) : EvG (tMakeS C (sp___init__ K C cN) E tA) σ H (NewBoard C bs) := fun H1 e Q q =>
  hA H1 e _ fun H2 e2 => fun x dx nx ndx ne => ⟨H2, x, dx, a, bs, rfl, (Ex.new ndx).mut nx, nx, upd_same, ex_l (e.trans e2) hS, fun _ H3 l t e3 hl ht hB => ⟨rfl, q _ H3 (e2.trans e3) ⟨x, dx, l, t, rfl, fresh_back e2 nx, fresh_back e2 hl, fresh_back e2 ht, hB⟩⟩, fun n => absurd g n⟩
def sp__law_refused_by_any (K : PySem.W.Frag) : Sp := fun vs H Q _ => ∃ (a : Addr) (bs : List Int), vs = [.ref a] ∧ SqL K H a (bs.map V.int) ∧ ¬ Rw.Good bs ∧ ∀ H', Ex H H' → Q (.bl true) H'
theorem ok__law_refused_by_any (L : Lk K mg) : FnOk P w K mg base (L2.CX P w) 5 L.f__law_refused_by_any L.d__law_refused_by_any ["_law_bases_here"] (sp__law_refused_by_any K) := by
  refine L.F__law_refused_by_any.okX sc__law_refused_by_any (fun vs H Q E h => ?_) (fun cdv A outer s H vs Q E hr h => ?_)
  · obtain ⟨_, _, rfl, _⟩ := h; rfl
  · obtain ⟨a, bs, rfl, hS, g, q⟩ := h
    refine ⟨_, (pss_cons (ps_try_as (i := 1) rfl rfl sc__law_refused_by_any.nd rfl rfl ⟨by rfl, by decide, Or.inl L.g_RestError⟩ hk (fun W pn xe tk po => (pss_one (ps_expr (pe_makeS L.mkC (ok___init__ L) (hr.mono (by decide)) (by rfl) L.gC L.b___init__ (fun σ => passAt tk σ) (pa_cons (pv 0) pa_nil))))) (fun a oe cls d pn hz hf => (pss_one (ps_ret (pe_callB (call_isE' hz hf) (by rfl) L.z_isinstance (by decide +kernel) (pa_cons (pv 1) (pa_cons (pe_bltn (v := .ty "ValueError") (by rfl) L.z_ValueError (by decide +kernel) rfl) pa_nil)))))))
      (pss_one (ps_ret pe_bl))), ?_⟩
    refine s_dv (dv_makeS (ea_cons (ev_var rfl) ea_nil) hS g fun H2 e2 => ?_)
    refine ⟨true, exm_yes L.s_RestError L.h_RestError L.t_RestError L.u_NoBases_RestError, fun _ x hx => ?_, fun z => nomatch z⟩
    refine s_ret (ev_cb (ea_cons (ev_var rfl) (ea_cons ev_c ea_nil)) (rc_isX L.i_NoBases (rel_ty _) L.v_NoBases)) fun H3 e3 => ?_
    exact q H3 (e2.trans e3)
end
end Rk
namespace Rk
open PySem PySem.Spec PyProof.Rows L2 Evl
section
variable {P : Program} {w : World} {K : PySem.W.Frag} {mg : Str → Option Value} {base : Heap}
/-! ### the law -/
def sp_law (K : PySem.W.Frag) : Sp := fun vs H Q _ => ∃ (a : Addr) (ns : List Int), vs = [.ref a] ∧ SqL K H a (ns.map V.int) ∧ ns.length ≤ 63 ∧ ∀ H', Q (.bl true) H'
theorem q_start {σ : L2.St} {H : Hp} {E : XK} {D : Ends} {tz : TS} {ta tb : TE} {i : Nat} {a : Addr} {ns : List Int} (h : Ev ta σ H (.ref a)) (hb : Ev tb σ H (.ref a)) (hS : SqL K H a (ns.map V.int)) (k : ∀ (us : List Int) p H1, us.length ≤ 45 → Ex H H1 → H1 p = some (.lst (us.map V.int)) → tz D (σ.set i (some (.ref p))) H1) :
    tSeq (tAsg (tCall (sp__law_changed K) [] E (tCons (tCall (sp__law_built K) [] E (tCons ta tNil)) (tCons tb tNil))) (gName i)) tz D σ H := by
  show ta σ H _
  refine h H (Ex.refl H) _ fun H1 e1 => ?_
  show sp__law_built K [.ref a] H1 _ E
  refine ⟨a, ns, rfl, ex_l e1 hS, fun us h3 h20 p H2 hp e2 h2 => ?_⟩
  show tb σ H2 _
  refine hb H2 (e1.trans e2) _ fun H3 e3 => ?_
  show sp__law_changed K [.ref p, .ref a] H3 (fun x H1 => tz D (σ.set i (some x)) H1) E
  exact ⟨p, a, us, ns, rfl, e3 _ _ h2, ex_l ((e1.trans e2).trans e3) hS, h3, h20, fun vs q H4 hl e4 h4 => k vs q H4 hl (((e1.trans e2).trans e3).trans e4) h4⟩
theorem s_asgSorted {σ : L2.St} {H : Hp} {D : Ends} {ta : TE} {i : Nat} {a : Addr} {ns : List Int} (h : Ev ta σ H (.ref a)) (hx : SqL K H a (ns.map V.int)) (hl : ns.length < 64) (k : ∀ (ns' : List Int) p H1, ns'.Perm ns → H p = none → Ex H H1 → H1 p = some (.lst (ns'.map V.int)) → D.nx (σ.set i (some (.ref p))) H1) :
    tAsg (tCB (rSorted K) (tCons ta tNil)) (gName i) D σ H := h H (Ex.refl H) _ fun H1 e1 => ⟨a, ns, rfl, ex_l e1 hx, hl, fun ns' p hp hs hn => k ns' p _ hp (fresh_back e1 hn) (e1.trans (Ex.new hn)) upd_same⟩
theorem ok_law (L : Lk K mg) : FnOk P w K mg base (L2.CX P w) 6 L.f_law L.d_law ["_law_script"] (sp_law K) := by
  refine L.F_law.okX sc_law (fun vs H Q E h => ?_) (fun cdv A outer s H vs Q E hr h => ?_)
  · obtain ⟨_, _, rfl, _⟩ := h; rfl
  · obtain ⟨a, ns, rfl, hS, hlen, q⟩ := h
    refine ⟨_, (pss_cons (ps_set (i := 1) sc_law.nd rfl (Or.inl rfl) (pe_call (E := E) (ok__law_changed L) (hr.mono (by decide)) (by rfl) L.g__law_changed L.k__law_changed L.b__law_changed .nil hx (pa_cons (pe_call (E := E) (ok__law_built L) (hr.mono (by decide)) (by rfl) L.g__law_built L.k__law_built L.b__law_built .nil hx (pa_cons (pv 0) pa_nil)) (pa_cons (pv 0) pa_nil))))
      (pss_cut (ps_if (pt_cmpR op_eq (pe_op op_mod (pe_call (E := E) (ok__law_cell_at L) (hr.mono (by decide)) (by rfl) L.g__law_cell_at L.k__law_cell_at L.b__law_cell_at .nil hx (pa_cons (pv 0) (pa_cons pe_int pa_nil))) pe_int) pe_int (nomark _)) (pss_one (ps_set (i := 1) sc_law.nd rfl (Or.inl rfl) (pe_callB cr_sorted (by rfl) L.z_sorted (by decide +kernel) (pa_cons (pv 1) pa_nil)))) pss_nil)
      (pss_cons (ps_set (i := 2) sc_law.nd rfl (Or.inl rfl) (pe_callTy call_list_of (by rfl) L.z_list (by decide +kernel) (pa_cons (pv 1) pa_nil)))
      (pss_cons (ps_set (i := 3) sc_law.nd rfl (Or.inl rfl) pe_bl)
      (pss_cons (ps_try_only rfl rfl ⟨by rfl, by decide, Or.inl L.g_NoBases⟩ hk (fun W pn xe tk po => (pss_cons (ps_set (i := 4) sc_law.nd rfl (Or.inl rfl) (pe_makeS L.mkC (ok___init__ L) (hr.mono (by decide)) (by rfl) L.gC L.b___init__ (fun σ => passAt tk σ) (pa_cons (pv 2) pa_nil)))
      (pss_one (ps_if (pt_cmpR (op_neDK (K := K) hr.units) (pe_fldK (K := K) (pv 4) (by rfl)) (pv 1) (nomark _)) (pss_one (ps_ret pe_bl)) pss_nil)))) (fun a oe cls d pn hz hf => (pss_one (ps_set (i := 3) sc_law.nd rfl (Or.inl rfl) pe_bl))))
      (pss_cons (ps_if (pt_cmpR (op_neD hr.units) (pv 2) (pv 1) (nomark _)) (pss_one (ps_ret pe_bl)) pss_nil)
      (pss_cons (ps_if (pt_val (pe_call (E := E) (ok__law_good L) (hr.mono (by decide)) (by rfl) L.g__law_good L.k__law_good L.b__law_good .nil hx (pa_cons (pv 1) pa_nil))) (pss_one (ps_ret (pe_not (pv 3)))) pss_nil)
      (pss_one (ps_ret (pe_and (pv 3) (pe_one (pe_call (E := E) (ok__law_refused_by_any L) (hr.mono (by decide)) (by rfl) L.g__law_refused_by_any L.k__law_refused_by_any L.b__law_refused_by_any .nil hx (pa_cons (pv 1) pa_nil))))))))))))), ?_⟩
    dsimp only [cxOf]
    walk_at "ns"
    refine q_start (ev_var rfl) (ev_var rfl) hS fun us0 p0 H1 hl0 e1 h1 => ?_
    walk_at "ns"
    refine q_cut (M := fun σ' H' => ∃ (us : List Int) (p : Addr), σ' = [some (.ref a), some (.ref p), none, none, none] ∧ Ex H H' ∧ H' p = some (.lst (us.map V.int))) ?_ ?_
    · refine s_when (et_test (ev_op (ev_op (ev_cell rfl (ex_l e1 hS)) ev_c (rv_I (show (0 : Int) < 5 by decide))) ev_c (rv_eq rfl))) (fun _ H2 e2 => ?_) (fun _ H2 e2 => ⟨us0, p0, rfl, e1.trans e2, e2 _ _ h1⟩)
      exact s_asgSorted (ev_var rfl) (sq_of (e2 _ _ h1)) (by omega) fun ns' pp H3 hperm hpp e3 h3 => ⟨ns', pp, rfl, (e1.trans e2).trans e3, h3⟩
    clear h1 e1
    rintro σ' H2 ⟨us, p, rfl, e2, h2⟩
    walk_at "ns"
    refine q_asgL (el_listH (eh_old (ev_var rfl) h2)) fun hp H3 hhp e3 h3 => ?_
    walk_at "ns"
    refine q_asg ev_c fun G eG => ?_
    walk_at "ns"
    have hhG := eG _ _ h3
    have hbG := (e3.trans eG) _ _ h2
    by_cases g : Rw.Good us
    · refine q_asgG (eg_makeS (ea_cons (ev_var rfl) ea_nil) (sq_of hhG) g) fun v H5 e5 ⟨x, dx, l, t, ev, hx, hl, ht, hB⟩ => ?_
      subst ev
      walk_at "ns"
      refine s_when (b := false) (et_is (et_test (ev_neH (xs := us) (ys := us) (eh_old (ev_fld (ev_var rfl) hB.1 L.cl L.nB (bf_bases l t)) hB.2.1) (eh_old (ev_var rfl) (e5 _ _ hbG)))) (by simp)) (fun z => nomatch z) (fun _ H6 e6 => ?_)
      dsimp only
      have x6 := e5.trans e6
      refine q_when (b := false) (et_is (et_test (ev_neH (xs := us) (ys := us) (eh_old (ev_var rfl) (x6 _ _ hhG)) (eh_old (ev_var rfl) (x6 _ _ hbG)))) (by simp)) (fun z => nomatch z) (fun _ H7 e7 => ?_)
      have x7 := x6.trans e7
      refine q_when (b := true) (et_B (ev_call0 (ea_cons (ev_var rfl) ea_nil) fun H1 e1 Q' q' _ => ⟨p, us, rfl, sq_of ((x7.trans e1) _ _ hbG), fun _ => q', fun n => absurd g n⟩)) (fun _ H8 e8 => ?_) (fun z => nomatch z)
      exact s_ret (v := .bl true) (ev_is (ev_notV (a := false) (ev_var rfl)) rfl) fun H9 _ => q H9
    · refine q_dvA (dv_makeS (ea_cons (ev_var rfl) ea_nil) (sq_of hhG) g fun H5 e5 => ?_)
      refine ⟨true, exm_yes L.s_NoBases L.h_NoBases L.t_NoBases L.u_NoBases_NoBases, fun _ xe hxe => ?_, fun z => nomatch z⟩
      refine s_asg ev_c fun H6 e6 => ?_
      dsimp only
      have x6 := e5.trans e6
      refine q_when (b := false) (et_is (et_test (ev_neH (xs := us) (ys := us) (eh_old (ev_var rfl) (x6 _ _ hhG)) (eh_old (ev_var rfl) (x6 _ _ hbG)))) (by simp)) (fun z => nomatch z) (fun _ H7 e7 => ?_)
      have x7 := x6.trans e7
      refine q_when (b := false) (et_B (ev_call0 (ea_cons (ev_var rfl) ea_nil) fun H1 e1 Q' q' _ => ⟨p, us, rfl, sq_of ((x7.trans e1) _ _ hbG), fun y => absurd y g, fun _ => q'⟩)) (fun z => nomatch z) (fun _ H8 e8 => ?_)
      have x8 := x7.trans e8
      exact s_ret (v := .bl true) (ev_is (ev_andV (a := true) (b := true) (ev_var rfl) (fun _ => ev_call0 (ea_cons (ev_var rfl) ea_nil) fun H1 e1 Q' q' _ => ⟨p, us, rfl, sq_of ((x8.trans e1) _ _ hbG), g, q'⟩)) rfl) fun H9 _ => q H9
end
end Rk
namespace Rk
open PySem PySem.Spec PyProof.Rows L2 Evl
section
variable {P : Program} {w : World} {K : PySem.W.Frag} {mg : Str → Option Value} {base : Heap}
theorem all_mk {l : PySem.W.OpenLaw} {w : World} {K : PySem.W.Frag} {h : Heap} {mg : Str → Option Value} {fa f_common f_turned f_need_bases f___init__ f__law_cell_at f__law_bases f__law_common f__law_good f__law_built f__law_changed f__law_refused_by_any f_law c_RestError c_NoBases c_NoRow c_NoNumber c_NoTurn C : Addr} (X : K.In h) (G : h.Ns mainGlobals mg) (hfa : mg "law" = some (.ref fa))
    {od_common an_common od_turned an_turned od_need_bases an_need_bases od___init__ an___init__ od__law_cell_at an__law_cell_at od__law_bases an__law_bases od__law_common an__law_common od__law_good an__law_good od__law_built an__law_built od__law_changed an__law_changed od__law_refused_by_any an__law_refused_by_any od_law an_law : Option Addr} {sl_common sl_turned sl_need_bases sl___init__ sl__law_cell_at sl__law_bases sl__law_common sl__law_good sl__law_built sl__law_changed sl__law_refused_by_any sl_law : Array (Option Value)} {oc_common kV_common dc_common pm_common cd_common ct_common oc_turned kV_turned dc_turned pm_turned cd_turned ct_turned oc_need_bases kV_need_bases dc_need_bases pm_need_bases cd_need_bases ct_need_bases oc___init__ kV___init__ dc___init__ pm___init__ cd___init__ ct___init__ oc__law_cell_at kV__law_cell_at dc__law_cell_at pm__law_cell_at cd__law_cell_at ct__law_cell_at oc__law_bases kV__law_bases dc__law_bases pm__law_bases cd__law_bases ct__law_bases oc__law_common kV__law_common dc__law_common pm__law_common cd__law_common ct__law_common oc__law_good kV__law_good dc__law_good pm__law_good cd__law_good ct__law_good oc__law_built kV__law_built dc__law_built pm__law_built cd__law_built ct__law_built oc__law_changed kV__law_changed dc__law_changed pm__law_changed cd__law_changed ct__law_changed oc__law_refused_by_any kV__law_refused_by_any dc__law_refused_by_any pm__law_refused_by_any cd__law_refused_by_any ct__law_refused_by_any oc_law kV_law dc_law pm_law cd_law ct_law : Value} {t_LEAST t_MOST t_FEWEST t_SO_MANY : Tok}
    (aC : PySem.W.nsIn K mainGlobals "Board" = some (some (.ref C)))
    (a_common : PySem.W.nsIn K mainGlobals "common" = some (some (.ref f_common)))
    (l_common : K.lookup f_common = some ⟨oc_common, od_common, .func (PySem.W.fnOf "common" "common" (defArgs s_common) (defBody s_common) (defScope s_common) .none kV_common dc_common pm_common an_common cd_common ct_common), sl_common⟩)
    (q_common : PySem.W.codeIn K cd_common "common" = true)
    (k_common : PySem.W.keepIn K (.ref f_common) = true)
    (a_turned : PySem.W.nsIn K mainGlobals "turned" = some (some (.ref f_turned)))
    (l_turned : K.lookup f_turned = some ⟨oc_turned, od_turned, .func (PySem.W.fnOf "turned" "turned" (defArgs s_turned) (defBody s_turned) (defScope s_turned) .none kV_turned dc_turned pm_turned an_turned cd_turned ct_turned), sl_turned⟩)
    (q_turned : PySem.W.codeIn K cd_turned "turned" = true)
    (k_turned : PySem.W.keepIn K (.ref f_turned) = true)
    (a_need_bases : PySem.W.nsIn K mainGlobals "need_bases" = some (some (.ref f_need_bases)))
    (l_need_bases : K.lookup f_need_bases = some ⟨oc_need_bases, od_need_bases, .func (PySem.W.fnOf "need_bases" "need_bases" (defArgs s_need_bases) (defBody s_need_bases) (defScope s_need_bases) .none kV_need_bases dc_need_bases pm_need_bases an_need_bases cd_need_bases ct_need_bases), sl_need_bases⟩)
    (q_need_bases : PySem.W.codeIn K cd_need_bases "need_bases" = true)
    (k_need_bases : PySem.W.keepIn K (.ref f_need_bases) = true)
    (a___init__ : PySem.W.findIn K (.ref C) "__init__" = some (some (.ref f___init__)))
    (i___init__ : PySem.W.isFn K (.ref f___init__) = true)
    (l___init__ : K.lookup f___init__ = some ⟨oc___init__, od___init__, .func (PySem.W.fnOf "__init__" "Board.__init__" (defArgs s___init__) (defBody s___init__) (defScope s___init__) .none kV___init__ dc___init__ pm___init__ an___init__ cd___init__ ct___init__), sl___init__⟩)
    (q___init__ : PySem.W.codeIn K cd___init__ "Board.__init__" = true)
    (k___init__ : PySem.W.keepIn K (.ref f___init__) = true)
    (a__law_cell_at : PySem.W.nsIn K mainGlobals "_law_cell_at" = some (some (.ref f__law_cell_at)))
    (l__law_cell_at : K.lookup f__law_cell_at = some ⟨oc__law_cell_at, od__law_cell_at, .func (PySem.W.fnOf "_law_cell_at" "_law_cell_at" (defArgs s__law_cell_at) (defBody s__law_cell_at) (defScope s__law_cell_at) .none kV__law_cell_at dc__law_cell_at pm__law_cell_at an__law_cell_at cd__law_cell_at ct__law_cell_at), sl__law_cell_at⟩)
    (q__law_cell_at : PySem.W.codeIn K cd__law_cell_at "_law_cell_at" = true)
    (k__law_cell_at : PySem.W.keepIn K (.ref f__law_cell_at) = true)
    (a__law_bases : PySem.W.nsIn K mainGlobals "_law_bases" = some (some (.ref f__law_bases)))
    (l__law_bases : K.lookup f__law_bases = some ⟨oc__law_bases, od__law_bases, .func (PySem.W.fnOf "_law_bases" "_law_bases" (defArgs s__law_bases) (defBody s__law_bases) (defScope s__law_bases) .none kV__law_bases dc__law_bases pm__law_bases an__law_bases cd__law_bases ct__law_bases), sl__law_bases⟩)
    (q__law_bases : PySem.W.codeIn K cd__law_bases "_law_bases" = true)
    (k__law_bases : PySem.W.keepIn K (.ref f__law_bases) = true)
    (a__law_common : PySem.W.nsIn K mainGlobals "_law_common" = some (some (.ref f__law_common)))
    (l__law_common : K.lookup f__law_common = some ⟨oc__law_common, od__law_common, .func (PySem.W.fnOf "_law_common" "_law_common" (defArgs s__law_common) (defBody s__law_common) (defScope s__law_common) .none kV__law_common dc__law_common pm__law_common an__law_common cd__law_common ct__law_common), sl__law_common⟩)
    (q__law_common : PySem.W.codeIn K cd__law_common "_law_common" = true)
    (k__law_common : PySem.W.keepIn K (.ref f__law_common) = true)
    (a__law_good : PySem.W.nsIn K mainGlobals "_law_good" = some (some (.ref f__law_good)))
    (l__law_good : K.lookup f__law_good = some ⟨oc__law_good, od__law_good, .func (PySem.W.fnOf "_law_good" "_law_good" (defArgs s__law_good) (defBody s__law_good) (defScope s__law_good) .none kV__law_good dc__law_good pm__law_good an__law_good cd__law_good ct__law_good), sl__law_good⟩)
    (q__law_good : PySem.W.codeIn K cd__law_good "_law_good" = true)
    (k__law_good : PySem.W.keepIn K (.ref f__law_good) = true)
    (a__law_built : PySem.W.nsIn K mainGlobals "_law_built" = some (some (.ref f__law_built)))
    (l__law_built : K.lookup f__law_built = some ⟨oc__law_built, od__law_built, .func (PySem.W.fnOf "_law_built" "_law_built" (defArgs s__law_built) (defBody s__law_built) (defScope s__law_built) .none kV__law_built dc__law_built pm__law_built an__law_built cd__law_built ct__law_built), sl__law_built⟩)
    (q__law_built : PySem.W.codeIn K cd__law_built "_law_built" = true)
    (k__law_built : PySem.W.keepIn K (.ref f__law_built) = true)
    (a__law_changed : PySem.W.nsIn K mainGlobals "_law_changed" = some (some (.ref f__law_changed)))
    (l__law_changed : K.lookup f__law_changed = some ⟨oc__law_changed, od__law_changed, .func (PySem.W.fnOf "_law_changed" "_law_changed" (defArgs s__law_changed) (defBody s__law_changed) (defScope s__law_changed) .none kV__law_changed dc__law_changed pm__law_changed an__law_changed cd__law_changed ct__law_changed), sl__law_changed⟩)
    (q__law_changed : PySem.W.codeIn K cd__law_changed "_law_changed" = true)
    (k__law_changed : PySem.W.keepIn K (.ref f__law_changed) = true)
    (a__law_refused_by_any : PySem.W.nsIn K mainGlobals "_law_refused_by_any" = some (some (.ref f__law_refused_by_any)))
    (l__law_refused_by_any : K.lookup f__law_refused_by_any = some ⟨oc__law_refused_by_any, od__law_refused_by_any, .func (PySem.W.fnOf "_law_refused_by_any" "_law_refused_by_any" (defArgs s__law_refused_by_any) (defBody s__law_refused_by_any) (defScope s__law_refused_by_any) .none kV__law_refused_by_any dc__law_refused_by_any pm__law_refused_by_any an__law_refused_by_any cd__law_refused_by_any ct__law_refused_by_any), sl__law_refused_by_any⟩)
    (q__law_refused_by_any : PySem.W.codeIn K cd__law_refused_by_any "_law_refused_by_any" = true)
    (k__law_refused_by_any : PySem.W.keepIn K (.ref f__law_refused_by_any) = true)
    (a_law : PySem.W.nsIn K mainGlobals "law" = some (some (.ref f_law)))
    (l_law : K.lookup f_law = some ⟨oc_law, od_law, .func (PySem.W.fnOf "law" "law" (defArgs s_law) (defBody s_law) (defScope s_law) .none kV_law dc_law pm_law an_law cd_law ct_law), sl_law⟩)
    (q_law : PySem.W.codeIn K cd_law "law" = true)
    (k_law : PySem.W.keepIn K (.ref f_law) = true)
    (pg : PySem.W.plainGet K C Str.empty = true)
    (hd : PySem.W.hasDictIn K C = true)
    (po : PySem.W.plainOver K C = true)
    (sa : PySem.W.findIn K (.ref C) "__setattr__" = some (some (.builtin "object.__setattr__")))
    (mk : PySem.W.makesIn K C = true)
    (kc : PySem.W.keepIn K (.ref C) = true)
    (nB : PySem.W.findIn K (.ref C) "bases" = some none)
    (nT : PySem.W.findIn K (.ref C) "turns" = some none)
    (g_RestError : PySem.W.nsIn K mainGlobals "RestError" = some (some (.ref c_RestError)))
    (x_RestError : PySem.W.excIn K c_RestError [.type "ValueError", .type "Exception", .type "BaseException", .type "object"] "ValueError.__new__" = true)
    (e_RestError : PySem.W.keepIn K (.ref c_RestError) = true)
    (s_RestError : PySem.W.subIn K (.ref c_RestError) (.type "BaseException") = some true)
    (t_RestError : PySem.W.typeIn K (.ref c_RestError) = some (.type "type"))
    (h_RestError : PySem.W.hasDictIn K c_RestError = true)
    (g_NoBases : PySem.W.nsIn K mainGlobals "NoBases" = some (some (.ref c_NoBases)))
    (x_NoBases : PySem.W.excIn K c_NoBases [.type "ValueError", .type "Exception", .type "BaseException", .type "object"] "ValueError.__new__" = true)
    (e_NoBases : PySem.W.keepIn K (.ref c_NoBases) = true)
    (s_NoBases : PySem.W.subIn K (.ref c_NoBases) (.type "BaseException") = some true)
    (t_NoBases : PySem.W.typeIn K (.ref c_NoBases) = some (.type "type"))
    (h_NoBases : PySem.W.hasDictIn K c_NoBases = true)
    (g_NoRow : PySem.W.nsIn K mainGlobals "NoRow" = some (some (.ref c_NoRow)))
    (x_NoRow : PySem.W.excIn K c_NoRow [.type "ValueError", .type "Exception", .type "BaseException", .type "object"] "ValueError.__new__" = true)
    (e_NoRow : PySem.W.keepIn K (.ref c_NoRow) = true)
    (s_NoRow : PySem.W.subIn K (.ref c_NoRow) (.type "BaseException") = some true)
    (t_NoRow : PySem.W.typeIn K (.ref c_NoRow) = some (.type "type"))
    (h_NoRow : PySem.W.hasDictIn K c_NoRow = true)
    (g_NoNumber : PySem.W.nsIn K mainGlobals "NoNumber" = some (some (.ref c_NoNumber)))
    (x_NoNumber : PySem.W.excIn K c_NoNumber [.type "ValueError", .type "Exception", .type "BaseException", .type "object"] "ValueError.__new__" = true)
    (e_NoNumber : PySem.W.keepIn K (.ref c_NoNumber) = true)
    (s_NoNumber : PySem.W.subIn K (.ref c_NoNumber) (.type "BaseException") = some true)
    (t_NoNumber : PySem.W.typeIn K (.ref c_NoNumber) = some (.type "type"))
    (h_NoNumber : PySem.W.hasDictIn K c_NoNumber = true)
    (g_NoTurn : PySem.W.nsIn K mainGlobals "NoTurn" = some (some (.ref c_NoTurn)))
    (x_NoTurn : PySem.W.excIn K c_NoTurn [.type "ValueError", .type "Exception", .type "BaseException", .type "object"] "ValueError.__new__" = true)
    (e_NoTurn : PySem.W.keepIn K (.ref c_NoTurn) = true)
    (s_NoTurn : PySem.W.subIn K (.ref c_NoTurn) (.type "BaseException") = some true)
    (t_NoTurn : PySem.W.typeIn K (.ref c_NoTurn) = some (.type "type"))
    (h_NoTurn : PySem.W.hasDictIn K c_NoTurn = true)
    (u_NoBases_NoBases : PySem.W.subIn K (.ref c_NoBases) (.ref c_NoBases) = some true)
    (u_NoBases_RestError : PySem.W.subIn K (.ref c_NoBases) (.ref c_RestError) = some true)
    (u_NoNumber_NoBases : PySem.W.subIn K (.ref c_NoNumber) (.ref c_NoBases) = some false)
    (u_NoNumber_RestError : PySem.W.subIn K (.ref c_NoNumber) (.ref c_RestError) = some true)
    (u_NoRow_NoBases : PySem.W.subIn K (.ref c_NoRow) (.ref c_NoBases) = some false)
    (u_NoRow_RestError : PySem.W.subIn K (.ref c_NoRow) (.ref c_RestError) = some true)
    (u_NoTurn_NoBases : PySem.W.subIn K (.ref c_NoTurn) (.ref c_NoBases) = some false)
    (u_NoTurn_RestError : PySem.W.subIn K (.ref c_NoTurn) (.ref c_RestError) = some true)
    (ig_NoBases : PySem.W.findIn K (.ref c_NoBases) "__getattribute__" = some (some (.builtin "BaseException.__getattribute__")))
    (ik_NoBases : PySem.W.findIn K (.ref c_NoBases) "__getattr__" = some none)
    (ia_NoBases : PySem.W.findIn K (.ref c_NoBases) "__class__" = some (some (.builtin "object.__class__")))
    (im_NoBases : PySem.W.mroIn K c_NoBases (.type "object") = some true)
    (v_NoBases : PySem.W.subIn K (.ref c_NoBases) (.type "ValueError") = some true)
    (ig_NoNumber : PySem.W.findIn K (.ref c_NoNumber) "__getattribute__" = some (some (.builtin "BaseException.__getattribute__")))
    (ik_NoNumber : PySem.W.findIn K (.ref c_NoNumber) "__getattr__" = some none)
    (ia_NoNumber : PySem.W.findIn K (.ref c_NoNumber) "__class__" = some (some (.builtin "object.__class__")))
    (im_NoNumber : PySem.W.mroIn K c_NoNumber (.type "object") = some true)
    (v_NoNumber : PySem.W.subIn K (.ref c_NoNumber) (.type "ValueError") = some true)
    (ig_NoRow : PySem.W.findIn K (.ref c_NoRow) "__getattribute__" = some (some (.builtin "BaseException.__getattribute__")))
    (ik_NoRow : PySem.W.findIn K (.ref c_NoRow) "__getattr__" = some none)
    (ia_NoRow : PySem.W.findIn K (.ref c_NoRow) "__class__" = some (some (.builtin "object.__class__")))
    (im_NoRow : PySem.W.mroIn K c_NoRow (.type "object") = some true)
    (v_NoRow : PySem.W.subIn K (.ref c_NoRow) (.type "ValueError") = some true)
    (ig_NoTurn : PySem.W.findIn K (.ref c_NoTurn) "__getattribute__" = some (some (.builtin "BaseException.__getattribute__")))
    (ik_NoTurn : PySem.W.findIn K (.ref c_NoTurn) "__getattr__" = some none)
    (ia_NoTurn : PySem.W.findIn K (.ref c_NoTurn) "__class__" = some (some (.builtin "object.__class__")))
    (im_NoTurn : PySem.W.mroIn K c_NoTurn (.type "object") = some true)
    (v_NoTurn : PySem.W.subIn K (.ref c_NoTurn) (.type "ValueError") = some true)
    (in_ : PySem.W.specialIn K (.builtin "object.__class__") "__get__" = some (some (.builtin "getset_descriptor.__get__")))
    (it_ : PySem.W.takesIn K (.builtin "object.__class__") = some true)
    (k_LEAST : PySem.W.nsIn K mainGlobals "LEAST" = some (some (.int 3 t_LEAST)))
    (k_MOST : PySem.W.nsIn K mainGlobals "MOST" = some (some (.int 999999 t_MOST)))
    (k_FEWEST : PySem.W.nsIn K mainGlobals "FEWEST" = some (some (.int 3 t_FEWEST)))
    (k_SO_MANY : PySem.W.nsIn K mainGlobals "SO_MANY" = some (some (.int 14 t_SO_MANY)))
    (z_ValueError : PySem.W.nsIn K mainGlobals "ValueError" = some none)
    (z_isinstance : PySem.W.nsIn K mainGlobals "isinstance" = some none)
    (z_len : PySem.W.nsIn K mainGlobals "len" = some none)
    (z_list : PySem.W.nsIn K mainGlobals "list" = some none)
    (z_range : PySem.W.nsIn K mainGlobals "range" = some none)
    (z_sorted : PySem.W.nsIn K mainGlobals "sorted" = some none)
    (z_zip : PySem.W.nsIn K mainGlobals "zip" = some none) :
    ∃ fd : FuncData, (∀ (s : Shared) (v : Value), BindsTo s fd ⟨[v], []⟩ [("_law_script", v)]) ∧ ∀ base : Heap, K.In base → base.Ns mainGlobals mg → FnOk l.prog w K mg base (L2.CX l.prog w) 6 fa fd ["_law_script"] (sp_law K) := by
  have e := hfa.symm.trans (PySem.W.mg_of X G a_law)
  cases e
  have F_common := fun_mk (st := s_common) l_common q_common k_common
  have F_turned := fun_mk (st := s_turned) l_turned q_turned k_turned
  have F_need_bases := fun_mk (st := s_need_bases) l_need_bases q_need_bases k_need_bases
  have F___init__ := fun_mk (st := s___init__) l___init__ q___init__ k___init__
  have F__law_cell_at := fun_mk (st := s__law_cell_at) l__law_cell_at q__law_cell_at k__law_cell_at
  have F__law_bases := fun_mk (st := s__law_bases) l__law_bases q__law_bases k__law_bases
  have F__law_common := fun_mk (st := s__law_common) l__law_common q__law_common k__law_common
  have F__law_good := fun_mk (st := s__law_good) l__law_good q__law_good k__law_good
  have F__law_built := fun_mk (st := s__law_built) l__law_built q__law_built k__law_built
  have F__law_changed := fun_mk (st := s__law_changed) l__law_changed q__law_changed k__law_changed
  have F__law_refused_by_any := fun_mk (st := s__law_refused_by_any) l__law_refused_by_any q__law_refused_by_any k__law_refused_by_any
  have F_law := fun_mk (st := s_law) l_law q_law k_law
  refine ⟨_, fun s v => ?_, fun base _ _ => ok_law (K := K) (mg := mg) { f_common := f_common, d_common := _, F_common := F_common, b_common := (F_common.binds (ps := ["one", "other"]) fun _ _ _ _ _ _ us hl => match us, hl with | [_, _], _ => rfl), f_turned := f_turned, d_turned := _, F_turned := F_turned, b_turned := (F_turned.binds (ps := ["number", "base"]) fun _ _ _ _ _ _ us hl => match us, hl with | [_, _], _ => rfl), f_need_bases := f_need_bases, d_need_bases := _, F_need_bases := F_need_bases, b_need_bases := (F_need_bases.binds (ps := ["bases"]) fun _ _ _ _ _ _ us hl => match us, hl with | [_], _ => rfl), f___init__ := f___init__, d___init__ := _, F___init__ := F___init__, b___init__ := (F___init__.binds (ps := ["self", "bases"]) fun _ _ _ _ _ _ us hl => match us, hl with | [_, _], _ => rfl), f__law_cell_at := f__law_cell_at, d__law_cell_at := _, F__law_cell_at := F__law_cell_at, b__law_cell_at := (F__law_cell_at.binds (ps := ["_law_script", "_law_k"]) fun _ _ _ _ _ _ us hl => match us, hl with | [_, _], _ => rfl), f__law_bases := f__law_bases, d__law_bases := _, F__law_bases := F__law_bases, b__law_bases := (F__law_bases.binds (ps := ["_law_one", "_law_other"]) fun _ _ _ _ _ _ us hl => match us, hl with | [_, _], _ => rfl), f__law_common := f__law_common, d__law_common := _, F__law_common := F__law_common, b__law_common := (F__law_common.binds (ps := ["_law_one", "_law_other"]) fun _ _ _ _ _ _ us hl => match us, hl with | [_, _], _ => rfl), f__law_good := f__law_good, d__law_good := _, F__law_good := F__law_good, b__law_good := (F__law_good.binds (ps := ["_law_bases_here"]) fun _ _ _ _ _ _ us hl => match us, hl with | [_], _ => rfl), f__law_built := f__law_built, d__law_built := _, F__law_built := F__law_built, b__law_built := (F__law_built.binds (ps := ["_law_script"]) fun _ _ _ _ _ _ us hl => match us, hl with | [_], _ => rfl), f__law_changed := f__law_changed, d__law_changed := _, F__law_changed := F__law_changed, b__law_changed := (F__law_changed.binds (ps := ["_law_bases_here", "_law_script"]) fun _ _ _ _ _ _ us hl => match us, hl with | [_, _], _ => rfl), f__law_refused_by_any := f__law_refused_by_any, d__law_refused_by_any := _, F__law_refused_by_any := F__law_refused_by_any, b__law_refused_by_any := (F__law_refused_by_any.binds (ps := ["_law_bases_here"]) fun _ _ _ _ _ _ us hl => match us, hl with | [_], _ => rfl), f_law := _, d_law := _, F_law := F_law, b_law := (F_law.binds (ps := ["_law_script"]) fun _ _ _ _ _ _ us hl => match us, hl with | [_], _ => rfl), C := C, cl := ⟨pg, hd, po, sa⟩, nB := nB, nT := nT, gC := PySem.W.mg_of X G aC, mkC := ⟨mk, a___init__, i___init__, kc⟩, g_common := PySem.W.mg_of X G a_common, k_common := k_common, g_turned := PySem.W.mg_of X G a_turned, k_turned := k_turned, g_need_bases := PySem.W.mg_of X G a_need_bases, k_need_bases := k_need_bases, g__law_cell_at := PySem.W.mg_of X G a__law_cell_at, k__law_cell_at := k__law_cell_at, g__law_bases := PySem.W.mg_of X G a__law_bases, k__law_bases := k__law_bases, g__law_common := PySem.W.mg_of X G a__law_common, k__law_common := k__law_common, g__law_good := PySem.W.mg_of X G a__law_good, k__law_good := k__law_good, g__law_built := PySem.W.mg_of X G a__law_built, k__law_built := k__law_built, g__law_changed := PySem.W.mg_of X G a__law_changed, k__law_changed := k__law_changed, g__law_refused_by_any := PySem.W.mg_of X G a__law_refused_by_any, k__law_refused_by_any := k__law_refused_by_any, g_law := PySem.W.mg_of X G a_law, k_law := k_law, c_RestError := c_RestError, g_RestError := PySem.W.mg_of X G g_RestError, x_RestError := x_RestError, e_RestError := e_RestError, s_RestError := s_RestError, t_RestError := t_RestError, h_RestError := h_RestError, c_NoBases := c_NoBases, g_NoBases := PySem.W.mg_of X G g_NoBases, x_NoBases := x_NoBases, e_NoBases := e_NoBases, s_NoBases := s_NoBases, t_NoBases := t_NoBases, h_NoBases := h_NoBases, c_NoRow := c_NoRow, g_NoRow := PySem.W.mg_of X G g_NoRow, x_NoRow := x_NoRow, e_NoRow := e_NoRow, s_NoRow := s_NoRow, t_NoRow := t_NoRow, h_NoRow := h_NoRow, c_NoNumber := c_NoNumber, g_NoNumber := PySem.W.mg_of X G g_NoNumber, x_NoNumber := x_NoNumber, e_NoNumber := e_NoNumber, s_NoNumber := s_NoNumber, t_NoNumber := t_NoNumber, h_NoNumber := h_NoNumber, c_NoTurn := c_NoTurn, g_NoTurn := PySem.W.mg_of X G g_NoTurn, x_NoTurn := x_NoTurn, e_NoTurn := e_NoTurn, s_NoTurn := s_NoTurn, t_NoTurn := t_NoTurn, h_NoTurn := h_NoTurn, u_NoBases_NoBases := u_NoBases_NoBases, u_NoBases_RestError := u_NoBases_RestError, u_NoNumber_NoBases := u_NoNumber_NoBases, u_NoNumber_RestError := u_NoNumber_RestError, u_NoRow_NoBases := u_NoRow_NoBases, u_NoRow_RestError := u_NoRow_RestError, u_NoTurn_NoBases := u_NoTurn_NoBases, u_NoTurn_RestError := u_NoTurn_RestError, i_NoBases := ⟨ig_NoBases, ik_NoBases, s_NoBases, h_NoBases, ia_NoBases, in_, it_, im_NoBases⟩, v_NoBases := kit_exT (by decide +kernel) v_NoBases, i_NoNumber := ⟨ig_NoNumber, ik_NoNumber, s_NoNumber, h_NoNumber, ia_NoNumber, in_, it_, im_NoNumber⟩, v_NoNumber := kit_exT (by decide +kernel) v_NoNumber, i_NoRow := ⟨ig_NoRow, ik_NoRow, s_NoRow, h_NoRow, ia_NoRow, in_, it_, im_NoRow⟩, v_NoRow := kit_exT (by decide +kernel) v_NoRow, i_NoTurn := ⟨ig_NoTurn, ik_NoTurn, s_NoTurn, h_NoTurn, ia_NoTurn, in_, it_, im_NoTurn⟩, v_NoTurn := kit_exT (by decide +kernel) v_NoTurn, t_LEAST := t_LEAST, k_LEAST := PySem.W.mg_of X G k_LEAST, t_MOST := t_MOST, k_MOST := PySem.W.mg_of X G k_MOST, t_FEWEST := t_FEWEST, k_FEWEST := PySem.W.mg_of X G k_FEWEST, t_SO_MANY := t_SO_MANY, k_SO_MANY := PySem.W.mg_of X G k_SO_MANY, z_ValueError := PySem.W.mg_none_of X G z_ValueError, z_isinstance := PySem.W.mg_none_of X G z_isinstance, z_len := PySem.W.mg_none_of X G z_len, z_list := PySem.W.mg_none_of X G z_list, z_range := PySem.W.mg_none_of X G z_range, z_sorted := PySem.W.mg_none_of X G z_sorted, z_zip := PySem.W.mg_none_of X G z_zip }⟩
  exact .of_eq rfl
theorem walk {l : PySem.W.OpenLaw} {q : Program} {loose : List Str} {XP : (Str → Option Value) → Heap → Prop} {YP : World → Heap → Prop} {d : DefRec} {K : Params → PySem.W.Frag} (hn : l.most = some 63) (hdf : d.params.defaults = [])
    (hY : ∀ (w : World) (h : Heap), YP w h → (K w.params).In h)
    (F : ∀ (w : World) (mg : Str → Option Value) (fa : Addr) (h : Heap), (K w.params).In h → h.Ns mainGlobals mg → mg d.name = some (.ref fa) →
      ∃ fd : FuncData, (∀ (s : Shared) (u : Value), BindsTo s fd ⟨[u], []⟩ [("_law_script", u)]) ∧ ∀ base : Heap, (K w.params).In base → base.Ns mainGlobals mg → FnOk l.prog w (K w.params) mg base (L2.CX l.prog w) 6 fa fd ["_law_script"] (sp_law (K w.params))) :
    PySem.W.WalkO q loose XP YP l.row.toRowW d [] (fun f vs => PySem.call f vs) :=
  L2.walk_of (n := 63) (k := 6) (x := "_law_script") (CX := fun w => L2.CX l.prog w) (sp := fun w => sp_law (K w.params)) hn (by decide) hdf ⟨rfl, by decide, by decide⟩ hY F (fun _ _ a ns hl _ hS => ⟨a, ns, rfl, hS, hl, fun _ => rfl⟩) fun _ _ _ _ _ ⟨_, _, _, _, _, _, _, _, _, _, _, _, z⟩ => z
end
end Rk
open PySem PySem.W PyProof.Rows in
set_option maxRecDepth 100000 in
set_option maxHeartbeats 0 in
theorem PySem.Challenge.cw_restrow_k03_bases_refused_holds : PySem.Challenge.rw_restrow_k03_bases_refused.Holds := by
  w_on; o_law; k_head; (case hw => w_witness2)
  k_fill
  refine Rk.walk (l := PySem.Challenge.rw_restrow_k03_bases_refused) rfl rfl (fun w h Y => PySem.W.kIn_of Y) ?F
  case F =>
    intro w mg fa h KX G hmg
    refine' Rk.all_mk KX G hmg ?aC ?a_common ?l_common ?q_common ?k_common ?a_turned ?l_turned ?q_turned ?k_turned ?a_need_bases ?l_need_bases ?q_need_bases ?k_need_bases ?a___init__ ?i___init__ ?l___init__ ?q___init__ ?k___init__ ?a__law_cell_at ?l__law_cell_at ?q__law_cell_at ?k__law_cell_at ?a__law_bases ?l__law_bases ?q__law_bases ?k__law_bases ?a__law_common ?l__law_common ?q__law_common ?k__law_common ?a__law_good ?l__law_good ?q__law_good ?k__law_good ?a__law_built ?l__law_built ?q__law_built ?k__law_built ?a__law_changed ?l__law_changed ?q__law_changed ?k__law_changed ?a__law_refused_by_any ?l__law_refused_by_any ?q__law_refused_by_any ?k__law_refused_by_any ?a_law ?l_law ?q_law ?k_law ?pg ?hd ?po ?sa ?mk ?kc ?nB ?nT ?g_RestError ?x_RestError ?e_RestError ?s_RestError ?t_RestError ?h_RestError ?g_NoBases ?x_NoBases ?e_NoBases ?s_NoBases ?t_NoBases ?h_NoBases ?g_NoRow ?x_NoRow ?e_NoRow ?s_NoRow ?t_NoRow ?h_NoRow ?g_NoNumber ?x_NoNumber ?e_NoNumber ?s_NoNumber ?t_NoNumber ?h_NoNumber ?g_NoTurn ?x_NoTurn ?e_NoTurn ?s_NoTurn ?t_NoTurn ?h_NoTurn ?u_NoBases_NoBases ?u_NoBases_RestError ?u_NoNumber_NoBases ?u_NoNumber_RestError ?u_NoRow_NoBases ?u_NoRow_RestError ?u_NoTurn_NoBases ?u_NoTurn_RestError ?ig_NoBases ?ik_NoBases ?ia_NoBases ?im_NoBases ?v_NoBases ?ig_NoNumber ?ik_NoNumber ?ia_NoNumber ?im_NoNumber ?v_NoNumber ?ig_NoRow ?ik_NoRow ?ia_NoRow ?im_NoRow ?v_NoRow ?ig_NoTurn ?ik_NoTurn ?ia_NoTurn ?im_NoTurn ?v_NoTurn ?in_ ?it_ ?k_LEAST ?k_MOST ?k_FEWEST ?k_SO_MANY ?z_ValueError ?z_isinstance ?z_len ?z_list ?z_range ?z_sorted ?z_zip
    (case aC => k_is)
    (case a_common => k_is)
    (case l_common => k_is)
    (case q_common => k_is)
    (case k_common => k_is)
    (case a_turned => k_is)
    (case l_turned => k_is)
    (case q_turned => k_is)
    (case k_turned => k_is)
    (case a_need_bases => k_is)
    (case l_need_bases => k_is)
    (case q_need_bases => k_is)
    (case k_need_bases => k_is)
    (case a___init__ => k_is)
    (case i___init__ => k_is)
    (case l___init__ => k_is)
    (case q___init__ => k_is)
    (case k___init__ => k_is)
    (case a__law_cell_at => k_is)
    (case l__law_cell_at => k_is)
    (case q__law_cell_at => k_is)
    (case k__law_cell_at => k_is)
    (case a__law_bases => k_is)
    (case l__law_bases => k_is)
    (case q__law_bases => k_is)
    (case k__law_bases => k_is)
    (case a__law_common => k_is)
    (case l__law_common => k_is)
    (case q__law_common => k_is)
    (case k__law_common => k_is)
    (case a__law_good => k_is)
    (case l__law_good => k_is)
    (case q__law_good => k_is)
    (case k__law_good => k_is)
    (case a__law_built => k_is)
    (case l__law_built => k_is)
    (case q__law_built => k_is)
    (case k__law_built => k_is)
    (case a__law_changed => k_is)
    (case l__law_changed => k_is)
    (case q__law_changed => k_is)
    (case k__law_changed => k_is)
    (case a__law_refused_by_any => k_is)
    (case l__law_refused_by_any => k_is)
    (case q__law_refused_by_any => k_is)
    (case k__law_refused_by_any => k_is)
    (case a_law => k_is)
    (case l_law => k_is)
    (case q_law => k_is)
    (case k_law => k_is)
    (case pg => k_is)
    (case hd => k_is)
    (case po => k_is)
    (case sa => k_is)
    (case mk => k_is)
    (case kc => k_is)
    (case nB => k_is)
    (case nT => k_is)
    (case g_RestError => k_is)
    (case x_RestError => k_exc)
    (case e_RestError => k_is)
    (case s_RestError => k_is)
    (case t_RestError => k_is)
    (case h_RestError => k_is)
    (case g_NoBases => k_is)
    (case x_NoBases => k_exc)
    (case e_NoBases => k_is)
    (case s_NoBases => k_is)
    (case t_NoBases => k_is)
    (case h_NoBases => k_is)
    (case g_NoRow => k_is)
    (case x_NoRow => k_exc)
    (case e_NoRow => k_is)
    (case s_NoRow => k_is)
    (case t_NoRow => k_is)
    (case h_NoRow => k_is)
    (case g_NoNumber => k_is)
    (case x_NoNumber => k_exc)
    (case e_NoNumber => k_is)
    (case s_NoNumber => k_is)
    (case t_NoNumber => k_is)
    (case h_NoNumber => k_is)
    (case g_NoTurn => k_is)
    (case x_NoTurn => k_exc)
    (case e_NoTurn => k_is)
    (case s_NoTurn => k_is)
    (case t_NoTurn => k_is)
    (case h_NoTurn => k_is)
    (case u_NoBases_NoBases => k_is)
    (case u_NoBases_RestError => k_is)
    (case u_NoNumber_NoBases => k_is)
    (case u_NoNumber_RestError => k_is)
    (case u_NoRow_NoBases => k_is)
    (case u_NoRow_RestError => k_is)
    (case u_NoTurn_NoBases => k_is)
    (case u_NoTurn_RestError => k_is)
    (case ig_NoBases => k_is)
    (case ik_NoBases => k_is)
    (case ia_NoBases => k_is)
    (case im_NoBases => k_is)
    (case v_NoBases => k_is)
    (case ig_NoNumber => k_is)
    (case ik_NoNumber => k_is)
    (case ia_NoNumber => k_is)
    (case im_NoNumber => k_is)
    (case v_NoNumber => k_is)
    (case ig_NoRow => k_is)
    (case ik_NoRow => k_is)
    (case ia_NoRow => k_is)
    (case im_NoRow => k_is)
    (case v_NoRow => k_is)
    (case ig_NoTurn => k_is)
    (case ik_NoTurn => k_is)
    (case ia_NoTurn => k_is)
    (case im_NoTurn => k_is)
    (case v_NoTurn => k_is)
    (case in_ => k_is)
    (case it_ => k_is)
    (case k_LEAST => k_is)
    (case k_MOST => k_is)
    (case k_FEWEST => k_is)
    (case k_SO_MANY => k_is)
    (case z_ValueError => k_is)
    (case z_isinstance => k_is)
    (case z_len => k_is)
    (case z_list => k_is)
    (case z_range => k_is)
    (case z_sorted => k_is)
    (case z_zip => k_is)
