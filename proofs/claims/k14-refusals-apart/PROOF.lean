import PyProof.Rows.All
import Wide.All
import OpenK.AllK
import Wide.FinOn
import PyProof.EqAt
import PyProof.EqKinds
import PyProof.TupleCall
import HandS.ForMost
import HandS.Exc
import HandS.TryOnly
import HandS.TryMany
import HandS.ExcOwn
import HandS.ExcIs
import HandS.WordsExc
import HandS.IsInst
import HandS.Wide
import HandS.Style
import HandS.Zip
import HandS.Evl
import KE.KDictZip
import KE.KItemsList
import HandS.ListItems
import HandS.ExcCtx
import HandS.HotCalls
import PySem.Challenge.RW_restrow_k14_refusals_apart
set_option Elab.async false
set_option linter.all false
set_option maxRecDepth 100000
set_option maxHeartbeats 4000000
set_option exponentiation.threshold 400
local macro_rules | `(tactic| walk_at "ns") => `(tactic| (try (conv => (arg 4; simp only [L2.start, List.map_cons, List.map_nil, List.cons_append, List.nil_append, List.reduceReplicate, List.length_cons, List.length_nil, Nat.reduceAdd, Nat.reduceSub, List.set_cons_zero, List.set_cons_succ]))))
namespace Rw
/-! ## The mathematics: bases, rows, figures. No program here. -/

/-- two numbers without a common divisor above 1 -/
abbrev Cop (a b : Int) : Prop := Int.gcd a b = 1
theorem Cop.symm {a b : Int} (h : Cop a b) : Cop b a := by
  show Int.gcd b a = 1
  rw [Int.gcd_comm]
  exact h
theorem Cop.mul_right {a b c : Int} (h1 : Cop a b) (h2 : Cop a c) : Cop a (b * c) := by
  show Int.gcd a (b * c) = 1
  rw [Int.gcd_mul_right_right_of_gcd_eq_one h1]
  exact h2
theorem Cop.one_right (a : Int) : Cop a 1 := by
  show Int.gcd a 1 = 1
  simp
theorem Cop.mul_dvd {a b x : Int} (h : Cop a b) (ha : a ∣ x) (hb : b ∣ x) : a * b ∣ x := by
  have h' : Nat.Coprime a.natAbs b.natAbs := h
  have := Nat.Coprime.mul_dvd_of_dvd_of_dvd h' (Int.natAbs_dvd_natAbs.mpr ha) (Int.natAbs_dvd_natAbs.mpr hb)
  rw [← Int.natAbs_mul] at this
  exact Int.natAbs_dvd_natAbs.mp this
theorem Cop.dvd_left {a b c : Int} (h : Cop a b) (hd : c ∣ a) : Cop c b := by
  have h' : Nat.Coprime a.natAbs b.natAbs := h
  exact Nat.Coprime.coprime_dvd_left (Int.natAbs_dvd_natAbs.mpr hd) h'

/-! ### products -/
def prod : List Int → Int
  | [] => 1
  | b :: bs => b * prod bs
theorem prod_append : ∀ (l m : List Int), prod (l ++ m) = prod l * prod m
  | [], m => by simp [prod]
  | a :: l, m => by
    show a * prod (l ++ m) = a * prod l * prod m
    rw [prod_append l m, Int.mul_assoc]
theorem prod_pos : ∀ {l : List Int}, (∀ b ∈ l, 0 < b) → 0 < prod l
  | [], _ => by decide
  | a :: l, h => by
    show 0 < a * prod l
    exact Int.mul_pos (h a List.mem_cons_self) (prod_pos fun b hb => h b (List.mem_cons_of_mem _ hb))
theorem dvd_prod : ∀ {l : List Int} {b : Int}, b ∈ l → b ∣ prod l
  | a :: l, b, h => by
    show b ∣ a * prod l
    rcases List.mem_cons.mp h with h | h
    · rw [h]; exact Int.dvd_mul_right _ _
    · exact Int.dvd_trans (dvd_prod h) (Int.dvd_mul_left _ _)
theorem cop_prod : ∀ {l : List Int} {a : Int}, (∀ b ∈ l, Cop a b) → Cop a (prod l)
  | [], a, _ => Cop.one_right a
  | b :: l, a, h => Cop.mul_right (h b List.mem_cons_self) (cop_prod fun c hc => h c (List.mem_cons_of_mem _ hc))
theorem prod_take_succ {bs : List Int} {k : Nat} {b : Int} (h : bs[k]? = some b) : prod (bs.take (k + 1)) = prod (bs.take k) * b := by
  obtain ⟨hk, e⟩ := List.getElem?_eq_some_iff.mp h
  rw [List.take_succ_eq_append_getElem hk, prod_append, e]
  simp [prod]

/-! ### the chinese remainders -/
abbrev PC (bs : List Int) : Prop := bs.Pairwise Cop
abbrev Pos (bs : List Int) : Prop := ∀ b ∈ bs, 0 < b
/-- x has the rests rs over bs -/
def Has (bs : List Int) (rs : List Int) (x : Int) : Prop := ∀ (k : Nat) (b r : Int), bs[k]? = some b → rs[k]? = some r → x % b = r % b
/-- same rests -/
def Like (bs : List Int) (x y : Int) : Prop := ∀ b ∈ bs, x % b = y % b
theorem mod_eq_iff {x y b : Int} : x % b = y % b ↔ b ∣ x - y := by
  rw [Int.emod_eq_emod_iff_emod_sub_eq_zero, ← Int.dvd_iff_emod_eq_zero]
theorem like_dvd : ∀ {bs : List Int} {x y : Int}, PC bs → Like bs x y → prod bs ∣ x - y
  | [], x, y, _, _ => Int.one_dvd _
  | b :: bs, x, y, pc, h => by
    obtain ⟨h1, h2⟩ := List.pairwise_cons.mp pc
    exact Cop.mul_dvd (cop_prod h1) (mod_eq_iff.mp (h b List.mem_cons_self)) (like_dvd h2 fun c hc => h c (List.mem_cons_of_mem _ hc))
theorem eq_of_dvd {x y m p : Int} (hd : p ∣ x - y) (hm : m ≤ p) (x0 : 0 ≤ x) (x1 : x < m) (y0 : 0 ≤ y) (y1 : y < m) : x = y := by
  have h := mod_eq_iff.mpr hd
  rwa [Int.emod_eq_of_lt x0 (by omega), Int.emod_eq_of_lt y0 (by omega)] at h
theorem like_eq {bs : List Int} {x y m : Int} (pc : PC bs) (h : Like bs x y) (hm : m ≤ prod bs) (x0 : 0 ≤ x) (x1 : x < m) (y0 : 0 ≤ y) (y1 : y < m) : x = y :=
  eq_of_dvd (like_dvd pc h) hm x0 x1 y0 y1
theorem has_like {bs rs : List Int} {x y : Int} (hl : bs.length ≤ rs.length) (hx : Has bs rs x) (hy : Has bs rs y) : Like bs x y := fun b hb => by
  obtain ⟨k, hk⟩ := List.mem_iff_getElem?.mp hb
  have hk' := (List.getElem?_eq_some_iff.mp hk).1
  have hr : rs[k]? = some (rs[k]'(by omega)) := List.getElem?_eq_getElem (by omega)
  rw [hx k b _ hk hr, hy k b _ hk hr]
theorem Like.symm {bs : List Int} {x y : Int} (h : Like bs x y) : Like bs y x := fun b hb => (h b hb).symm
theorem Like.trans {bs : List Int} {x y z : Int} (h : Like bs x y) (h' : Like bs y z) : Like bs x z := fun b hb => (h b hb).trans (h' b hb)

/-! ### turning numbers -/
theorem bez (n m : Nat) : ∃ u v : Int, u * n + v * m = Nat.gcd n m := by
  induction n, m using Nat.gcd.induction with
  | H0 m => exact ⟨0, 1, by simp⟩
  | H1 n m hn ih =>
    obtain ⟨u, v, h⟩ := ih
    refine ⟨v - u * (m / n : Nat), u, ?_⟩
    rw [Nat.gcd_rec, ← h]
    have e : (m : Int) = n * (m / n : Nat) + (m % n : Nat) := by
      have := Nat.div_add_mod m n
      rw [← Int.natCast_mul, ← Int.natCast_add, this]
    generalize ((m / n : Nat) : Int) = q at *
    generalize ((m % n : Nat) : Int) = r at *
    rw [e]
    grind
theorem bezI {a b : Int} (h : Cop a b) : ∃ u v : Int, u * a + v * b = 1 := by
  obtain ⟨u, v, e⟩ := bez a.natAbs b.natAbs
  have e1 : Nat.gcd a.natAbs b.natAbs = 1 := h
  rw [e1] at e
  rcases Int.natAbs_eq a with ha | ha <;> rcases Int.natAbs_eq b with hb | hb
  · exact ⟨u, v, by rw [ha, hb]; exact e⟩
  · exact ⟨u, -v, by rw [ha, hb]; grind⟩
  · exact ⟨-u, v, by rw [ha, hb]; grind⟩
  · exact ⟨-u, -v, by rw [ha, hb]; grind⟩
theorem cop_of_bez {a b u v : Int} (h : u * a + v * b = 1) : Cop a b := by
  show Int.gcd a b = 1
  have h1 : ((Int.gcd a b : Nat) : Int) ∣ 1 := by
    rw [← h]
    exact Int.dvd_add (Int.dvd_mul_of_dvd_right (Int.gcd_dvd_left ..)) (Int.dvd_mul_of_dvd_right (Int.gcd_dvd_right ..))
  have := Int.eq_one_of_dvd_one (Int.natCast_nonneg _) h1
  omega
/-- t turns a over b -/
structure Turns (a b t : Int) : Prop where
  lo : 0 ≤ t
  hi : t < b
  eq : t * a % b = 1 % b
theorem turns_ex {a b : Int} (h : Cop a b) (hb : 0 < b) : ∃ t, Turns a b t := by
  obtain ⟨u, v, e⟩ := bezI h
  refine ⟨u % b, Int.emod_nonneg _ (by omega), Int.emod_lt_of_pos _ hb, ?_⟩
  rw [Int.mul_emod, Int.emod_emod, ← Int.mul_emod]
  have : u * a = 1 + b * (-v) := by grind
  rw [this, Int.add_mul_emod_self_left]
theorem Turns.uniq {a b t s : Int} (h : Turns a b t) (h' : Turns a b s) : t = s := by
  have e : t * a % b = s * a % b := h.eq.trans h'.eq.symm
  have e2 : t * a * t % b = s * a * t % b := by rw [Int.mul_emod, e, ← Int.mul_emod]
  have x1 : t * a * t % b = t % b := by rw [Int.mul_emod, h.eq, ← Int.mul_emod, Int.one_mul]
  have x2 : s * a * t % b = s % b := by
    have : s * a * t = s * (t * a) := by grind
    rw [this, Int.mul_emod, h.eq, ← Int.mul_emod, Int.mul_one]
  rw [x1, x2, Int.emod_eq_of_lt h.lo h.hi, Int.emod_eq_of_lt h'.lo h'.hi] at e2
  exact e2
/-- the step that both the chinese remainders and the figures make -/
theorem turn_step {a b t x r : Int} (h : t * a % b = 1 % b) : (x + a * ((r - x) * t % b)) % b = r % b := by
  have e : (a * ((r - x) * t % b)) % b = (r - x) % b := by
    rw [Int.mul_emod, Int.emod_emod, ← Int.mul_emod]
    have : a * ((r - x) * t) = (r - x) * (t * a) := by grind
    rw [this, Int.mul_emod, h, ← Int.mul_emod, Int.mul_one]
  rw [Int.add_emod, e, ← Int.add_emod]
  congr 1
  omega
theorem crt : ∀ {bs : List Int} (rs : List Int), PC bs → Pos bs → rs.length = bs.length → ∃ x, 0 ≤ x ∧ x < prod bs ∧ Has bs rs x
  | [], rs, _, _, _ => ⟨0, by decide, by decide, fun k b r h => by simp at h⟩
  | b :: bs, [], _, _, h => by simp at h
  | b :: bs, r :: rs, pc, ps, hl => by
    obtain ⟨h1, h2⟩ := List.pairwise_cons.mp pc
    have pos2 : Pos bs := fun c hc => ps c (List.mem_cons_of_mem _ hc)
    have hb : 0 < b := ps b List.mem_cons_self
    obtain ⟨x, x0, x1, hx⟩ := crt rs h2 pos2 (by simpa using hl)
    obtain ⟨t, ht⟩ := turns_ex (cop_prod h1).symm hb
    have pp := prod_pos pos2
    have s0 := Int.emod_nonneg ((r - x) * t) (show b ≠ 0 by omega)
    have s1 := Int.emod_lt_of_pos ((r - x) * t) hb
    refine ⟨x + prod bs * ((r - x) * t % b), ?_, ?_, ?_⟩
    · have := Int.mul_nonneg (Int.le_of_lt pp) s0
      omega
    · have : prod bs * ((r - x) * t % b) ≤ prod bs * (b - 1) := Int.mul_le_mul_of_nonneg_left (by omega) (Int.le_of_lt pp)
      show _ < b * prod bs
      have e : prod bs * (b - 1) = b * prod bs - prod bs := by grind
      omega
    · rintro (_ | k) c s hc hs
      · have e1 : b = c := by simpa using hc
        have e2 : r = s := by simpa using hs
        subst e1 e2
        exact turn_step ht.eq
      · have hc' : bs[k]? = some c := by simpa using hc
        have hs' : rs[k]? = some s := by simpa using hs
        rw [← hx k c s hc' hs']
        obtain ⟨q, hq⟩ := dvd_prod (List.mem_of_getElem? hc')
        rw [hq, Int.mul_assoc, Int.add_mul_emod_self_left]

/-! ### figures -/
def digits : List Int → Int → List Int
  | [], _ => []
  | b :: bs, x => x % b :: digits bs (x / b)
theorem digits_length : ∀ (bs : List Int) (x : Int), (digits bs x).length = bs.length
  | [], _ => rfl
  | b :: bs, x => by show (digits bs (x / b)).length + 1 = bs.length + 1; rw [digits_length bs]
theorem digits_get : ∀ {bs : List Int} {x : Int} {k : Nat} {b : Int}, Pos bs → bs[k]? = some b → (digits bs x)[k]? = some (x / prod (bs.take k) % b)
  | c :: bs, x, 0, b, _, h => by
    have e : c = b := by simpa using h
    subst e
    simp [digits, prod]
  | c :: bs, x, k + 1, b, ps, h => by
    have h' : bs[k]? = some b := by simpa using h
    have ih := digits_get (x := x / c) (fun d hd => ps d (List.mem_cons_of_mem _ hd)) h'
    have hc : 0 < c := ps c List.mem_cons_self
    show (digits bs (x / c))[k]? = some (x / (c * prod (bs.take k)) % b)
    rw [ih, Int.ediv_ediv_of_nonneg (Int.le_of_lt hc)]
theorem digits_range {bs : List Int} {x : Int} {k : Nat} {b d : Int} (ps : Pos bs) (hb : bs[k]? = some b) (hd : (digits bs x)[k]? = some d) : 0 ≤ d ∧ d < b := by
  rw [digits_get ps hb] at hd
  have e := Option.some.inj hd
  have hb' := ps b (List.mem_of_getElem? hb)
  exact ⟨by rw [← e]; exact Int.emod_nonneg _ (by omega), by rw [← e]; exact Int.emod_lt_of_pos _ hb'⟩
theorem digits_drop : ∀ {bs : List Int} (x : Int) (k : Nat), Pos bs → (digits bs x).drop k = digits (bs.drop k) (x / prod (bs.take k))
  | bs, x, 0, _ => by simp [prod]
  | [], x, k + 1, _ => rfl
  | c :: bs, x, k + 1, ps => by
    have hc : 0 < c := ps c List.mem_cons_self
    show (digits bs (x / c)).drop k = digits (bs.drop k) (x / (c * prod (bs.take k)))
    rw [digits_drop (x / c) k (fun d hd => ps d (List.mem_cons_of_mem _ hd)), Int.ediv_ediv_of_nonneg (Int.le_of_lt hc)]
theorem div_step {x p b : Int} (hp : 0 < p) : x / p = x / (p * b) * b + x / p % b := by
  rw [← Int.ediv_ediv_of_nonneg (Int.le_of_lt hp)]
  have := Int.emod_add_ediv_mul (x / p) b
  omega
theorem mod_div_mod {x p b m : Int} (hp : 0 < p) (hm : p * b ∣ m) : x % m / p % b = x / p % b := by
  obtain ⟨q, rfl⟩ := hm
  have e := Int.emod_add_mul_ediv x (p * b * q)
  conv => rhs; rw [← e]
  have : p * b * q * (x / (p * b * q)) = p * (b * (q * (x / (p * b * q)))) := by grind
  rw [this, Int.add_mul_ediv_left _ _ (by omega), Int.add_mul_emod_self_left]
theorem prod_take_dvd {bs : List Int} {i k : Nat} (h : i ≤ k) : prod (bs.take i) ∣ prod (bs.take k) := by
  have : bs.take k = bs.take i ++ (bs.take k).drop i := by
    have := List.take_append_drop i (bs.take k)
    rw [List.take_take, Nat.min_eq_left h] at this
    exact this.symm
  rw [this, prod_append]
  exact Int.dvd_mul_right _ _
theorem pos_take {bs : List Int} (ps : Pos bs) (k : Nat) : Pos (bs.take k) := fun b hb => ps b (List.mem_of_mem_take hb)
/-- Horner's step, as led does it -/
theorem horner {bs : List Int} {x : Int} {i k : Nat} {b m : Int} (ps : Pos bs) (hb : bs[i]? = some b) (hi : i < k) :
    (x % prod (bs.take k) / prod (bs.take (i + 1)) % m * b + x / prod (bs.take i) % b) % m = x % prod (bs.take k) / prod (bs.take i) % m := by
  have hp := prod_pos (pos_take ps i)
  have e := div_step (x := x % prod (bs.take k)) (b := b) hp
  have dv : prod (bs.take i) * b ∣ prod (bs.take k) := by
    rw [← prod_take_succ hb]
    exact prod_take_dvd hi
  rw [mod_div_mod hp dv, ← prod_take_succ hb] at e
  rw [Int.add_emod, Int.mul_emod, Int.emod_emod, ← Int.mul_emod, ← Int.add_emod, ← e]
theorem horner0 {bs : List Int} {x : Int} {k : Nat} {m : Int} (ps : Pos bs) : x % prod (bs.take k) / prod (bs.take k) % m = 0 := by
  have hp := prod_pos (pos_take ps k)
  rw [Int.ediv_eq_zero_of_lt (Int.emod_nonneg _ (by omega)) (Int.emod_lt_of_pos _ hp), Int.zero_emod]
theorem horner_top {bs : List Int} {x : Int} {k : Nat} {m : Int} : x % prod (bs.take k) / prod (bs.take 0) % m = x % prod (bs.take k) % m := by
  simp [prod]
/-- the figure that led appends -/
theorem fig_step {x p b t r : Int} (hp : 0 < p) (hb : 0 < b) (ht : t * p % b = 1 % b) (hr : x % b = r % b) : (r - x % p % b) * t % b = x / p % b := by
  have e := Int.emod_add_mul_ediv x p
  have e1 : (r - x % p % b) % b = (p * (x / p)) % b := by
    have : (r - x % p % b) % b = (x - x % p) % b := by
      rw [Int.sub_emod, ← hr, Int.emod_emod, ← Int.sub_emod]
    rw [this]
    congr 1
    omega
  rw [Int.mul_emod, e1, ← Int.mul_emod]
  have : p * (x / p) * t = x / p * (t * p) := by grind
  rw [this, Int.mul_emod, ht, ← Int.mul_emod, Int.mul_one]
/-- number's Horner -/
theorem numb_step {bs : List Int} {x : Int} {i : Nat} {b : Int} (ps : Pos bs) (hb : bs[i]? = some b) : x / prod (bs.take (i + 1)) * b + x / prod (bs.take i) % b = x / prod (bs.take i) := by
  have hp := prod_pos (pos_take ps i)
  rw [prod_take_succ hb]
  have := div_step (x := x) (b := b) hp
  omega
theorem sum_odd : ∀ {bs : List Int} {x : Int}, (∀ b ∈ bs, 0 < b ∧ b % 2 = 1) → 0 ≤ x → x < prod bs → (digits bs x).sum % 2 = x % 2
  | [], x, _, h0, h1 => by
    have : x = 0 := by have : prod [] = 1 := rfl; omega
    subst this
    rfl
  | b :: bs, x, h, h0, h1 => by
    obtain ⟨hb, ho⟩ := h b List.mem_cons_self
    have h1' : x < b * prod bs := h1
    have ih := sum_odd (bs := bs) (x := x / b) (fun c hc => h c (List.mem_cons_of_mem _ hc)) (Int.ediv_nonneg h0 (Int.le_of_lt hb)) (Int.ediv_lt_of_lt_mul hb (by rw [Int.mul_comm]; exact h1'))
    show (x % b :: digits bs (x / b)).sum % 2 = x % 2
    rw [List.sum_cons]
    have e := Int.emod_add_mul_ediv x b
    have e2 : (b * (x / b)) % 2 = x / b % 2 := by rw [Int.mul_emod, ho, Int.one_mul, Int.emod_emod]
    omega
theorem value_two {g1 g2 y : Int} (h1 : 0 < g1) (h2 : 0 < g2) (y0 : 0 ≤ y) (y1 : y < g1 * g2) : digits [g1, g2] y = [0, 0] ↔ y = 0 := by
  constructor
  · intro h
    have h' : [y % g1, y / g1 % g2] = [0, 0] := h
    have a1 : y % g1 = 0 := by simpa using congrArg (·.head?) h'
    have a2 : y / g1 % g2 = 0 := by
      have := List.cons.inj h'
      have := List.cons.inj this.2
      exact this.1
    have l : y / g1 < g2 := Int.ediv_lt_of_lt_mul h1 (by rw [Int.mul_comm]; exact y1)
    rw [Int.emod_eq_of_lt (Int.ediv_nonneg y0 (Int.le_of_lt h1)) l] at a2
    have e := Int.emod_add_mul_ediv y g1
    rw [a1, a2] at e
    omega
  · intro h
    subst h
    simp [digits]
end Rw

namespace Rw
/-! ## Bases as the board takes them -/
structure Good (bs : List Int) : Prop where
  len3 : 3 ≤ bs.length
  len14 : bs.length ≤ 14
  rng : ∀ b ∈ bs, 3 ≤ b ∧ b ≤ 999999
  odd : ∀ b ∈ bs, b % 2 = 1
  rise : bs.Pairwise (· < ·)
  cop : PC bs
theorem Good.pos {bs : List Int} (g : Good bs) : Pos bs := fun b hb => by have := (g.rng b hb).1; omega
def room (bs : List Int) : Int := prod (bs.take (bs.length - 2))
def rowOf (bs : List Int) (x : Int) : List Int := bs.map (fun b => x % b)
theorem rowOf_length (bs : List Int) (x : Int) : (rowOf bs x).length = bs.length := by simp [rowOf]
theorem rowOf_get {bs : List Int} {x : Int} {k : Nat} {b : Int} (h : bs[k]? = some b) : (rowOf bs x)[k]? = some (x % b) := by simp [rowOf, h]
theorem has_rowOf (bs : List Int) (x : Int) : Has bs (rowOf bs x) x := fun k b r hb hr => by
  rw [rowOf_get hb] at hr
  have e := Option.some.inj hr
  rw [← e, Int.emod_emod]
theorem rowOf_eq_iff {bs : List Int} {x y : Int} : rowOf bs x = rowOf bs y ↔ Like bs x y := by
  unfold rowOf Like
  constructor
  · intro h b hb
    obtain ⟨k, hk⟩ := List.mem_iff_getElem?.mp hb
    have := congrArg (fun l => l[k]?) h
    simp only [List.getElem?_map, hk, Option.map_some] at this
    exact Option.some.inj this
  · intro h
    exact List.map_congr_left h
/-- the two guards -/
theorem Good.guards {bs : List Int} (g : Good bs) : ∃ g1 g2, bs.drop (bs.length - 2) = [g1, g2] ∧ bs[bs.length - 2]? = some g1 ∧ bs[bs.length - 1]? = some g2 ∧ 3 ≤ g1 ∧ 3 ≤ g2 ∧ g1 ∈ bs ∧ g2 ∈ bs := by
  have h3 := g.len3
  have l1 : bs.length - 2 < bs.length := by omega
  have l2 : bs.length - 2 + 1 < bs.length := by omega
  refine ⟨bs[bs.length - 2], bs[bs.length - 1], ?_, by simp [l1], by simp, (g.rng _ (List.getElem_mem _)).1, (g.rng _ (List.getElem_mem _)).1, List.getElem_mem _, List.getElem_mem _⟩
  rw [List.drop_eq_getElem_cons l1, List.drop_eq_getElem_cons l2]
  have e : bs.length - 2 + 1 = bs.length - 1 := by omega
  have e2 : bs.length - 2 + 1 + 1 = bs.length := by omega
  simp only [e2, List.drop_length]
  congr 2
  simp only [e]
theorem Good.room_pos {bs : List Int} (g : Good bs) : 0 < room bs := prod_pos (pos_take g.pos _)
theorem Good.prod_eq {bs : List Int} (g : Good bs) : ∃ g1 g2, bs.drop (bs.length - 2) = [g1, g2] ∧ 3 ≤ g1 ∧ 3 ≤ g2 ∧ bs[bs.length - 2]? = some g1 ∧ bs[bs.length - 1]? = some g2 ∧ prod bs = room bs * (g1 * g2) := by
  obtain ⟨g1, g2, h, k1, k2, p1, p2, _, _⟩ := g.guards
  refine ⟨g1, g2, h, p1, p2, k1, k2, ?_⟩
  have := List.take_append_drop (bs.length - 2) bs
  conv => lhs; rw [← this, prod_append, h]
  simp [prod, room]
theorem Good.room9 {bs : List Int} (g : Good bs) : room bs * 9 ≤ prod bs := by
  obtain ⟨g1, g2, _, p1, p2, _, _, e⟩ := g.prod_eq
  rw [e]
  have hp := g.room_pos
  refine Int.mul_le_mul_of_nonneg_left ?_ (Int.le_of_lt hp)
  have : 3 * 3 ≤ g1 * g2 := Int.mul_le_mul p1 p2 (by decide) (by omega)
  omega
/-- a row tells a number just where the last two figures are 0 -/
theorem Good.tells {bs : List Int} (g : Good bs) {x : Int} (x0 : 0 ≤ x) (x1 : x < prod bs) : (digits bs x).drop (bs.length - 2) = [0, 0] ↔ x < room bs := by
  obtain ⟨g1, g2, h, p1, p2, _, _, e⟩ := g.prod_eq
  have hp := g.room_pos
  rw [digits_drop x _ g.pos, h]
  show digits [g1, g2] (x / room bs) = [0, 0] ↔ _
  rw [value_two (by omega) (by omega) (Int.ediv_nonneg x0 (Int.le_of_lt hp)) (Int.ediv_lt_of_lt_mul hp (by rw [Int.mul_comm, ← e]; exact x1))]
  constructor
  · intro h0
    have := Int.emod_add_mul_ediv x (room bs)
    have l := Int.emod_lt_of_pos x hp
    rw [h0] at this
    omega
  · intro h0
    exact Int.ediv_eq_zero_of_lt x0 h0
theorem Good.crt {bs : List Int} (g : Good bs) {rs : List Int} (h : rs.length = bs.length) : ∃ x, 0 ≤ x ∧ x < prod bs ∧ Has bs rs x := Rw.crt rs g.cop g.pos h

/-! ### one place left out -/
theorem prod_erase : ∀ {bs : List Int} {p : Nat} {b : Int}, bs[p]? = some b → prod (bs.eraseIdx p) * b = prod bs
  | c :: bs, 0, b, h => by
    have e : c = b := by simpa using h
    subst e
    show prod bs * c = c * prod bs
    exact Int.mul_comm _ _
  | c :: bs, p + 1, b, h => by
    have h' : bs[p]? = some b := by simpa using h
    show c * prod (bs.eraseIdx p) * b = c * prod bs
    rw [Int.mul_assoc, prod_erase h']
theorem pos_erase {bs : List Int} (ps : Pos bs) (p : Nat) : Pos (bs.eraseIdx p) := fun b hb => ps b (List.mem_of_mem_eraseIdx hb)
theorem pc_erase {bs : List Int} (h : PC bs) (p : Nat) : PC (bs.eraseIdx p) := List.Pairwise.sublist (List.eraseIdx_sublist ..) h
theorem rise_le {bs : List Int} (h : bs.Pairwise (· < ·)) {i j : Nat} {a b : Int} (hi : bs[i]? = some a) (hj : bs[j]? = some b) (hij : i ≤ j) : a ≤ b := by
  obtain ⟨li, ei⟩ := List.getElem?_eq_some_iff.mp hi
  obtain ⟨lj, ej⟩ := List.getElem?_eq_some_iff.mp hj
  rcases Nat.lt_or_eq_of_le hij with h1 | h1
  · have := List.pairwise_iff_getElem.mp h i j li lj h1
    omega
  · subst h1
    rw [hi] at hj
    have := Option.some.inj hj
    omega
theorem Good.room_erase {bs : List Int} (g : Good bs) (p : Nat) (hp : p < bs.length) : room bs * 3 ≤ prod (bs.eraseIdx p) := by
  obtain ⟨g1, g2, _, p1, p2, k1, k2, e⟩ := g.prod_eq
  have hb : bs[p]? = some bs[p] := List.getElem?_eq_getElem hp
  have e2 := prod_erase hb
  have b3 := (g.rng _ (List.getElem_mem hp)).1
  have le : bs[p] ≤ g2 := rise_le g.rise hb k2 (by omega)
  have pe := prod_pos (pos_erase g.pos p)
  have pr := g.room_pos
  have h1 : prod (bs.eraseIdx p) * bs[p] ≤ prod (bs.eraseIdx p) * g2 := Int.mul_le_mul_of_nonneg_left le (Int.le_of_lt pe)
  rw [e2, e, ← Int.mul_assoc] at h1
  have h2 : room bs * g1 ≤ prod (bs.eraseIdx p) := Int.le_of_mul_le_mul_right h1 (by omega)
  have h3 : room bs * 3 ≤ room bs * g1 := Int.mul_le_mul_of_nonneg_left p1 (Int.le_of_lt pr)
  omega
/-- two numbers of the room whose rests differ at two places at most are one -/
theorem Good.uniq2 {bs : List Int} (g : Good bs) {x y : Int} (x0 : 0 ≤ x) (x1 : x < room bs) (y0 : 0 ≤ y) (y1 : y < room bs) {p q : Nat} (hpq : p < q) (hq : q < bs.length)
    (h : ∀ (k : Nat) (b : Int), bs[k]? = some b → k ≠ p → k ≠ q → x % b = y % b) : x = y := by
  obtain ⟨g1, g2, _, p1, p2, k1, k2, e⟩ := g.prod_eq
  have hb : bs[q]? = some bs[q] := List.getElem?_eq_getElem hq
  have ha : bs[p]? = some (bs[p]'(by omega)) := List.getElem?_eq_getElem (by omega)
  have ha' : (bs.eraseIdx q)[p]? = some (bs[p]'(by omega)) := by rw [List.getElem?_eraseIdx_of_lt hpq]; exact ha
  have e1 := prod_erase hb
  have e2 := prod_erase ha'
  have la : bs[p]'(by omega) ≤ g1 := rise_le g.rise ha k1 (by omega)
  have lb : bs[q] ≤ g2 := rise_le g.rise hb k2 (by omega)
  have a3 := (g.rng _ (List.getElem_mem (show p < bs.length by omega))).1
  have b3 := (g.rng _ (List.getElem_mem hq)).1
  have pe := prod_pos (pos_erase (pos_erase g.pos q) p)
  have pr := g.room_pos
  generalize hC : prod ((bs.eraseIdx q).eraseIdx p) = C at *
  generalize hA : bs[p]'(by omega) = A at *
  generalize hB : bs[q] = B at *
  have hm : room bs ≤ C := by
    have h1 : C * (A * B) = room bs * (g1 * g2) := by rw [← Int.mul_assoc, e2, e1, e]
    have h2 : A * B ≤ g1 * g2 := Int.mul_le_mul la lb (by omega) (by omega)
    have h3 : 0 < A * B := Int.mul_pos (by omega) (by omega)
    have h4 : room bs * (A * B) ≤ room bs * (g1 * g2) := Int.mul_le_mul_of_nonneg_left h2 (Int.le_of_lt pr)
    rw [← h1] at h4
    exact Int.le_of_mul_le_mul_right h4 h3
  refine like_eq (bs := (bs.eraseIdx q).eraseIdx p) (pc_erase (pc_erase g.cop q) p) (fun b hb' => ?_) (by rw [hC]; exact hm) x0 x1 y0 y1
  obtain ⟨i, hi⟩ := List.mem_iff_getElem?.mp hb'
  rw [List.getElem?_eraseIdx, List.getElem?_eraseIdx, List.getElem?_eraseIdx] at hi
  split at hi <;> split at hi
  · exact h i b hi (by omega) (by omega)
  · exact h (i + 1) b hi (by omega) (by omega)
  · exact h (i + 1) b hi (by omega) (by omega)
  · exact h (i + 1 + 1) b hi (by omega) (by omega)
theorem Good.uniq1 {bs : List Int} (g : Good bs) {x y : Int} (x0 : 0 ≤ x) (x1 : x < room bs) (y0 : 0 ≤ y) (y1 : y < room bs) {p : Nat} (hp : p < bs.length)
    (h : ∀ (k : Nat) (b : Int), bs[k]? = some b → k ≠ p → x % b = y % b) : x = y := by
  have h3 := g.len3
  by_cases hq : p + 1 < bs.length
  · exact g.uniq2 x0 x1 y0 y1 (Nat.lt_succ_self p) hq fun k b hb h1 _ => h k b hb h1
  · exact g.uniq2 x0 x1 y0 y1 (p := p - 1) (q := p) (by omega) hp fun k b hb _ h1 => h k b hb h1
theorem Good.uniq0 {bs : List Int} (g : Good bs) {x y : Int} (x0 : 0 ≤ x) (x1 : x < room bs) (y0 : 0 ≤ y) (y1 : y < room bs) (h : Like bs x y) : x = y :=
  g.uniq1 x0 x1 y0 y1 (p := 0) (by have := g.len3; omega) fun _ b hb _ => h b (List.mem_of_getElem? hb)

/-- the least number that has the other rests -/
structure Others (bs rs : List Int) (p : Nat) (y : Int) : Prop where
  lo : 0 ≤ y
  hi : y < prod (bs.eraseIdx p)
  has : ∀ (k : Nat) (b r : Int), k ≠ p → bs[k]? = some b → rs[k]? = some r → y % b = r % b
theorem Good.others {bs : List Int} (g : Good bs) {rs : List Int} (h : rs.length = bs.length) (p : Nat) (hp : p < bs.length) : ∃ y, Others bs rs p y := by
  obtain ⟨y, y0, y1, hy⟩ := Rw.crt (bs := bs.eraseIdx p) (rs.eraseIdx p) (pc_erase g.cop p) (pos_erase g.pos p) (by simp [List.length_eraseIdx, h])
  refine ⟨y, y0, y1, fun k b r hk hb hr => ?_⟩
  by_cases hlt : k < p
  · exact hy k b r (by rw [List.getElem?_eraseIdx_of_lt hlt]; exact hb) (by rw [List.getElem?_eraseIdx_of_lt hlt]; exact hr)
  · obtain ⟨j, rfl⟩ : ∃ j, k = j + 1 := ⟨k - 1, by omega⟩
    exact hy j b r (by rw [List.getElem?_eraseIdx_of_ge (by omega)]; exact hb) (by rw [List.getElem?_eraseIdx_of_ge (by omega)]; exact hr)
/-- a number of the room with the other rests is it -/
theorem Others.is {bs rs : List Int} {p : Nat} {y m : Int} (o : Others bs rs p y) (g : Good bs) (hl : bs.length ≤ rs.length) (hp : p < bs.length) (m0 : 0 ≤ m) (m1 : m < room bs)
    (h : ∀ (k : Nat) (b r : Int), k ≠ p → bs[k]? = some b → rs[k]? = some r → m % b = r % b) : y = m := by
  have hr := g.room_erase p hp
  have pr := g.room_pos
  refine like_eq (pc_erase g.cop p) (fun b hb => ?_) (Int.le_refl _) o.lo o.hi m0 (by omega)
  obtain ⟨i, hi⟩ := List.mem_iff_getElem?.mp hb
  rw [List.getElem?_eraseIdx] at hi
  have key : ∀ k, k ≠ p → bs[k]? = some b → y % b = m % b := fun k hk hb' => by
    have := (List.getElem?_eq_some_iff.mp hb').1
    have hr' : rs[k]? = some (rs[k]'(by omega)) := List.getElem?_eq_getElem (by omega)
    rw [o.has k b _ hk hb' hr', h k b _ hk hb' hr']
  split at hi
  · exact key i (by omega) hi
  · exact key (i + 1) (by omega) hi
/-- with its own rest at the place it has all rests, and is the number of the whole row -/
theorem Others.whole {bs rs : List Int} {p : Nat} {y b : Int} (o : Others bs rs p y) (g : Good bs) (hb : bs[p]? = some b) : y < prod bs ∧ Has bs (rs.set p (y % b)) y := by
  have b3 := (g.rng _ (List.mem_of_getElem? hb)).1
  refine ⟨?_, fun k c r hc hr => ?_⟩
  · have e := prod_erase hb
    have : prod (bs.eraseIdx p) * 1 ≤ prod (bs.eraseIdx p) * b := Int.mul_le_mul_of_nonneg_left (by omega) (by have := o.lo; have := o.hi; omega)
    have := o.hi
    omega
  · by_cases hk : k = p
    · subst hk
      rw [hb] at hc
      have e := Option.some.inj hc
      subst e
      rw [List.getElem?_set] at hr
      simp only [if_true] at hr
      split at hr
      · rw [← Option.some.inj hr, Int.emod_emod]
      · cases hr
    · rw [List.getElem?_set_ne (fun e => hk e.symm)] at hr
      exact o.has k c r hk hc hr
theorem Good.two280 {bs : List Int} (g : Good bs) : ∀ (l : List Int), (∀ b ∈ l, 0 < b ∧ b ≤ 999999) → prod l ≤ 2 ^ (20 * l.length)
  | [], _ => by decide
  | b :: l, h => by
    have ih := g.two280 l fun c hc => h c (List.mem_cons_of_mem _ hc)
    obtain ⟨b0, b1⟩ := h b List.mem_cons_self
    have pp : 0 < prod l := prod_pos fun c hc => (h c (List.mem_cons_of_mem _ hc)).1
    show b * prod l ≤ 2 ^ (20 * (l.length + 1))
    have e : (2 : Int) ^ (20 * (l.length + 1)) = 2 ^ 20 * 2 ^ (20 * l.length) := by rw [← Int.pow_add]; congr 1; omega
    rw [e]
    refine Int.mul_le_mul ?_ ih (Int.le_of_lt pp) (by decide)
    have : (2 : Int) ^ 20 = 1048576 := by decide
    omega
theorem Good.prod_lt {bs : List Int} (g : Good bs) : prod bs < 2 ^ 300 := by
  have h := g.two280 bs fun b hb => ⟨g.pos b hb, (g.rng b hb).2⟩
  have h1 : (2 : Nat) ^ (20 * bs.length) ≤ 2 ^ 280 := Nat.pow_le_pow_right (by decide) (by have := g.len14; omega)
  have h2 : (2 : Nat) ^ 280 < 2 ^ 300 := Nat.pow_lt_pow_right (by decide) (by decide)
  have h3 : (2 : Int) ^ (20 * bs.length) < 2 ^ 300 := by exact_mod_cast Nat.lt_of_le_of_lt h1 h2
  exact Int.lt_of_le_of_lt h h3
theorem Good.room_lt {bs : List Int} (g : Good bs) : room bs < 2 ^ 300 := by
  have := g.prod_lt
  have := g.room9
  have := g.room_pos
  omega
end Rw

namespace Rw
/-! ## Euclid -/
theorem gcd_emod (a b : Int) : Int.gcd a b = Int.gcd b (a % b) := by
  have h1 : Int.gcd a b ∣ Int.gcd b (a % b) := by
    refine Int.dvd_gcd (Int.gcd_dvd_right ..) ?_
    rw [Int.emod_def]
    exact Int.dvd_sub (Int.gcd_dvd_left ..) (Int.dvd_mul_of_dvd_left (Int.gcd_dvd_right ..))
  have h2 : Int.gcd b (a % b) ∣ Int.gcd a b := by
    refine Int.dvd_gcd ?_ (Int.gcd_dvd_left ..)
    have e := Int.emod_add_mul_ediv a b
    have : ((Int.gcd b (a % b) : Nat) : Int) ∣ a % b + b * (a / b) := Int.dvd_add (Int.gcd_dvd_right ..) (Int.dvd_mul_of_dvd_left (Int.gcd_dvd_left ..))
    rwa [e] at this
  exact Nat.dvd_antisymm h1 h2
theorem gcd_zero (a : Int) (h : 0 ≤ a) : (Int.gcd a 0 : Int) = a := by simp; omega
/-- turned's loop -/
structure EG (number base high low ahead behind : Int) : Prop where
  l0 : 0 ≤ low
  lh : low < high
  hb : high ≤ base
  gcd : Int.gcd high low = Int.gcd number base
  c1 : (ahead * number - high) % base = 0
  c2 : (behind * number - low) % base = 0
  sg : ∃ A B : Int, 0 ≤ A ∧ 0 ≤ B ∧ B * high + A * low = base ∧ ((ahead = -A ∧ behind = B) ∨ (ahead = A ∧ behind = -B))
theorem EG.start {number base : Int} (hb : 2 ≤ base) : EG number base base (number % base) 0 1 := by
  have h0 := Int.emod_nonneg number (show base ≠ 0 by omega)
  have h1 := Int.emod_lt_of_pos number (show 0 < base by omega)
  refine ⟨h0, h1, Int.le_refl _, (gcd_emod number base).symm, ?_, ?_, 0, 1, by decide, by decide, by omega, .inl ⟨rfl, rfl⟩⟩
  · rw [Int.zero_mul, Int.zero_sub, Int.neg_emod_self]
  · rw [Int.one_mul, ← Int.dvd_iff_emod_eq_zero]
    have := Int.emod_add_mul_ediv number base
    exact ⟨number / base, by omega⟩
theorem EG.step {number base high low ahead behind : Int} (e : EG number base high low ahead behind) (hl : 0 < low) :
    EG number base low (high - high / low * low) behind (ahead - high / low * behind) := by
  obtain ⟨l0, lh, hb, g, c1, c2, A, B, a0, b0, s, sg⟩ := e
  have em : high - high / low * low = high % low := by
    have := Int.emod_add_ediv_mul high low
    omega
  have m0 : 0 ≤ high / low := Int.ediv_nonneg (by omega) l0
  refine ⟨?_, ?_, by omega, ?_, c2, ?_, B, A + high / low * B, b0, ?_, ?_, ?_⟩
  · rw [em]; exact Int.emod_nonneg _ (by omega)
  · rw [em]; exact Int.emod_lt_of_pos _ hl
  · rw [em, ← gcd_emod, g]
  · rw [← Int.dvd_iff_emod_eq_zero] at c1 c2 ⊢
    have : (ahead - high / low * behind) * number - (high - high / low * low) = (ahead * number - high) - high / low * (behind * number - low) := by grind
    rw [this]
    exact Int.dvd_sub c1 (Int.dvd_mul_of_dvd_right c2)
  · have := Int.mul_nonneg m0 b0
    omega
  · rw [← s]; grind
  · rcases sg with ⟨e1, e2⟩ | ⟨e1, e2⟩
    · right; exact ⟨e2, by rw [e1, e2]; grind⟩
    · left; exact ⟨e2, by rw [e1, e2]; grind⟩
theorem EG.bound {number base high low ahead behind : Int} (e : EG number base high low ahead behind) (hl : 0 < low) : ahead.natAbs ≤ base.natAbs ∧ behind.natAbs ≤ base.natAbs ∧ high.natAbs ≤ base.natAbs ∧ low.natAbs ≤ base.natAbs ∧ (high / low).natAbs ≤ base.natAbs := by
  obtain ⟨l0, lh, hb, g, c1, c2, A, B, a0, b0, s, sg⟩ := e
  have h1 : B * 1 ≤ B * high := Int.mul_le_mul_of_nonneg_left (by omega) b0
  have h2 : A * 1 ≤ A * low := Int.mul_le_mul_of_nonneg_left (by omega) a0
  have h3 := Int.mul_nonneg b0 (show 0 ≤ high by omega)
  have h4 := Int.mul_nonneg a0 l0
  have h5 := Int.ediv_nonneg (show 0 ≤ high by omega) l0
  have h6 := Int.ediv_le_self low (show 0 ≤ high by omega)
  refine ⟨?_, ?_, by omega, by omega, by omega⟩
  · rcases sg with ⟨e1, e2⟩ | ⟨e1, e2⟩ <;> omega
  · rcases sg with ⟨e1, e2⟩ | ⟨e1, e2⟩ <;> omega
theorem EG.end_ {number base high ahead behind : Int} (e : EG number base high 0 ahead behind) : high = 1 ↔ Cop number base := by
  have h := e.gcd
  have h0 := e.lh
  have := gcd_zero high (by omega)
  show high = 1 ↔ Int.gcd number base = 1
  omega
theorem EG.turns {number base ahead behind : Int} (hb : 2 ≤ base) (e : EG number base 1 0 ahead behind) : Turns number base (ahead % base) := by
  refine ⟨Int.emod_nonneg _ (by omega), Int.emod_lt_of_pos _ (by omega), ?_⟩
  rw [Int.mul_emod, Int.emod_emod, ← Int.mul_emod]
  exact mod_eq_iff.mpr (Int.dvd_iff_emod_eq_zero.mpr e.c1)
theorem Turns.pos {a b t : Int} (h : Turns a b t) (hb : 2 ≤ b) : 0 < t := by
  have := h.lo
  have e := h.eq
  rw [Int.emod_eq_of_lt (a := 1) (by decide) (by omega)] at e
  rcases Int.lt_or_eq_of_le this with h | h
  · exact h
  · rw [← h] at e
    simp at e

/-! ## where the other places are -/
/-- the at-th of the places but p -/
def oth (p a : Nat) : Nat := if a < p then a else a + 1
theorem oth_ne (p a : Nat) : oth p a ≠ p := by unfold oth; split <;> omega
theorem oth_lt {p a n : Nat} (h : a < n - 1) (hp : p < n) : oth p a < n := by unfold oth; split <;> omega
theorem erase_oth {α : Type} (l : List α) (p a : Nat) : (l.eraseIdx p)[a]? = l[oth p a]? := by
  rw [List.getElem?_eraseIdx]
  unfold oth
  split <;> rfl
theorem range_but : ∀ {n p : Nat}, p < n → (List.range n).filter (fun i => decide (i ≠ p)) = (List.range n).eraseIdx p
  | n + 1, p, hp => by
    rw [List.range_succ, List.filter_append]
    by_cases e : p = n
    · subst e
      have h1 : (List.range p).filter (fun i => decide (i ≠ p)) = List.range p := List.filter_eq_self.mpr fun a ha => by
        have := List.mem_range.mp ha
        exact decide_eq_true (by omega)
      rw [h1, List.eraseIdx_append_of_length_le (by simp)]
      simp
    · have hlt : p < n := by omega
      rw [range_but hlt, List.eraseIdx_append_of_lt_length (by simpa using hlt)]
      have : ([n] : List Nat).filter (fun i => decide (i ≠ p)) = [n] := by
        simp
        omega
      rw [this]
theorem prod_erase_take {bs : List Int} {p a : Nat} {b : Int} (hb : bs[p]? = some b) : prod ((bs.eraseIdx p).take a) * (if oth p a > p then b else 1) = prod (bs.take (oth p a)) := by
  obtain ⟨hp, _⟩ := List.getElem?_eq_some_iff.mp hb
  unfold oth
  by_cases h : a < p
  · rw [if_pos h, if_neg (by omega), Int.mul_one]
    congr 1
    rw [List.eraseIdx_eq_take_drop_succ, List.take_append_of_le_length (by simp; omega), List.take_take, Nat.min_eq_left (by omega)]
  · rw [if_neg h, if_pos (by omega)]
    have e : (bs.eraseIdx p).take a = (bs.take (a + 1)).eraseIdx p := by
      apply List.ext_getElem?
      intro i
      rw [List.getElem?_eraseIdx]
      by_cases hi : i < a
      · rw [List.getElem?_take_of_lt hi, List.getElem?_eraseIdx]
        split
        · rw [List.getElem?_take_of_lt (by omega)]
        · rw [List.getElem?_take_of_lt (by omega)]
      · rw [List.getElem?_eq_none (by simp; omega)]
        rw [if_neg (by omega), List.getElem?_eq_none (by simp; omega)]
    rw [e, prod_erase]
    rw [List.getElem?_take_of_lt (by omega)]
    exact hb
end Rw
namespace Rw
/- the number that turns a over b -/
open Classical in
noncomputable def inv (a b : Int) : Int := if h : ∃ t, Turns a b t then Classical.choose h else 0
theorem inv_spec {a b : Int} (h : Cop a b) (hb : 0 < b) : Turns a b (inv a b) := by
  have e := turns_ex h hb
  unfold inv
  rw [dif_pos e]
  exact Classical.choose_spec e
theorem inv_eq {a b t : Int} (h : Cop a b) (hb : 0 < b) (ht : Turns a b t) : inv a b = t := (inv_spec h hb).uniq ht
theorem natAbs_lt300 {b : Int} (h0 : 0 ≤ b) (h : b < 2 ^ 300) : b.natAbs < 2 ^ 300 := by
  have e : ((b.natAbs : Nat) : Int) = b := Int.natAbs_of_nonneg h0
  have h2 : ((b.natAbs : Nat) : Int) < ((2 ^ 300 : Nat) : Int) := by
    rw [e]
    exact_mod_cast h
  exact_mod_cast h2
end Rw

namespace Rw
open Classical
/-! ## The number of a row, the turning numbers of a board -/
/- the number whose rests a row has -/
noncomputable def num (bs rs : List Int) : Int := if h : ∃ x, 0 ≤ x ∧ x < prod bs ∧ Has bs rs x then Classical.choose h else 0
theorem num_spec {bs rs : List Int} (g : Good bs) (h : rs.length = bs.length) : 0 ≤ num bs rs ∧ num bs rs < prod bs ∧ Has bs rs (num bs rs) := by
  have e := g.crt h
  unfold num
  rw [dif_pos e]
  exact Classical.choose_spec e
theorem num_eq {bs rs : List Int} {x : Int} (g : Good bs) (h : rs.length = bs.length) (x0 : 0 ≤ x) (x1 : x < prod bs) (hx : Has bs rs x) : num bs rs = x := by
  obtain ⟨n0, n1, hn⟩ := num_spec g h
  exact like_eq g.cop (has_like (by omega) hn hx) (Int.le_refl _) n0 n1 x0 x1
theorem num_row {bs : List Int} {x : Int} (g : Good bs) (x0 : 0 ≤ x) (x1 : x < prod bs) : num bs (rowOf bs x) = x := num_eq g (rowOf_length _ _) x0 x1 (has_rowOf _ _)
theorem num_rowR {bs : List Int} {x : Int} (g : Good bs) (x0 : 0 ≤ x) (x1 : x < room bs) : num bs (rowOf bs x) = x := num_row g x0 (by have := g.room9; have := g.room_pos; omega)
/-- a row over the bases -/
structure IsRow (bs rs : List Int) : Prop where
  len : rs.length = bs.length
  rng : ∀ (k : Nat) (r b : Int), rs[k]? = some r → bs[k]? = some b → 0 ≤ r ∧ r < b
theorem isRow_rowOf {bs : List Int} (g : Good bs) (x : Int) : IsRow bs (rowOf bs x) := ⟨rowOf_length _ _, fun k r b hr hb => by
  rw [rowOf_get hb] at hr
  have e := Option.some.inj hr
  have p := g.pos b (List.mem_of_getElem? hb)
  rw [← e]
  exact ⟨Int.emod_nonneg _ (by omega), Int.emod_lt_of_pos _ p⟩⟩
/-- a row is the row of its number -/
theorem row_num {bs rs : List Int} (g : Good bs) (h : IsRow bs rs) : rowOf bs (num bs rs) = rs := by
  obtain ⟨_, _, hn⟩ := num_spec g h.len
  apply List.ext_getElem?
  intro k
  by_cases hk : k < bs.length
  · have hb : bs[k]? = some bs[k] := List.getElem?_eq_getElem hk
    have hr : rs[k]? = some (rs[k]'(by rw [h.len]; exact hk)) := List.getElem?_eq_getElem (by rw [h.len]; exact hk)
    rw [rowOf_get hb, hr, hn k _ _ hb hr]
    obtain ⟨r0, r1⟩ := h.rng k _ _ hr hb
    rw [Int.emod_eq_of_lt r0 r1]
  · rw [List.getElem?_eq_none (by rw [rowOf_length]; omega), List.getElem?_eq_none (by rw [h.len]; omega)]
theorem is_row_of {bs rs : List Int} {x : Int} (g : Good bs) (h : IsRow bs rs) (hx : num bs rs = x) : rs = rowOf bs x := by rw [← hx, row_num g h]
/-- the turning numbers -/
noncomputable def turnsOf (bs : List Int) : List Int := (List.range bs.length).map fun k => inv (prod (bs.take k)) (bs.getD k 0)
theorem turnsOf_length (bs : List Int) : (turnsOf bs).length = bs.length := by simp [turnsOf]
theorem getD_of {bs : List Int} {k : Nat} {b : Int} (h : bs[k]? = some b) : bs.getD k 0 = b := by rw [List.getD_eq_getElem?_getD, h]; rfl
theorem turnsOf_get {bs : List Int} {k : Nat} {b : Int} (h : bs[k]? = some b) : (turnsOf bs)[k]? = some (inv (prod (bs.take k)) b) := by
  have hk := (List.getElem?_eq_some_iff.mp h).1
  simp only [turnsOf, List.getElem?_map, List.getElem?_range hk, Option.map_some, getD_of h]
theorem Good.copTake {bs : List Int} (g : Good bs) {k : Nat} {b : Int} (h : bs[k]? = some b) : Cop (prod (bs.take k)) b := by
  refine (cop_prod fun c hc => ?_).symm
  obtain ⟨j, hj⟩ := List.mem_iff_getElem?.mp hc
  have hjk : j < k := by
    have := (List.getElem?_eq_some_iff.mp hj).1
    simp at this
    omega
  rw [List.getElem?_take_of_lt hjk] at hj
  obtain ⟨lj, ej⟩ := List.getElem?_eq_some_iff.mp hj
  obtain ⟨lk, ek⟩ := List.getElem?_eq_some_iff.mp h
  have := List.pairwise_iff_getElem.mp g.cop j k lj lk hjk
  rw [ej, ek] at this
  exact this.symm
theorem Good.turns {bs : List Int} (g : Good bs) {k : Nat} {b : Int} (h : bs[k]? = some b) : Turns (prod (bs.take k)) b (inv (prod (bs.take k)) b) := inv_spec (g.copTake h) (g.pos b (List.mem_of_getElem? h))
theorem Good.get3 {bs : List Int} (g : Good bs) {k : Nat} {b : Int} (h : bs[k]? = some b) : 3 ≤ b ∧ b ≤ 999999 ∧ b % 2 = 1 := ⟨(g.rng b (List.mem_of_getElem? h)).1, (g.rng b (List.mem_of_getElem? h)).2, g.odd b (List.mem_of_getElem? h)⟩
/-- the weight's own rest turns as well -/
theorem inv_mod {a b : Int} (h : Cop a b) (hb : 0 < b) : Cop (a % b) b ∧ inv (a % b) b = inv a b := by
  have c : Cop (a % b) b := by
    show Int.gcd (a % b) b = 1
    rw [Int.gcd_comm, ← gcd_emod]
    exact h
  refine ⟨c, inv_eq c hb ⟨(inv_spec h hb).lo, (inv_spec h hb).hi, ?_⟩⟩
  rw [Int.mul_emod, Int.emod_emod, ← Int.mul_emod]
  exact (inv_spec h hb).eq
/-- as need_bases looks -/
theorem good_of {bs : List Int} (h3 : 3 ≤ bs.length) (h14 : bs.length ≤ 14) (hr : ∀ (k : Nat) (b : Int), bs[k]? = some b → 3 ≤ b ∧ b ≤ 999999 ∧ b % 2 = 1)
    (hn : ∀ (k : Nat) (a b : Int), bs[k]? = some a → bs[k + 1]? = some b → a < b) (hc : ∀ (j k : Nat) (a b : Int), j < k → bs[j]? = some a → bs[k]? = some b → Cop a b) : Good bs := by
  refine ⟨h3, h14, fun b hb => ?_, fun b hb => ?_, ?_, ?_⟩
  · obtain ⟨k, hk⟩ := List.mem_iff_getElem?.mp hb
    exact ⟨(hr k b hk).1, (hr k b hk).2.1⟩
  · obtain ⟨k, hk⟩ := List.mem_iff_getElem?.mp hb
    exact (hr k b hk).2.2
  · rw [List.pairwise_iff_getElem]
    intro i j hi hj hij
    have key : ∀ d, ∀ (h : i + 1 + d < bs.length), bs[i] < bs[i + 1 + d] := by
      intro d
      induction d with
      | zero => intro h; exact hn i _ _ (List.getElem?_eq_getElem hi) (List.getElem?_eq_getElem h)
      | succ d ih =>
        intro h
        have h1 := ih (by omega)
        have h2 := hn (i + 1 + d) _ _ (List.getElem?_eq_getElem (by omega)) (List.getElem?_eq_getElem h)
        have h2' : bs[i + 1 + d]'(by omega) < bs[i + 1 + (d + 1)] := h2
        omega
    have e : i + 1 + (j - i - 1) = j := by omega
    have := key (j - i - 1) (by omega)
    simp only [e] at this
    exact this
  · rw [show PC bs ↔ bs.Pairwise Cop from Iff.rfl, List.pairwise_iff_getElem]
    intro i j hi hj hij
    exact hc i j _ _ hij (List.getElem?_eq_getElem hi) (List.getElem?_eq_getElem hj)
theorem Good.next {bs : List Int} (g : Good bs) {k : Nat} {a b : Int} (ha : bs[k]? = some a) (hb : bs[k + 1]? = some b) : a < b := by
  obtain ⟨li, ei⟩ := List.getElem?_eq_some_iff.mp ha
  obtain ⟨lj, ej⟩ := List.getElem?_eq_some_iff.mp hb
  have := List.pairwise_iff_getElem.mp g.rise k (k + 1) li lj (by omega)
  rw [ei, ej] at this
  exact this
theorem Good.cop2 {bs : List Int} (g : Good bs) {j k : Nat} {a b : Int} (hjk : j < k) (ha : bs[j]? = some a) (hb : bs[k]? = some b) : Cop a b := by
  obtain ⟨li, ei⟩ := List.getElem?_eq_some_iff.mp ha
  obtain ⟨lj, ej⟩ := List.getElem?_eq_some_iff.mp hb
  have := List.pairwise_iff_getElem.mp g.cop j k li lj hjk
  rw [ei, ej] at this
  exact this
/-- the least number with the other rests -/
noncomputable def onum (bs rs : List Int) (p : Nat) : Int := if h : ∃ y, Others bs rs p y then Classical.choose h else 0
theorem onum_spec {bs rs : List Int} {p : Nat} (g : Good bs) (h : rs.length = bs.length) (hp : p < bs.length) : Others bs rs p (onum bs rs p) := by
  have e := g.others h p hp
  unfold onum
  rw [dif_pos e]
  exact Classical.choose_spec e
end Rw
namespace Rw
/-! ## Sums, halves -/
theorem prod_like {bs : List Int} (x : Int) : Like bs (x % prod bs) x := fun b hb => Int.emod_emod_of_dvd x (dvd_prod hb)
theorem num_rowOf {bs : List Int} (g : Good bs) (x : Int) : num bs (rowOf bs x) = x % prod bs := by
  have pp := prod_pos g.pos
  rw [← rowOf_eq_iff.mpr (prod_like (bs := bs) x)]
  exact num_row g (Int.emod_nonneg _ (by omega)) (Int.emod_lt_of_pos _ pp)
theorem sum_row {bs : List Int} {x y : Int} {k : Nat} {b : Int} (_hb : bs[k]? = some b) : (x % b + y % b) % b = (x + y) % b := (Int.add_emod x y b).symm
theorem sub_row {x y b : Int} : (x % b - y % b) % b = (x - y) % b := (Int.sub_emod x y b).symm
theorem num_sum {bs : List Int} (g : Good bs) {x y : Int} (x0 : 0 ≤ x) (x1 : x < room bs) (y0 : 0 ≤ y) (y1 : y < room bs) : num bs (rowOf bs (x + y)) = x + y := by
  have := g.room9
  rw [num_rowOf g, Int.emod_eq_of_lt (by omega) (by omega)]
theorem num_sub {bs : List Int} (g : Good bs) {x y : Int} (x0 : 0 ≤ x) (x1 : x < room bs) (y0 : 0 ≤ y) (y1 : y < room bs) : (0 ≤ x - y ∧ num bs (rowOf bs (x - y)) = x - y) ∨ (x - y < 0 ∧ room bs ≤ num bs (rowOf bs (x - y))) := by
  have h9 := g.room9
  rw [num_rowOf g]
  by_cases h : 0 ≤ x - y
  · exact .inl ⟨h, Int.emod_eq_of_lt h (by omega)⟩
  · refine .inr ⟨by omega, ?_⟩
    have e : (x - y) % prod bs = x - y + prod bs := by
      rw [← Int.add_emod_right, Int.emod_eq_of_lt (by omega) (by omega)]
    omega
theorem cop_two {b : Int} (h : b % 2 = 1) : Cop 2 b := by
  show Int.gcd 2 b = 1
  rw [Int.gcd_comm, gcd_emod, h]
  decide
theorem half_step {x r b : Int} (h3 : 3 ≤ b) (ho : b % 2 = 1) (hr : x % b = r % b) : (r - x % 2) * inv 2 b % b = x / 2 % b := by
  have t := inv_spec (cop_two ho) (show 0 < b by omega)
  have e := fig_step (x := x) (p := 2) (b := b) (t := inv 2 b) (r := r) (by decide) (by omega) t.eq hr
  have m0 := Int.emod_nonneg x (show (2 : Int) ≠ 0 by decide)
  have m1 := Int.emod_lt_of_pos x (show (0 : Int) < 2 by decide)
  rw [Int.emod_eq_of_lt m0 (by omega)] at e
  exact e
theorem num_get {bs rs : List Int} (g : Good bs) (hl : rs.length = bs.length) {k : Nat} {b r : Int} (hb : bs[k]? = some b) (hr : rs[k]? = some r) : num bs rs % b = r % b := (num_spec g hl).2.2 k b r hb hr
theorem Good.oddpos {bs : List Int} (g : Good bs) : ∀ b ∈ bs, 0 < b ∧ b % 2 = 1 := fun b hb => ⟨g.pos b hb, g.odd b hb⟩
/-! ## what the others tell -/
/-- the turning number of the at-th of the other places -/
theorem oturn {bs : List Int} (g : Good bs) {p a : Nat} {b c : Int} (hp : bs[p]? = some b) (hc : bs[oth p a]? = some c) :
    (if oth p a > p then inv (prod (bs.take (oth p a))) c * b % c else inv (prod (bs.take (oth p a))) c) * prod ((bs.eraseIdx p).take a) % c = 1 % c := by
  have e := prod_erase_take (a := a) hp
  have t := (g.turns hc).eq
  by_cases h : oth p a > p
  · rw [if_pos h] at e ⊢
    rw [Int.mul_emod, Int.emod_emod, ← Int.mul_emod]
    rw [← e] at t
    have e2 : inv (prod ((bs.eraseIdx p).take a) * b) c * b * prod ((bs.eraseIdx p).take a) = inv (prod ((bs.eraseIdx p).take a) * b) c * (prod ((bs.eraseIdx p).take a) * b) := by
      rw [Int.mul_assoc, Int.mul_comm b]
    rw [← e, e2, t]
  · rw [if_neg h, Int.mul_one] at e
    rw [if_neg h, ← e]
    rw [← e] at t
    exact t
end Rw

namespace Rw
/-! ## The bases that the laws build -/
structure Cfg (N : Int) (ps es : List Int) : Prop where
  pcop : PC ps
  podd : ∀ p ∈ ps, p % 2 = 1 ∧ 3 ≤ p ∧ p ≤ 13 ∧ p ∣ N
  ecop : ∀ e ∈ es, Cop e N ∧ e % 2 = 1 ∧ 3 ≤ e ∧ e ≤ 47
  ediff : es.Pairwise fun a b => (b - a) ∣ N ^ 5
  even : (2 : Int) ∣ N
  plen : ps.length ≤ 5
  elen : 3 ≤ es.length ∧ es.length ≤ 9
  len : ps.length + es.length ≤ 14
theorem cfg1 : Cfg 30030 [3, 5, 7, 11, 13] [17, 19, 23, 29, 31, 37, 41, 43, 47] := ⟨by decide +kernel, by decide +kernel, by decide +kernel, by decide +kernel, by decide +kernel, by decide, by decide, by decide⟩
theorem cfg2 : Cfg 2310 [3, 5, 7, 11] [13, 17, 19, 23, 29, 31] := ⟨by decide +kernel, by decide +kernel, by decide +kernel, by decide +kernel, by decide +kernel, by decide, by decide, by decide⟩
theorem Cop.mul_left {a b c : Int} (h1 : Cop a c) (h2 : Cop b c) : Cop (a * b) c := (Cop.mul_right h1.symm h2.symm).symm
theorem Cop.dvd_right {a b c : Int} (h : Cop a b) (hd : c ∣ b) : Cop a c := (h.symm.dvd_left hd).symm
theorem Cop.pow_right {a b : Int} (h : Cop a b) : ∀ n : Nat, Cop a (b ^ n)
  | 0 => by rw [Int.pow_zero]; exact Cop.one_right a
  | n + 1 => by rw [Int.pow_succ]; exact Cop.mul_right (h.pow_right n) h
theorem Cop.shift {a b : Int} (h : Cop a (b - a)) : Cop a b := by
  obtain ⟨u, v, e⟩ := bezI h
  refine cop_of_bez (u := u - v) (v := v) ?_
  rw [← e]
  grind
theorem odd_mul {a b : Int} (ha : a % 2 = 1) (hb : b % 2 = 1) : a * b % 2 = 1 := by
  rw [Int.mul_emod, ha, hb]
  decide
/-- behind i of the primes -/
structure InvA (N : Int) (ps : List Int) (i : Nat) (some : List Int) : Prop where
  el : ∀ x ∈ some, x % 2 = 1 ∧ 3 ≤ x ∧ x ≤ 2197 ∧ (∀ y, Cop y N → Cop y x) ∧ ∀ j p, i ≤ j → ps[j]? = .some p → Cop x p
  pc : PC some
  len : some.length ≤ i
theorem InvA.start (N : Int) (ps : List Int) : InvA N ps 0 [] := ⟨fun x h => by simp at h, List.Pairwise.nil, Nat.le_refl _⟩
theorem InvA.skip {N : Int} {ps : List Int} {i : Nat} {some : List Int} (h : InvA N ps i some) : InvA N ps (i + 1) some :=
  ⟨fun x hx => ⟨(h.el x hx).1, (h.el x hx).2.1, (h.el x hx).2.2.1, (h.el x hx).2.2.2.1, fun j p hj hp => (h.el x hx).2.2.2.2 j p (by omega) hp⟩, h.pc, Nat.le_succ_of_le h.len⟩
theorem pc_append {l : List Int} {x : Int} (h : PC l) (hx : ∀ y ∈ l, Cop y x) : PC (l ++ [x]) := by
  show (l ++ [x]).Pairwise Cop
  rw [List.pairwise_append]
  refine ⟨h, List.pairwise_singleton _ _, fun a ha b hb => ?_⟩
  have : b = x := by simpa using hb
  rw [this]
  exact hx a ha
theorem InvA.add {N : Int} {ps es : List Int} {i : Nat} {some : List Int} {p m : Int} (h : InvA N ps i some) (c : Cfg N ps es) (hp : ps[i]? = .some p) (hm : m = 1 ∨ m = p ∨ m = p * p) : InvA N ps (i + 1) (some ++ [p * m]) := by
  obtain ⟨po, p3, p13, pd⟩ := c.podd p (List.mem_of_getElem? hp)
  have cy : ∀ y, Cop y p → Cop y (p * m) := fun y hy => by
    rcases hm with hm | hm | hm <;> rw [hm]
    · rw [Int.mul_one]; exact hy
    · exact hy.mul_right hy
    · exact hy.mul_right (hy.mul_right hy)
  have bnd : 3 ≤ p * m ∧ p * m ≤ 2197 := by
    rcases hm with hm | hm | hm <;> rw [hm]
    · omega
    · have h1 : 3 * 3 ≤ p * p := Int.mul_le_mul p3 p3 (by decide) (by omega)
      have h2 : p * p ≤ 13 * 13 := Int.mul_le_mul p13 p13 (by omega) (by decide)
      omega
    · have h1 : 3 * 3 ≤ p * p := Int.mul_le_mul p3 p3 (by decide) (by omega)
      have h2 : p * p ≤ 13 * 13 := Int.mul_le_mul p13 p13 (by omega) (by decide)
      have h3 : 3 * 9 ≤ p * (p * p) := Int.mul_le_mul p3 (by omega) (by decide) (by omega)
      have h4 : p * (p * p) ≤ 13 * 169 := Int.mul_le_mul p13 (by omega) (by omega) (by decide)
      omega
  have od : p * m % 2 = 1 := by
    rcases hm with hm | hm | hm <;> rw [hm]
    · rw [Int.mul_one]; exact po
    · exact odd_mul po po
    · exact odd_mul po (odd_mul po po)
  refine ⟨fun x hx => ?_, pc_append h.pc fun y hy => cy y ((h.el y hy).2.2.2.2 i p (Nat.le_refl _) hp), by rw [List.length_append]; have := h.len; simp; omega⟩
  rcases List.mem_append.mp hx with hx | hx
  · exact ⟨(h.el x hx).1, (h.el x hx).2.1, (h.el x hx).2.2.1, (h.el x hx).2.2.2.1, fun j q hj hq => (h.el x hx).2.2.2.2 j q (by omega) hq⟩
  · have ex : x = p * m := by simpa using hx
    subst ex
    refine ⟨od, bnd.1, bnd.2, fun y hy => cy y (hy.dvd_right pd), fun j q hj hq => ?_⟩
    have : Cop p q := by
      obtain ⟨li, ei⟩ := List.getElem?_eq_some_iff.mp hp
      obtain ⟨lj, ej⟩ := List.getElem?_eq_some_iff.mp hq
      have := List.pairwise_iff_getElem.mp c.pcop i j li lj (by omega)
      rw [ei, ej] at this
      exact this
    exact (cy q this.symm).symm
/-- behind the primes, two of them as one or not -/
structure InvB (N : Int) (n : Nat) (some : List Int) : Prop where
  el : ∀ x ∈ some, x % 2 = 1 ∧ 3 ≤ x ∧ x ≤ 999999 ∧ ∀ y, Cop y N → Cop y x
  pc : PC some
  len : some.length ≤ n
theorem InvA.toB {N : Int} {ps : List Int} {some : List Int} (h : InvA N ps ps.length some) : InvB N ps.length some :=
  ⟨fun x hx => ⟨(h.el x hx).1, (h.el x hx).2.1, by have := (h.el x hx).2.2.1; omega, (h.el x hx).2.2.2.1⟩, h.pc, h.len⟩
theorem InvB.merge {N : Int} {n : Nat} {a b : Int} {r : List Int} (h : InvB N n (a :: b :: r)) (hl : a * b < 900000) : InvB N n (a * b :: r) := by
  obtain ⟨ha, ha3, _, hac⟩ := h.el a List.mem_cons_self
  obtain ⟨hb, hb3, _, hbc⟩ := h.el b (List.mem_cons_of_mem _ List.mem_cons_self)
  obtain ⟨p1, p2⟩ := List.pairwise_cons.mp h.pc
  obtain ⟨p3, p4⟩ := List.pairwise_cons.mp p2
  refine ⟨fun x hx => ?_, List.pairwise_cons.mpr ⟨fun y hy => Cop.mul_left (p1 y (List.mem_cons_of_mem _ hy)) (p3 y hy), p4⟩, by have := h.len; simp at this ⊢; omega⟩
  rcases List.mem_cons.mp hx with hx | hx
  · subst hx
    have : 3 * 3 ≤ a * b := Int.mul_le_mul ha3 hb3 (by decide) (by omega)
    exact ⟨odd_mul ha hb, by omega, by omega, fun y hy => (hac y hy).mul_right (hbc y hy)⟩
  · exact h.el x (List.mem_cons_of_mem _ (List.mem_cons_of_mem _ hx))
/-- behind k of the ends -/
structure InvC (far : Int) (es : List Int) (n k : Nat) (some : List Int) : Prop where
  el : ∀ x ∈ some, x % 2 = 1 ∧ 3 ≤ x ∧ x ≤ 999999 ∧ ∀ j e, k ≤ j → es[j]? = .some e → Cop x (far + e)
  pc : PC some
  len : some.length ≤ n + k
  low : 3 ≤ some.length + (es.length - k)
/-- how far the ends lie -/
def Far (N far : Int) : Prop := N ∣ far ∧ 0 ≤ far ∧ far ≤ 990990
theorem far_cop {N far e : Int} (h : N ∣ far) (he : Cop e N) : Cop (far + e) N := by
  obtain ⟨t, rfl⟩ := h
  obtain ⟨u, v, q⟩ := bezI he
  refine cop_of_bez (u := u) (v := v - u * t) ?_
  rw [← q]
  grind
theorem InvB.toC {N far : Int} {ps es : List Int} {some : List Int} (h : InvB N ps.length some) (c : Cfg N ps es) (hf : Far N far) : InvC far es ps.length 0 some :=
  ⟨fun x hx => ⟨(h.el x hx).1, (h.el x hx).2.1, (h.el x hx).2.2.1, fun j e _ he => ((h.el x hx).2.2.2 _ (far_cop hf.1 (c.ecop e (List.mem_of_getElem? he)).1)).symm⟩, h.pc, by have := h.len; omega, by have := c.elen; omega⟩
theorem InvC.skip {far : Int} {es : List Int} {n k : Nat} {some : List Int} (h : InvC far es n k some) (hk : k < es.length) (hl : ¬ (some.length : Int) + es.length - k ≤ 3) : InvC far es n (k + 1) some :=
  ⟨fun x hx => ⟨(h.el x hx).1, (h.el x hx).2.1, (h.el x hx).2.2.1, fun j e hj he => (h.el x hx).2.2.2 j e (by omega) he⟩, h.pc, by have := h.len; omega, by omega⟩
theorem InvC.add {N far e : Int} {ps es : List Int} {n k : Nat} {some : List Int} (h : InvC far es n k some) (c : Cfg N ps es) (hf : Far N far) (he : es[k]? = .some e) : InvC far es n (k + 1) (some ++ [far + e]) := by
  obtain ⟨ec, eo, e3, e47⟩ := c.ecop e (List.mem_of_getElem? he)
  obtain ⟨f1, f2, f3⟩ := hf
  have f2' : far % 2 = 0 := by
    have := Int.dvd_trans c.even f1
    omega
  refine ⟨fun x hx => ?_, pc_append h.pc fun y hy => (h.el y hy).2.2.2 k e (Nat.le_refl _) he, by rw [List.length_append]; have := h.len; simp; omega, by rw [List.length_append]; have := h.low; simp; omega⟩
  rcases List.mem_append.mp hx with hx | hx
  · exact ⟨(h.el x hx).1, (h.el x hx).2.1, (h.el x hx).2.2.1, fun j e' hj he' => (h.el x hx).2.2.2 j e' (by omega) he'⟩
  · have ex : x = far + e := by simpa using hx
    subst ex
    refine ⟨by omega, by omega, by omega, fun j e' hj he' => Cop.shift ?_⟩
    have d : (e' - e) ∣ N ^ 5 := by
      obtain ⟨li, ei⟩ := List.getElem?_eq_some_iff.mp he
      obtain ⟨lj, ej⟩ := List.getElem?_eq_some_iff.mp he'
      have := List.pairwise_iff_getElem.mp c.ediff k j li lj (by omega)
      rw [ei, ej] at this
      exact this
    have e1 : far + e' - (far + e) = e' - e := by omega
    rw [e1]
    exact ((far_cop f1 ec).pow_right 5).dvd_right d
theorem InvC.good {far : Int} {es ps : List Int} {N : Int} {some srt : List Int} (h : InvC far es ps.length es.length some) (c : Cfg N ps es) (hp : srt.Perm some) (hs : srt.Pairwise (· ≤ ·)) : Good srt := by
  have hl := hp.length_eq
  have hm : ∀ x ∈ srt, x ∈ some := fun x hx => hp.mem_iff.mp hx
  have pc : PC srt := (hp.pairwise_iff (fun {a b} (z : Cop a b) => z.symm)).mpr h.pc
  refine ⟨by have := h.low; omega, by have := h.len; have := c.len; omega, fun b hb => ⟨(h.el b (hm b hb)).2.1, (h.el b (hm b hb)).2.2.1⟩, fun b hb => (h.el b (hm b hb)).1, ?_, pc⟩
  rw [List.pairwise_iff_getElem]
  intro i j hi hj hij
  have h1 := List.pairwise_iff_getElem.mp hs i j hi hj hij
  have h2 := List.pairwise_iff_getElem.mp pc i j hi hj hij
  rcases Int.lt_or_eq_of_le h1 with h3 | h3
  · exact h3
  · rw [h3] at h2
    have h4 : Int.gcd srt[j] srt[j] = 1 := h2
    have h5 := (h.el srt[j] (hm _ (List.getElem_mem hj))).2.1
    simp at h4
    omega
end Rw

namespace Rk
open PySem PySem.Spec PyProof.Rows L2 Evl
/-! ## The layer: what a reading comes to -/
/-- P tells of the heap ahead, the value and the heap behind -/
def EvG (te : TE) (σ : L2.St) (H : Hp) (P : Hp → V → Hp → Prop) : Prop := ∀ H1, Ex H H1 → ∀ Q : VK, (∀ v H2, Ex H1 H2 → P H1 v H2 → Q v H2) → te σ H1 Q
def SpG (sp : Sp) (vs : List V) (H : Hp) (P : Hp → V → Hp → Prop) : Prop := ∀ H1, Ex H H1 → ∀ Q : VK, (∀ v H2, Ex H1 H2 → P H1 v H2 → Q v H2) → ∀ E : XK, sp vs H1 Q E
/-- it goes out by an exception that is wished -/
def Dv (te : TE) (σ : L2.St) (H : Hp) : Prop := ∀ H1, Ex H H1 → ∀ Q : VK, te σ H1 Q
def SpD (sp : Sp) (vs : List V) (H : Hp) (E : XK) : Prop := ∀ H1, Ex H H1 → ∀ Q : VK, sp vs H1 Q E
section
variable {P : Program} {w : World} {K : PySem.W.Frag} {mg : Str → Option Value} {base : Heap} {N : List Str} {qual : Str} {scope : Scope} {f : Addr} {cd : Value} {A : Around} {outer : List Env} {s : Shared} {H : Hp} {E : XK}
theorem hk : Takes (cxOf (L2.CX P w) P w K mg base N qual scope f cd A outer s H E) (fun cls d _ H' => E cls d H') := takes_of rfl rfl rfl rfl
theorem hx : Passes (L2.CX P w) (cxOf (L2.CX P w) P w K mg base N qual scope f cd A outer s H E) E := passes_call hk fun _ _ _ _ h => h
end
section
variable {K : PySem.W.Frag} {σ : L2.St} {H H' : Hp} {ta tb te tx : TE} {t u : TT} {x y z v : V} {r : R2} {D : Ends} {tz tu tw : TS}
theorem Dv.mono (e : Ex H H') (h : Dv te σ H) : Dv te σ H' := fun H1 a Q => h H1 (e.trans a) Q
theorem dv_op1 (h : Dv ta σ H) : Dv (tOp r ta tb) σ H := fun H1 e Q => h H1 e _
theorem q_dv (h : Dv te σ H) : tSeq (tDrop te) tz D σ H := h H (Ex.refl H) _
theorem q_dvA {i : Nat} (h : Dv te σ H) : tSeq (tAsg te (gName i)) tz D σ H := h H (Ex.refl H) _
theorem s_dvA {i : Nat} (h : Dv te σ H) : tAsg te (gName i) D σ H := h H (Ex.refl H) _
theorem s_dvR (h : Dv te σ H) : tRet te D σ H := h H (Ex.refl H) _
theorem dv_call {sp : Sp} {vs : List V} {E : XK} {tA : TA} (h : EvA tA σ H vs) (hs : SpD sp vs H E) : Dv (tCall sp [] E tA) σ H := fun H1 e Q =>
  h H1 e _ fun H2 e2 => by
    show sp (vs ++ []) H2 Q E
    rw [List.append_nil]
    exact hs H2 (e.trans e2) Q
theorem dv_meth {C a dx : Addr} {m : Str} {fs : List (Str × V)} {sp : Sp} {vs : List V} {E : XK} {tA : TA} (ho : Ev ta σ H (.ref a)) (hi : H a = some (.ins C dx fs)) (hl : fs.lookup m = none) (h : EvA tA σ H vs) (hs : SpD sp (.ref a :: vs) H E) :
    Dv (tMeth C m sp [] E ta tA) σ H := fun H1 e Q => ho H1 e _ fun H2 e2 => ⟨a, dx, fs, rfl, e2 _ _ (e _ _ hi), hl, h H2 (e.trans e2) _ fun H3 e3 => by
    show sp (.ref a :: (vs ++ [])) H3 Q E
    rw [List.append_nil]
    exact hs H3 ((e.trans e2).trans e3) Q⟩
theorem ev_call0 {sp : Sp} {vs : List V} {E : XK} {tA : TA} (h : EvA tA σ H vs) (hs : SpV sp vs H z) : Ev (tCall sp [] E tA) σ H z := ev_call h (by rw [List.append_nil]; exact hs)
theorem el_call0 {sp : Sp} {vs xs : List V} {E : XK} {tA : TA} (h : EvA tA σ H vs) (hs : SpL sp vs H xs) : EvL (tCall sp [] E tA) σ H xs := el_call h (by rw [List.append_nil]; exact hs)
theorem eg_call {sp : Sp} {vs : List V} {E : XK} {tA : TA} {R : Hp → V → Hp → Prop} (hR : ∀ H0 H1 v H2, Ex H0 H1 → R H1 v H2 → R H0 v H2) (h : EvA tA σ H vs) (hs : SpG sp vs H R) : EvG (tCall sp [] E tA) σ H R := fun H1 e Q q =>
  h H1 e _ fun H2 e2 => by
    show sp (vs ++ []) H2 Q E
    rw [List.append_nil]
    exact hs H2 (e.trans e2) Q (fun v H3 e3 p => q v H3 (e2.trans e3) (hR _ _ _ _ e2 p)) E
theorem ev_meth {C a dx : Addr} {m : Str} {fs : List (Str × V)} {sp : Sp} {vs : List V} {E : XK} {tA : TA} (ho : Ev ta σ H (.ref a)) (hi : H a = some (.ins C dx fs)) (hl : fs.lookup m = none) (h : EvA tA σ H vs) (hs : SpV sp (.ref a :: vs) H z) :
    Ev (tMeth C m sp [] E ta tA) σ H z := fun H1 e Q q => ho H1 e _ fun H2 e2 => ⟨a, dx, fs, rfl, e2 _ _ (e _ _ hi), hl, h H2 (e.trans e2) _ fun H3 e3 => by
    show sp (.ref a :: (vs ++ [])) H3 Q E
    rw [List.append_nil]
    exact hs H3 ((e.trans e2).trans e3) Q (fun H4 e4 => q H4 ((e2.trans e3).trans e4)) E⟩
theorem el_meth {C a dx : Addr} {m : Str} {fs : List (Str × V)} {sp : Sp} {vs xs : List V} {E : XK} {tA : TA} (ho : Ev ta σ H (.ref a)) (hi : H a = some (.ins C dx fs)) (hl : fs.lookup m = none) (h : EvA tA σ H vs) (hs : SpL sp (.ref a :: vs) H xs) :
    EvL (tMeth C m sp [] E ta tA) σ H xs := fun H1 e Q q => ho H1 e _ fun H2 e2 => ⟨a, dx, fs, rfl, e2 _ _ (e _ _ hi), hl, h H2 (e.trans e2) _ fun H3 e3 => by
    show sp (.ref a :: (vs ++ [])) H3 Q E
    rw [List.append_nil]
    exact hs H3 ((e.trans e2).trans e3) Q (fun p H4 hp e4 h4 => q p H4 (fresh_back (e2.trans e3) hp) ((e2.trans e3).trans e4) h4) E⟩
theorem ev_fld {a C dx : Addr} {fs : List (Str × V)} {f : Str} (h : Ev ta σ H (.ref a)) (ho : H a = some (.ins C dx fs)) (hc : Cls K C) (hn : NoAttr K C f) (hl : fs.lookup f = some v) : Ev (tFld K ta f) σ H v := fun H1 e Q q =>
  h H1 e _ fun H2 e2 => ⟨a, C, dx, fs, v, rfl, e2 _ _ (e _ _ ho), hc, hn, hl, q H2 e2⟩
theorem rc_abs {i : Int} : RC (fun xs H Q => ∃ i, xs = [V.int i] ∧ Q (V.int (if i < 0 then -i else i)) H) [.int i] H (.int (if i < 0 then -i else i)) := fun H1 _ _ q => ⟨i, rfl, q H1 (Ex.refl H1)⟩
theorem rc_min {i j : Int} : RC (fun xs H Q => ∃ i j, xs = [V.int i, V.int j] ∧ Q (V.int (if j < i then j else i)) H) [.int i, .int j] H (.int (if j < i then j else i)) := fun H1 _ _ q => ⟨i, j, rfl, q H1 (Ex.refl H1)⟩
theorem rc_max {i j : Int} : RC (fun xs H Q => ∃ i j, xs = [V.int i, V.int j] ∧ Q (V.int (if j > i then j else i)) H) [.int i, .int j] H (.int (if j > i then j else i)) := fun H1 _ _ q => ⟨i, j, rfl, q H1 (Ex.refl H1)⟩
theorem rc_isi {c : V} {cv t : Value} {b : Bool} (hc : ClsV c cv) (ht : ∀ H1, Ex H H1 → TyX K H1 x t) (hk : PySem.W.kitOne K t cv = some b) : RC (rIsi K) [x, c] H (.bl b) := fun H1 e _ q => ⟨x, c, t, cv, b, rfl, hc, ht H1 e, hk, q H1 (Ex.refl H1)⟩
theorem ru_i {g : Int → V} {i : Int} : RU (rU g) (.int i) H (g i) := fun H1 _ _ q => ⟨i, rfl, q H1 (Ex.refl H1)⟩
theorem at_map {bs : List Int} {k : Nat} {b : Int} (h : bs[k]? = some b) : atI (bs.map V.int) (k : Int) = some (.int b) := atI_nat (by rw [List.getElem?_map, h]; rfl)
/-- for j in range(a, b, -1) -/
theorem q_forD {tA : TA} {j : Nat} {lo hi : Int} {n : Nat} (h : EvA tA σ H [.int lo, .int hi, .int (-1)]) (hn : -(2 ^ 62) ≤ lo ∧ lo < 2 ^ 62 ∧ -(2 ^ 62) ≤ hi ∧ hi < 2 ^ 62) (en : (lo - hi).toNat = n) (Pv : Nat → L2.St → Hp → Prop) (h0 : ∀ H1, Ex H H1 → Pv 0 σ H1)
    (hs : ∀ (i : Nat) σ' H', i < n → Pv i σ' H' → tu { D with nx := Pv (i + 1), ct := Pv (i + 1), bk := tz D } (σ'.set j (some (.int (lo - (i : Int))))) H') (hd : ∀ σ' H', Pv n σ' H' → tz D σ' H') : tSeq (tFor (iRng3 tA) (gName j) tu) tz D σ H := by
  refine h H (Ex.refl H) _ fun H1 e => ⟨lo, hi, -1, n, rfl, ?_, ?_⟩
  · rw [← en]
    exact RgC.neg hn.1 hn.2.1 hn.2.2.1 hn.2.2.2
  · refine for_rangeC (lo := lo) (c := -1) (n := n) (D := { D with nx := tz D }) Pv (h0 H1 e) (fun i σ' H' hi p => ?_) hd
    have e1 : lo + (i : Int) * (-1) = lo - (i : Int) := by omega
    show tu _ (σ'.set j (some (.int (lo + (i : Int) * (-1))))) H'
    rw [e1]
    exact hs i σ' H' hi p
end
/-! ### a board -/
def bf (l t : Addr) : List (Str × V) := [("bases", .ref l), ("turns", .ref t)]
theorem bf_bases (l t : Addr) : (bf l t).lookup ("bases" : Str) = some (V.ref l) := by simp [bf, List.lookup]
theorem bf_turns (l t : Addr) : (bf l t).lookup ("turns" : Str) = some (V.ref t) := by
  have h : (("turns" : Str) == "bases") = false := by decide +kernel
  simp [bf, List.lookup, h]
theorem bf_none (l t : Addr) {m : Str} (h1 : (m == ("bases" : Str)) = false) (h2 : (m == ("turns" : Str)) = false) : (bf l t).lookup m = none := by simp [bf, List.lookup, h1, h2]
end Rk

namespace Rk
open PySem PySem.Spec PyProof.Rows L2 Evl
/-! ### the layer that tells that an exception's context is None -/
section
variable {P : Program} {w : World} {K : PySem.W.Frag} {mg : Str → Option Value} {base : Heap} {N : List Str} {qual : Str} {scope : Scope} {f : Addr} {cd : Value} {A : Around} {outer : List Env} {s : Shared} {H : Hp} {E : XK}
theorem hkN : L2N.Takes (cxOf (L2N.CX P w) P w K mg base N qual scope f cd A outer s H E) (fun cls d _ H' => E cls d H') := L2N.takes_of rfl rfl rfl rfl
theorem hxN : Passes (L2N.CX P w) (cxOf (L2N.CX P w) P w K mg base N qual scope f cd A outer s H E) E := L2N.passes_call hkN fun _ _ _ _ h => h
theorem okN {x qual : Str} {st : Stmt} {f : Addr} {fd : FuncData} {N ps : List Str} {k : Nat} {sp : Sp} (F : Fun K x qual st f fd) (S : FnScope N ps (defScope st)) (len : ∀ vs H Q E, sp vs H Q E → vs.length = ps.length)
    (hbody : ∀ (cdv : Value) (A : Around) (outer : List Env) (s : Shared) (H : Hp) (vs : List V) (Q : VK) (E : XK), Room k (A.deeper (envOfC qual (defScope st) s.heap.objs.size f cdv)) → sp vs H Q E →
      ∃ t, PSs (cxOf (L2N.CX P w) P w K mg base N qual (defScope st) f cdv A outer s H E) (defBody st) t ∧ t { nx := fun _ H' => Q .non H', rt := Q } (start N vs) H) : FnOk P w K mg base (L2N.CX P w) (k + 1) f fd ps sp := by
  obtain ⟨oc, od, kV, doc, pm, an, cdv, ct, osl, rfl, lk, hcd⟩ := F.ex
  exact fn_of lk hcd S len fun A outer s H vs Q E hr hsp => hbody cdv A outer s H vs Q E hr hsp
theorem passLN {X : Cx} : Passes (L2N.CX X.prog X.w) X E0 := fun _ _ _ _ _ _ _ h => by
  obtain ⟨_, _, _, _, _, _, _, _, _, _, _, _, h⟩ := h
  exact False.elim h
end
section
variable {K : PySem.W.Frag} {σ : L2.St} {H H' : Hp} {ta tb te tx : TE} {t u : TT} {x y z v : V} {r : R2} {D : Ends} {tz tu tw : TS}
theorem ev_callS {sp : Sp} {vs : List V} {E : L2.St → XK} {tA : TA} (h : EvA tA σ H vs) (hs : SpV sp vs H z) : Ev (tCallS sp E tA) σ H z := fun H1 e Q q =>
  h H1 e _ fun H2 e2 => hs H2 (e.trans e2) Q (fun H3 e3 => q H3 (e2.trans e3)) (E σ)
theorem el_callS {sp : Sp} {vs xs : List V} {E : L2.St → XK} {tA : TA} (h : EvA tA σ H vs) (hs : SpL sp vs H xs) : EvL (tCallS sp E tA) σ H xs := fun H1 e Q q =>
  h H1 e _ fun H2 e2 => hs H2 (e.trans e2) Q (fun p H3 hp e3 h3 => q p H3 (fresh_back e2 hp) (e2.trans e3) h3) (E σ)
theorem dv_callS {sp : Sp} {vs : List V} {E : L2.St → XK} {tA : TA} (h : EvA tA σ H vs) (hs : SpD sp vs H (E σ)) : Dv (tCallS sp E tA) σ H := fun H1 e Q =>
  h H1 e _ fun H2 e2 => hs H2 (e.trans e2) Q
/-- what the class of an exception says to isinstance, the class read off the exception itself -/
def rIsX (K : PySem.W.Frag) (cls : Value) (d : Option Addr) (a : Addr) : List V → Hp → VK → Prop := fun xs H Q =>
  ∃ (C : Addr) (c : V) (cv : Value) (b : Bool), cls = .ref C ∧ d = none ∧ ExcC K C ∧ xs = [.ref a, c] ∧ (∀ u, RelV c u → u = cv) ∧ PySem.W.kitOne K (.ref C) cv = some b ∧ Q (.bl b) H
theorem call_isE' {X : Cx} {a : Addr} {cls : Value} {d : Option Addr} {oe : Obj} {pn : List (Addr × Obj)} (hz : Zc cls d oe) (hf : ∃ vs, oe.data = .fields vs) : CallR (X.suite a ((a, oe) :: pn)) (.builtin "isinstance") (rIsX X.K cls d a) := by
  intro p1 s1 σ1 H1 xs us Q1 I1 r1 hh
  obtain ⟨C, c, cv, b, e1, e2, k1, k2, k3, k4, k5⟩ := hh
  subst e1 e2
  exact call_isE k1 hz hf p1 s1 σ1 H1 xs us Q1 I1 r1 ⟨c, cv, b, k2, k3, k4, k5⟩
theorem rc_isX {a C : Addr} {c : V} {cv : Value} {b : Bool} (k1 : ExcC K C) (k3 : ∀ u, RelV c u → u = cv) (k4 : PySem.W.kitOne K (.ref C) cv = some b) : RC (rIsX K (.ref C) none a) [.ref a, c] H (.bl b) :=
  fun H1 _ _ q => ⟨C, c, cv, b, rfl, rfl, k1, rfl, k3, k4, q H1 (Ex.refl H1)⟩
theorem rel_ty (n : String) : ∀ u, RelV (.ty n) u → u = .type n := fun _ h => h
theorem rel_ref (C : Addr) : ∀ u, RelV (.ref C) u → u = .ref C := fun _ h => h
/-! ### the script's cells -/
def cell (ns : List Int) (i : Int) : Int := ns.getD i.toNat 0
end
/-! ### a field, the written part told (within a comprehension) -/
theorem pe_fldK {X : Cx} {K : PySem.W.Frag} {e : Expr} {f : Str} {pos : Pos} {ta : TE} (he : PE X e ta) (hb : attributeBase e f X.env (eval e X.env) = eval e X.env) (hK : X.K = K := by rfl) : PE X (.Attribute e f pos) (tFld K ta f) := by
  subst hK
  exact pe_fld he hb
theorem ix_listK {X : Cx} {K : PySem.W.Frag} (hK : X.K = K := by rfl) : IxR X (rIxL K) := by
  subst hK
  exact ix_list
theorem ix_tupK {X : Cx} {K : PySem.W.Frag} (hK : X.K = K := by rfl) : IxR X (rIxT K) := by
  subst hK
  exact ix_tup
theorem sl_listK {X : Cx} {K : PySem.W.Frag} (hK : X.K = K := by rfl) : SlR X (rSlL K) := by
  subst hK
  exact sl_list
theorem pi_listK {X : Cx} {K : PySem.W.Frag} {tg e : Expr} {tl : TE} (hl : PE X e tl) (hK : X.K = K := by rfl) : PI X tg e (iList K tl) := by
  subst hK
  exact pi_list hl
/-! ### methods and makers whose exceptions are wished for at the slots -/
section
variable {X : Cx} {C : Addr} {m : Str} {sp : Sp} {k : Nat} {f : Addr} {fd : FuncData} {ps : List Str} {E : L2.St → XK} {o e : Expr} {es : List Expr} {ta : TE} {tA : TA} {pos apos p : Pos} {x : Str}
def tMethW (C : Addr) (m : Str) (sp : Sp) (E : L2.St → XK) (ta : TE) (tA : TA) : TE := fun σ H Q =>
  ta σ H fun y H1 => ∃ a dx fs, y = .ref a ∧ H1 a = some (.ins C dx fs) ∧ fs.lookup m = none ∧ tA σ H1 fun vs H2 => sp (y :: vs) H2 Q (E σ)
theorem pe_methS1 {pl : Sem Bool} (ho : PE X o ta) (c : Cls X.K C) (hm : Meth X.K C m f) (F : FnOk X.prog X.w X.K X.mg X.base (L2.CX X.prog X.w) k f fd ps sp) (hr : Room k X.A) (hb : Binds X.K fd ps []) (hp : ∀ σ, PassesAt (L2.CX X.prog X.w) X σ (E σ)) (ha : PA X (e :: es) tA)
    (h1 : starEach (e :: es) X.env = (false, eval e X.env) :: starEach es X.env := by rfl) (h2 : (backTo pos (starEach es X.env)).any (·.1) = false := by rfl)
    (h3 : eval (.Call (.Attribute o m apos) (e :: es) [] pos) X.env = (eval o X.env >>= fun ov => standAt apos.atName >>= fun _ => holding [ov] (getMethod ov m pl) >>= fun z =>
      callWith pos z.1 z.2 (backTo pos (starEach (e :: es) X.env)) (backToKw pos (keywordEach [] X.env))) := by rfl) :
    PE X (.Call (.Attribute o m apos) (e :: es) [] pos) (tMethW C m sp E ta tA) := .mk fun P1 s1 σ1 H1 Q1 I1 hh => by
  refine PySem.W.methodCall_KW (pl := pl) (thn (ho.run P1 s1 σ1 H1 _ I1 hh) fun u s2 z2 => ?_) h3
  obtain ⟨y, H2, I2, ry, a, dx, fs, ey, ea, el, q⟩ := z2
  subst ey
  cases (show u = Value.ref a from ry)
  refine getmeth_ok I2 ea c hm el (PySem.W.callWith_K (first := [.ref a]) (h₀ := X.base) I2.ok.mod.kin hm.kp (thn (ha.run pos P1 s2 σ1 H2 _ I2 q) fun us s3 z3 => ?_) h1 h2)
  obtain ⟨vs, H3, I3, r3, q3⟩ := z3
  exact ⟨I3.kIn, run_fnS (us := .ref a :: us) (vs := .ref a :: vs) F hr hb (hp σ1) I3 (.cons rfl r3) q3⟩
theorem pe_methS0 {pl : Sem Bool} (ho : PE X o ta) (c : Cls X.K C) (hm : Meth X.K C m f) (F : FnOk X.prog X.w X.K X.mg X.base (L2.CX X.prog X.w) k f fd ps sp) (hr : Room k X.A) (hb : Binds X.K fd ps []) (hp : ∀ σ, PassesAt (L2.CX X.prog X.w) X σ (E σ))
    (h3 : eval (.Call (.Attribute o m apos) [] [] pos) X.env = (eval o X.env >>= fun ov => standAt apos.atName >>= fun _ => holding [ov] (getMethod ov m pl) >>= fun z =>
      callWith pos z.1 z.2 (backTo pos (starEach [] X.env)) (backToKw pos (keywordEach [] X.env))) := by rfl) :
    PE X (.Call (.Attribute o m apos) [] [] pos) (tMethW C m sp E ta tNil) := .mk fun P1 s1 σ1 H1 Q1 I1 hh => by
  refine PySem.W.methodCall_KW (pl := pl) (thn (ho.run P1 s1 σ1 H1 _ I1 hh) fun u s2 z2 => ?_) h3
  obtain ⟨y, H2, I2, ry, a, dx, fs, ey, ea, el, q⟩ := z2
  subst ey
  cases (show u = Value.ref a from ry)
  exact getmeth_ok I2 ea c hm el (PySem.W.callWith_K0 (first := [.ref a]) I2.kIn hm.kp (run_fnS (us := [.ref a]) (vs := [.ref a]) F hr hb (hp σ1) I2 (.cons rfl .nil) q))
end
section
variable {K : PySem.W.Frag} {σ : L2.St} {H H' : Hp} {ta tb te tx : TE} {t u : TT} {x y z v : V} {r : R2} {D : Ends} {tz tu tw : TS}
theorem ev_methW {C a dx : Addr} {m : Str} {fs : List (Str × V)} {sp : Sp} {vs : List V} {E : L2.St → XK} {tA : TA} (ho : Ev ta σ H (.ref a)) (hi : H a = some (.ins C dx fs)) (hl : fs.lookup m = none) (h : EvA tA σ H vs) (hs : SpV sp (.ref a :: vs) H z) :
    Ev (tMethW C m sp E ta tA) σ H z := fun H1 e Q q => ho H1 e _ fun H2 e2 => ⟨a, dx, fs, rfl, e2 _ _ (e _ _ hi), hl, h H2 (e.trans e2) _ fun H3 e3 => hs H3 ((e.trans e2).trans e3) Q (fun H4 e4 => q H4 ((e2.trans e3).trans e4)) (E σ)⟩
theorem el_methW {C a dx : Addr} {m : Str} {fs : List (Str × V)} {sp : Sp} {vs xs : List V} {E : L2.St → XK} {tA : TA} (ho : Ev ta σ H (.ref a)) (hi : H a = some (.ins C dx fs)) (hl : fs.lookup m = none) (h : EvA tA σ H vs) (hs : SpL sp (.ref a :: vs) H xs) :
    EvL (tMethW C m sp E ta tA) σ H xs := fun H1 e Q q => ho H1 e _ fun H2 e2 => ⟨a, dx, fs, rfl, e2 _ _ (e _ _ hi), hl, h H2 (e.trans e2) _ fun H3 e3 => hs H3 ((e.trans e2).trans e3) Q (fun p H4 hp e4 h4 => q p H4 (fresh_back (e2.trans e3) hp) ((e2.trans e3).trans e4) h4) (E σ)⟩
theorem dv_methW {C a dx : Addr} {m : Str} {fs : List (Str × V)} {sp : Sp} {vs : List V} {E : L2.St → XK} {tA : TA} (ho : Ev ta σ H (.ref a)) (hi : H a = some (.ins C dx fs)) (hl : fs.lookup m = none) (h : EvA tA σ H vs) (hs : SpD sp (.ref a :: vs) H (E σ)) :
    Dv (tMethW C m sp E ta tA) σ H := fun H1 e Q => ho H1 e _ fun H2 e2 => ⟨a, dx, fs, rfl, e2 _ _ (e _ _ hi), hl, h H2 (e.trans e2) _ fun H3 e3 => hs H3 ((e.trans e2).trans e3) Q⟩
end
section
variable {K : PySem.W.Frag} {σ : L2.St} {H H' : Hp} {ta tb tc te tx : TE} {t u : TT} {x y z v : V} {r r' : R2} {D : Ends} {tz tu tw : TS}
theorem ev_chain {b1 b2 : Bool} (ha : Ev ta σ H x) (hb : Ev tb σ H y) (h1 : RV r x y H (.bl b1)) (hc : b1 = true → Ev tc σ H z) (h2 : b1 = true → RV r' y z H (.bl b2)) : Ev (tChain r r' ta tb tc) σ H (.bl (b1 && b2)) := fun H1 e Q q =>
  ha H1 e _ fun H2 e2 => hb H2 (e.trans e2) _ fun H3 e3 => h1 H3 ((e.trans e2).trans e3) _ fun H4 e4 => ⟨b1, rfl, by
    cases b1 with
    | true =>
      show tc σ H4 fun w' H5 => r' y w' H5 Q
      exact hc rfl H4 (((e.trans e2).trans e3).trans e4) _ fun H5 e5 => h2 rfl H5 ((((e.trans e2).trans e3).trans e4).trans e5) Q fun H6 e6 => q H6 ((((e2.trans e3).trans e4).trans e5).trans e6)
    | false => exact q H4 ((e2.trans e3).trans e4)⟩
theorem set_same {i : Nat} {o : Option V} (h : σ[i]? = some o) : σ.set i o = σ := by
  obtain ⟨hi, e⟩ := List.getElem?_eq_some_iff.mp h
  rw [← e, List.set_getElem_self]
/-- if c: x = e, both numbers -/
theorem q_ifI {i : Nat} {b : Bool} {x0 x1 : Int} (h : EvT t σ H b) (h0 : σ[i]? = some (some (.int x0))) (h1 : b = true → Ev te σ H (.int x1)) (k : ∀ H1, Ex H H1 → tz D (σ.set i (some (.int (if b = true then x1 else x0)))) H1) : tSeq (tIfS t (tAsg te (gName i)) tNext) tz D σ H := by
  cases b with
  | true => exact q_ifAsg h h1 (fun z => nomatch z) k
  | false => exact q_ifAsg h (fun z => nomatch z) (fun _ => set_same h0) k
/-- what an own class in an except clause says -/
theorem exm_yes {A B : Addr} {b : Bool} (h1 : PySem.W.subIn K (.ref B) (.type "BaseException") = some true) (h2 : PySem.W.hasDictIn K B = true) (h3 : PySem.W.typeIn K (.ref B) = some (.type "type")) (h4 : PySem.W.subIn K (.ref A) (.ref B) = some b) : PySem.W.exmOne K (.ref A) (.ref B) = some b := PySem.W.exm_ref h1 h2 h3 h4
end
section
variable {K : PySem.W.Frag}
theorem kit_exT {C : Addr} {T : String} {b : Bool} (hT : PySem.W.kitMeta T = true) (h : PySem.W.subIn K (.ref C) (.type T) = some b) : PySem.W.kitOne K (.ref C) (.type T) = some b := by
  show (if (Value.ref C == Value.type T) = true then some true else (if PySem.W.kitMeta T = true then PySem.W.subIn K (.ref C) (.type T) else none)) = some b
  rw [if_neg (by simp), if_pos hT, h]
theorem kit_exC {A B : Addr} {b : Bool} (hb : b = true ∨ A ≠ B) (h : PySem.W.subIn K (.ref A) (.ref B) = some b) (j : PySem.W.isClsIn K B = true) (t : PySem.W.typeIn K (.ref B) = some (.type "type")) : PySem.W.kitOne K (.ref A) (.ref B) = some b := by
  have e2 : ((PySem.W.clsIn K B).isSome && PySem.W.typeIn K (.ref B) == some (.type "type")) = true := by
    have j' : (PySem.W.clsIn K B).isSome = true := j
    rw [j', t] <;> rfl
  show (if (Value.ref A == Value.ref B) = true then some true else (if ((PySem.W.clsIn K B).isSome && PySem.W.typeIn K (.ref B) == some (.type "type")) = true then PySem.W.subIn K (.ref A) (.ref B) else none)) = some b
  by_cases e : A = B
  · rcases hb with hb | hb
    · rw [if_pos (by rw [e]; simp), hb]
    · exact absurd e hb
  · rw [if_neg (by simp [e]), if_pos e2, h]
end
theorem ten60 : (0 : Int) < 10 ^ (60 : Int).toNat := by decide +kernel
/-! ### a board in the heap -/
def BoardAt (C : Addr) (H : Hp) (b : Addr) (bs : List Int) : Prop := ∃ dx l t, H b = some (.ins C dx (bf l t)) ∧ H l = some (.lst (bs.map V.int)) ∧ H t = some (.lst ((Rw.turnsOf bs).map V.int))
theorem BoardAt.mono {C b : Addr} {H H' : Hp} {bs : List Int} (h : BoardAt C H b bs) (e : Ex H H') : BoardAt C H' b bs := by
  obtain ⟨dx, l, t, h1, h2, h3⟩ := h
  exact ⟨dx, l, t, e _ _ h1, e _ _ h2, e _ _ h3⟩
/-- the same, its lists told -/
def BoardIs (C : Addr) (H : Hp) (b : Addr) (bs : List Int) (dx l t : Addr) : Prop := H b = some (.ins C dx (bf l t)) ∧ H l = some (.lst (bs.map V.int)) ∧ H t = some (.lst ((Rw.turnsOf bs).map V.int))
theorem BoardIs.at_ {C : Addr} {H : Hp} {b : Addr} {bs : List Int} {dx l t : Addr} (h : BoardIs C H b bs dx l t) : BoardAt C H b bs := ⟨dx, l, t, h⟩
theorem BoardIs.mono {C : Addr} {H H' : Hp} {b : Addr} {bs : List Int} {dx l t : Addr} (h : BoardIs C H b bs dx l t) (e : Ex H H') : BoardIs C H' b bs dx l t := ⟨e _ _ h.1, e _ _ h.2.1, e _ _ h.2.2⟩
/-- a list that is none of its objects changes -/
theorem BoardIs.put {C : Addr} {H : Hp} {b : Addr} {bs : List Int} {dx l t p : Addr} {o : HO} (h : BoardIs C H b bs dx l t) (n1 : b ≠ p) (n2 : l ≠ p) (n3 : t ≠ p) : BoardIs C (upd H p o) b bs dx l t :=
  ⟨by rw [upd_ne n1]; exact h.1, by rw [upd_ne n2]; exact h.2.1, by rw [upd_ne n3]; exact h.2.2⟩
/-- a list made behind it changes -/
theorem BoardIs.putN {C : Addr} {H H1 : Hp} {b : Addr} {bs : List Int} {dx l t p : Addr} {o : HO} (h : BoardIs C H b bs dx l t) (e : Ex H H1) (hp : H p = none) : BoardIs C (upd H1 p o) b bs dx l t := (h.mono e).put (ne_of_none h.1 hp) (ne_of_none h.2.1 hp) (ne_of_none h.2.2 hp)
section
variable {K : PySem.W.Frag} {σ : L2.St} {H H' : Hp} {ta tb tc te tx : TE} {t u : TT} {x y z v : V} {r r' : R2} {D : Ends} {tz tu tw : TS}
theorem s_forNLn {xs : List V} {tl : TE} {j : Nat} (h : EvL tl σ H xs) (Pv : Addr → Nat → L2.St → Hp → Prop) (h0 : ∀ p H1, H p = none → Ex H H1 → H1 p = some (.lst xs) → Pv p 0 σ H1) (hl : ∀ p i σ' H', i ≤ xs.length → Pv p i σ' H' → SqL K H' p xs)
    (hs : ∀ p i x σ' H', xs[i]? = some x → Pv p i σ' H' → tu { D with nx := Pv p (i + 1), ct := Pv p (i + 1), bk := D.nx } (σ'.set j (some x)) H') (hd : ∀ p σ' H', Pv p xs.length σ' H' → D.nx σ' H') : tFor (iList K tl) (gName j) tu D σ H := s_forNL h Pv h0 hl hs hd
theorem s_forD {tA : TA} {j : Nat} {lo hi : Int} {n : Nat} (h : EvA tA σ H [.int lo, .int hi, .int (-1)]) (hn : -(2 ^ 62) ≤ lo ∧ lo < 2 ^ 62 ∧ -(2 ^ 62) ≤ hi ∧ hi < 2 ^ 62) (en : (lo - hi).toNat = n) (Pv : Nat → L2.St → Hp → Prop) (h0 : ∀ H1, Ex H H1 → Pv 0 σ H1)
    (hs : ∀ (i : Nat) σ' H', i < n → Pv i σ' H' → tu { D with nx := Pv (i + 1), ct := Pv (i + 1), bk := D.nx } (σ'.set j (some (.int (lo - (i : Int))))) H') (hd : ∀ σ' H', Pv n σ' H' → D.nx σ' H') : tFor (iRng3 tA) (gName j) tu D σ H := by
  have z := q_forD (tz := tNext) (D := D) (tu := tu) (σ := σ) (H := H) h hn en Pv h0 (fun i σ' H' hi p => hs i σ' H' hi p) hd
  exact z
theorem q_fldL {a C dx : Addr} {fs : List (Str × V)} {f : Str} {xs : List V} {tv : TE} (hv : EvL tv σ H xs) (ha : Ev ta σ H (.ref a)) (ho : H a = some (.ins C dx fs)) (hc : Cls K C) (hn : NoAttr K C f) (hl : fs.length < 1000)
    (k : ∀ p H1, H p = none → Ex H H1 → H1 p = some (.lst xs) → tz D σ (upd H1 a (.ins C dx (putF f (.ref p) fs)))) : tSeq (sFld K ta tv f) tz D σ H :=
  hv H (Ex.refl H) _ fun p H1 hp e1 h1 => ha H1 e1 _ fun H2 e2 => ⟨a, C, dx, fs, rfl, e2 _ _ (e1 _ _ ho), hc, hn, hl, k p H2 hp (e1.trans e2) (e2 _ _ h1)⟩
theorem dv_sl {rr : V → Option Int → Option Int → Hp → VK → Prop} {tl th : TO} (h : Dv te σ H) : Dv (tSl rr te tl th) σ H := fun H1 e Q => h H1 e _
/-- a test that goes out -/
def DvT (t : TT) (σ : L2.St) (H : Hp) : Prop := ∀ H1, Ex H H1 → ∀ Q : Bool → Hp → Prop, t σ H1 Q
theorem dt_B (h : Dv te σ H) : DvT (tB te) σ H := fun H1 e _ => h H1 e _
theorem dt_test (h : Dv te σ H) : DvT (tTest te) σ H := fun H1 e _ => h H1 e _
theorem dt_not (h : DvT t σ H) : DvT (tNot t) σ H := fun H1 e _ => h H1 e _
theorem s_dvI (h : DvT t σ H) : tIfS t tu tw D σ H := h H (Ex.refl H) _
theorem q_dvI (h : DvT t σ H) : tSeq (tIfS t tu tw) tz D σ H := h H (Ex.refl H) _
/-- for x, y in zip(xs, ys), of one length -/
theorem s_forZip {a b : Addr} {xs ys : List V} {g : TG} (h1 : Ev ta σ H (.ref a)) (hx : SqL K H a xs) (h2 : Ev tb σ H (.ref b)) (hy : SqL K H b ys) (hl : xs.length = ys.length) (Pv : Nat → L2.St → Hp → Prop) (h0 : ∀ H1, Ex H H1 → Pv 0 σ H1)
    (hq : ∀ i σ' H', Pv i σ' H' → SqL K H' a xs ∧ SqL K H' b ys) (hs : ∀ (i : Nat) (x y : V) (T : Addr) σ' H', xs[i]? = some x → ys[i]? = some y → Pv i σ' H' → H' T = none → g (.ref T) σ' (upd H' T (.tup [x, y])) fun σ2 H2 => tu { D with nx := Pv (i + 1), ct := Pv (i + 1), bk := D.nx } σ2 H2)
    (hd : ∀ σ' H', Pv xs.length σ' H' → D.nx σ' H') : tFor (iZip K (tCons ta (tCons tb tNil))) g tu D σ H :=
  h1 H (Ex.refl H) _ fun H1 e1 => h2 H1 e1 _ fun H2 e2 => ⟨a, b, xs, ys, rfl, ex_l (e1.trans e2) hx, ex_l (e1.trans e2) hy, RZ.for_zipL hl Pv (h0 H2 (e1.trans e2)) hq hs hd⟩
theorem cut_to (xs : List V) (k : Nat) : cutV xs none (some (k : Int)) = xs.take k := by
  unfold cutV
  rw [HT.sIx_none, show HT.sIx xs.length xs.length (some (k : Int)) = min k xs.length from HT.sIx_nat xs.length _ k]
  simp only [List.drop_zero, Nat.sub_zero]
  rw [List.take_eq_take_iff]
  omega
theorem cut_from (xs : List V) (k : Nat) : cutV xs (some (k : Int)) none = xs.drop k := by
  unfold cutV
  rw [HT.sIx_none, show HT.sIx xs.length 0 (some (k : Int)) = min k xs.length from HT.sIx_nat xs.length _ k]
  rcases Nat.le_total k xs.length with h | h
  · rw [Nat.min_eq_left h, List.take_of_length_le (by rw [List.length_drop]; exact Nat.le_refl _)]
  · rw [Nat.min_eq_right h, List.drop_length, List.drop_of_length_le h]
    simp
theorem sIx_m2 (n d : Nat) (h : 2 ≤ n) : HT.sIx n d (some (-2)) = n - 2 := by
  unfold HT.sIx
  simp
  try omega
theorem cut_last2 (xs : List V) (h : 2 ≤ xs.length) : cutV xs (some (-2)) none = xs.drop (xs.length - 2) := by
  unfold cutV
  rw [HT.sIx_none, sIx_m2 _ _ h, List.take_of_length_le (by rw [List.length_drop]; exact Nat.le_refl _)]
theorem cut_but2 (xs : List V) (h : 2 ≤ xs.length) : cutV xs none (some (-2)) = xs.take (xs.length - 2) := by
  unfold cutV
  rw [HT.sIx_none, sIx_m2 _ _ h]
  rfl
/-! ### lists that stand in the heap, new or old -/
def EvH (te : TE) (σ : L2.St) (H : Hp) (xs : List V) : Prop := ∀ H1, Ex H H1 → ∀ Q : VK, (∀ p H2, Ex H1 H2 → H2 p = some (.lst xs) → Q (.ref p) H2) → te σ H1 Q
theorem eh_new {xs : List V} (h : EvL te σ H xs) : EvH te σ H xs := fun H1 e Q q => h H1 e Q fun p H2 _ e2 h2 => q p H2 e2 h2
theorem eh_old {xs : List V} {a : Addr} (h : Ev te σ H (.ref a)) (ha : H a = some (.lst xs)) : EvH te σ H xs := fun H1 e Q q => h H1 e Q fun H2 e2 => q a H2 e2 (e2 _ _ (e _ _ ha))
theorem EvH.mono {xs : List V} (e : Ex H H') (h : EvH te σ H xs) : EvH te σ H' xs := fun H1 a Q q => h H1 (e.trans a) Q q
theorem ev_opHH {xs ys : List V} (ha : EvH ta σ H xs) (hb : EvH tb σ H ys) (hr : ∀ p q H1, H1 p = some (.lst xs) → H1 q = some (.lst ys) → Ex H H1 → RV r (.ref p) (.ref q) H1 z) : Ev (tOp r ta tb) σ H z := fun H1 e Q k =>
  ha H1 e _ fun p H2 e2 hp => hb H2 (e.trans e2) _ fun q H3 e3 hq => hr p q H3 (e3 p _ hp) hq ((e.trans e2).trans e3) H3 (Ex.refl H3) Q fun H4 e4 => k H4 ((e2.trans e3).trans e4)
theorem ev_opHV {xs : List V} (ha : EvH ta σ H xs) (hb : Ev tb σ H y) (hr : ∀ p H1, H1 p = some (.lst xs) → Ex H H1 → RV r (.ref p) y H1 z) : Ev (tOp r ta tb) σ H z := fun H1 e Q k =>
  ha H1 e _ fun p H2 e2 hp => hb H2 (e.trans e2) _ fun H3 e3 => hr p H3 (e3 p _ hp) ((e.trans e2).trans e3) H3 (Ex.refl H3) Q fun H4 e4 => k H4 ((e2.trans e3).trans e4)
theorem el_cat {xs ys : List V} (ha : EvH ta σ H xs) (hb : EvH tb σ H ys) (hl : xs.length + ys.length ≤ 100000) : EvL (tOp rCat ta tb) σ H (xs ++ ys) := fun H1 e Q k =>
  ha H1 e _ fun p H2 e2 hp => hb H2 (e.trans e2) _ fun q H3 e3 hq => ⟨p, q, xs, ys, rfl, rfl, e3 p _ hp, hq, sz_of hl, fun l hl2 => k l _ (fresh_back (e2.trans e3) hl2) ((e2.trans e3).trans (Ex.new hl2)) upd_same⟩
theorem el_slH {tl th : TO} {xs : List V} {lo hi : Option Int} (h : EvH te σ H xs) (h1 : EvO tl σ H lo) (h2 : EvO th σ H hi) : EvL (tSl (rSlL K) te tl th) σ H (cutV xs lo hi) := fun H1 e Q q =>
  h H1 e _ fun a H2 e2 ha => h1 H2 (e.trans e2) _ fun H3 e3 => h2 H3 ((e.trans e2).trans e3) _ fun H4 e4 =>
    ⟨a, xs, rfl, sq_of (e4 _ _ (e3 _ _ ha)), fun p hp => q p _ (fresh_back ((e2.trans e3).trans e4) hp) (((e2.trans e3).trans e4).trans (Ex.new hp)) upd_same⟩
theorem ev_lenH {xs : List V} (ha : EvH ta σ H xs) : Ev (tCB (rLenS K) (tCons ta tNil)) σ H (.int (xs.length : Int)) := fun H1 e Q q =>
  ha H1 e _ fun p H2 e2 h2 => ⟨p, xs, rfl, Or.inl (sq_of h2), q H2 e2⟩
theorem el_listH {xs : List V} (ha : EvH ta σ H xs) : EvL (tCB (rListS K) (tCons ta tNil)) σ H xs := fun H1 e Q q =>
  ha H1 e _ fun p H2 e2 h2 => ⟨p, xs, rfl, Or.inl (sq_of h2), fun l hl => q l _ (fresh_back e2 hl) (e2.trans (Ex.new hl)) upd_same⟩
theorem ev_ixH {xs : List V} {i : Int} (ha : EvH ta σ H xs) (hb : Ev tb σ H (.int i)) (h : atI xs i = some v) : Ev (tOp (rIxL K) ta tb) σ H v := ev_opHV ha hb fun p H1 hp _ => rv_ixL (sq_of hp) h
theorem map_get {bs : List Int} {k : Nat} {y : V} (h : (bs.map V.int)[k]? = some y) : ∃ b, bs[k]? = some b ∧ y = .int b := by
  rw [List.getElem?_map] at h
  cases e : bs[k]? with
  | none => rw [e] at h; cases h
  | some b => rw [e] at h; exact ⟨b, rfl, (Option.some.inj h).symm⟩
/-! ### comprehensions that give a number each -/
theorem given_map {n : Nat} {f : Nat → Bool} {v : Nat → V} {ys : List V} (hf : ∀ i, f i = true) (hl : ys.length = n) (hv : ∀ i, i < n → ys[i]? = some (v i)) : given n f v = ys := by
  apply List.ext_getElem?
  intro i
  have e : (List.range n).filter f = List.range n := List.filter_eq_self.mpr fun a _ => hf a
  unfold given
  rw [e]
  by_cases hi : i < n
  · simp [List.getElem?_range hi, hv i hi]
  · rw [List.getElem?_eq_none (by simp; omega), List.getElem?_eq_none (by omega)]
/-- [f(m) for m in ns] -/
theorem el_mapL {a : Addr} {ns : List Int} {f : Int → Int} {tl : TE} {j : Nat} {vs : List Nat} (h : Ev tl σ H (.ref a)) (hx : SqL K H a (ns.map V.int)) (hz : ns.length ≤ 40000) (hw : ∀ x, wipe ((wipe σ vs).set j (some x)) vs = wipe σ vs)
    (he : ∀ (i : Nat) (m : Int) H1, Ex H H1 → ns[i]? = some m → Ev te ((wipe σ vs).set j (some (.int m))) H1 (.int (f m))) : EvL (tLc (iList K tl) (gName j) tYes te vs) σ H ((ns.map f).map V.int) := by
  have z := el_lcL (K := K) (t := tYes) (te := te) (fun _ => true) (fun i => .int (f (ns.getD i 0))) h hx (by rw [List.length_map]; exact hz) hw (fun _ _ _ _ _ H1 _ Q q => q H1 (Ex.refl H1)) (fun i x H1 e hi _ => by
    obtain ⟨m, hm, rfl⟩ := map_get hi
    rw [Rw.getD_of hm]
    exact he i m H1 e hm)
  rw [given_map (ys := (ns.map f).map V.int) (fun _ => rfl) (by simp) (fun i hi => by
    rw [List.length_map] at hi
    have hg : ns[i]? = some ns[i] := List.getElem?_eq_getElem hi
    rw [Rw.getD_of hg, List.getElem?_map, List.getElem?_map, hg]
    rfl)] at z
  exact z
/-- [x % b for b in bs] -/
theorem el_rowL {a : Addr} {bs : List Int} {x : Int} {tl : TE} {j : Nat} {vs : List Nat} (h : Ev tl σ H (.ref a)) (hx : SqL K H a (bs.map V.int)) (hz : bs.length ≤ 40000) (hw : ∀ x, wipe ((wipe σ vs).set j (some x)) vs = wipe σ vs)
    (he : ∀ (i : Nat) (m : Int) H1, Ex H H1 → bs[i]? = some m → Ev te ((wipe σ vs).set j (some (.int m))) H1 (.int (x % m))) : EvL (tLc (iList K tl) (gName j) tYes te vs) σ H ((Rw.rowOf bs x).map V.int) := el_mapL (f := fun m => x % m) h hx hz hw he
/-- [v(k) for k in range(n)] -/
theorem el_mapR {tA : TA} {n : Nat} {ys : List Int} {j : Nat} {vs : List Nat} (h : EvA tA σ H [.int (n : Int)]) (hz : n ≤ 40000) (hl : ys.length = n) (hw : ∀ x, wipe ((wipe σ vs).set j (some x)) vs = wipe σ vs)
    (he : ∀ (i : Nat) (y : Int) H1, Ex H H1 → i < n → ys[i]? = some y → Ev te ((wipe σ vs).set j (some (.int (i : Int)))) H1 (.int y)) : EvL (tLc (iRng1 tA) (gName j) tYes te vs) σ H (ys.map V.int) := by
  have z := el_lcR1 (t := tYes) (te := te) (fun _ => true) (fun i => .int (ys.getD i 0)) h (by omega) hw (fun _ _ _ _ H1 _ Q q => q H1 (Ex.refl H1)) (fun i H1 e hi _ => by
    have hi' : i < ys.length := by omega
    have hg : ys[i]? = some ys[i] := List.getElem?_eq_getElem hi'
    rw [Rw.getD_of hg]
    exact he i _ H1 e (by omega) hg)
  rw [Int.toNat_natCast, given_map (ys := ys.map V.int) (fun _ => rfl) (by simpa using hl) (fun i hi => by
    have hi' : i < ys.length := by omega
    have hg : ys[i]? = some ys[i] := List.getElem?_eq_getElem hi'
    rw [Rw.getD_of hg, List.getElem?_map, hg]
    rfl)] at z
  exact z
theorem s_retG {R : Hp → V → Hp → Prop} (h : EvG te σ H R) (k : ∀ v H1, Ex H H1 → R H v H1 → D.rt v H1) : tRet te D σ H := h H (Ex.refl H) _ k
theorem q_asgG {i : Nat} {R : Hp → V → Hp → Prop} (h : EvG te σ H R) (k : ∀ v H1, Ex H H1 → R H v H1 → tz D (σ.set i (some v)) H1) : tSeq (tAsg te (gName i)) tz D σ H := h H (Ex.refl H) _ k
theorem s_dv (h : Dv te σ H) : tDrop te D σ H := h H (Ex.refl H) _
theorem ev_sumH {ns : List Int} (ha : EvH ta σ H (ns.map V.int)) : Ev (tCB (rSum K) (tCons ta tNil)) σ H (.int ns.sum) := fun H1 e Q q => ha H1 e _ fun p H2 e2 h2 => ⟨p, ns, rfl, sq_of h2, q H2 e2⟩
/-- if c: xs[j] = e, c just where j is a place of xs -/
theorem q_ifSetL {l : Addr} {xs : List V} {j : Nat} {b : Bool} (h : EvT t σ H b) (hb : b = decide (j < xs.length)) (hl : H l = some (.lst xs)) (he : Ev te σ H v) (ho : Ev ta σ H (.ref l)) (hi : Ev tb σ H (.int (j : Int)))
    (k : ∀ H', (∀ c o, c ≠ l → H c = some o → H' c = some o) → H' l = some (.lst (xs.set j v)) → tz D σ H') : tSeq (tIfS t (tAsg te (gSub ta tb rSetL)) tNext) tz D σ H := by
  refine q_when h (fun e1 H1 x1 => ?_) (fun e1 H1 x1 => ?_)
  · subst hb
    refine s_setL (D := { D with nx := tz D }) (x1 _ _ hl) (he.mono x1) (ho.mono x1) (hi.mono x1) (of_decide_eq_true e1) fun H2 x2 => k _ (fun c o nc hc => ?_) upd_same
    rw [upd_ne nc]
    exact x2 _ _ (x1 _ _ hc)
  · subst hb
    refine k H1 (fun c o _ hc => x1 _ _ hc) ?_
    rw [List.set_eq_of_length_le (Nat.le_of_not_lt (of_decide_eq_false e1))]
    exact x1 _ _ hl
/-- (a new list, a value) -/
theorem eg_pairN {xs : List V} (h : EvL ta σ H xs) (hv : ∀ H1, Ex H H1 → Ev tb σ H1 v) : EvG (tTup (tCons ta (tCons tb tNil))) σ H (fun H1 u H2 => ∃ p h, u = .ref p ∧ H1 p = none ∧ H1 h = none ∧ p ≠ h ∧ H2 h = some (.lst xs) ∧ H2 p = some (.tup [.ref h, v])) := fun H1 e Q q =>
  h H1 e _ fun l H2 hl e2 h2 => hv H2 (e.trans e2) H2 (Ex.refl H2) _ fun H3 e3 => ⟨sz_of (by show 2 ≤ 100000; decide), fun p hp =>
    q _ _ ((e2.trans e3).trans (Ex.new hp)) ⟨p, l, rfl, fresh_back (e2.trans e3) hp, hl, (fun z => by rw [z, e3 _ _ h2] at hp; cases hp), Ex.new hp _ _ (e3 _ _ h2), upd_same⟩⟩
theorem s_retSorted {a : Addr} {ns : List Int} (h : Ev ta σ H (.ref a)) (hx : SqL K H a (ns.map V.int)) (hl : ns.length < 64) (k : ∀ (ns' : List Int) p H1, ns'.Perm ns → ns'.Pairwise (· ≤ ·) → H p = none → Ex H H1 → H1 p = some (.lst (ns'.map V.int)) → D.rt (.ref p) H1) :
    tRet (tCB (rSorted K) (tCons ta tNil)) D σ H := h H (Ex.refl H) _ fun H1 e1 => ⟨a, ns, rfl, ex_l e1 hx, hl, fun ns' p hp hs hn => k ns' p _ hp hs (fresh_back e1 hn) (e1.trans (Ex.new hn)) upd_same⟩
theorem at_mapI {bs : List Int} {i : Int} {k : Nat} {b : Int} (e : i = (k : Int)) (h : bs[k]? = some b) : atI (bs.map V.int) i = some (.int b) := by rw [e]; exact at_map h
/-! ### data, compared -/
theorem dpA_ints : ∀ ns : List Int, DpAll K H (ns.map V.int) (ns.map PyData.int)
  | [] => .nil
  | n :: ns => .cons (.int n) (dpA_ints ns)
theorem dp_ints {p : Addr} {ns : List Int} (h : SqL K H p (ns.map V.int)) : Dp K H (.ref p) (.list (ns.map PyData.int)) := .lst h (dpA_ints ns)
theorem lay_ints : ∀ ns : List Int, PyData.canLayAll0 (ns.map PyData.int) = true
  | [] => rfl
  | n :: ns => by
    show (PyData.canLay0 (.int n) && PyData.canLayAll0 (ns.map PyData.int)) = true
    rw [lay_ints ns]
    rfl
theorem dep_ints : ∀ ns : List Int, PyData.depthAll (ns.map PyData.int) = 0
  | [] => rfl
  | n :: ns => by
    show max 0 (PyData.depthAll (ns.map PyData.int)) = 0
    rw [dep_ints ns]
    rfl
theorem shp_ints (ns : List Int) : SeqAt.shaped (.list (ns.map PyData.int)) = true := by
  show (PyData.canLayAll0 (ns.map PyData.int) && decide (PyData.depthAll (ns.map PyData.int) + 1 ≤ 64)) = true
  rw [lay_ints, dep_ints]
  rfl
theorem eqvA_ints : ∀ xs ys : List Int, PyData.eqvAll (xs.map PyData.int) (ys.map PyData.int) = decide (xs = ys)
  | [], [] => by simp [PyData.eqvAll]
  | [], _ :: _ => by simp [PyData.eqvAll]
  | _ :: _, [] => by simp [PyData.eqvAll]
  | x :: xs, y :: ys => by
    show ((x == y) && PyData.eqvAll (xs.map PyData.int) (ys.map PyData.int)) = decide (x :: xs = y :: ys)
    rw [eqvA_ints xs ys, Bool.eq_iff_iff]
    simp
theorem rv_eqI {p q : Addr} {xs ys : List Int} (h1 : SqL K H p (xs.map V.int)) (h2 : SqL K H q (ys.map V.int)) : RV (rEqD K) (.ref p) (.ref q) H (.bl (decide (xs = ys))) := fun H1 e _ k =>
  ⟨_, _, dp_ints (ex_l e h1), dp_ints (ex_l e h2), shp_ints _, shp_ints _, by
    show _
    rw [show PyData.eqv (.list (xs.map PyData.int)) (.list (ys.map PyData.int)) = decide (xs = ys) from eqvA_ints xs ys]
    exact k H1 (Ex.refl H1)⟩
theorem rv_neI {p q : Addr} {xs ys : List Int} (h1 : SqL K H p (xs.map V.int)) (h2 : SqL K H q (ys.map V.int)) : RV (rNeD K) (.ref p) (.ref q) H (.bl (!decide (xs = ys))) := fun H1 e _ k =>
  ⟨_, _, dp_ints (ex_l e h1), dp_ints (ex_l e h2), shp_ints _, shp_ints _, by
    show _
    rw [show PyData.eqv (.list (xs.map PyData.int)) (.list (ys.map PyData.int)) = decide (xs = ys) from eqvA_ints xs ys]
    exact k H1 (Ex.refl H1)⟩
theorem ev_eqH {xs ys : List Int} (ha : EvH ta σ H (xs.map V.int)) (hb : EvH tb σ H (ys.map V.int)) : Ev (tOp (rEqD K) ta tb) σ H (.bl (decide (xs = ys))) := ev_opHH ha hb fun p q H1 hp hq _ => rv_eqI (sq_of hp) (sq_of hq)
theorem ev_neH {xs ys : List Int} (ha : EvH ta σ H (xs.map V.int)) (hb : EvH tb σ H (ys.map V.int)) : Ev (tOp (rNeD K) ta tb) σ H (.bl (!decide (xs = ys))) := ev_opHH ha hb fun p q H1 hp hq _ => rv_neI (sq_of hp) (sq_of hq)
/-- row[-2:] == [0, 0], the row's figures -/
theorem last2_iff {bs rs : List Int} (g : Rw.Good bs) (hl : rs.length = bs.length) : cutV ((Rw.digits bs (Rw.num bs rs)).map V.int) (some (-2)) none = ((Rw.digits bs (Rw.num bs rs)).drop (bs.length - 2)).map V.int := by
  have h3 := g.len3
  rw [cut_last2 _ (by rw [List.length_map, Rw.digits_length]; omega), List.length_map, Rw.digits_length, List.map_drop]
theorem num_tells {bs rs : List Int} (g : Rw.Good bs) (hl : rs.length = bs.length) : decide ((Rw.digits bs (Rw.num bs rs)).drop (bs.length - 2) = [0, 0]) = decide (Rw.num bs rs < Rw.room bs) := by
  obtain ⟨n0, n1, _⟩ := Rw.num_spec g hl
  rw [Bool.eq_iff_iff, decide_eq_true_eq, decide_eq_true_eq]
  exact g.tells n0 n1
theorem el_00 : EvL (tLst (tCons (tC (.int 0)) (tCons (tC (.int 0)) tNil))) σ H (([0, 0] : List Int).map V.int) := el_lst (ea_cons ev_c (ea_cons ev_c ea_nil)) (by decide)
theorem ev_last2 {bs rs : List Int} (g : Rw.Good bs) (hl : rs.length = bs.length) (h : EvL te σ H ((Rw.digits bs (Rw.num bs rs)).map V.int)) :
    Ev (tOp (rEqD K) (tSl (rSlL K) te (tPart (tUn (rU fun i => .int (-i)) (tC (.int 2)))) tNoPart) (tLst (tCons (tC (.int 0)) (tCons (tC (.int 0)) tNil)))) σ H (.bl (decide (Rw.num bs rs < Rw.room bs))) := by
  rw [← num_tells g hl]
  refine ev_eqH (eh_new ?_) (eh_new el_00)
  have z := el_slH (K := K) (eh_new h) (eo_some (ev_un (r := rU fun i => V.int (-i)) (ev_c (v := .int 2)) ru_i)) eo_none
  rw [last2_iff g hl] at z
  exact z
theorem ev_last2N {bs rs : List Int} (g : Rw.Good bs) (hl : rs.length = bs.length) (h : EvL te σ H ((Rw.digits bs (Rw.num bs rs)).map V.int)) :
    Ev (tOp (rNeD K) (tSl (rSlL K) te (tPart (tUn (rU fun i => .int (-i)) (tC (.int 2)))) tNoPart) (tLst (tCons (tC (.int 0)) (tCons (tC (.int 0)) tNil)))) σ H (.bl (!decide (Rw.num bs rs < Rw.room bs))) := by
  rw [← num_tells g hl]
  refine ev_neH (eh_new ?_) (eh_new el_00)
  have z := el_slH (K := K) (eh_new h) (eo_some (ev_un (r := rU fun i => V.int (-i)) (ev_c (v := .int 2)) ru_i)) eo_none
  rw [last2_iff g hl] at z
  exact z
theorem cmulR {i j : Int} (h : -(2 ^ 64) < j ∧ j < 2 ^ 64) : CMul i j := .inr h
theorem cmulL {i j : Int} (h : -(2 ^ 64) < i ∧ i < 2 ^ 64) : CMul i j := .inl h
/-- a and -a in range(len(..)) -/
theorem ev_neg1 {i : Int} : Ev (tUn (rU fun i => .int (-i)) (tC (.int i))) σ H (.int (-i)) := ev_un ev_c ru_i
theorem take_next {l : List Int} {k : Nat} {b : Int} (h : l[k]? = some b) : (l.take (k + 1)).map V.int = (l.take k).map V.int ++ [.int b] := by
  obtain ⟨hk, e⟩ := List.getElem?_eq_some_iff.mp h
  rw [List.take_succ_eq_append_getElem hk, List.map_append, e]
  rfl
end
theorem ty_int {K : PySem.W.Frag} {H : Hp} {i : Int} : TyX K H (.int i) (.type "int") := .base (.int i)
theorem ty_lst {K : PySem.W.Frag} {H : Hp} {p : Addr} {xs : List V} (h : H p = some (.lst xs)) : TyX K H (.ref p) (.type "list") := .base (.lst h)
theorem ty_tup {K : PySem.W.Frag} {H : Hp} {p : Addr} {xs : List V} (h : H p = some (.tup xs)) : TyX K H (.ref p) (.type "tuple") := .base (.tup h)
end Rk

namespace Rk
open PySem PySem.Spec PyProof.Rows L2 Evl
/-! ## Words that the laws share -/
/-! ### comparing, the written part told (within an except clause) -/
theorem op_eqDK {X : Cx} {K : PySem.W.Frag} (hu : X.A.units + 64 < cLine) (hK : X.K = K := by rfl) : OpR X (compareOp .Eq) (rEqD K) := by
  subst hK
  exact op_eqD hu
theorem call_lenK {X : Cx} {K : PySem.W.Frag} (hK : X.K = K := by rfl) : CallR X (.builtin "len") (rLenS K) := by
  subst hK
  exact call_len_seq
theorem op_neDK {X : Cx} {K : PySem.W.Frag} (hu : X.A.units + 64 < cLine) (hK : X.K = K := by rfl) : OpR X (compareOp .NotEq) (rNeD K) := by
  subst hK
  exact op_neD hu
section
variable {K : PySem.W.Frag} {σ : L2.St} {H H' : Hp} {ta tb tc te tx : TE} {t u : TT} {x y z v : V} {r r' : R2} {D : Ends} {tz tu tw : TS}
/-! ### lists of lists of numbers -/
/-- ps are the places of the lists ds -/
inductive Rows (H : Hp) : List V → List (List Int) → Prop
  | nil : Rows H [] []
  | cons {a : Addr} {xs : List Int} {ps : List V} {ds : List (List Int)} : H a = some (.lst (xs.map V.int)) → Rows H ps ds → Rows H (.ref a :: ps) (xs :: ds)
theorem Rows.mono {ps : List V} {ds : List (List Int)} (h : Rows H ps ds) (e : Ex H H') : Rows H' ps ds := by
  induction h with
  | nil => exact .nil
  | cons h1 _ ih => exact .cons (e _ _ h1) ih
theorem Rows.dp {ps : List V} {ds : List (List Int)} (h : Rows H ps ds) : DpAll K H ps (ds.map fun xs => PyData.list (xs.map PyData.int)) := by
  induction h with
  | nil => exact .nil
  | cons h1 _ ih => exact .cons (dp_ints (sq_of h1)) ih
theorem lay_rows : ∀ ds : List (List Int), PyData.canLayAll0 (ds.map fun xs => PyData.list (xs.map PyData.int)) = true
  | [] => rfl
  | d :: ds => by
    show (PyData.canLayAll0 (d.map PyData.int) && PyData.canLayAll0 (ds.map fun xs => PyData.list (xs.map PyData.int))) = true
    rw [lay_ints, lay_rows ds]
    rfl
theorem dep_rows : ∀ ds : List (List Int), PyData.depthAll (ds.map fun xs => PyData.list (xs.map PyData.int)) ≤ 1
  | [] => by decide
  | d :: ds => by
    show max (PyData.depthAll (d.map PyData.int) + 1) (PyData.depthAll (ds.map fun xs => PyData.list (xs.map PyData.int))) ≤ 1
    rw [dep_ints]
    have := dep_rows ds
    omega
theorem shp_rows (ds : List (List Int)) : SeqAt.shaped (.list (ds.map fun xs => PyData.list (xs.map PyData.int))) = true := by
  show (PyData.canLayAll0 (ds.map fun xs => PyData.list (xs.map PyData.int)) && decide (PyData.depthAll (ds.map fun xs => PyData.list (xs.map PyData.int)) + 1 ≤ 64)) = true
  rw [lay_rows]
  have := dep_rows ds
  rw [decide_eq_true (show PyData.depthAll (ds.map fun xs => PyData.list (xs.map PyData.int)) + 1 ≤ 64 by omega)]
  rfl
theorem eqvA_rows : ∀ ds es : List (List Int), PyData.eqvAll (ds.map fun xs => PyData.list (xs.map PyData.int)) (es.map fun xs => PyData.list (xs.map PyData.int)) = decide (ds = es)
  | [], [] => by simp [PyData.eqvAll]
  | [], _ :: _ => by simp [PyData.eqvAll]
  | _ :: _, [] => by simp [PyData.eqvAll]
  | x :: xs, y :: ys => by
    show (PyData.eqvAll (x.map PyData.int) (y.map PyData.int) && PyData.eqvAll (xs.map fun xs => PyData.list (xs.map PyData.int)) (ys.map fun xs => PyData.list (xs.map PyData.int))) = decide (x :: xs = y :: ys)
    rw [eqvA_rows xs ys, eqvA_ints, Bool.eq_iff_iff]
    simp
theorem rv_neRows {p q : Addr} {ps qs : List V} {ds es : List (List Int)} (h1 : H p = some (.lst ps)) (h2 : Rows H ps ds) (h3 : H q = some (.lst qs)) (h4 : Rows H qs es) : RV (rNeD K) (.ref p) (.ref q) H (.bl (!decide (ds = es))) := fun H1 e _ k =>
  ⟨_, _, .lst (sq_of (e _ _ h1)) (h2.mono e).dp, .lst (sq_of (e _ _ h3)) (h4.mono e).dp, shp_rows _, shp_rows _, by
    show _
    rw [show PyData.eqv (.list (ds.map fun xs => PyData.list (xs.map PyData.int))) (.list (es.map fun xs => PyData.list (xs.map PyData.int))) = decide (ds = es) from eqvA_rows ds es]
    exact k H1 (Ex.refl H1)⟩
/-- handed != [left, right] -/
theorem ev_neRows {ps qs : List V} {ds es : List (List Int)} (ha : EvH ta σ H ps) (h2 : Rows H ps ds) (hb : EvH tb σ H qs) (h4 : Rows H qs es) : Ev (tOp (rNeD K) ta tb) σ H (.bl (!decide (ds = es))) :=
  ev_opHH ha hb fun p q H1 hp hq e => rv_neRows hp (h2.mono e) hq (h4.mono e)
/-- [list, list], both new: the three places -/
theorem eg_two {xs ys : List V} (h1 : EvL ta σ H xs) (h2 : EvL tb σ H ys) : EvG (tLst (tCons ta (tCons tb tNil))) σ H (fun H1 w H2 => ∃ p a b, w = .ref p ∧ H1 p = none ∧ H1 a = none ∧ H1 b = none ∧ H2 p = some (.lst [.ref a, .ref b]) ∧ H2 a = some (.lst xs) ∧ H2 b = some (.lst ys)) := fun H1 e Q q =>
  h1 H1 e _ fun a H2 ha e2 ha2 => h2 H2 (e.trans e2) _ fun b H3 hb e3 hb3 => ⟨sz_of (by show 2 ≤ 100000; decide), fun p hp =>
    q _ _ ((e2.trans e3).trans (Ex.new hp)) ⟨p, a, b, rfl, fresh_back (e2.trans e3) hp, ha, fresh_back e2 hb, upd_same, Ex.new hp _ _ (e3 _ _ ha2), Ex.new hp _ _ hb3⟩⟩
/-- a display of lists of numbers, each new or old -/
def EvR (ta : TA) (σ : L2.St) (H : Hp) (ds : List (List Int)) : Prop := ∀ H1, Ex H H1 → ∀ Q : List V → Hp → Prop, (∀ ps H2, Ex H1 H2 → Rows H2 ps ds → ps.length = ds.length → Q ps H2) → ta σ H1 Q
theorem er_nil : EvR tNil σ H [] := fun H1 _ _ q => q [] H1 (Ex.refl H1) .nil rfl
theorem er_cons {tA : TA} {d : List Int} {ds : List (List Int)} (h : EvH te σ H (d.map V.int)) (hr : EvR tA σ H ds) : EvR (tCons te tA) σ H (d :: ds) := fun H1 e Q q =>
  h H1 e _ fun a H2 e2 h2 => hr H2 (e.trans e2) _ fun ps H3 e3 h3 hl => q _ H3 (e2.trans e3) (.cons (e3 _ _ h2) h3) (by rw [List.length_cons, List.length_cons, hl])
theorem eg_rows {tA : TA} {ds : List (List Int)} (h : EvR tA σ H ds) (hl : ds.length ≤ 1000) : EvG (tLst tA) σ H (fun H1 w H2 => ∃ p ps, w = .ref p ∧ H1 p = none ∧ H2 p = some (.lst ps) ∧ Rows H2 ps ds) := fun H1 e Q q =>
  h H1 e _ fun ps H2 e2 h2 hpl => ⟨sz_of (by rw [hpl]; omega), fun p hp => q _ _ (e2.trans (Ex.new hp)) ⟨p, ps, rfl, fresh_back e2 hp, upd_same, h2.mono (Ex.new hp)⟩⟩
theorem Rows.get {ps : List V} {ds : List (List Int)} (h : Rows H ps ds) : ∀ {i : Nat} {x : V}, ps[i]? = some x → ∃ a d, x = .ref a ∧ d ∈ ds ∧ H a = some (.lst (d.map V.int)) := by
  induction h with
  | nil => intro i x hx; simp at hx
  | @cons a xs ps ds h1 _ ih =>
    intro i x hx
    cases i with
    | zero =>
      have e : V.ref a = x := by simpa using hx
      exact ⟨a, xs, e.symm, List.mem_cons_self, h1⟩
    | succ i =>
      obtain ⟨a', d', e, hd, hh⟩ := ih (i := i) (x := x) (by simpa using hx)
      exact ⟨a', d', e, List.mem_cons_of_mem _ hd, hh⟩
/-- for x in [list, ..]: a look at each that changes nothing -/
theorem q_forChk {tA : TA} {ds : List (List Int)} {j : Nat} {o0 : Option V} (h : EvR tA σ H ds) (hl : ds.length ≤ 1000) (hj : σ[j]? = some o0)
    (hb : ∀ (d : List Int) (a : Addr) H' (N : L2.St → Hp → Prop), d ∈ ds → Ex H H' → H' a = some (.lst (d.map V.int)) → (∀ H2, Ex H' H2 → N (σ.set j (some (.ref a))) H2) → tu { D with nx := N, ct := N, bk := tz D } (σ.set j (some (.ref a))) H')
    (hd : ∀ o H', Ex H H' → tz D (σ.set j o) H') : tSeq (tFor (iList K (tLst tA)) (gName j) tu) tz D σ H := by
  have key : ∀ (p : Addr) (ps : List V) H1, Ex H H1 → H1 p = some (.lst ps) → Rows H1 ps ds → ∃ W : Nat → Nat → L2.St → Hp → Prop, (∃ m, W 0 m σ H1) ∧ ∀ i m σ H, W i m σ H →
      ((Itl K p).stop i H ∧ tz D σ H) ∨ ((Itl K p).go i H ∧ ∃ N : L2.St → Hp → Prop, (∀ σ' H', N σ' H' → ∃ m', m' < m ∧ W (i + 1) m' σ' H') ∧ ∀ x H', (Itl K p).yld i H x H' → gName j x σ H' fun σ2 H2 => tu { { D with nx := tz D } with nx := N, ct := N, bk := tz D } σ2 H2) := by
    intro p ps H1 e1 hps hR
    refine for_list (K := K) (a := p) (xs := ps) (D := { D with nx := tz D }) (fun i σ' H' => (∃ o, σ' = σ.set j o) ∧ Ex H1 H') ⟨⟨o0, (set_same hj).symm⟩, Ex.refl H1⟩ (fun i σ' H' _ ⟨_, e⟩ => sq_of (e _ _ hps)) ?_ ?_
    · rintro i x σ' H' hi ⟨⟨o, rfl⟩, e⟩
      obtain ⟨a, d, rfl, hd', ha⟩ := hR.get hi
      show tu _ ((σ.set j o).set j (some (.ref a))) H'
      rw [List.set_set]
      exact hb d a H' (fun σ' H' => (∃ o, σ' = σ.set j o) ∧ Ex H1 H') hd' (e1.trans e) (e _ _ ha) fun H2 e2 => ⟨⟨_, rfl⟩, e.trans e2⟩
    · rintro σ' H' ⟨⟨o, rfl⟩, e⟩
      exact hd o H' (e1.trans e)
  unfold tSeq tFor iList
  refine (eg_rows h hl) H (Ex.refl H) _ fun v H1 e1 hh => ?_
  obtain ⟨p, ps, ev, hp, hps, hR⟩ := hh
  subst ev
  exact ⟨p, rfl, ⟨ps, sq_of hps⟩, key p ps H1 e1 hps hR⟩
/-! ### lists of numbers and None, compared -/
def NI (v : V) : Prop := v = .non ∨ ∃ i, v = .int i
def fd : V → PyData
  | .int i => .int i
  | _ => .none
theorem dpA_ni : ∀ xs : List V, (∀ v ∈ xs, NI v) → DpAll K H xs (xs.map fd)
  | [], _ => .nil
  | x :: xs, h => by
    refine .cons ?_ (dpA_ni xs fun v hv => h v (List.mem_cons_of_mem _ hv))
    rcases h x List.mem_cons_self with e | ⟨i, e⟩ <;> subst e
    · exact .non
    · exact .int i
theorem shp_ni (xs : List V) : SeqAt.shaped (.list (xs.map fd)) = true := by
  have h1 : ∀ xs : List V, PyData.canLayAll0 (xs.map fd) = true := fun xs => by
    induction xs with
    | nil => rfl
    | cons x xs ih =>
      show (PyData.canLay0 (fd x) && PyData.canLayAll0 (xs.map fd)) = true
      rw [ih]
      cases x <;> rfl
  have h2 : ∀ xs : List V, PyData.depthAll (xs.map fd) = 0 := fun xs => by
    induction xs with
    | nil => rfl
    | cons x xs ih =>
      show max (PyData.depth (fd x)) (PyData.depthAll (xs.map fd)) = 0
      rw [ih]
      cases x <;> rfl
  show (PyData.canLayAll0 (xs.map fd) && decide (PyData.depthAll (xs.map fd) + 1 ≤ 64)) = true
  rw [h1, h2]
  rfl
theorem rv_neNI {p q : Addr} {xs : List V} (hx : ∀ v ∈ xs, NI v) (h1 : SqL K H p xs) (h2 : SqL K H q xs) : RV (rNeD K) (.ref p) (.ref q) H (.bl false) := fun H1 e _ k =>
  ⟨_, _, .lst (ex_l e h1) (dpA_ni xs hx), .lst (ex_l e h2) (dpA_ni xs hx), shp_ni xs, shp_ni xs, by
    show _
    rw [show PyData.eqv (.list (xs.map fd)) (.list (xs.map fd)) = true from SeqAt.eqv_refl _ (SeqAt.canLay_of_shaped (shp_ni xs))]
    exact k H1 (Ex.refl H1)⟩
/-- return f(..) in a try -/
theorem s_retCallS {sp : Sp} {E : L2.St → XK} {tA : TA} {vs : List V} (h : EvA tA σ H vs) (k : ∀ H1, Ex H H1 → sp vs H1 D.rt (E σ)) : tRet (tCallS sp E tA) D σ H := h H (Ex.refl H) _ k
theorem s_asgCallS {sp : Sp} {E : L2.St → XK} {tA : TA} {vs : List V} {i : Nat} (h : EvA tA σ H vs) (k : ∀ H1, Ex H H1 → sp vs H1 (fun v H2 => D.nx (σ.set i (some v)) H2) (E σ)) : tAsg (tCallS sp E tA) (gName i) D σ H := h H (Ex.refl H) _ k
/-! ### texts in a list, compared -/
theorem dpA_strs : ∀ ns : List Str, DpAll K H (ns.map V.str) (ns.map PyData.str)
  | [] => .nil
  | n :: ns => .cons (.str n) (dpA_strs ns)
theorem dp_strs {p : Addr} {ns : List Str} (h : SqL K H p (ns.map V.str)) : Dp K H (.ref p) (.list (ns.map PyData.str)) := .lst h (dpA_strs ns)
theorem rv_eqS {p q : Addr} {xs : List Str} (hs : SeqAt.shaped (.list (xs.map PyData.str)) = true) (h1 : SqL K H p (xs.map V.str)) (h2 : SqL K H q (xs.map V.str)) : RV (rEqD K) (.ref p) (.ref q) H (.bl true) := fun H1 e _ k =>
  ⟨_, _, dp_strs (ex_l e h1), dp_strs (ex_l e h2), hs, hs, by
    show _
    rw [show PyData.eqv (.list (xs.map PyData.str)) (.list (xs.map PyData.str)) = true from SeqAt.eqv_refl _ (SeqAt.canLay_of_shaped hs)]
    exact k H1 (Ex.refl H1)⟩
theorem rv_neS {p q : Addr} {xs : List Str} (hs : SeqAt.shaped (.list (xs.map PyData.str)) = true) (h1 : SqL K H p (xs.map V.str)) (h2 : SqL K H q (xs.map V.str)) : RV (rNeD K) (.ref p) (.ref q) H (.bl false) := fun H1 e _ k =>
  ⟨_, _, dp_strs (ex_l e h1), dp_strs (ex_l e h2), hs, hs, by
    show _
    rw [show PyData.eqv (.list (xs.map PyData.str)) (.list (xs.map PyData.str)) = true from SeqAt.eqv_refl _ (SeqAt.canLay_of_shaped hs)]
    exact k H1 (Ex.refl H1)⟩
theorem ev_eqS {xs : List Str} (hs : SeqAt.shaped (.list (xs.map PyData.str)) = true) (ha : EvH ta σ H (xs.map V.str)) (hb : EvH tb σ H (xs.map V.str)) : Ev (tOp (rEqD K) ta tb) σ H (.bl true) := ev_opHH ha hb fun p q H1 hp hq _ => rv_eqS hs (sq_of hp) (sq_of hq)
theorem ev_neS {xs : List Str} (hs : SeqAt.shaped (.list (xs.map PyData.str)) = true) (ha : EvH ta σ H (xs.map V.str)) (hb : EvH tb σ H (xs.map V.str)) : Ev (tOp (rNeD K) ta tb) σ H (.bl false) := ev_opHH ha hb fun p q H1 hp hq _ => rv_neS hs (sq_of hp) (sq_of hq)
theorem ev_callVHV {sp : Sp} {E : XK} {t1 t2 t3 : TE} {x1 z1 w : V} {xs : List V} (h1 : Ev t1 σ H x1) (h2 : EvH t2 σ H xs) (h3 : Ev t3 σ H z1) (hs : ∀ p H1, Ex H H1 → H1 p = some (.lst xs) → SpV sp [x1, .ref p, z1] H1 w) :
    Ev (tCall sp [] E (tCons t1 (tCons t2 (tCons t3 tNil)))) σ H w := fun H1 e Q q => by
  show t1 σ H1 fun _ H2 => t2 σ H2 fun _ H3 => t3 σ H3 fun _ H4 => sp _ H4 Q E
  exact h1 H1 e _ fun H2 e2 => h2 H2 (e.trans e2) _ fun p H3 e3 hp => h3 H3 ((e.trans e2).trans e3) _ fun H4 e4 =>
    hs p H4 (((e.trans e2).trans e3).trans e4) (e4 _ _ hp) H4 (Ex.refl H4) Q (fun H5 e5 => q H5 (((e2.trans e3).trans e4).trans e5)) E
theorem strs_eq {a b : Str} : decide (V.str a = V.str b) = decide (a = b) := by simp
/-! ### taking a row apart -/
theorem cut_set (us : List Int) (p : Nat) (v : Int) (hp : p < us.length) : cutV (us.map V.int) none (some (p : Int)) ++ [V.int v] ++ cutV (us.map V.int) (some ((p : Int) + 1)) none = (us.set p v).map V.int := by
  rw [cut_to, show ((p : Int) + 1) = ((p + 1 : Nat) : Int) by omega, cut_from, List.set_eq_take_append_cons_drop, if_pos hp]
  simp
theorem cut_del (us : List Int) (p : Nat) : cutV (us.map V.int) none (some (p : Int)) ++ cutV (us.map V.int) (some ((p : Int) + 1)) none = (us.eraseIdx p).map V.int := by
  rw [cut_to, show ((p : Int) + 1) = ((p + 1 : Nat) : Int) by omega, cut_from, List.eraseIdx_eq_take_drop_succ]
  simp
end
/-! ### rows that tell a number, and others -/
def Tells' (bs rs : List Int) : Prop := Rw.IsRow bs rs ∧ Rw.num bs rs < Rw.room bs
theorem set_ne_row {bs : List Int} (g : Rw.Good bs) {x v m : Int} {p : Nat} (x0 : 0 ≤ x) (x1 : x < Rw.room bs) (hm : bs[p]? = some m) (v0 : 0 ≤ v) (v1 : v < m) (hv : v ≠ x % m) :
    Rw.IsRow bs ((Rw.rowOf bs x).set p v) ∧ ¬ Rw.num bs ((Rw.rowOf bs x).set p v) < Rw.room bs := by
  have hp : p < bs.length := (List.getElem?_eq_some_iff.mp hm).1
  have hl : ((Rw.rowOf bs x).set p v).length = bs.length := by rw [List.length_set, Rw.rowOf_length]
  have r : Rw.IsRow bs ((Rw.rowOf bs x).set p v) := by
    refine ⟨hl, fun k r b hr hb => ?_⟩
    by_cases e : k = p
    · subst e
      rw [hm] at hb
      have := Option.some.inj hb
      rw [List.getElem?_set_self (by rw [Rw.rowOf_length]; exact hp)] at hr
      have := Option.some.inj hr
      omega
    · rw [List.getElem?_set_ne (fun z => e z.symm)] at hr
      exact (Rw.isRow_rowOf g x).rng k r b hr hb
  refine ⟨r, fun h => ?_⟩
  obtain ⟨n0, n1, hn⟩ := Rw.num_spec g hl
  have same : Rw.num bs ((Rw.rowOf bs x).set p v) = x := g.uniq1 n0 h x0 x1 hp fun k b hb hk => by
    have hr : ((Rw.rowOf bs x).set p v)[k]? = some (x % b) := by rw [List.getElem?_set_ne (fun z => hk z.symm), Rw.rowOf_get hb]
    rw [hn k b _ hb hr, Int.emod_emod]
  have hr : ((Rw.rowOf bs x).set p v)[p]? = some v := List.getElem?_set_self (by rw [Rw.rowOf_length]; exact hp)
  have := hn p m v hm hr
  rw [same, Int.emod_eq_of_lt v0 v1] at this
  exact hv this.symm
theorem far_row {bs : List Int} (g : Rw.Good bs) {x : Int} (x0 : 0 ≤ x) (x1 : x < Rw.room bs) : Rw.IsRow bs (Rw.rowOf bs (x + Rw.room bs)) ∧ ¬ Rw.num bs (Rw.rowOf bs (x + Rw.room bs)) < Rw.room bs := by
  have := g.room9
  have := g.room_pos
  refine ⟨Rw.isRow_rowOf g _, ?_⟩
  rw [Rw.num_row g (by omega) (by omega)]
  omega
theorem spoil_ne {x m d : Int} (h3 : 3 ≤ m) (d1 : 1 ≤ d) (d2 : d < m) : (x % m + d) % m ≠ x % m ∧ 0 ≤ (x % m + d) % m ∧ (x % m + d) % m < m := by
  have h0 := Int.emod_nonneg x (show m ≠ 0 by omega)
  have h1 := Int.emod_lt_of_pos x (show 0 < m by omega)
  refine ⟨fun h => ?_, Int.emod_nonneg _ (by omega), Int.emod_lt_of_pos _ (by omega)⟩
  by_cases c : x % m + d < m
  · rw [Int.emod_eq_of_lt (by omega) c] at h
    omega
  · have e : (x % m + d) % m = x % m + d - m := by
      rw [← Int.sub_emod_right, Int.emod_eq_of_lt (by omega) (by omega)]
    omega
theorem not_row_len {bs us : List Int} (h : us.length ≠ bs.length) : ¬ Rw.IsRow bs us := fun w => h w.len
theorem not_row_at {bs us : List Int} {p : Nat} {v m : Int} (hu : us[p]? = some v) (hm : bs[p]? = some m) (h : v < 0 ∨ m ≤ v) : ¬ Rw.IsRow bs us := fun w => by
  have := w.rng p v m hu hm
  omega
/-! ### one place lost -/
theorem isRow_set {bs rs : List Int} {p : Nat} {m v : Int} (w : Rw.IsRow bs rs) (hm : bs[p]? = some m) (v0 : 0 ≤ v) (v1 : v < m) : Rw.IsRow bs (rs.set p v) := by
  refine ⟨by rw [List.length_set]; exact w.len, fun k r b hr hb => ?_⟩
  by_cases e : k = p
  · subst e
    rw [hm] at hb
    have := Option.some.inj hb
    have hp := (List.getElem?_eq_some_iff.mp hm).1
    rw [List.getElem?_set_self (by rw [w.len]; exact hp)] at hr
    have := Option.some.inj hr
    omega
  · rw [List.getElem?_set_ne (fun z => e z.symm)] at hr
    exact w.rng k r b hr hb
theorem onum_is {bs rs : List Int} {p : Nat} {x : Int} (g : Rw.Good bs) (hl : rs.length = bs.length) (hp : p < bs.length) (x0 : 0 ≤ x) (x1 : x < Rw.room bs) (h : ∀ (k : Nat) (b r : Int), k ≠ p → bs[k]? = some b → rs[k]? = some r → x % b = r % b) : Rw.onum bs rs p = x :=
  (Rw.onum_spec g hl hp).is g (by omega) hp x0 x1 h
theorem onum_row {bs : List Int} {p : Nat} {x v : Int} (g : Rw.Good bs) (hp : p < bs.length) (x0 : 0 ≤ x) (x1 : x < Rw.room bs) : Rw.onum bs ((Rw.rowOf bs x).set p v) p = x :=
  onum_is g (by rw [List.length_set, Rw.rowOf_length]) hp x0 x1 fun k b r hk hb hr => by
    rw [List.getElem?_set_ne (fun z => hk z.symm), Rw.rowOf_get hb] at hr
    rw [← Option.some.inj hr, Int.emod_emod]
/-- two places differ from a number's row: what the others of the one tell is beyond the room -/
theorem onum_two {bs rs : List Int} {p q : Nat} {x mq rq : Int} (g : Rw.Good bs) (hl : rs.length = bs.length) (hp : p < bs.length) (hq : bs[q]? = some mq) (hpq : q ≠ p) (x0 : 0 ≤ x) (x1 : x < Rw.room bs)
    (h : ∀ (k : Nat) (b r : Int), k ≠ p → k ≠ q → bs[k]? = some b → rs[k]? = some r → x % b = r % b) (hr : rs[q]? = some rq) (hne : x % mq ≠ rq % mq) : ¬ Rw.onum bs rs p < Rw.room bs := by
  intro y1
  have o := Rw.onum_spec g hl hp
  have hq' := (List.getElem?_eq_some_iff.mp hq).1
  have e : Rw.onum bs rs p = x := by
    have ag : ∀ (k : Nat) (b : Int), bs[k]? = some b → k ≠ p → k ≠ q → Rw.onum bs rs p % b = x % b := fun k b hb h1 h2 => by
      have hk := (List.getElem?_eq_some_iff.mp hb).1
      have hrk : rs[k]? = some (rs[k]'(by omega)) := List.getElem?_eq_getElem (by omega)
      rw [o.has k b _ h1 hb hrk, h k b _ h1 h2 hb hrk]
    rcases Nat.lt_or_gt_of_ne hpq with c | c
    · exact g.uniq2 o.lo y1 x0 x1 c hp fun k b hb h1 h2 => ag k b hb h2 h1
    · exact g.uniq2 o.lo y1 x0 x1 c hq' fun k b hb h1 h2 => ag k b hb h1 h2
  have := o.has q mq rq hpq hq hr
  rw [e] at this
  exact hne this
theorem set_back {bs : List Int} {p : Nat} {x v m : Int} (hm : bs[p]? = some m) : ((Rw.rowOf bs x).set p v).set p (x % m) = Rw.rowOf bs x := by
  rw [List.set_set]
  apply List.ext_getElem?
  intro k
  by_cases e : k = p
  · subst e
    rw [List.getElem?_set_self (by rw [Rw.rowOf_length]; exact (List.getElem?_eq_some_iff.mp hm).1), Rw.rowOf_get hm]
  · rw [List.getElem?_set_ne (fun z => e z.symm)]
/-! ### calls with a list that may be new among the arguments -/
section
variable {σ : L2.St} {H : Hp} {t1 t2 t3 : TE} {sp : Sp} {E : XK} {x1 z1 w : V} {xs zs : List V}
theorem el_callVHV (h1 : Ev t1 σ H x1) (h2 : EvH t2 σ H xs) (h3 : Ev t3 σ H z1) (hs : ∀ p H1, Ex H H1 → H1 p = some (.lst xs) → SpL sp [x1, .ref p, z1] H1 zs) :
    EvL (tCall sp [] E (tCons t1 (tCons t2 (tCons t3 tNil)))) σ H zs := fun H1 e Q q => by
  show t1 σ H1 fun _ H2 => t2 σ H2 fun _ H3 => t3 σ H3 fun _ H4 => sp _ H4 Q E
  exact h1 H1 e _ fun H2 e2 => h2 H2 (e.trans e2) _ fun p H3 e3 hp => h3 H3 ((e.trans e2).trans e3) _ fun H4 e4 =>
    hs p H4 (((e.trans e2).trans e3).trans e4) (e4 _ _ hp) H4 (Ex.refl H4) Q (fun l H5 hl e5 h5 => q l H5 (fresh_back ((e2.trans e3).trans e4) hl) (((e2.trans e3).trans e4).trans e5) h5) E
theorem el_callVH (h1 : Ev t1 σ H x1) (h2 : EvH t2 σ H xs) (hs : ∀ p H1, Ex H H1 → H1 p = some (.lst xs) → SpL sp [x1, .ref p] H1 zs) :
    EvL (tCall sp [] E (tCons t1 (tCons t2 tNil))) σ H zs := fun H1 e Q q => by
  show t1 σ H1 fun _ H2 => t2 σ H2 fun _ H3 => sp _ H3 Q E
  exact h1 H1 e _ fun H2 e2 => h2 H2 (e.trans e2) _ fun p H3 e3 hp =>
    hs p H3 ((e.trans e2).trans e3) hp H3 (Ex.refl H3) Q (fun l H5 hl e5 h5 => q l H5 (fresh_back (e2.trans e3) hl) ((e2.trans e3).trans e5) h5) E
end
/-! ### the places where two rows differ -/
def apartL (xs ys : List Int) (f : Nat → Bool) : List Int := ((List.range xs.length).filter fun k => decide (xs.getD k 0 ≠ ys.getD k 0) && f k).map fun k : Nat => (k : Int)
theorem apart_nil {xs ys : List Int} {f : Nat → Bool} (h : apartL xs ys f = []) {k : Nat} (hk : k < xs.length) (hf : f k = true) : xs.getD k 0 = ys.getD k 0 := by
  unfold apartL at h
  rw [List.map_eq_nil_iff, List.filter_eq_nil_iff] at h
  have z := h k (List.mem_range.mpr hk)
  rw [hf, Bool.and_true, decide_eq_true_eq] at z
  exact Decidable.of_not_not z
theorem apart_nil_of {xs ys : List Int} {f : Nat → Bool} (h : ∀ k, k < xs.length → f k = true → xs.getD k 0 = ys.getD k 0) : apartL xs ys f = [] := by
  unfold apartL
  rw [List.map_eq_nil_iff, List.filter_eq_nil_iff]
  intro k hk hc
  rw [Bool.and_eq_true, decide_eq_true_eq] at hc
  exact hc.1 (h k (List.mem_range.mp hk) hc.2)
theorem one_of {l : List Nat} {p : Nat} (hn : l.Nodup) (h : ∀ x, x ∈ l ↔ x = p) : l = [p] := by
  cases l with
  | nil => exact absurd ((h p).mpr rfl) List.not_mem_nil
  | cons a l =>
    have ea : a = p := (h a).mp List.mem_cons_self
    cases l with
    | nil => rw [ea]
    | cons b l =>
      have eb : b = p := (h b).mp (List.mem_cons_of_mem _ List.mem_cons_self)
      subst ea eb
      exact absurd List.mem_cons_self (List.nodup_cons.mp hn).1
theorem apart_one {xs ys : List Int} {p : Nat} (hp : p < xs.length) (hn : xs.getD p 0 ≠ ys.getD p 0) (h : ∀ k, k < xs.length → k ≠ p → xs.getD k 0 = ys.getD k 0) : apartL xs ys (fun _ => true) = [(p : Int)] := by
  unfold apartL
  rw [one_of (p := p) (List.Nodup.sublist List.filter_sublist List.nodup_range) (fun x => ?_)]
  · rfl
  · rw [List.mem_filter, List.mem_range, Bool.and_true, decide_eq_true_eq]
    constructor
    · intro z
      by_cases e : x = p
      · exact e
      · exact absurd (h x z.1 e) z.2
    · intro e
      subst e
      exact ⟨hp, hn⟩
theorem apart_few {xs ys : List Int} (hx : 0 < xs.length) (h : ¬ 1 < (apartL xs ys fun _ => true).length) : ∃ q, q < xs.length ∧ ∀ k, k < xs.length → k ≠ q → xs.getD k 0 = ys.getD k 0 := by
  unfold apartL at h
  rw [List.length_map] at h
  generalize hl : (List.range xs.length).filter (fun k => decide (xs.getD k 0 ≠ ys.getD k 0) && true) = l at h
  have hm : ∀ k, k < xs.length → k ∉ l → xs.getD k 0 = ys.getD k 0 := fun k hk hn => by
    rw [← hl, List.mem_filter, List.mem_range, Bool.and_true, decide_eq_true_eq] at hn
    by_cases e : xs.getD k 0 = ys.getD k 0
    · exact e
    · exact absurd ⟨hk, e⟩ hn
  match l, h with
  | [], _ => exact ⟨0, hx, fun k hk _ => hm k hk List.not_mem_nil⟩
  | [q], _ =>
    have hq : q < xs.length := by
      have : q ∈ (List.range xs.length).filter (fun k => decide (xs.getD k 0 ≠ ys.getD k 0) && true) := by rw [hl]; exact List.mem_cons_self
      exact List.mem_range.mp (List.mem_filter.mp this).1
    exact ⟨q, hq, fun k hk hne => hm k hk (by rw [List.mem_singleton]; exact hne)⟩
  | _ :: _ :: _, h => exact absurd (by simp) h
theorem agree_at {bs rs : List Int} {m : Int} {k : Nat} {b r : Int} (h : rs.getD k 0 = (Rw.rowOf bs m).getD k 0) (hb : bs[k]? = some b) (hr : rs[k]? = some r) : m % b = r % b := by
  rw [Rw.getD_of hr, Rw.getD_of (Rw.rowOf_get hb)] at h
  rw [h, Int.emod_emod]
/-- where all others agree with a number of the room, they tell it -/
theorem far_onum {bs rs : List Int} {p : Nat} {m v : Int} (g : Rw.Good bs) (hl : rs.length = bs.length) (hp : p < bs.length) (m0 : 0 ≤ m) (m1 : m < Rw.room bs) (h : ∀ k, k < rs.length → k ≠ p → rs.getD k 0 = (Rw.rowOf bs m).getD k 0) : Rw.onum bs (rs.set p v) p = m :=
  onum_is g (by rw [List.length_set]; exact hl) hp m0 m1 fun k b r hk hb hr => by
    rw [List.getElem?_set_ne (fun z => hk z.symm)] at hr
    exact agree_at (h k (List.getElem?_eq_some_iff.mp hr).1 hk) hb hr
theorem far_onum' {bs rs : List Int} {p : Nat} {m : Int} (g : Rw.Good bs) (hl : rs.length = bs.length) (hp : p < bs.length) (m0 : 0 ≤ m) (m1 : m < Rw.room bs) (h : ∀ k, k < rs.length → k ≠ p → rs.getD k 0 = (Rw.rowOf bs m).getD k 0) : Rw.onum bs rs p = m :=
  onum_is g hl hp m0 m1 fun k b r hk hb hr => agree_at (h k (List.getElem?_eq_some_iff.mp hr).1 hk) hb hr
/-- the row with what the others tell is that number's -/
theorem refill_row {bs rs : List Int} {p : Nat} {mp : Int} (g : Rw.Good bs) (w : Rw.IsRow bs rs) (hm : bs[p]? = some mp) : rs.set p (Rw.onum bs rs p % mp) = Rw.rowOf bs (Rw.onum bs rs p) := by
  have hp := (List.getElem?_eq_some_iff.mp hm).1
  have m3 := g.get3 hm
  have ot := Rw.onum_spec g w.len hp
  have hw := ot.whole g hm
  have w2 : Rw.IsRow bs (rs.set p (Rw.onum bs rs p % mp)) := isRow_set w hm (Int.emod_nonneg _ (by omega)) (Int.emod_lt_of_pos _ (by omega))
  exact Rw.is_row_of g w2 (Rw.num_eq g w2.len ot.lo hw.1 hw.2)
theorem getD_set_ne {xs : List Int} {p k : Nat} {v : Int} (h : k ≠ p) : (xs.set p v).getD k 0 = xs.getD k 0 := by
  rw [List.getD_eq_getElem?_getD, List.getD_eq_getElem?_getD, List.getElem?_set_ne (fun z => h z.symm)]
theorem isRow_range {bs : List Int} (g : Rw.Good bs) (f : Nat → Int) : Rw.IsRow bs ((List.range bs.length).map fun k => f k % bs.getD k 0) := by
  refine ⟨by rw [List.length_map, List.length_range], fun k r b hr hb => ?_⟩
  have hk := (List.getElem?_eq_some_iff.mp hb).1
  rw [List.getElem?_map, List.getElem?_range hk] at hr
  have e : f k % bs.getD k 0 = r := Option.some.inj hr
  rw [Rw.getD_of hb] at e
  have b3 := g.get3 hb
  rw [← e]
  exact ⟨Int.emod_nonneg _ (by omega), Int.emod_lt_of_pos _ (by omega)⟩
theorem range_get {bs : List Int} {f : Nat → Int} {i : Nat} {y : Int} (h : ((List.range bs.length).map fun k => f k % bs.getD k 0)[i]? = some y) (hi : i < bs.length) : y = f i % bs.getD i 0 := by
  rw [List.getElem?_map, List.getElem?_range hi] at h
  exact (Option.some.inj h).symm
theorem getD_le {bs : List Int} {i : Nat} (hi : i < bs.length) : bs[i]? = some (bs.getD i 0) := by
  rw [List.getD_eq_getElem?_getD, List.getElem?_eq_getElem hi]
  rfl
/-- one place apart at most from another number's row -/
theorem few_num {bs rs : List Int} {m : Int} {q : Nat} (g : Rw.Good bs) (w : Rw.IsRow bs rs) (hq : q < bs.length) (m0 : 0 ≤ m) (m1 : m < Rw.room bs) (h : ∀ k, k < rs.length → k ≠ q → rs.getD k 0 = (Rw.rowOf bs m).getD k 0) (hn : Rw.num bs rs < Rw.room bs) : Rw.num bs rs = m := by
  obtain ⟨x0, x1, hx⟩ := Rw.num_spec g w.len
  refine g.uniq1 x0 hn m0 m1 hq fun k b hb hk => ?_
  have hkl := (List.getElem?_eq_some_iff.mp hb).1
  have hr : rs[k]? = some (rs[k]'(by rw [w.len]; exact hkl)) := List.getElem?_eq_getElem (by rw [w.len]; exact hkl)
  rw [agree_at (h k (by rw [w.len]; exact hkl) hk) hb hr]
  exact hx k b _ hb hr
theorem few_onum {bs rs : List Int} {m : Int} {q p : Nat} (g : Rw.Good bs) (w : Rw.IsRow bs rs) (hq : q < bs.length) (hp : p < bs.length) (m0 : 0 ≤ m) (m1 : m < Rw.room bs) (h : ∀ k, k < rs.length → k ≠ q → rs.getD k 0 = (Rw.rowOf bs m).getD k 0) (hn : Rw.onum bs rs p < Rw.room bs) : Rw.onum bs rs p = m := by
  have o := Rw.onum_spec g w.len hp
  have ag : ∀ (k : Nat) (b : Int), bs[k]? = some b → k ≠ p → k ≠ q → Rw.onum bs rs p % b = m % b := fun k b hb h1 h2 => by
    have hkl := (List.getElem?_eq_some_iff.mp hb).1
    have hr : rs[k]? = some (rs[k]'(by rw [w.len]; exact hkl)) := List.getElem?_eq_getElem (by rw [w.len]; exact hkl)
    rw [o.has k b _ h1 hb hr, agree_at (h k (by rw [w.len]; exact hkl) h2) hb hr]
  rcases Nat.lt_trichotomy p q with c | c | c
  · exact g.uniq2 o.lo hn m0 m1 c hq fun k b hb h1 h2 => ag k b hb h1 h2
  · subst c
    exact g.uniq1 o.lo hn m0 m1 hp fun k b hb h1 => ag k b hb h1 h1
  · exact g.uniq2 o.lo hn m0 m1 c hp fun k b hb h1 h2 => ag k b hb h2 h1
/-! ### C(..) whose exceptions are wished for at the slots -/
def tMakeS (C : Addr) (sp : Sp) (E : L2.St → XK) (t : TA) : TE := fun σ H Q => t σ H fun vs H1 => ∀ x dx, H1 x = none → H1 dx = none → dx ≠ x →
  sp (.ref x :: vs) (upd (upd H1 dx (.own x)) x (.ins C dx [])) (fun v H2 => v = .non ∧ Q (.ref x) H2) (E σ)
section
variable {X : Cx} {CX : CXT} {k : Nat} {f C : Addr} {fd : FuncData} {ps : List Str} {sp : Sp} {E : L2.St → XK} {x : Str} {p pos : Pos} {e : Expr} {es : List Expr} {t : TA}
theorem run_makeS {pins : List (Addr × Obj)} {σ : L2.St} {H : Hp} {s : Shared} {Q : VK} {us : List Value} {vs : List V} (M : Mk X.K C f) (F : FnOk X.prog X.w X.K X.mg X.base CX k f fd ps sp) (hr : Room (k + 1) X.A) (hb : Binds X.K fd ps [])
    (hx : PassesAt CX X σ (E σ)) (I : Inv X pins σ H s) (r : Vals vs us)
    (h : ∀ x dx, H x = none → H dx = none → dx ≠ x → sp (.ref x :: vs) (upd (upd H dx (.own x)) x (.ins C dx [])) (fun v H2 => v = .non ∧ Q (.ref x) H2) (E σ)) :
    wpAny (model X.prog X.w) X.A (call (.ref C) us) (EP X pins σ Q) X.xe s := by
  have hq := h (s.heap.objs.size + 1) s.heap.objs.size (I.hok.fresh (Nat.le_succ _)) (I.hok.fresh (Nat.le_refl _)) (Nat.ne_of_lt (Nat.lt_succ_self _))
  have I2 := Inv.made (C := C) I
  have r2 : Vals (V.ref (s.heap.objs.size + 1) :: vs) (Value.ref (s.heap.objs.size + 1) :: us) := .cons rfl r
  have hl : (Value.ref (s.heap.objs.size + 1) :: us).length = ps.length := by
    have e := r2.length
    rw [F.len _ _ _ _ hq] at e
    exact e.symm
  have b := hb _ (Value.ref (s.heap.objs.size + 1) :: us) I2.kIn (by rw [List.append_nil]; exact hl)
  rw [List.append_nil] at b
  refine wpAny_call (make_map (f := f) I.kIn M.makes M.init (beq_iff_eq.mp M.fn) (codeAny_mono (F.run _ X.stack _ _ ⟨Value.ref (s.heap.objs.size + 1) :: us, []⟩ (Value.ref (s.heap.objs.size + 1) :: us) _ _ (E σ) (hr.make C us [])
    (I2.env0.make C us []) b r2 hq) fun r s' hq' => ?_))
  cases r with
  | error e => exact hx pins _ _ e s' I2 hq'
  | ok fl =>
    cases fl with
    | ret u =>
      obtain ⟨v, H', I3, rv, ev, q3⟩ := I2.after hq'
      subst ev
      exact ⟨rv, ⟨V.ref (s.heap.objs.size + 1), H', I3, rfl, q3⟩⟩
    | next => exact False.elim hq'
    | brk => exact False.elim hq'
    | cont => exact False.elim hq'
theorem pe_makeS (M : Mk X.K C f) (F : FnOk X.prog X.w X.K X.mg X.base CX k f fd ps sp) (hr : Room (k + 1) X.A) (hg : Gl X x) (hm : X.mg x = some (.ref C)) (hb : Binds X.K fd ps []) (hx : ∀ σ, PassesAt CX X σ (E σ))
    (ha : PA X (e :: es) t) (hdb : (x == ("__debug__" : Str)) = false := by decide) (he : starEach (e :: es) X.env = (false, eval e X.env) :: starEach es X.env := by rfl) (hpl : (backTo pos (starEach es X.env)).any (·.1) = false := by rfl) :
    PE X (.Call (.Name x p) (e :: es) [] pos) (tMakeS C sp E t) := by
  refine ⟨fun pins s σ H Q I h => ?_⟩
  refine wpAny_Call_Name_kw (ld_glob I hg hm ?_ hdb)
  refine PySem.W.callWith_K (h₀ := X.base) I.ok.mod.kin M.kp (thn (ha.run pos pins s σ H _ I h) fun us s1 ⟨vs, H1, I1, r, q⟩ => ⟨I1.kIn, ?_⟩) he hpl
  exact run_makeS M F hr hb (hx σ) I1 r q
end
theorem cut_int (us : List Int) (lo hi : Option Int) : ∃ vs : List Int, cutV (us.map V.int) lo hi = vs.map V.int ∧ vs.length ≤ us.length := by
  refine ⟨(us.drop (HT.sIx us.length 0 lo)).take (HT.sIx us.length us.length hi - HT.sIx us.length 0 lo), ?_, ?_⟩
  · unfold cutV
    rw [List.length_map, List.map_take, List.map_drop]
  · rw [List.length_take, List.length_drop]
    omega
theorem cut_first (us : List Int) {n : Nat} (hn : n ≤ us.length) : cutV (us.map V.int) none (some (n : Int)) = (us.take n).map V.int ∧ (us.take n).length = n := by
  refine ⟨by rw [cut_to, List.map_take], by rw [List.length_take]; omega⟩
end Rk

/-! ## [e for x in range(..)] where an exception is handled -/
namespace RkH
open PySem PySem.Spec PyProof.Rows L2 L2H
/-- the same state, what it pins told in another place -/
theorem repin {X : Cx} {pins ps qs : List (Addr × Obj)} {σ : L2.St} {H : Hp} {s : Shared} (I : Inv X pins σ H s) (h : ∀ p ∈ ps ++ qs, p ∈ X.pn ++ pins) : Inv { X with pn := ps } qs σ H s :=
  have o := I.ok
  ⟨⟨o.mod, o.kind, o.glob, o.blt, o.above, o.inj, o.has, o.cab, o.hd, o.frames, o.stk, o.exf, o.bs, o.bsz, o.noex, o.exfs, o.funs, o.frf⟩, I.os, I.bare, I.base, I.loc, I.cell, I.free, I.freeC, fun p hp => I.pin p (h p hp), I.hok, I.len⟩
/-- a pin of the def's is one of its block's -/
theorem pin_in {X : Cx} {pins : List (Addr × Obj)} {σ σ' : L2.St} {H : Hp} {s s' : Shared} {scope : Scope} {ce : Env} {fp : List Addr} {p : Addr × Obj} (I : Inv X pins σ H s) (hp : p ∈ X.pn)
    (B : Inv (X.blk s H scope ce fp) [] σ' H s') (loc : ce.locals = s.heap.objs.size) (k : ∀ a o, s.heap.get? a = some o → s'.heap.get? a = some o) : Inv (X.blk s H scope ce fp) [p] σ' H s' := by
  obtain ⟨h1, h2, h3, h4, h5⟩ := I.pin p (List.mem_append_left _ hp)
  refine B.pins_of fun q hq => ?_
  obtain rfl := List.mem_singleton.mp hq
  refine ⟨k _ _ h1, h2, fun z => Nat.ne_of_lt (Heap.lt_size h1) (z.trans loc), fun z => ?_, h5⟩
  have z : q.1 ∈ frs X.stack := z
  rcases I.ok.stk with e | ⟨e, f⟩
  · rw [e] at z
    exact h4 z
  · rw [e] at z
    unfold frs at z
    rw [List.filterMap_cons_some f] at z
    exact (List.mem_cons.mp z).elim h3 h4
/-- the iterator's objects in a block that bears a pin -/
theorem fp_in {X : Cx} {scope : Scope} {ce : Env} {fp : List Addr} {s s' : Shared} {σ' : L2.St} {H H' : Hp} {p : Addr × Obj} (B : Inv (X.blk s H scope ce fp) [p] σ' H' s') (free : ∀ b ∈ fp, H' b = none) (np : ∀ b ∈ fp, p.1 ≠ b) :
    ∀ b ∈ fp, FpOk (X.blk s H scope ce fp) [p] H' b := fun b hb =>
  ⟨free b hb, (B.ok.exf b hb).1, B.ok.exfs b hb, .inl hb, fun x c e => (B.ok.exf b hb).2 x c e, fun q hq => by
    have hq : q ∈ [p] := hq
    rw [List.mem_singleton.mp hq]
    exact np b hb⟩
section
variable {X : Cx} {elt tg iter : Expr} {scope : Scope} {own : List (Str × Nat)} {pos : Pos} {wi : TI} {g : TG} {te : TE}
/-- the turns, the handled exception's object pinned in the block -/
theorem loop_hot {pins : List (Addr × Obj)} {σ σ0 : L2.St} {H1 : Hp} {t1 s4 : Shared} {ce : Env} {fp : List Addr} {it D : Addr} {tn : Nat → Heap → Prop} {J : It} {W : Nat → Nat → Hp → Prop} {m0 : Nat} {p : Addr × Obj} {Q : VK} {vs : List Nat} {R : Result → Shared → Prop}
    (I1 : Inv X pins σ H1 t1) (loc : ce.locals = t1.heap.objs.size) (hot : Hot1 X.A p) (hp : p ∈ X.pn) (B : Inv (X.blk t1 H1 scope ce fp) [p] σ0 H1 s4) (T : TurnH X.prog X.w X.K tg J fp it tn) (st : tn 0 s4.heap) (ff : ∀ b ∈ fp, FpOk X pins H1 b)
    (pg : PG (X.blk t1 H1 scope ce fp) tg g) (pe : PE (X.blk t1 H1 scope ce fp) elt te) (w0 : W 0 m0 H1) (hw : wipe σ vs = σ0)
    (turn : ∀ i m H, W i m H → (J.stop i H ∧ Q (.ref D) H) ∨ (J.go i H ∧ ∃ Nx : Hp → Prop, (∀ H', Nx H' → ∃ m', m' < m ∧ W (i + 1) m' H') ∧ ∀ x H', J.yld i H x H' → g x σ0 H' fun σ2 H2 => wipe σ2 vs = σ0 ∧ tYes σ2 H2 fun b H3 =>
      if b = true then te σ2 H3 fun y H4 => ∃ acc, H4 D = some (.lst acc) ∧ acc.length < sizeLine ∧ Nx (upd H4 D (.lst (acc ++ [y]))) else Nx H3))
    (fin : ∀ s' m H', Inv X pins σ H' s' → Q (.ref D) H' → s'.heap.Ns t1.heap.objs.size m → H' t1.heap.objs.size = none → R (.ok .next) s') :
    codeAny (model X.prog X.w) X.A (.compLoop (.ListComp elt [⟨tg, iter, [], 0⟩] scope pos) 0 (.ref it) (.ref D) ce) R s4 := by
  have np : ∀ b ∈ fp, p.1 ≠ b := fun b hb => (ff b hb).2.2.2.2.2 p (List.mem_append_left _ hp)
  have up : ∀ q ∈ [p] ++ ([] : List (Addr × Obj)), q ∈ (X.blk t1 H1 scope ce fp).pn ++ [p] := fun q hq => hq
  refine compLoop_any (fun n s' => ∃ i H', Inv (X.blk t1 H1 scope ce fp) [p] σ0 H' s' ∧ tn i s'.heap ∧ (∀ b ∈ fp, H' b = none) ∧ W i n H') ?_ m0 ⟨0, H1, B, st, fun b hb => (ff b hb).1, w0⟩
  rintro n s5 ⟨i, H5, I5, st5, n5, w5⟩
  have f5 := fp_in I5 n5 np
  rcases turn i n H5 w5 with ⟨stop, qq⟩ | ⟨go, Nx, hNx, step⟩
  · refine thnF (T.done { X.blk t1 H1 scope ce fp with pn := [p] } rfl rfl rfl ⟨p, hot, List.mem_cons_self⟩ i [] s5 σ0 H5 (fun _ _ => False) (repin I5 up) f5 st5 stop) fun r s6 ⟨hr, I6⟩ => ?_
    subst hr
    have out : Inv X pins σ H5 s6 := I1.call' (ch := fp) I6.os I6.base I6.hok I6.bare fun b hb => ⟨(ff b hb).2.2.2.1, (ff b hb).2.1, (ff b hb).2.2.2.2.1, (ff b hb).2.2.2.2.2⟩
    obtain ⟨m, ns, _⟩ := I6.loc
    have ns : s6.heap.Ns ce.locals m := ns
    have nl : H5 ce.locals = none := I6.free
    rw [loc] at ns nl
    exact fin s6 m H5 out qq ns nl
  · refine thnF (T.item { X.blk t1 H1 scope ce fp with pn := [p] } rfl rfl rfl ⟨p, hot, List.mem_cons_self⟩ i [] s5 σ0 H5 (fun _ _ => False) (repin I5 up) f5 st5 go) fun r s6 ⟨u, hr, h6⟩ => ?_
    subst hr
    refine thnF h6 fun _ s7 ⟨x, H7, I7, r7, y7, st7, n7⟩ => ?_
    have I7 : Inv (X.blk t1 H1 scope ce fp) [p] σ0 H7 s7 := repin (ps := []) (qs := [p]) I7 fun q hq => hq
    -- the iterator's objects stay while the element is worked out
    refine thnF (pg.run _ s7 _ H7 x u _ (I7.pinned (fp_in I7 n7 np) (T.obj _ _ st7)) r7 (step x H7 y7)) fun _ s8 ⟨σ8, H8, I8, hw8, q8⟩ => ?_
    refine wpAny_pure ?_
    show wpAny _ _ (eval elt ce) _ _ s8
    refine thnF (pe.run _ s8 σ8 H8 _ I8 q8) fun z s9 ⟨y, H9, I9, r9, acc, hD, hz, nx⟩ => app_ok (X := X.blk t1 H1 scope ce fp) I9 hD hz r9 fun s10 I10 => ?_
    obtain ⟨m', lt, w'⟩ := hNx _ nx
    have stay : ∀ b ∈ fp, ∃ o, s7.heap.get? b = some o ∧ s10.heap.get? b = some o ∧ upd H9 D (.lst (acc ++ [y])) b = none := fun b hb => by
      obtain ⟨o, e, _⟩ := T.obj _ _ st7 b hb
      have z := I10.pin (b, o) (List.mem_append_right _ (List.mem_append_right [p] (mem_pinsAt hb e)))
      exact ⟨o, e, z.1, z.2.1⟩
    refine ⟨m', lt, i + 1, _, I10.unpinned.weak (by rw [← hw8, wipe_length]) (fun j v e => ?_), T.keep _ _ _ st7 (fun b hb o e => ?_), fun b hb => ?_, w'⟩
    · rw [← hw8] at e
      exact (wipe_some e).1
    · obtain ⟨o', e1, e2, _⟩ := stay b hb
      rw [e] at e1
      rw [e2, e1]
    · obtain ⟨_, _, _, z⟩ := stay b hb
      exact z
theorem lc_hot (hot : HotC X) (nd : X.N.Nodup) (hi : PIH X tg iter wi) (ok : BlkOk X.N X.env.scope scope own)
    (hg : ∀ (s : Shared) (H : Hp) (C : Addr) (cl : List (Str × Addr)) (fp : List Addr), PG (X.blk s H scope (compEnvC scope cl C X.env) fp) tg g)
    (he : ∀ (s : Shared) (H : Hp) (C : Addr) (cl : List (Str × Addr)) (fp : List Addr), PE (X.blk s H scope (compEnvC scope cl C X.env) fp) elt te)
    (fs : ∀ x, foldedSetIterable iter X.env x = pure x := by intro _; rfl) :
    PE X (.ListComp elt [⟨tg, iter, [], 0⟩] scope pos) (tLc wi g tYes te (own.map (·.2))) := by
  refine ⟨fun pins s σ H Q I h => ?_⟩
  obtain ⟨p, hp1, hpm⟩ := hot
  rw [eval_ListComp]
  have free : ∀ y ∈ scope.names, y.2 = .free → ∃ c, X.env.cells.lookup y.1 = some c := fun y hy e => I.ok.has _ (ok.free y hy e)
  refine wpAny_comprehension_free rfl fs (closure_ok free) ok.kind (fun y hy e => by rw [ok.uniq y hy, e]) (thn (hi.run pins s σ H _ I h) fun _ _ h1 => thn h1 fun _ t h2 => ?_)
  obtain ⟨it, fp, tn, J, G, rfl, It, T, st, ff, q⟩ := h2
  refine wpAny_newObj_type (newEnv_comp ?_) (Nat.zero_le _)
  -- the list that is built, and the block's own dict and cells
  obtain ⟨W, ⟨m0, w0⟩, turn⟩ := q t.heap.objs.size (It.hok.fresh (Nat.le_refl _))
  have old : ∀ {b : Addr} {o : Obj}, t.heap.get? b = some o → (t.heap.push { cls := .type "list", data := .seq ([] : List Value).toArray }).get? b = some o := fun e => Heap.get?_push_of_some _ e
  have Il := It.laid (a := t.heap.objs.size) (o := .lst []) (t' := t.toks) (fun b o e => old e) (Nat.le_refl _) ⟨Nat.zero_le _, [], 0, .nil, Heap.get?_push_size _ rfl⟩
  have fL : ∀ b ∈ fp, FpOk X pins (upd G t.heap.objs.size (.lst [])) b ∧ b < (t.heap.push { cls := .type "list", data := .seq ([] : List Value).toArray }).objs.size := fun b hb => by
    obtain ⟨o, e, _⟩ := T.obj _ _ st b hb
    have lt := Heap.lt_size e
    exact ⟨⟨by rw [upd_ne (Nat.ne_of_lt lt)]; exact (ff b hb).1, (ff b hb).2⟩, by rw [Heap.size_push]; exact Nat.lt_succ_of_lt lt⟩
  have B := block_start Il ok nd fL
  have keep : ∀ (b : Addr) (o : Obj), (t.heap.push { cls := .type "list", data := .seq ([] : List Value).toArray }).get? b = some o →
      (pushCells ((t.heap.push { cls := .type "list", data := .seq ([] : List Value).toArray }).push { cls := .type "dict", data := .dict #[] }) scope.names).get? b = some o := fun b o e => pushCells_keeps _ _ _ _ (Heap.get?_push_of_some _ e)
  have loop := loop_hot (elt := elt) (iter := iter) (pos := pos) (σ := σ) (vs := own.map (·.2)) (Q := Q) Il rfl hp1 hpm (pin_in Il hpm B rfl keep) T (T.keep _ _ _ st fun b _ o e => keep b o (old e)) (fun b hb => (fL b hb).1) (hg _ _ _ _ fp) (he _ _ _ _ fp) w0 rfl turn
    (R := compPost (model X.prog X.w) X.A X.xe none (EP X pins σ Q) (.ref t.heap.objs.size) (t.heap.push { cls := .type "list", data := .seq ([] : List Value).toArray }).objs.size) (fun s' m H' I' qq ns nl => ⟨m, ns, fun h'' sb => ?_⟩)
  · exact codeAny_compStart_list loop (T.self X.A 0 _ _ _ (T.keep _ _ _ st fun b _ o e => keep b o (old e)) loop)
  · obtain ⟨f0, f1, f2, f3, f4, f5⟩ := Il.fpOk (Nat.le_refl _) nl
    exact ⟨.ref t.heap.objs.size, H', I'.turned (t' := s'.toks) (fun b o hb e => (sb.2 b hb).trans e) f0 f1 f3 f4 f5, rfl, qq⟩
end
theorem hot_of {X : Cx} {a : Addr} {oe : Obj} {cls : Value} {d : Option Addr} {pn : List (Addr × Obj)} (hz : L2N.Zn cls d oe) (hf : ∃ vs, oe.data = .fields vs) : L2H.HotC (X.suite a ((a, oe) :: pn)) := by
  obtain ⟨vs, hv⟩ := hf
  exact ⟨(a, oe), ⟨rfl, vs, hv, hz.2.2 vs hv⟩, List.mem_cons_self⟩
end RkH

namespace Rk
open PySem PySem.Spec PyProof.Rows L2 Evl
def topS (i : Nat) : Stmt := PySem.Challenge.pw_restrow_k14_refusals_apart.main.body.getD i (.Pass ⟨0, 0, 0, 0⟩)
abbrev s_told_by_others : Stmt := topS 11
theorem sc_told_by_others : FnScope ["board", "row", "place", "k", "places", "figures", "at", "base", "value", "j", "turn"] ["board", "row", "place"] (defScope s_told_by_others) := ⟨rfl, rfl, rfl, by decide +kernel, rfl, by decide +kernel, by decide +kernel⟩
abbrev s_without : Stmt := topS 12
theorem sc_without : FnScope ["board", "row", "place", "whole"] ["board", "row", "place"] (defScope s_without) := ⟨rfl, rfl, rfl, by decide +kernel, rfl, by decide +kernel, by decide +kernel⟩
abbrev s_refilled : Stmt := topS 13
theorem sc_refilled : FnScope ["board", "row", "place", "known", "whole"] ["board", "row", "place"] (defScope s_refilled) := ⟨rfl, rfl, rfl, by decide +kernel, rfl, by decide +kernel, by decide +kernel⟩
abbrev s_common : Stmt := topS 19
theorem sc_common : FnScope ["one", "other", "rest"] ["one", "other"] (defScope s_common) := ⟨rfl, rfl, rfl, by decide +kernel, rfl, by decide +kernel, by decide +kernel⟩
abbrev s_turned : Stmt := topS 20
theorem sc_turned : FnScope ["number", "base", "high", "low", "ahead", "behind", "many", "rest", "step"] ["number", "base"] (defScope s_turned) := ⟨rfl, rfl, rfl, by decide +kernel, rfl, by decide +kernel, by decide +kernel⟩
abbrev s_need_bases : Stmt := topS 21
theorem sc_need_bases : FnScope ["bases", "base", "k", "ahead"] ["bases"] (defScope s_need_bases) := ⟨rfl, rfl, rfl, by decide +kernel, rfl, by decide +kernel, by decide +kernel⟩
abbrev s___init__ : Stmt := inClass (topS 23) 0
theorem sc___init__ : FnScope ["self", "bases", "k", "weight", "ahead"] ["self", "bases"] (defScope s___init__) := ⟨rfl, rfl, rfl, by decide +kernel, rfl, by decide +kernel, by decide +kernel⟩
abbrev s_room : Stmt := inClass (topS 23) 1
theorem sc_room : FnScope ["self", "found", "base"] ["self"] (defScope s_room) := ⟨rfl, rfl, rfl, by decide +kernel, rfl, by decide +kernel, by decide +kernel⟩
abbrev s_need_row : Stmt := inClass (topS 23) 2
theorem sc_need_row : FnScope ["self", "row", "rest", "base"] ["self", "row"] (defScope s_need_row) := ⟨rfl, rfl, rfl, by decide +kernel, rfl, by decide +kernel, by decide +kernel⟩
abbrev s_need_number : Stmt := inClass (topS 23) 3
theorem sc_need_number : FnScope ["self", "row"] ["self", "row"] (defScope s_need_number) := ⟨rfl, rfl, rfl, by decide +kernel, rfl, by decide +kernel, by decide +kernel⟩
abbrev s_rests : Stmt := inClass (topS 23) 4
theorem sc_rests : FnScope ["self", "number", "base"] ["self", "number"] (defScope s_rests) := ⟨rfl, rfl, rfl, by decide +kernel, rfl, by decide +kernel, by decide +kernel⟩
abbrev s_led : Stmt := inClass (topS 23) 5
theorem sc_led : FnScope ["self", "row", "found", "k", "base", "value", "j"] ["self", "row"] (defScope s_led) := ⟨rfl, rfl, rfl, by decide +kernel, rfl, by decide +kernel, by decide +kernel⟩
abbrev s_figures : Stmt := inClass (topS 23) 6
theorem sc_figures : FnScope ["self", "row"] ["self", "row"] (defScope s_figures) := ⟨rfl, rfl, rfl, by decide +kernel, rfl, by decide +kernel, by decide +kernel⟩
abbrev s_tells : Stmt := inClass (topS 23) 7
theorem sc_tells : FnScope ["self", "row"] ["self", "row"] (defScope s_tells) := ⟨rfl, rfl, rfl, by decide +kernel, rfl, by decide +kernel, by decide +kernel⟩
abbrev s_number : Stmt := inClass (topS 23) 8
theorem sc_number : FnScope ["self", "row", "value", "figures", "k"] ["self", "row"] (defScope s_number) := ⟨rfl, rfl, rfl, by decide +kernel, rfl, by decide +kernel, by decide +kernel⟩
abbrev s__law_cell_at : Stmt := topS 25
theorem sc__law_cell_at : FnScope ["_law_script", "_law_k"] ["_law_script", "_law_k"] (defScope s__law_cell_at) := ⟨rfl, rfl, rfl, by decide +kernel, rfl, by decide +kernel, by decide +kernel⟩
abbrev s__law_bases : Stmt := topS 26
theorem sc__law_bases : FnScope ["_law_one", "_law_other", "_law_some", "_law_primes", "_law_ends", "_law_far", "_law_picks", "_law_prime", "_law_k"] ["_law_one", "_law_other"] (defScope s__law_bases) := ⟨rfl, rfl, rfl, by decide +kernel, rfl, by decide +kernel, by decide +kernel⟩
abbrev s__law_asked : Stmt := topS 27
theorem sc__law_asked : FnScope ["_law_kind", "_law_bases_here", "_law_row", "_law_wrong", "_law_at", "_law_board"] ["_law_kind", "_law_bases_here", "_law_row", "_law_wrong", "_law_at"] (defScope s__law_asked) := ⟨rfl, rfl, rfl, by decide +kernel, rfl, by decide +kernel, by decide +kernel⟩
abbrev s_law : Stmt := topS 28
theorem sc_law : FnScope ["_law_script", "_law_bases_here", "_law_at", "_law_kind", "_law_number", "_law_row", "_law_wrong", "e", "_law_found", "_law_base", "_law_k"] ["_law_script"] (defScope s_law) := ⟨rfl, rfl, rfl, by decide +kernel, rfl, by decide +kernel, by decide +kernel⟩
/-- what the top has written -/
structure Lk (K : PySem.W.Frag) (mg : Str → Option Value) where
  f_told_by_others : Addr
  d_told_by_others : FuncData
  F_told_by_others : Fun K "told_by_others" "told_by_others" s_told_by_others f_told_by_others d_told_by_others
  b_told_by_others : Binds K d_told_by_others ["board", "row", "place"] []
  f_without : Addr
  d_without : FuncData
  F_without : Fun K "without" "without" s_without f_without d_without
  b_without : Binds K d_without ["board", "row", "place"] []
  f_refilled : Addr
  d_refilled : FuncData
  F_refilled : Fun K "refilled" "refilled" s_refilled f_refilled d_refilled
  b_refilled : Binds K d_refilled ["board", "row", "place"] []
  f_common : Addr
  d_common : FuncData
  F_common : Fun K "common" "common" s_common f_common d_common
  b_common : Binds K d_common ["one", "other"] []
  f_turned : Addr
  d_turned : FuncData
  F_turned : Fun K "turned" "turned" s_turned f_turned d_turned
  b_turned : Binds K d_turned ["number", "base"] []
  f_need_bases : Addr
  d_need_bases : FuncData
  F_need_bases : Fun K "need_bases" "need_bases" s_need_bases f_need_bases d_need_bases
  b_need_bases : Binds K d_need_bases ["bases"] []
  f___init__ : Addr
  d___init__ : FuncData
  F___init__ : Fun K "__init__" "Board.__init__" s___init__ f___init__ d___init__
  b___init__ : Binds K d___init__ ["self", "bases"] []
  f_room : Addr
  d_room : FuncData
  F_room : Fun K "room" "Board.room" s_room f_room d_room
  b_room : Binds K d_room ["self"] []
  f_need_row : Addr
  d_need_row : FuncData
  F_need_row : Fun K "need_row" "Board.need_row" s_need_row f_need_row d_need_row
  b_need_row : Binds K d_need_row ["self", "row"] []
  f_need_number : Addr
  d_need_number : FuncData
  F_need_number : Fun K "need_number" "Board.need_number" s_need_number f_need_number d_need_number
  b_need_number : Binds K d_need_number ["self", "row"] []
  f_rests : Addr
  d_rests : FuncData
  F_rests : Fun K "rests" "Board.rests" s_rests f_rests d_rests
  b_rests : Binds K d_rests ["self", "number"] []
  f_led : Addr
  d_led : FuncData
  F_led : Fun K "led" "Board.led" s_led f_led d_led
  b_led : Binds K d_led ["self", "row"] []
  f_figures : Addr
  d_figures : FuncData
  F_figures : Fun K "figures" "Board.figures" s_figures f_figures d_figures
  b_figures : Binds K d_figures ["self", "row"] []
  f_tells : Addr
  d_tells : FuncData
  F_tells : Fun K "tells" "Board.tells" s_tells f_tells d_tells
  b_tells : Binds K d_tells ["self", "row"] []
  f_number : Addr
  d_number : FuncData
  F_number : Fun K "number" "Board.number" s_number f_number d_number
  b_number : Binds K d_number ["self", "row"] []
  f__law_cell_at : Addr
  d__law_cell_at : FuncData
  F__law_cell_at : Fun K "_law_cell_at" "_law_cell_at" s__law_cell_at f__law_cell_at d__law_cell_at
  b__law_cell_at : Binds K d__law_cell_at ["_law_script", "_law_k"] []
  f__law_bases : Addr
  d__law_bases : FuncData
  F__law_bases : Fun K "_law_bases" "_law_bases" s__law_bases f__law_bases d__law_bases
  b__law_bases : Binds K d__law_bases ["_law_one", "_law_other"] []
  f__law_asked : Addr
  d__law_asked : FuncData
  F__law_asked : Fun K "_law_asked" "_law_asked" s__law_asked f__law_asked d__law_asked
  b__law_asked : Binds K d__law_asked ["_law_kind", "_law_bases_here", "_law_row", "_law_wrong", "_law_at"] []
  f_law : Addr
  d_law : FuncData
  F_law : Fun K "law" "law" s_law f_law d_law
  b_law : Binds K d_law ["_law_script"] []
  C : Addr
  cl : Cls K C
  nB : NoAttr K C "bases"
  nT : NoAttr K C "turns"
  gC : mg "Board" = some (.ref C)
  mkC : Mk K C f___init__
  g_told_by_others : mg "told_by_others" = some (.ref f_told_by_others)
  k_told_by_others : PySem.W.keepIn K (.ref f_told_by_others) = true
  g_without : mg "without" = some (.ref f_without)
  k_without : PySem.W.keepIn K (.ref f_without) = true
  g_refilled : mg "refilled" = some (.ref f_refilled)
  k_refilled : PySem.W.keepIn K (.ref f_refilled) = true
  g_common : mg "common" = some (.ref f_common)
  k_common : PySem.W.keepIn K (.ref f_common) = true
  g_turned : mg "turned" = some (.ref f_turned)
  k_turned : PySem.W.keepIn K (.ref f_turned) = true
  g_need_bases : mg "need_bases" = some (.ref f_need_bases)
  k_need_bases : PySem.W.keepIn K (.ref f_need_bases) = true
  m_room : Meth K C "room" f_room
  m_need_row : Meth K C "need_row" f_need_row
  m_need_number : Meth K C "need_number" f_need_number
  m_rests : Meth K C "rests" f_rests
  m_led : Meth K C "led" f_led
  m_figures : Meth K C "figures" f_figures
  m_tells : Meth K C "tells" f_tells
  m_number : Meth K C "number" f_number
  g__law_cell_at : mg "_law_cell_at" = some (.ref f__law_cell_at)
  k__law_cell_at : PySem.W.keepIn K (.ref f__law_cell_at) = true
  g__law_bases : mg "_law_bases" = some (.ref f__law_bases)
  k__law_bases : PySem.W.keepIn K (.ref f__law_bases) = true
  g__law_asked : mg "_law_asked" = some (.ref f__law_asked)
  k__law_asked : PySem.W.keepIn K (.ref f__law_asked) = true
  g_law : mg "law" = some (.ref f_law)
  k_law : PySem.W.keepIn K (.ref f_law) = true
  c_RestError : Addr
  g_RestError : mg "RestError" = some (.ref c_RestError)
  x_RestError : PySem.W.excIn K c_RestError [.type "ValueError", .type "Exception", .type "BaseException", .type "object"] "ValueError.__new__" = true
  e_RestError : PySem.W.keepIn K (.ref c_RestError) = true
  s_RestError : PySem.W.subIn K (.ref c_RestError) (.type "BaseException") = some true
  t_RestError : PySem.W.typeIn K (.ref c_RestError) = some (.type "type")
  h_RestError : PySem.W.hasDictIn K c_RestError = true
  c_NoBases : Addr
  g_NoBases : mg "NoBases" = some (.ref c_NoBases)
  x_NoBases : PySem.W.excIn K c_NoBases [.type "ValueError", .type "Exception", .type "BaseException", .type "object"] "ValueError.__new__" = true
  e_NoBases : PySem.W.keepIn K (.ref c_NoBases) = true
  s_NoBases : PySem.W.subIn K (.ref c_NoBases) (.type "BaseException") = some true
  t_NoBases : PySem.W.typeIn K (.ref c_NoBases) = some (.type "type")
  h_NoBases : PySem.W.hasDictIn K c_NoBases = true
  c_NoRow : Addr
  g_NoRow : mg "NoRow" = some (.ref c_NoRow)
  x_NoRow : PySem.W.excIn K c_NoRow [.type "ValueError", .type "Exception", .type "BaseException", .type "object"] "ValueError.__new__" = true
  e_NoRow : PySem.W.keepIn K (.ref c_NoRow) = true
  s_NoRow : PySem.W.subIn K (.ref c_NoRow) (.type "BaseException") = some true
  t_NoRow : PySem.W.typeIn K (.ref c_NoRow) = some (.type "type")
  h_NoRow : PySem.W.hasDictIn K c_NoRow = true
  c_NoNumber : Addr
  g_NoNumber : mg "NoNumber" = some (.ref c_NoNumber)
  x_NoNumber : PySem.W.excIn K c_NoNumber [.type "ValueError", .type "Exception", .type "BaseException", .type "object"] "ValueError.__new__" = true
  e_NoNumber : PySem.W.keepIn K (.ref c_NoNumber) = true
  s_NoNumber : PySem.W.subIn K (.ref c_NoNumber) (.type "BaseException") = some true
  t_NoNumber : PySem.W.typeIn K (.ref c_NoNumber) = some (.type "type")
  h_NoNumber : PySem.W.hasDictIn K c_NoNumber = true
  c_NoPlace : Addr
  g_NoPlace : mg "NoPlace" = some (.ref c_NoPlace)
  x_NoPlace : PySem.W.excIn K c_NoPlace [.type "ValueError", .type "Exception", .type "BaseException", .type "object"] "ValueError.__new__" = true
  e_NoPlace : PySem.W.keepIn K (.ref c_NoPlace) = true
  s_NoPlace : PySem.W.subIn K (.ref c_NoPlace) (.type "BaseException") = some true
  t_NoPlace : PySem.W.typeIn K (.ref c_NoPlace) = some (.type "type")
  h_NoPlace : PySem.W.hasDictIn K c_NoPlace = true
  c_NoTurn : Addr
  g_NoTurn : mg "NoTurn" = some (.ref c_NoTurn)
  x_NoTurn : PySem.W.excIn K c_NoTurn [.type "ValueError", .type "Exception", .type "BaseException", .type "object"] "ValueError.__new__" = true
  e_NoTurn : PySem.W.keepIn K (.ref c_NoTurn) = true
  s_NoTurn : PySem.W.subIn K (.ref c_NoTurn) (.type "BaseException") = some true
  t_NoTurn : PySem.W.typeIn K (.ref c_NoTurn) = some (.type "type")
  h_NoTurn : PySem.W.hasDictIn K c_NoTurn = true
  c_OutOfRoom : Addr
  g_OutOfRoom : mg "OutOfRoom" = some (.ref c_OutOfRoom)
  x_OutOfRoom : PySem.W.excIn K c_OutOfRoom [.type "ValueError", .type "Exception", .type "BaseException", .type "object"] "ValueError.__new__" = true
  e_OutOfRoom : PySem.W.keepIn K (.ref c_OutOfRoom) = true
  s_OutOfRoom : PySem.W.subIn K (.ref c_OutOfRoom) (.type "BaseException") = some true
  t_OutOfRoom : PySem.W.typeIn K (.ref c_OutOfRoom) = some (.type "type")
  h_OutOfRoom : PySem.W.hasDictIn K c_OutOfRoom = true
  c_Lost : Addr
  g_Lost : mg "Lost" = some (.ref c_Lost)
  x_Lost : PySem.W.excIn K c_Lost [.type "ValueError", .type "Exception", .type "BaseException", .type "object"] "ValueError.__new__" = true
  e_Lost : PySem.W.keepIn K (.ref c_Lost) = true
  s_Lost : PySem.W.subIn K (.ref c_Lost) (.type "BaseException") = some true
  t_Lost : PySem.W.typeIn K (.ref c_Lost) = some (.type "type")
  h_Lost : PySem.W.hasDictIn K c_Lost = true
  u_Lost_RestError : PySem.W.subIn K (.ref c_Lost) (.ref c_RestError) = some true
  u_NoBases_RestError : PySem.W.subIn K (.ref c_NoBases) (.ref c_RestError) = some true
  u_NoNumber_RestError : PySem.W.subIn K (.ref c_NoNumber) (.ref c_RestError) = some true
  u_NoPlace_RestError : PySem.W.subIn K (.ref c_NoPlace) (.ref c_RestError) = some true
  u_NoRow_RestError : PySem.W.subIn K (.ref c_NoRow) (.ref c_RestError) = some true
  u_NoTurn_RestError : PySem.W.subIn K (.ref c_NoTurn) (.ref c_RestError) = some true
  u_OutOfRoom_RestError : PySem.W.subIn K (.ref c_OutOfRoom) (.ref c_RestError) = some true
  i_Lost : ExcC K c_Lost
  v_Lost : PySem.W.kitOne K (.ref c_Lost) (.type "ValueError") = some true
  i_NoBases : ExcC K c_NoBases
  v_NoBases : PySem.W.kitOne K (.ref c_NoBases) (.type "ValueError") = some true
  i_NoNumber : ExcC K c_NoNumber
  v_NoNumber : PySem.W.kitOne K (.ref c_NoNumber) (.type "ValueError") = some true
  i_NoPlace : ExcC K c_NoPlace
  v_NoPlace : PySem.W.kitOne K (.ref c_NoPlace) (.type "ValueError") = some true
  i_NoRow : ExcC K c_NoRow
  v_NoRow : PySem.W.kitOne K (.ref c_NoRow) (.type "ValueError") = some true
  i_NoTurn : ExcC K c_NoTurn
  v_NoTurn : PySem.W.kitOne K (.ref c_NoTurn) (.type "ValueError") = some true
  i_OutOfRoom : ExcC K c_OutOfRoom
  v_OutOfRoom : PySem.W.kitOne K (.ref c_OutOfRoom) (.type "ValueError") = some true
  w_Lost_Lost : PySem.W.kitOne K (.ref c_Lost) (.ref c_Lost) = some true
  w_Lost_NoBases : PySem.W.kitOne K (.ref c_Lost) (.ref c_NoBases) = some false
  w_Lost_NoNumber : PySem.W.kitOne K (.ref c_Lost) (.ref c_NoNumber) = some false
  w_Lost_NoPlace : PySem.W.kitOne K (.ref c_Lost) (.ref c_NoPlace) = some false
  w_Lost_NoRow : PySem.W.kitOne K (.ref c_Lost) (.ref c_NoRow) = some false
  w_Lost_NoTurn : PySem.W.kitOne K (.ref c_Lost) (.ref c_NoTurn) = some false
  w_Lost_OutOfRoom : PySem.W.kitOne K (.ref c_Lost) (.ref c_OutOfRoom) = some false
  w_NoBases_Lost : PySem.W.kitOne K (.ref c_NoBases) (.ref c_Lost) = some false
  w_NoBases_NoBases : PySem.W.kitOne K (.ref c_NoBases) (.ref c_NoBases) = some true
  w_NoBases_NoNumber : PySem.W.kitOne K (.ref c_NoBases) (.ref c_NoNumber) = some false
  w_NoBases_NoPlace : PySem.W.kitOne K (.ref c_NoBases) (.ref c_NoPlace) = some false
  w_NoBases_NoRow : PySem.W.kitOne K (.ref c_NoBases) (.ref c_NoRow) = some false
  w_NoBases_NoTurn : PySem.W.kitOne K (.ref c_NoBases) (.ref c_NoTurn) = some false
  w_NoBases_OutOfRoom : PySem.W.kitOne K (.ref c_NoBases) (.ref c_OutOfRoom) = some false
  w_NoNumber_Lost : PySem.W.kitOne K (.ref c_NoNumber) (.ref c_Lost) = some false
  w_NoNumber_NoBases : PySem.W.kitOne K (.ref c_NoNumber) (.ref c_NoBases) = some false
  w_NoNumber_NoNumber : PySem.W.kitOne K (.ref c_NoNumber) (.ref c_NoNumber) = some true
  w_NoNumber_NoPlace : PySem.W.kitOne K (.ref c_NoNumber) (.ref c_NoPlace) = some false
  w_NoNumber_NoRow : PySem.W.kitOne K (.ref c_NoNumber) (.ref c_NoRow) = some false
  w_NoNumber_NoTurn : PySem.W.kitOne K (.ref c_NoNumber) (.ref c_NoTurn) = some false
  w_NoNumber_OutOfRoom : PySem.W.kitOne K (.ref c_NoNumber) (.ref c_OutOfRoom) = some false
  w_NoPlace_Lost : PySem.W.kitOne K (.ref c_NoPlace) (.ref c_Lost) = some false
  w_NoPlace_NoBases : PySem.W.kitOne K (.ref c_NoPlace) (.ref c_NoBases) = some false
  w_NoPlace_NoNumber : PySem.W.kitOne K (.ref c_NoPlace) (.ref c_NoNumber) = some false
  w_NoPlace_NoPlace : PySem.W.kitOne K (.ref c_NoPlace) (.ref c_NoPlace) = some true
  w_NoPlace_NoRow : PySem.W.kitOne K (.ref c_NoPlace) (.ref c_NoRow) = some false
  w_NoPlace_NoTurn : PySem.W.kitOne K (.ref c_NoPlace) (.ref c_NoTurn) = some false
  w_NoPlace_OutOfRoom : PySem.W.kitOne K (.ref c_NoPlace) (.ref c_OutOfRoom) = some false
  w_NoRow_Lost : PySem.W.kitOne K (.ref c_NoRow) (.ref c_Lost) = some false
  w_NoRow_NoBases : PySem.W.kitOne K (.ref c_NoRow) (.ref c_NoBases) = some false
  w_NoRow_NoNumber : PySem.W.kitOne K (.ref c_NoRow) (.ref c_NoNumber) = some false
  w_NoRow_NoPlace : PySem.W.kitOne K (.ref c_NoRow) (.ref c_NoPlace) = some false
  w_NoRow_NoRow : PySem.W.kitOne K (.ref c_NoRow) (.ref c_NoRow) = some true
  w_NoRow_NoTurn : PySem.W.kitOne K (.ref c_NoRow) (.ref c_NoTurn) = some false
  w_NoRow_OutOfRoom : PySem.W.kitOne K (.ref c_NoRow) (.ref c_OutOfRoom) = some false
  w_NoTurn_Lost : PySem.W.kitOne K (.ref c_NoTurn) (.ref c_Lost) = some false
  w_NoTurn_NoBases : PySem.W.kitOne K (.ref c_NoTurn) (.ref c_NoBases) = some false
  w_NoTurn_NoNumber : PySem.W.kitOne K (.ref c_NoTurn) (.ref c_NoNumber) = some false
  w_NoTurn_NoPlace : PySem.W.kitOne K (.ref c_NoTurn) (.ref c_NoPlace) = some false
  w_NoTurn_NoRow : PySem.W.kitOne K (.ref c_NoTurn) (.ref c_NoRow) = some false
  w_NoTurn_NoTurn : PySem.W.kitOne K (.ref c_NoTurn) (.ref c_NoTurn) = some true
  w_NoTurn_OutOfRoom : PySem.W.kitOne K (.ref c_NoTurn) (.ref c_OutOfRoom) = some false
  w_OutOfRoom_Lost : PySem.W.kitOne K (.ref c_OutOfRoom) (.ref c_Lost) = some false
  w_OutOfRoom_NoBases : PySem.W.kitOne K (.ref c_OutOfRoom) (.ref c_NoBases) = some false
  w_OutOfRoom_NoNumber : PySem.W.kitOne K (.ref c_OutOfRoom) (.ref c_NoNumber) = some false
  w_OutOfRoom_NoPlace : PySem.W.kitOne K (.ref c_OutOfRoom) (.ref c_NoPlace) = some false
  w_OutOfRoom_NoRow : PySem.W.kitOne K (.ref c_OutOfRoom) (.ref c_NoRow) = some false
  w_OutOfRoom_NoTurn : PySem.W.kitOne K (.ref c_OutOfRoom) (.ref c_NoTurn) = some false
  w_OutOfRoom_OutOfRoom : PySem.W.kitOne K (.ref c_OutOfRoom) (.ref c_OutOfRoom) = some true
  t_LEAST : Tok
  k_LEAST : mg "LEAST" = some (.int 3 t_LEAST)
  t_MOST : Tok
  k_MOST : mg "MOST" = some (.int 999999 t_MOST)
  t_FEWEST : Tok
  k_FEWEST : mg "FEWEST" = some (.int 3 t_FEWEST)
  t_SO_MANY : Tok
  k_SO_MANY : mg "SO_MANY" = some (.int 14 t_SO_MANY)
  z_ValueError : mg "ValueError" = none
  z_abs : mg "abs" = none
  z_isinstance : mg "isinstance" = none
  z_len : mg "len" = none
  z_list : mg "list" = none
  z_range : mg "range" = none
  z_sorted : mg "sorted" = none
  z_zip : mg "zip" = none
end Rk
namespace Rk
open PySem PySem.Spec PyProof.Rows L2 Evl
section
variable {P : Program} {w : World} {K : PySem.W.Frag} {mg : Str → Option Value} {base : Heap}
/-! ### common -/
def sp_common : Sp := fun vs H Q _ => ∃ one other : Int, vs = [.int one, .int other] ∧ 0 ≤ one ∧ 0 ≤ other ∧ ∀ H', Ex H H' → Q (.int (Int.gcd one other)) H'
theorem ok_common (L : Lk K mg) : FnOk P w K mg base (L2N.CX P w) 1 L.f_common L.d_common ["one", "other"] sp_common := by
  refine okN L.F_common sc_common (fun vs H Q E h => ?_) (fun cdv A outer s H vs Q E hr h => ?_)
  · obtain ⟨_, _, rfl, _⟩ := h; rfl
  · obtain ⟨one, other, rfl, h1, h2, q⟩ := h
    refine ⟨_, (pss_cons (ps_while (passes_of rfl) (pt_cmpR op_gt (pv 1) pe_int (nomark _)) (pss_cons (ps_set (i := 2) sc_common.nd rfl (Or.inl rfl) (pe_op op_mod (pv 0) (pv 1)))
      (pss_cons (ps_set (i := 0) sc_common.nd rfl (Or.inl rfl) (pv 1))
      (pss_one (ps_set (i := 1) sc_common.nd rfl (Or.inl rfl) (pv 2))))))
      (pss_one (ps_ret (pv 0)))), ?_⟩
    refine q_while (fun m σ' H' => ∃ (a b : Int) (r : Option V), σ' = [some (.int a), some (.int b), r] ∧ 0 ≤ a ∧ 0 ≤ b ∧ b.toNat = m ∧ Int.gcd a b = Int.gcd one other ∧ Ex H H') other.toNat ⟨one, other, none, rfl, h1, h2, rfl, rfl, Ex.refl H⟩ ?_
    rintro m σ' H' ⟨a, b, r, rfl, a0, b0, hm, hg, e⟩
    refine ⟨_, et_test (ev_op (ev_var rfl) ev_c rv_I0), fun hb H1 e1 => ?_, fun hb H1 e1 => ?_⟩
    · have hb' : 0 < b := of_decide_eq_true hb
      refine ⟨fun σ' H' => ∃ r, σ' = [some (.int b), some (.int (a % b)), r] ∧ Ex H H', ?_, ?_⟩
      · rintro σ2 H2 ⟨r, rfl, e2⟩
        have l1 := Int.emod_nonneg a (show b ≠ 0 by omega)
        have l2 := Int.emod_lt_of_pos a hb'
        exact ⟨(a % b).toNat, by omega, b, a % b, r, rfl, b0, l1, rfl, by rw [← Rw.gcd_emod]; exact hg, e2⟩
      · refine q_asg (ev_op (ev_var rfl) (ev_var rfl) (rv_I hb')) fun H2 e2 => ?_
        refine q_asg (ev_var rfl) fun H3 e3 => ?_
        refine s_asg (ev_var rfl) fun H4 e4 => ?_
        exact ⟨_, rfl, (((e.trans e1).trans e2).trans e3).trans e4⟩
    · have hb' : ¬ 0 < b := of_decide_eq_false hb
      have : b = 0 := by omega
      subst this
      refine s_ret (ev_var rfl) fun H2 e2 => ?_
      have : (Int.gcd one other : Int) = a := by rw [← hg]; exact Rw.gcd_zero a a0
      rw [← this]
      exact q H2 ((e.trans e1).trans e2)
theorem sv_common {H : Hp} {a b : Int} (h1 : 0 ≤ a) (h2 : 0 ≤ b) : SpV sp_common [.int a, .int b] H (.int (Int.gcd a b)) := fun H1 e Q q _ => ⟨a, b, rfl, h1, h2, q⟩
end
end Rk
namespace Rk
open PySem PySem.Spec PyProof.Rows L2 Evl
section
variable {P : Program} {w : World} {K : PySem.W.Frag} {mg : Str → Option Value} {base : Heap}
/-! ### need_bases -/
def sp_need_bases (K : PySem.W.Frag) (cN : Addr) : Sp := fun vs H Q E => ∃ (a : Addr) (bs : List Int), vs = [.ref a] ∧ SqL K H a (bs.map V.int) ∧ (Rw.Good bs → ∀ H', Ex H H' → Q .non H') ∧ (¬ Rw.Good bs → ∀ H', Ex H H' → E (.ref cN) none H')
theorem ok_need_bases (L : Lk K mg) : FnOk P w K mg base (L2N.CX P w) 2 L.f_need_bases L.d_need_bases ["bases"] (sp_need_bases K L.c_NoBases) := by
  refine okN L.F_need_bases sc_need_bases (fun vs H Q E h => ?_) (fun cdv A outer s H vs Q E hr h => ?_)
  · obtain ⟨_, _, rfl, _⟩ := h; rfl
  · obtain ⟨a, bs, rfl, hS, q, kE⟩ := h
    refine ⟨_, (pss_cons (ps_if (PW.pt (pw_or (pt_cmpR op_lt (pe_callB call_len_seq (by rfl) L.z_len PySem.boot_len (pa_cons (pv 0) pa_nil)) (pe_glob (v := .int 3) rfl L.k_FEWEST ⟨_, rfl⟩) (nomark _)) (pw_or1 (pt_cmpR op_gt (pe_callB call_len_seq (by rfl) L.z_len PySem.boot_len (pa_cons (pv 0) pa_nil)) (pe_glob (v := .int 14) rfl L.k_SO_MANY ⟨_, rfl⟩) (nomark _))))) (pss_one (L2N.ps_raise rfl hkN (L2N.pmk_own PySem.F.excBase_ValueError L.x_NoBases L.g_NoBases L.e_NoBases (raises_own L.s_NoBases L.t_NoBases) (by rfl)))) pss_nil)
      (pss_cons (ps_for (passes_of rfl) rfl (pi_list (pv 0)) (pg_name (i := 1) sc_need_bases.nd rfl (Or.inl rfl)) (pss_one (ps_if (PW.pt (pw_or (pt_cmpR op_lt (pv 1) (pe_glob (v := .int 3) rfl L.k_LEAST ⟨_, rfl⟩) (nomark _)) (pw_or (pt_cmpR op_gt (pv 1) (pe_glob (v := .int 999999) rfl L.k_MOST ⟨_, rfl⟩) (nomark _)) (pw_or1 (pt_cmpR op_eq (pe_op op_mod (pv 1) pe_int) pe_int (nomark _)))))) (pss_one (L2N.ps_raise rfl hkN (L2N.pmk_own PySem.F.excBase_ValueError L.x_NoBases L.g_NoBases L.e_NoBases (raises_own L.s_NoBases L.t_NoBases) (by rfl)))) pss_nil)))
      (pss_one (ps_for (passes_of rfl) rfl (pi_range2 (by rfl) L.z_range (pa_cons pe_int (pa_cons (pe_callB call_len_seq (by rfl) L.z_len PySem.boot_len (pa_cons (pv 0) pa_nil)) pa_nil))) (pg_name (i := 2) sc_need_bases.nd rfl (Or.inl rfl)) (pss_cons (ps_if (pt_cmpR op_le (pe_ix ix_list (pv 0) (pv 2) (fun _ _ => rfl)) (pe_ix ix_list (pv 0) (pe_op op_sub (pv 2) pe_int) (fun _ _ => rfl)) (nomark _)) (pss_one (L2N.ps_raise rfl hkN (L2N.pmk_own PySem.F.excBase_ValueError L.x_NoBases L.g_NoBases L.e_NoBases (raises_own L.s_NoBases L.t_NoBases) (by rfl)))) pss_nil)
      (pss_one (ps_for (passes_of rfl) rfl (pi_list (pe_slice sl_list (pv 0) po_none (po_some (pv 2)))) (pg_name (i := 3) sc_need_bases.nd rfl (Or.inl rfl)) (pss_one (ps_if (pt_cmpR op_gt (pe_call (E := E) (ok_common L) (hr.mono (by decide)) (by rfl) L.g_common L.k_common L.b_common .nil hxN (pa_cons (pe_ix ix_list (pv 0) (pv 2) (fun _ _ => rfl)) (pa_cons (pv 3) pa_nil))) pe_int (nomark _)) (pss_one (L2N.ps_raise rfl hkN (L2N.pmk_own PySem.F.excBase_ValueError L.x_NoBases L.g_NoBases L.e_NoBases (raises_own L.s_NoBases L.t_NoBases) (by rfl)))) pss_nil))))))))), ?_⟩
    have hlm : (bs.map V.int).length = bs.length := List.length_map _
    refine q_when (et_or (et_test (ev_op (ev_len (ev_var rfl) hS) ev_c rv_I0)) (fun _ => et_test (ev_op (ev_len (ev_var rfl) hS) ev_c rv_I0))) (fun hb H1 e1 => ?_) (fun hb H1 e1 => ?_)
    · rw [hlm, Bool.or_eq_true, decide_eq_true_eq, decide_eq_true_eq] at hb
      exact kE (fun g => by have := g.len3; have := g.len14; omega) H1 e1
    rw [hlm, Bool.or_eq_false_iff, decide_eq_false_iff_not, decide_eq_false_iff_not] at hb
    refine q_forLn (ev_var rfl) (ex_l e1 hS) (fun i σ' H' => ∃ v1 v2 v3, σ' = [some (.ref a), v1, v2, v3] ∧ Ex H H' ∧ ∀ (k : Nat) (b : Int), k < i → bs[k]? = some b → 3 ≤ b ∧ b ≤ 999999 ∧ b % 2 = 1)
      (fun H2 e2 => ⟨none, none, none, rfl, e1.trans e2, fun k b h => absurd h (Nat.not_lt_zero k)⟩) (fun i σ' H' _ ⟨_, _, _, _, e, _⟩ => ex_l e hS) ?_ ?_
    · rintro i x σ' H' hi ⟨v1, v2, v3, rfl, e, inv⟩
      obtain ⟨b, hb', rfl⟩ := map_get hi
      refine s_when (et_or (et_test (ev_op (ev_var rfl) ev_c rv_I0)) (fun _ => et_or (et_test (ev_op (ev_var rfl) ev_c rv_I0)) (fun _ => et_test (ev_op (ev_op (ev_var rfl) ev_c (rv_I (show (0 : Int) < 2 by decide))) ev_c (rv_eq rfl))))) (fun hc H2 e2 => ?_) (fun hc H2 e2 => ?_)
      · rw [Bool.or_eq_true, Bool.or_eq_true, decide_eq_true_eq, decide_eq_true_eq, decide_eq_true_eq] at hc
        refine kE (fun g => ?_) H2 (e.trans e2)
        obtain ⟨g1, g2, g3⟩ := g.get3 hb'
        rcases hc with hc | hc | hc
        · omega
        · omega
        · have := V.int.inj hc
          omega
      · rw [Bool.or_eq_false_iff, Bool.or_eq_false_iff, decide_eq_false_iff_not, decide_eq_false_iff_not, decide_eq_false_iff_not] at hc
        refine ⟨_, _, _, rfl, e.trans e2, fun k c hk hk' => ?_⟩
        by_cases e3 : k = i
        · subst e3
          rw [hb'] at hk'
          have := Option.some.inj hk'
          subst this
          have h2 : ¬ b % 2 = 0 := fun z => hc.2.2 (by rw [z])
          omega
        · exact inv k c (by omega) hk'
    · rintro σ' H2 ⟨v1, v2, v3, rfl, e, inv⟩
      rw [hlm] at inv
      have inv1 : ∀ (k : Nat) (b : Int), bs[k]? = some b → 3 ≤ b ∧ b ≤ 999999 ∧ b % 2 = 1 := fun k b hk => inv k b (List.getElem?_eq_some_iff.mp hk).1 hk
      refine s_forR2 (lo := 1) (n := (bs.length : Int)) (ea_cons ev_c (ea_cons (ev_is (ev_len (ev_var rfl) (ex_l e hS)) (by rw [hlm])) ea_nil)) (by omega)
        (fun i σ' H' => ∃ v1 v2 v3, σ' = [some (.ref a), v1, v2, v3] ∧ Ex H H' ∧ (∀ (k : Nat) (x y : Int), k < i → bs[k]? = some x → bs[k + 1]? = some y → x < y) ∧ ∀ (j k : Nat) (x y : Int), j < k → k < 1 + i → bs[j]? = some x → bs[k]? = some y → Rw.Cop x y)
        (fun H3 e3 => ⟨_, _, _, rfl, e.trans e3, fun k x y h => absurd h (Nat.not_lt_zero k), fun j k x y h1 h2 => by omega⟩) ?_ ?_
      · rintro i σ' H3 hi ⟨v1, v2, v3, rfl, e3, i1, i2⟩
        have hk : 1 + i < bs.length := by omega
        have hB : bs[1 + i]? = some bs[1 + i] := List.getElem?_eq_getElem hk
        have hA : bs[i]? = some (bs[i]'(by omega)) := List.getElem?_eq_getElem (by omega)
        have hB' : bs[i + 1]? = some bs[1 + i] := by rw [Nat.add_comm i 1]; exact hB
        generalize bs[1 + i] = y at hB hB'
        generalize bs[i]'(by omega) = x at hA
        have y3 := inv1 _ _ hB
        refine q_when (et_test (ev_op (ev_op (ev_var rfl) (ev_var rfl) (rv_ixL (ex_l e3 hS) (at_mapI (k := 1 + i) (by omega) hB))) (ev_op (ev_var rfl) (ev_op (ev_var rfl) ev_c rv_I0) (rv_ixL (ex_l e3 hS) (at_mapI (k := i) (by omega) hA))) rv_I0)) (fun hc H4 e4 => ?_) (fun hc H4 e4 => ?_)
        · have hc' : y ≤ x := of_decide_eq_true hc
          exact kE (fun g => by have := g.next hA hB'; omega) H4 (e3.trans e4)
        have hc' : ¬ y ≤ x := of_decide_eq_false hc
        have e04 := e3.trans e4
        refine s_forNLn (el_sl (ev_var rfl) eo_none (eo_some (ev_var rfl)) (ex_l e04 hS)) (fun p j σ' H' => ∃ v3, σ' = [some (.ref a), v1, some (.int (1 + (i : Int))), v3] ∧ Ex H H' ∧ H' p = some (.lst ((bs.take (1 + i)).map V.int)) ∧ ∀ (jj : Nat) (x : Int), jj < j → bs[jj]? = some x → Rw.Cop x y)
          (fun p H5 hp e5 h5 => ⟨_, rfl, e04.trans e5, by rw [h5, show (1 + (i : Int)) = ((1 + i : Nat) : Int) by omega, cut_to, List.map_take], fun jj x h => absurd h (Nat.not_lt_zero jj)⟩)
          (fun p j σ' H' _ ⟨_, _, _, h, _⟩ => by rw [show (1 + (i : Int)) = ((1 + i : Nat) : Int) by omega, cut_to, ← List.map_take]; exact sq_of h) ?_ ?_
        · rintro p j z σ' H5 hj ⟨v3, rfl, e5, h5, i3⟩
          rw [show (1 + (i : Int)) = ((1 + i : Nat) : Int) by omega, cut_to, ← List.map_take] at hj
          obtain ⟨c, hc2, rfl⟩ := map_get hj
          have hjl : j < 1 + i := by
            have := (List.getElem?_eq_some_iff.mp hc2).1
            simp at this
            omega
          rw [List.getElem?_take_of_lt hjl] at hc2
          have c3 := inv1 _ _ hc2
          refine s_when (et_test (ev_op (ev_call0 (ea_cons (ev_op (ev_var rfl) (ev_var rfl) (rv_ixL (ex_l e5 hS) (at_mapI (k := 1 + i) (by omega) hB))) (ea_cons (ev_var rfl) ea_nil)) (sv_common (by omega) (by omega))) ev_c rv_I0)) (fun hd H6 e6 => ?_) (fun hd H6 e6 => ?_)
          · have hd' : (1 : Int) < (Int.gcd y c : Int) := of_decide_eq_true hd
            refine kE (fun g => ?_) H6 (e5.trans e6)
            have := (g.cop2 hjl hc2 hB).symm
            rw [show Int.gcd y c = 1 from this] at hd'
            exact absurd hd' (by decide)
          · have hd' : ¬ (1 : Int) < (Int.gcd y c : Int) := of_decide_eq_false hd
            refine ⟨_, rfl, e5.trans e6, e6 _ _ h5, fun jj x hjj hx => ?_⟩
            by_cases e7 : jj = j
            · subst e7
              rw [hc2] at hx
              have := Option.some.inj hx
              subst this
              refine Rw.Cop.symm ?_
              have g0 : Int.gcd y c ≠ 0 := fun z => by have := (Int.gcd_eq_zero_iff.mp z).1; omega
              show Int.gcd y c = 1
              omega
            · exact i3 jj x (by omega) hx
        · rintro p σ' H5 ⟨v3, rfl, e5, h5, i3⟩
          rw [show (1 + (i : Int)) = ((1 + i : Nat) : Int) by omega, cut_to, ← List.map_take, List.length_map, List.length_take, Nat.min_eq_left (by omega)] at i3
          refine ⟨_, _, _, rfl, e5, fun k u v hk hu hv => ?_, fun j k u v hjk hk hu hv => ?_⟩
          · by_cases e7 : k = i
            · subst e7
              rw [hA] at hu
              rw [hB'] at hv
              have := Option.some.inj hu
              have := Option.some.inj hv
              omega
            · exact i1 k u v (by omega) hu hv
          · by_cases e7 : k = 1 + i
            · subst e7
              rw [hB] at hv
              have := Option.some.inj hv
              subst this
              exact i3 j u (by omega) hu
            · exact i2 j k u v hjk (by omega) hu hv
      · rintro σ' H3 ⟨v1, v2, v3, rfl, e3, i1, i2⟩
        refine q (Rw.good_of (by omega) (by omega) inv1 (fun k x y hx hy => i1 k x y ?_ hx hy) (fun j k x y hjk hx hy => i2 j k x y hjk ?_ hx hy)) H3 e3
        · have := (List.getElem?_eq_some_iff.mp hy).1
          omega
        · have := (List.getElem?_eq_some_iff.mp hy).1
          omega
theorem sv_need_bases {cN a : Addr} {H : Hp} {bs : List Int} (hS : SqL K H a (bs.map V.int)) (g : Rw.Good bs) : SpV (sp_need_bases K cN) [.ref a] H .non := fun H1 e Q q E => ⟨a, bs, rfl, ex_l e hS, fun _ => q, fun n => absurd g n⟩
theorem sd_need_bases {cN a : Addr} {H : Hp} {E : XK} {bs : List Int} (hS : SqL K H a (bs.map V.int)) (g : ¬ Rw.Good bs) (k : ∀ H', Ex H H' → E (.ref cN) none H') : SpD (sp_need_bases K cN) [.ref a] H E := fun H1 e Q => ⟨a, bs, rfl, ex_l e hS, fun y => absurd y g, fun _ H' e' => k H' (e.trans e')⟩
end
end Rk
namespace Rk
open PySem PySem.Spec PyProof.Rows L2 Evl
section
variable {P : Program} {w : World} {K : PySem.W.Frag} {mg : Str → Option Value} {base : Heap}
/-! ### turned -/
def sp_turned (cN : Addr) : Sp := fun vs H Q E => ∃ number base : Int, vs = [.int number, .int base] ∧ 2 ≤ base ∧ base < 2 ^ 300 ∧
  (Rw.Cop number base → ∀ H', Ex H H' → Q (.int (Rw.inv number base)) H') ∧ (¬ Rw.Cop number base → ∀ H', Ex H H' → E (.ref cN) none H')
theorem ok_turned (L : Lk K mg) : FnOk P w K mg base (L2N.CX P w) 1 L.f_turned L.d_turned ["number", "base"] (sp_turned L.c_NoTurn) := by
  refine okN L.F_turned sc_turned (fun vs H Q E h => ?_) (fun cdv A outer s H vs Q E hr h => ?_)
  · obtain ⟨_, _, rfl, _⟩ := h; rfl
  · obtain ⟨number, base, rfl, hb, hw, q, kE⟩ := h
    refine ⟨_, (pss_cons (ps_set (i := 2) sc_turned.nd rfl (Or.inl rfl) (pv 1))
      (pss_cons (ps_set (i := 3) sc_turned.nd rfl (Or.inl rfl) (pe_op op_mod (pv 0) (pv 1)))
      (pss_cons (ps_set (i := 4) sc_turned.nd rfl (Or.inl rfl) pe_int)
      (pss_cons (ps_set (i := 5) sc_turned.nd rfl (Or.inl rfl) pe_int)
      (pss_cons (ps_while (passes_of rfl) (pt_cmpR op_gt (pv 3) pe_int (nomark _)) (pss_cons (ps_set (i := 6) sc_turned.nd rfl (Or.inl rfl) (pe_op op_fdivW (pv 2) (pv 3)))
      (pss_cons (ps_set (i := 7) sc_turned.nd rfl (Or.inl rfl) (pe_op op_sub (pv 2) (pe_op op_mulW (pv 6) (pv 3))))
      (pss_cons (ps_set (i := 2) sc_turned.nd rfl (Or.inl rfl) (pv 3))
      (pss_cons (ps_set (i := 3) sc_turned.nd rfl (Or.inl rfl) (pv 7))
      (pss_cons (ps_set (i := 8) sc_turned.nd rfl (Or.inl rfl) (pe_op op_sub (pv 4) (pe_op op_mulW (pv 6) (pv 5))))
      (pss_cons (ps_set (i := 4) sc_turned.nd rfl (Or.inl rfl) (pv 5))
      (pss_one (ps_set (i := 5) sc_turned.nd rfl (Or.inl rfl) (pv 8))))))))))
      (pss_cons (ps_if (pt_cmpR op_ne (pv 2) pe_int (nomark _)) (pss_one (L2N.ps_raise rfl hkN (L2N.pmk_own PySem.F.excBase_ValueError L.x_NoTurn L.g_NoTurn L.e_NoTurn (raises_own L.s_NoTurn L.t_NoTurn) (by rfl)))) pss_nil)
      (pss_one (ps_ret (pe_op op_mod (pv 4) (pv 1)))))))))), ?_⟩
    refine q_asg (ev_var rfl) fun H1 e1 => ?_
    refine q_asg (ev_op (ev_var rfl) (ev_var rfl) (rv_I (show 0 < base by omega))) fun H2 e2 => ?_
    refine q_asg ev_c fun H3 e3 => ?_
    refine q_asg ev_c fun H4 e4 => ?_
    have eA : Ex H H4 := ((e1.trans e2).trans e3).trans e4
    refine q_while (fun m σ' H' => ∃ (high low ahead behind : Int) (r1 r2 r3 : Option V), σ' = [some (.int number), some (.int base), some (.int high), some (.int low), some (.int ahead), some (.int behind), r1, r2, r3] ∧
      Rw.EG number base high low ahead behind ∧ low.toNat = m ∧ Ex H H') (number % base).toNat ⟨base, number % base, 0, 1, none, none, none, rfl, Rw.EG.start hb, rfl, eA⟩ ?_
    rintro m σ' H' ⟨high, low, ahead, behind, r1, r2, r3, rfl, G, hm, e⟩
    refine ⟨_, et_test (ev_op (ev_var rfl) ev_c rv_I0), fun hc H1 e1 => ?_, fun hc H1 e1 => ?_⟩
    · have hl : 0 < low := of_decide_eq_true hc
      obtain ⟨b1, b2, b3, b4, b5⟩ := G.bound hl
      have hB : base.natAbs < 2 ^ 300 := by have := Rw.natAbs_lt300 (show 0 ≤ base by omega) hw; exact this
      have wm : ∀ {i j : Int}, i.natAbs ≤ base.natAbs → j.natAbs ≤ base.natAbs → CMulW i j := fun hi hj => wide_mul (a := 300) (b := 300) (Nat.lt_of_le_of_lt hi hB) (Nat.lt_of_le_of_lt hj hB) (by decide) (by decide) (by decide)
      have wd : CDivW high low := wide_div (b := 300) hl (Nat.lt_of_le_of_lt b4 hB) (by decide) (by decide)
      refine ⟨fun σ' H' => ∃ r1 r2 r3, σ' = [some (.int number), some (.int base), some (.int low), some (.int (high - high / low * low)), some (.int behind), some (.int (ahead - high / low * behind)), r1, r2, r3] ∧ Ex H H', ?_, ?_⟩
      · rintro σ2 H2 ⟨r1, r2, r3, rfl, e2⟩
        have G2 := G.step hl
        have := G2.l0
        have := G2.lh
        exact ⟨_, by omega, low, _, behind, _, r1, r2, r3, rfl, G2, rfl, e2⟩
      · refine q_asg (ev_op (ev_var rfl) (ev_var rfl) (rv_I wd)) fun H2 e2 => ?_
        refine q_asg (ev_op (ev_var rfl) (ev_op (ev_var rfl) (ev_var rfl) (rv_I (wm b5 b4))) rv_I0) fun H3 e3 => ?_
        refine q_asg (ev_var rfl) fun H4 e4 => ?_
        refine q_asg (ev_var rfl) fun H5 e5 => ?_
        refine q_asg (ev_op (ev_var rfl) (ev_op (ev_var rfl) (ev_var rfl) (rv_I (wm b5 b2))) rv_I0) fun H6 e6 => ?_
        refine q_asg (ev_var rfl) fun H7 e7 => ?_
        refine s_asg (ev_var rfl) fun H8 e8 => ?_
        exact ⟨_, _, _, rfl, (((((((e.trans e1).trans e2).trans e3).trans e4).trans e5).trans e6).trans e7).trans e8⟩
    · have hl : ¬ 0 < low := of_decide_eq_false hc
      have h0 := G.l0
      have : low = 0 := by omega
      subst this
      refine q_when (et_test (ev_op (ev_var rfl) ev_c (rv_ne rfl))) (fun hn H2 e2 => ?_) (fun hn H2 e2 => ?_)
      · have hn' : ¬ high = 1 := by simpa using hn
        exact kE (fun c => hn' (G.end_.mpr c)) H2 ((e.trans e1).trans e2)
      · have hn' : high = 1 := by simpa using hn
        subst hn'
        refine s_ret (ev_op (ev_var rfl) (ev_var rfl) (rv_I (show 0 < base by omega))) fun H3 e3 => ?_
        have c := G.end_.mp rfl
        rw [← Rw.inv_eq c (show 0 < base by omega) (G.turns hb)]
        exact q c H3 (((e.trans e1).trans e2).trans e3)
theorem sv_turned {cN : Addr} {H : Hp} {a b : Int} (hb : 2 ≤ b) (hw : b < 2 ^ 300) (c : Rw.Cop a b) : SpV (sp_turned cN) [.int a, .int b] H (.int (Rw.inv a b)) := fun H1 e Q q E => ⟨a, b, rfl, hb, hw, fun _ => q, fun n => absurd c n⟩
theorem sd_turned {cN : Addr} {H : Hp} {E : XK} {a b : Int} (hb : 2 ≤ b) (hw : b < 2 ^ 300) (c : ¬ Rw.Cop a b) (k : ∀ H', Ex H H' → E (.ref cN) none H') : SpD (sp_turned cN) [.int a, .int b] H E :=
  fun H1 e Q => ⟨a, b, rfl, hb, hw, fun y => absurd y c, fun _ H' e' => k H' (e.trans e')⟩
end
end Rk
namespace Rk
open PySem PySem.Spec PyProof.Rows L2 Evl
section
variable {P : Program} {w : World} {K : PySem.W.Frag} {mg : Str → Option Value} {base : Heap}
/-! ### Board(bases) -/
def sp___init__ (K : PySem.W.Frag) (C cN : Addr) : Sp := fun vs H Q E => ∃ (H0 : Hp) (x dx a : Addr) (bs : List Int), vs = [.ref x, .ref a] ∧ Ex H0 H ∧ H0 x = none ∧ H x = some (.ins C dx []) ∧ SqL K H0 a (bs.map V.int) ∧
  (Rw.Good bs → ∀ H' l t, Ex H0 H' → H0 l = none → H0 t = none → BoardIs C H' x bs dx l t → Q .non H') ∧ (¬ Rw.Good bs → ∀ H', Ex H0 H' → E (.ref cN) none H')
theorem bases_turns : ¬ (("bases" : Str) = "turns") := by decide +kernel
theorem putF2 (l t : Addr) : putF "turns" (.ref t) (putF "bases" (.ref l) []) = bf l t := by
  show (if ("bases" : Str) = "turns" then [(("bases" : Str), V.ref t)] else (("bases" : Str), V.ref l) :: putF "turns" (V.ref t) []) = bf l t
  rw [if_neg bases_turns]
  rfl
theorem ok___init__ (L : Lk K mg) : FnOk P w K mg base (L2N.CX P w) 3 L.f___init__ L.d___init__ ["self", "bases"] (sp___init__ K L.C L.c_NoBases) := by
  refine okN L.F___init__ sc___init__ (fun vs H Q E h => ?_) (fun cdv A outer s H vs Q E hr h => ?_)
  · obtain ⟨_, _, _, _, _, rfl, _⟩ := h; rfl
  · obtain ⟨H0, x, dx, a, bs, rfl, e0, x0, hX, hS, q, kE⟩ := h
    refine ⟨_, (pss_cons (ps_expr (pe_call (E := E) (ok_need_bases L) (hr.mono (by decide)) (by rfl) L.g_need_bases L.k_need_bases L.b_need_bases .nil hxN (pa_cons (pv 1) pa_nil)))
      (pss_cons (ps_fld (pv 0) (pe_callTy call_list_of (by rfl) L.z_list (by decide +kernel) (pa_cons (pv 1) pa_nil)) rfl)
      (pss_cons (ps_fld (pv 0) (pe_lst pa_nil) rfl)
      (pss_one (ps_for (passes_of rfl) rfl (pi_range1 (by rfl) L.z_range (pa_cons (pe_callB call_len_seq (by rfl) L.z_len PySem.boot_len (pa_cons (pv 1) pa_nil)) pa_nil)) (pg_name (i := 2) sc___init__.nd rfl (Or.inl rfl)) (pss_cons (ps_set (i := 3) sc___init__.nd rfl (Or.inl rfl) pe_int)
      (pss_cons (ps_for (passes_of rfl) rfl (pi_list (pe_slice sl_list (pv 1) po_none (po_some (pv 2)))) (pg_name (i := 4) sc___init__.nd rfl (Or.inl rfl)) (pss_one (ps_set (i := 3) sc___init__.nd rfl (Or.inl rfl) (pe_op op_mod (pe_op op_mul (pv 3) (pv 4)) (pe_ix ix_list (pv 1) (pv 2) (fun _ _ => rfl))))))
      (pss_one (ps_expr (pe_bm PySem.F.plainAttrs_list PySem.F.slot_list_append PySem.F.type_list_append mt_append (pe_fld (pv 0) (by rfl)) (pa_cons (pe_call (E := E) (ok_turned L) (hr.mono (by decide)) (by rfl) L.g_turned L.k_turned L.b_turned .nil hxN (pa_cons (pv 3) (pa_cons (pe_ix ix_list (pv 1) (pv 2) (fun _ _ => rfl)) pa_nil))) pa_nil))))))))))), ?_⟩
    by_cases g : Rw.Good bs
    case neg => exact q_dv (dv_call (ea_cons (ev_var rfl) ea_nil) (sd_need_bases (ex_l e0 hS) g fun H' e' => kE g H' (e0.trans e')))
    have hlm : (bs.map V.int).length = bs.length := List.length_map _
    refine q_drop (ev_call0 (ea_cons (ev_var rfl) ea_nil) (sv_need_bases (ex_l e0 hS) g)) fun H1 e1 => ?_
    -- self.bases = list(bases)
    have E1 := e0.trans e1
    refine q_fldL (el_list (ev_var rfl) (ex_l E1 hS)) (ev_var rfl) (e1 _ _ hX) L.cl L.nB (by decide) fun l H2 hl e2 hL => ?_
    have E2 := E1.trans e2
    have nlx : l ≠ x := fun z => by rw [z, e1 _ _ hX] at hl; cases hl
    have E3 : Ex H0 (upd H2 x (.ins L.C dx (putF "bases" (.ref l) []))) := E2.mut x0
    generalize h3 : upd H2 x (.ins L.C dx (putF "bases" (.ref l) [])) = H3 at E3 ⊢
    have hX3 : H3 x = some (.ins L.C dx (putF "bases" (.ref l) [])) := by rw [← h3]; exact upd_same
    have hL3 : H3 l = some (.lst (bs.map V.int)) := by rw [← h3, upd_ne nlx]; exact hL
    -- self.turns = []
    refine q_fldL (el_lst ea_nil (by decide)) (ev_var rfl) hX3 L.cl L.nT (by show 1 < 1000; decide) fun t H4 ht e4 hT => ?_
    rw [putF2]
    have ntx : t ≠ x := fun z => by rw [z, hX3] at ht; cases ht
    have nlt : l ≠ t := fun z => by rw [← z, hL3] at ht; cases ht
    have E4 : Ex H0 (upd H4 x (.ins L.C dx (bf l t))) := (E3.trans e4).mut x0
    have t0 : H0 t = none := fresh_back E3 ht
    have l0 : H0 l = none := fresh_back E1 hl
    generalize h5 : upd H4 x (.ins L.C dx (bf l t)) = H5 at E4 ⊢
    have hX5 : H5 x = some (.ins L.C dx (bf l t)) := by rw [← h5]; exact upd_same
    have hL5 : H5 l = some (.lst (bs.map V.int)) := by rw [← h5, upd_ne nlx]; exact e4 _ _ hL3
    have hT5 : H5 t = some (.lst []) := by rw [← h5, upd_ne ntx]; exact hT
    -- for k in range(len(bases))
    refine s_forR1 (n := (bs.length : Int)) (ea_cons (ev_is (ev_len (ev_var rfl) (ex_l E4 hS)) (by rw [hlm])) ea_nil) (by have := g.len14; omega)
      (fun i σ' H' => ∃ v1 v2 v3, σ' = [some (.ref x), some (.ref a), v1, v2, v3] ∧ Ex H0 H' ∧ H' x = some (.ins L.C dx (bf l t)) ∧ H' l = some (.lst (bs.map V.int)) ∧ H' t = some (.lst (((Rw.turnsOf bs).take i).map V.int)))
      (fun H6 e6 => ⟨none, none, none, rfl, E4.trans e6, e6 _ _ hX5, e6 _ _ hL5, e6 _ _ hT5⟩) ?_ ?_
    · rintro k σ' H6 hk ⟨v1, v2, v3, rfl, E6, hX6, hL6, hT6⟩
      have hk' : k < bs.length := by omega
      have hB : bs[k]? = some bs[k] := List.getElem?_eq_getElem hk'
      generalize bs[k] = b at hB
      have hb := g.get3 hB
      have b0 : 0 < b := by omega
      refine q_asg ev_c fun H7 e7 => ?_
      have E7 := E6.trans e7
      -- for ahead in bases[:k]
      refine q_forNLn (el_sl (ev_var rfl) eo_none (eo_some (ev_var rfl)) (ex_l E7 hS))
        (fun p i σ' H' => ∃ v3, σ' = [some (.ref x), some (.ref a), some (.int (k : Int)), some (.int (Rw.prod (bs.take i) % b)), v3] ∧ Ex H6 H' ∧ H' p = some (.lst ((bs.take k).map V.int)))
        (fun p H8 hp e8 h8 => ⟨v3, by simp [Rw.prod, Int.emod_eq_of_lt (a := 1) (b := b) (by decide) (by omega)], e7.trans e8, by rw [h8, cut_to, List.map_take]⟩)
        (fun p i σ' H' _ ⟨_, _, _, h⟩ => by rw [cut_to, ← List.map_take]; exact sq_of h) ?_ ?_
      · rintro p i z σ' H8 hi ⟨v3, rfl, e8, h8⟩
        rw [cut_to, ← List.map_take] at hi
        obtain ⟨c, hc, rfl⟩ := map_get hi
        have hik : i < k := by
          have := (List.getElem?_eq_some_iff.mp hc).1
          simp at this
          omega
        rw [List.getElem?_take_of_lt hik] at hc
        have c3 := g.get3 hc
        refine s_asg (ev_op (ev_op (ev_var rfl) (ev_var rfl) (rv_I (cmulR (by omega)))) (ev_op (ev_var rfl) (ev_var rfl) (rv_ixL (ex_l (E6.trans e8) hS) (at_map hB))) (rv_I b0)) fun H9 e9 => ?_
        refine ⟨some (.int c), ?_, e8.trans e9, e9 _ _ h8⟩
        have e10 : Rw.prod (bs.take i) % b * c % b = Rw.prod (bs.take (i + 1)) % b := by
          rw [Rw.prod_take_succ hc, Int.mul_emod, Int.emod_emod, ← Int.mul_emod]
        show [some (V.ref x), some (V.ref a), some (V.int (k : Int)), some (V.int (Rw.prod (bs.take i) % b * c % b)), some (V.int c)] = _
        rw [e10]
      · rintro p σ' H8 ⟨v3, rfl, e8, h8⟩
        rw [cut_to, ← List.map_take, List.length_map, List.length_take, Nat.min_eq_left (by omega)]
        have E8 := E6.trans e8
        have cw := Rw.inv_mod (g.copTake hB) b0
        have hT8 := e8 _ _ hT6
        have hw : b < 2 ^ 300 := Int.lt_of_le_of_lt hb.2.1 (by decide +kernel)
        refine s_app hT8 (ev_fld (ev_var rfl) (e8 _ _ hX6) L.cl L.nT (bf_turns l t)) (ev_call0 (ea_cons (ev_var rfl) (ea_cons (ev_op (ev_var rfl) (ev_var rfl) (rv_ixL (ex_l E8 hS) (at_map hB))) ea_nil)) (sv_turned (by omega) hw cw.1)) (by rw [List.length_map, List.length_take, Rw.turnsOf_length]; have := g.len14; omega) fun H9 e9 => ?_
        refine ⟨_, _, _, rfl, (E8.trans e9).mut t0, ?_, ?_, ?_⟩
        · rw [upd_ne ntx.symm]; exact e9 _ _ (e8 _ _ hX6)
        · rw [upd_ne nlt]; exact e9 _ _ (e8 _ _ hL6)
        · rw [upd_same, cw.2, take_next (Rw.turnsOf_get hB)]
    · rintro σ' H6 ⟨v1, v2, v3, rfl, E6, hX6, hL6, hT6⟩
      refine q g H6 l t E6 l0 t0 ⟨hX6, hL6, ?_⟩
      rw [Int.toNat_natCast, List.take_of_length_le (by rw [Rw.turnsOf_length]; exact Nat.le_refl _)] at hT6
      exact hT6
/-- a new board -/
def NewBoard (C : Addr) (bs : List Int) : Hp → V → Hp → Prop := fun H1 v H2 => ∃ x dx l t, v = .ref x ∧ H1 x = none ∧ H1 l = none ∧ H1 t = none ∧ BoardIs C H2 x bs dx l t
theorem NewBoard.back {C : Addr} {bs : List Int} (H0 H1 : Hp) (v : V) (H2 : Hp) (e : Ex H0 H1) (h : NewBoard C bs H1 v H2) : NewBoard C bs H0 v H2 := by
  obtain ⟨x, dx, l, t, e1, e2, e3, e4, e5⟩ := h
  exact ⟨x, dx, l, t, e1, fresh_back e e2, fresh_back e e3, fresh_back e e4, e5⟩
theorem eg_make {C cN a : Addr} {σ : L2.St} {H : Hp} {E : XK} {tA : TA} {bs : List Int} (hA : EvA tA σ H [.ref a]) (hS : SqL K H a (bs.map V.int)) (g : Rw.Good bs) : EvG (tMake C (sp___init__ K C cN) [] E tA) σ H (NewBoard C bs) := fun H1 e Q q =>
  hA H1 e _ fun H2 e2 => fun x dx nx ndx ne => ⟨H2, x, dx, a, bs, rfl, (Ex.new ndx).mut nx, nx, upd_same, ex_l (e.trans e2) hS, fun _ H3 l t e3 hl ht hB => ⟨rfl, q _ H3 (e2.trans e3) ⟨x, dx, l, t, rfl, fresh_back e2 nx, fresh_back e2 hl, fresh_back e2 ht, hB⟩⟩, fun n => absurd g n⟩
end
end Rk
namespace Rk
open PySem PySem.Spec PyProof.Rows L2 Evl
section
variable {P : Program} {w : World} {K : PySem.W.Frag} {mg : Str → Option Value} {base : Heap}
/-! ### the figures of a row -/
def sp_led (K : PySem.W.Frag) (C : Addr) : Sp := fun vs H Q _ => ∃ (b r : Addr) (bs rs : List Int), vs = [.ref b, .ref r] ∧ BoardAt C H b bs ∧ Rw.Good bs ∧ SqL K H r (rs.map V.int) ∧ rs.length = bs.length ∧ RetL ((Rw.digits bs (Rw.num bs rs)).map V.int) H Q
theorem ok_led (L : Lk K mg) : FnOk P w K mg base (L2N.CX P w) 1 L.f_led L.d_led ["self", "row"] (sp_led K L.C) := by
  refine okN L.F_led sc_led (fun vs H Q E h => ?_) (fun cdv A outer s H vs Q E hr h => ?_)
  · obtain ⟨_, _, _, _, rfl, _⟩ := h; rfl
  · obtain ⟨b, r, bs, rs, rfl, ⟨dx, l, t, hb, hl, ht⟩, g, hS, hlen, q⟩ := h
    refine ⟨_, (pss_cons (ps_set (i := 2) sc_led.nd rfl (Or.inl rfl) (pe_lst pa_nil))
      (pss_cons (ps_for (passes_of rfl) rfl (pi_range1 (by rfl) L.z_range (pa_cons (pe_callB call_len_seq (by rfl) L.z_len PySem.boot_len (pa_cons (pv 1) pa_nil)) pa_nil)) (pg_name (i := 3) sc_led.nd rfl (Or.inl rfl)) (pss_cons (ps_set (i := 4) sc_led.nd rfl (Or.inl rfl) (pe_ix ix_list (pe_fld (pv 0) (by rfl)) (pv 3) (fun _ _ => rfl)))
      (pss_cons (ps_set (i := 5) sc_led.nd rfl (Or.inl rfl) pe_int)
      (pss_cons (ps_for (passes_of rfl) rfl (pi_range3 (by rfl) L.z_range (pa_cons (pe_op op_sub (pv 3) pe_int) (pa_cons (pe_un un_neg pe_int) (pa_cons (pe_un un_neg pe_int) pa_nil)))) (pg_name (i := 6) sc_led.nd rfl (Or.inl rfl)) (pss_one (ps_set (i := 5) sc_led.nd rfl (Or.inl rfl) (pe_op op_mod (pe_op op_add (pe_op op_mul (pv 5) (pe_ix ix_list (pe_fld (pv 0) (by rfl)) (pv 6) (fun _ _ => rfl))) (pe_ix ix_list (pv 2) (pv 6) (fun _ _ => rfl))) (pv 4)))))
      (pss_one (ps_expr (pe_bm PySem.F.plainAttrs_list PySem.F.slot_list_append PySem.F.type_list_append mt_append (pv 2) (pa_cons (pe_op op_mod (pe_op op_mul (pe_op op_sub (pe_ix ix_list (pv 1) (pv 3) (fun _ _ => rfl)) (pv 5)) (pe_ix ix_list (pe_fld (pv 0) (by rfl)) (pv 3) (fun _ _ => rfl))) (pv 4)) pa_nil))))))))
      (pss_one (ps_ret (pv 2))))), ?_⟩
    obtain ⟨x0, x1, hx⟩ := Rw.num_spec g hlen
    generalize Rw.num bs rs = x at x0 x1 hx q
    have h14 := g.len14
    refine q_asgL (el_lst ea_nil (by decide)) fun f H1 hf e1 h1 => ?_
    refine q_forR1 (n := (bs.length : Int)) (ea_cons (ev_is (ev_len (ev_var rfl) (ex_l e1 hS)) (by rw [List.length_map, hlen])) ea_nil) (by omega)
      (fun i σ' H' => ∃ v1 v2 v3 v4, σ' = [some (.ref b), some (.ref r), some (.ref f), v1, v2, v3, v4] ∧ Ex H H' ∧ H' f = some (.lst (((Rw.digits bs x).take i).map V.int)))
      (fun H2 e2 => ⟨none, none, none, none, rfl, e1.trans e2, e2 _ _ h1⟩) ?_ ?_
    · rintro k σ' H2 hk ⟨v1, v2, v3, v4, rfl, e2, h2⟩
      have hk' : k < bs.length := by omega
      have hB : bs[k]? = some bs[k] := List.getElem?_eq_getElem hk'
      generalize bs[k] = m at hB
      have hR : rs[k]? = some (rs[k]'(by omega)) := List.getElem?_eq_getElem (by omega)
      generalize rs[k]'(by omega) = rk at hR
      have m3 := g.get3 hB
      have m0 : 0 < m := by omega
      refine q_asg (ev_op (ev_fld (ev_var rfl) (e2 _ _ hb) L.cl L.nB (bf_bases l t)) (ev_var rfl) (rv_ixL (sq_of (e2 _ _ hl)) (at_map hB))) fun H3 e3 => ?_
      refine q_asg ev_c fun H4 e4 => ?_
      have E4 := (e2.trans e3).trans e4
      have h4 := e4 _ _ (e3 _ _ h2)
      refine q_forD (n := k) (ea_cons (ev_op (ev_var rfl) ev_c rv_I0) (ea_cons (ev_un ev_c ru_i) (ea_cons (ev_un ev_c ru_i) ea_nil))) (by omega) (by omega)
        (fun i σ' H' => ∃ v4, σ' = [some (.ref b), some (.ref r), some (.ref f), some (.int (k : Int)), some (.int m), some (.int (x % Rw.prod (bs.take k) / Rw.prod (bs.take (k - i)) % m)), v4] ∧ i ≤ k ∧ Ex H H' ∧ H' f = some (.lst (((Rw.digits bs x).take k).map V.int)))
        (fun H5 e5 => ⟨_, by rw [Nat.sub_zero, Rw.horner0 g.pos]; rfl, Nat.zero_le _, E4.trans e5, e5 _ _ h4⟩) ?_ ?_
      · rintro i σ' H5 hi ⟨v4, rfl, _, e5, h5⟩
        obtain ⟨j, hj⟩ : ∃ j, j = k - (i + 1) := ⟨_, rfl⟩
        have ej : (k : Int) - 1 - (i : Int) = (j : Int) := by omega
        have hjl : j < bs.length := by omega
        have hJ : bs[j]? = some bs[j] := List.getElem?_eq_getElem hjl
        generalize bs[j] = c at hJ
        have c3 := g.get3 hJ
        have hD : ((Rw.digits bs x).take k)[j]? = some (x / Rw.prod (bs.take j) % c) := by rw [List.getElem?_take_of_lt (by omega)]; exact Rw.digits_get g.pos hJ
        rw [ej]
        refine s_asg (ev_op (ev_op (ev_op (ev_var rfl) (ev_op (ev_fld (ev_var rfl) (e5 _ _ hb) L.cl L.nB (bf_bases l t)) (ev_var rfl) (rv_ixL (sq_of (e5 _ _ hl)) (at_map hJ))) (rv_I (cmulR (by omega))))
          (ev_op (ev_var rfl) (ev_var rfl) (rv_ixL (sq_of h5) (at_map hD))) rv_I0) (ev_var rfl) (rv_I m0)) fun H6 e6 => ?_
        have hh := Rw.horner (m := m) (x := x) (k := k) g.pos hJ (by omega)
        have e7 : k - i = j + 1 := by omega
        refine ⟨some (.int (j : Int)), ?_, by omega, e5.trans e6, e6 _ _ h5⟩
        rw [e7, ← hj, ← hh]
        rfl
      · rintro σ' H5 ⟨v4, rfl, _, e5, h5⟩
        rw [Nat.sub_self, Rw.horner_top]
        refine s_app h5 (ev_var rfl) (ev_op (ev_op (ev_op (ev_op (ev_var rfl) (ev_var rfl) (rv_ixL (ex_l e5 hS) (at_map hR))) (ev_var rfl) rv_I0) (ev_op (ev_fld (ev_var rfl) (e5 _ _ hb) L.cl L.nT (bf_turns l t)) (ev_var rfl) (rv_ixL (sq_of (e5 _ _ ht)) (at_map (Rw.turnsOf_get hB)))) (rv_I (cmulR ?_))) (ev_var rfl) (rv_I m0))
          (by rw [List.length_map, List.length_take, Rw.digits_length]; omega) fun H6 e6 => ?_
        · have tt := g.turns hB
          have := tt.lo
          have := tt.hi
          omega
        · refine ⟨_, _, _, _, rfl, (e5.trans e6).mut hf, ?_⟩
          have tt := g.turns hB
          rw [upd_same, take_next (Rw.digits_get g.pos hB), Rw.fig_step (Rw.prod_pos (Rw.pos_take g.pos k)) m0 tt.eq (hx k m rk hB hR)]
    · rintro σ' H2 ⟨v1, v2, v3, v4, rfl, e2, h2⟩
      rw [Int.toNat_natCast, List.take_of_length_le (by rw [Rw.digits_length]; exact Nat.le_refl _)] at h2
      exact s_ret (ev_var rfl) fun H3 e3 => q f H3 hf (e2.trans e3) (e3 _ _ h2)
theorem sl_led {C b r : Addr} {H : Hp} {bs rs : List Int} (hB : BoardAt C H b bs) (g : Rw.Good bs) (hS : SqL K H r (rs.map V.int)) (hl : rs.length = bs.length) : SpL (sp_led K C) [.ref b, .ref r] H ((Rw.digits bs (Rw.num bs rs)).map V.int) := fun H1 e Q q _ => ⟨b, r, bs, rs, rfl, hB.mono e, g, ex_l e hS, hl, q⟩
end
end Rk
namespace Rk
open PySem PySem.Spec PyProof.Rows L2 Evl
section
variable {P : Program} {w : World} {K : PySem.W.Frag} {mg : Str → Option Value} {base : Heap}
/-! ### what is no row -/
def sp_need_row (K : PySem.W.Frag) (C cR : Addr) : Sp := fun vs H Q E => ∃ (b r : Addr) (bs rs : List Int), vs = [.ref b, .ref r] ∧ BoardAt C H b bs ∧ bs.length ≤ 14 ∧ SqL K H r (rs.map V.int) ∧
  (Rw.IsRow bs rs → ∀ H', Ex H H' → Q .non H') ∧ (¬ Rw.IsRow bs rs → ∀ H', Ex H H' → E (.ref cR) none H')
theorem ok_need_row (L : Lk K mg) : FnOk P w K mg base (L2N.CX P w) 1 L.f_need_row L.d_need_row ["self", "row"] (sp_need_row K L.C L.c_NoRow) := by
  refine okN L.F_need_row sc_need_row (fun vs H Q E h => ?_) (fun cdv A outer s H vs Q E hr h => ?_)
  · obtain ⟨_, _, _, _, rfl, _⟩ := h; rfl
  · obtain ⟨b, r, bs, rs, rfl, ⟨dx, l, t, hb, hl, ht⟩, h14, hS, q, kE⟩ := h
    refine ⟨_, (pss_cons (ps_if (pt_cmpR op_ne (pe_callB call_len_seq (by rfl) L.z_len PySem.boot_len (pa_cons (pv 1) pa_nil)) (pe_callB call_len_seq (by rfl) L.z_len PySem.boot_len (pa_cons (pe_fld (pv 0) (by rfl)) pa_nil)) (nomark _)) (pss_one (L2N.ps_raise rfl hkN (L2N.pmk_own PySem.F.excBase_ValueError L.x_NoRow L.g_NoRow L.e_NoRow (raises_own L.s_NoRow L.t_NoRow) (by rfl)))) pss_nil)
      (pss_one (ps_for (passes_of rfl) rfl (pi_zip (by rfl) L.z_zip (pa_cons (pv 1) (pa_cons (pe_fld (pv 0) (by rfl)) pa_nil))) (pg_tup rfl (pgs_cons (pg_name (i := 2) sc_need_row.nd rfl (Or.inl rfl)) (pgs_cons (pg_name (i := 3) sc_need_row.nd rfl (Or.inl rfl)) pgs_nil))) (pss_one (ps_if (PW.pt (pw_or (pt_cmpR op_lt (pv 2) pe_int (nomark _)) (pw_or1 (pt_cmpR op_ge (pv 2) (pv 3) (nomark _))))) (pss_one (L2N.ps_raise rfl hkN (L2N.pmk_own PySem.F.excBase_ValueError L.x_NoRow L.g_NoRow L.e_NoRow (raises_own L.s_NoRow L.t_NoRow) (by rfl)))) pss_nil))))), ?_⟩
    have hlm : (rs.map V.int).length = rs.length := List.length_map _
    have hln : (bs.map V.int).length = bs.length := List.length_map _
    refine q_when (et_test (ev_op (ev_len (ev_var rfl) hS) (ev_len (ev_fld (ev_var rfl) hb L.cl L.nB (bf_bases l t)) (sq_of hl)) (rv_ne rfl))) (fun hc H1 e1 => ?_) (fun hc H1 e1 => ?_)
    · refine kE (fun w => ?_) H1 e1
      rw [hlm, hln, w.len] at hc
      simp at hc
    have hle : rs.length = bs.length := by
      rw [hlm, hln] at hc
      have hc' : decide (V.int (rs.length : Int) = V.int (bs.length : Int)) = true := by simpa using hc
      have := V.int.inj (of_decide_eq_true hc')
      omega
    refine s_forZip (ev_var rfl) (ex_l e1 hS) (ev_fld (ev_var rfl) (e1 _ _ hb) L.cl L.nB (bf_bases l t)) (sq_of (e1 _ _ hl)) (by rw [hlm, hln, hle])
      (fun i σ' H' => ∃ v1 v2, σ' = [some (.ref b), some (.ref r), v1, v2] ∧ Ex H H' ∧ ∀ (k : Nat) (x m : Int), k < i → rs[k]? = some x → bs[k]? = some m → 0 ≤ x ∧ x < m)
      (fun H2 e2 => ⟨none, none, rfl, e1.trans e2, fun k x m h => absurd h (Nat.not_lt_zero k)⟩) (fun i σ' H' ⟨_, _, _, e, _⟩ => ⟨ex_l e hS, sq_of (e _ _ hl)⟩) ?_ ?_
    · rintro i x y T σ' H2 hx hy ⟨v1, v2, rfl, e2, inv⟩ hT
      obtain ⟨u, hu, rfl⟩ := map_get hx
      obtain ⟨m, hm, rfl⟩ := map_get hy
      have e3 : Ex H (upd H2 T (.tup [.int u, .int m])) := e2.trans (Ex.new hT)
      refine ⟨T, _, rfl, st_of upd_same, rfl, _, _, rfl, _, _, rfl, rfl, ?_⟩
      refine s_when (et_or (et_test (ev_op (ev_var rfl) ev_c rv_I0)) (fun _ => et_test (ev_op (ev_var rfl) (ev_var rfl) rv_I0))) (fun hd H4 e4 => ?_) (fun hd H4 e4 => ?_)
      · rw [Bool.or_eq_true, decide_eq_true_eq, decide_eq_true_eq] at hd
        exact kE (fun w => by have := w.rng i u m hu hm; omega) H4 (e3.trans e4)
      · rw [Bool.or_eq_false_iff, decide_eq_false_iff_not, decide_eq_false_iff_not] at hd
        refine ⟨_, _, rfl, e3.trans e4, fun k x' m' hk hx' hm' => ?_⟩
        by_cases e5 : k = i
        · subst e5
          rw [hu] at hx'
          rw [hm] at hm'
          have := Option.some.inj hx'
          have := Option.some.inj hm'
          omega
        · exact inv k x' m' (by omega) hx' hm'
    · rintro σ' H2 ⟨v1, v2, rfl, e2, inv⟩
      rw [hlm] at inv
      exact q ⟨hle, fun k x m hx hm => inv k x m (List.getElem?_eq_some_iff.mp hx).1 hx hm⟩ H2 e2
theorem sv_need_row {C cR b r : Addr} {H : Hp} {bs rs : List Int} (hB : BoardAt C H b bs) (g : Rw.Good bs) (hS : SqL K H r (rs.map V.int)) (w : Rw.IsRow bs rs) : SpV (sp_need_row K C cR) [.ref b, .ref r] H .non := fun H1 e Q q E => ⟨b, r, bs, rs, rfl, hB.mono e, g.len14, ex_l e hS, fun _ => q, fun n => absurd w n⟩
theorem sd_need_row {C cR b r : Addr} {H : Hp} {E : XK} {bs rs : List Int} (hB : BoardAt C H b bs) (g : Rw.Good bs) (hS : SqL K H r (rs.map V.int)) (w : ¬ Rw.IsRow bs rs) (k : ∀ H', Ex H H' → E (.ref cR) none H') : SpD (sp_need_row K C cR) [.ref b, .ref r] H E :=
  fun H1 e Q => ⟨b, r, bs, rs, rfl, hB.mono e, g.len14, ex_l e hS, fun y => absurd y w, fun _ H' e' => k H' (e.trans e')⟩
end
end Rk
namespace Rk
open PySem PySem.Spec PyProof.Rows L2 Evl
section
variable {P : Program} {w : World} {K : PySem.W.Frag} {mg : Str → Option Value} {base : Heap}
def sp_figures (K : PySem.W.Frag) (C cR : Addr) : Sp := fun vs H Q E => ∃ (b r : Addr) (bs rs : List Int), vs = [.ref b, .ref r] ∧ BoardAt C H b bs ∧ Rw.Good bs ∧ SqL K H r (rs.map V.int) ∧
  (Rw.IsRow bs rs → RetL ((Rw.digits bs (Rw.num bs rs)).map V.int) H Q) ∧ (¬ Rw.IsRow bs rs → ∀ H', Ex H H' → E (.ref cR) none H')
theorem ok_figures (L : Lk K mg) : FnOk P w K mg base (L2N.CX P w) 2 L.f_figures L.d_figures ["self", "row"] (sp_figures K L.C L.c_NoRow) := by
  refine okN L.F_figures sc_figures (fun vs H Q E h => ?_) (fun cdv A outer s H vs Q E hr h => ?_)
  · obtain ⟨_, _, _, _, rfl, _⟩ := h; rfl
  · obtain ⟨b, r, bs, rs, rfl, hB, g, hS, q, kE⟩ := h
    refine ⟨_, (pss_cons (ps_expr (pe_meth (E := E) (pv 0) L.cl L.m_need_row (ok_need_row L) (hr.mono (by decide)) L.b_need_row .nil hxN (pa_cons (pv 1) pa_nil)))
      (pss_one (ps_ret (pe_meth (E := E) (pv 0) L.cl L.m_led (ok_led L) (hr.mono (by decide)) L.b_led .nil hxN (pa_cons (pv 1) pa_nil))))), ?_⟩
    obtain ⟨dx, l, t, hb, hl, ht⟩ := id hB
    by_cases w : Rw.IsRow bs rs
    case neg => exact q_dv (dv_meth (ev_var rfl) hb (bf_none l t (by decide +kernel) (by decide +kernel)) (ea_cons (ev_var rfl) ea_nil) (sd_need_row hB g hS w (kE w)))
    refine q_drop (ev_meth (ev_var rfl) hb (bf_none l t (by decide +kernel) (by decide +kernel)) (ea_cons (ev_var rfl) ea_nil) (sv_need_row hB g hS w)) fun H1 e1 => ?_
    refine s_retL (el_meth (ev_var rfl) (e1 _ _ hb) (bf_none l t (by decide +kernel) (by decide +kernel)) (ea_cons (ev_var rfl) ea_nil) (sl_led (hB.mono e1) g (ex_l e1 hS) w.len)) fun p H2 hp e2 h2 => ?_
    exact q w p H2 (fresh_back e1 hp) (e1.trans e2) h2
theorem sl_figures {C cR b r : Addr} {H : Hp} {bs rs : List Int} (hB : BoardAt C H b bs) (g : Rw.Good bs) (hS : SqL K H r (rs.map V.int)) (w : Rw.IsRow bs rs) : SpL (sp_figures K C cR) [.ref b, .ref r] H ((Rw.digits bs (Rw.num bs rs)).map V.int) := fun H1 e Q q E => ⟨b, r, bs, rs, rfl, hB.mono e, g, ex_l e hS, fun _ => q, fun n => absurd w n⟩
theorem sd_figures {C cR b r : Addr} {H : Hp} {E : XK} {bs rs : List Int} (hB : BoardAt C H b bs) (g : Rw.Good bs) (hS : SqL K H r (rs.map V.int)) (w : ¬ Rw.IsRow bs rs) (k : ∀ H', Ex H H' → E (.ref cR) none H') : SpD (sp_figures K C cR) [.ref b, .ref r] H E :=
  fun H1 e Q => ⟨b, r, bs, rs, rfl, hB.mono e, g, ex_l e hS, fun y => absurd y w, fun _ H' e' => k H' (e.trans e')⟩
end
end Rk
namespace Rk
open PySem PySem.Spec PyProof.Rows L2 Evl
section
variable {P : Program} {w : World} {K : PySem.W.Frag} {mg : Str → Option Value} {base : Heap}
def sp_tells (K : PySem.W.Frag) (C cR : Addr) : Sp := fun vs H Q E => ∃ (b r : Addr) (bs rs : List Int), vs = [.ref b, .ref r] ∧ BoardAt C H b bs ∧ Rw.Good bs ∧ SqL K H r (rs.map V.int) ∧
  (Rw.IsRow bs rs → ∀ H', Ex H H' → Q (.bl (decide (Rw.num bs rs < Rw.room bs))) H') ∧ (¬ Rw.IsRow bs rs → ∀ H', Ex H H' → E (.ref cR) none H')
theorem ok_tells (L : Lk K mg) : FnOk P w K mg base (L2N.CX P w) 3 L.f_tells L.d_tells ["self", "row"] (sp_tells K L.C L.c_NoRow) := by
  refine okN L.F_tells sc_tells (fun vs H Q E h => ?_) (fun cdv A outer s H vs Q E hr h => ?_)
  · obtain ⟨_, _, _, _, rfl, _⟩ := h; rfl
  · obtain ⟨b, r, bs, rs, rfl, hB, g, hS, q, kE⟩ := h
    refine ⟨_, (pss_one (ps_ret (pe_cmpR (op_eqD hr.units) (pe_slice sl_list (pe_meth (E := E) (pv 0) L.cl L.m_figures (ok_figures L) (hr.mono (by decide)) L.b_figures .nil hxN (pa_cons (pv 1) pa_nil)) (po_some (pe_un un_neg pe_int)) po_none) (pe_lst (pa_cons pe_int (pa_cons pe_int pa_nil))) (nomark _)))), ?_⟩
    obtain ⟨dx, l, t, hb, hl, ht⟩ := id hB
    by_cases w : Rw.IsRow bs rs
    case neg => exact s_dvR (dv_op1 (dv_sl (dv_meth (ev_var rfl) hb (bf_none l t (by decide +kernel) (by decide +kernel)) (ea_cons (ev_var rfl) ea_nil) (sd_figures hB g hS w (kE w)))))
    refine s_ret (ev_last2 (bs := bs) g w.len (el_meth (ev_var rfl) hb (bf_none l t (by decide +kernel) (by decide +kernel)) (ea_cons (ev_var rfl) ea_nil) (sl_figures hB g hS w))) fun H1 e1 => q w H1 e1
theorem sv_tells {C cR b r : Addr} {H : Hp} {bs rs : List Int} (hB : BoardAt C H b bs) (g : Rw.Good bs) (hS : SqL K H r (rs.map V.int)) (w : Rw.IsRow bs rs) : SpV (sp_tells K C cR) [.ref b, .ref r] H (.bl (decide (Rw.num bs rs < Rw.room bs))) := fun H1 e Q q E => ⟨b, r, bs, rs, rfl, hB.mono e, g, ex_l e hS, fun _ => q, fun n => absurd w n⟩
theorem sd_tells {C cR b r : Addr} {H : Hp} {E : XK} {bs rs : List Int} (hB : BoardAt C H b bs) (g : Rw.Good bs) (hS : SqL K H r (rs.map V.int)) (w : ¬ Rw.IsRow bs rs) (k : ∀ H', Ex H H' → E (.ref cR) none H') : SpD (sp_tells K C cR) [.ref b, .ref r] H E :=
  fun H1 e Q => ⟨b, r, bs, rs, rfl, hB.mono e, g, ex_l e hS, fun y => absurd y w, fun _ H' e' => k H' (e.trans e')⟩
end
end Rk
namespace Rk
open PySem PySem.Spec PyProof.Rows L2 Evl
section
variable {P : Program} {w : World} {K : PySem.W.Frag} {mg : Str → Option Value} {base : Heap}
/-- a row that tells a number -/
def Tells (bs rs : List Int) : Prop := Rw.IsRow bs rs ∧ Rw.num bs rs < Rw.room bs
theorem tells_row {bs : List Int} {x : Int} (g : Rw.Good bs) (x0 : 0 ≤ x) (x1 : x < Rw.room bs) : Tells bs (Rw.rowOf bs x) := ⟨Rw.isRow_rowOf g x, by rw [Rw.num_rowR g x0 x1]; exact x1⟩
def sp_need_number (K : PySem.W.Frag) (C cR cN : Addr) : Sp := fun vs H Q E => ∃ (b r : Addr) (bs rs : List Int), vs = [.ref b, .ref r] ∧ BoardAt C H b bs ∧ Rw.Good bs ∧ SqL K H r (rs.map V.int) ∧
  (Tells bs rs → ∀ H', Ex H H' → Q .non H') ∧ (¬ Rw.IsRow bs rs → ∀ H', Ex H H' → E (.ref cR) none H') ∧ (Rw.IsRow bs rs → ¬ Tells bs rs → ∀ H', Ex H H' → E (.ref cN) none H')
theorem ok_need_number (L : Lk K mg) : FnOk P w K mg base (L2N.CX P w) 4 L.f_need_number L.d_need_number ["self", "row"] (sp_need_number K L.C L.c_NoRow L.c_NoNumber) := by
  refine okN L.F_need_number sc_need_number (fun vs H Q E h => ?_) (fun cdv A outer s H vs Q E hr h => ?_)
  · obtain ⟨_, _, _, _, rfl, _⟩ := h; rfl
  · obtain ⟨b, r, bs, rs, rfl, hB, g, hS, q, kE, kN⟩ := h
    refine ⟨_, (pss_one (ps_if (pt_not (pt_val (pe_meth (E := E) (pv 0) L.cl L.m_tells (ok_tells L) (hr.mono (by decide)) L.b_tells .nil hxN (pa_cons (pv 1) pa_nil)))) (pss_one (L2N.ps_raise rfl hkN (L2N.pmk_own PySem.F.excBase_ValueError L.x_NoNumber L.g_NoNumber L.e_NoNumber (raises_own L.s_NoNumber L.t_NoNumber) (by rfl)))) pss_nil)), ?_⟩
    obtain ⟨dx, l, t, hb, hl, ht⟩ := id hB
    by_cases w : Rw.IsRow bs rs
    case neg => exact s_dvI (dt_not (dt_B (dv_meth (ev_var rfl) hb (bf_none l t (by decide +kernel) (by decide +kernel)) (ea_cons (ev_var rfl) ea_nil) (sd_tells hB g hS w (kE w)))))
    refine s_when (et_not (et_B (ev_meth (ev_var rfl) hb (bf_none l t (by decide +kernel) (by decide +kernel)) (ea_cons (ev_var rfl) ea_nil) (sv_tells hB g hS w)))) (fun hc H1 e1 => ?_) (fun hc H1 e1 => ?_)
    · have hc' : ¬ Rw.num bs rs < Rw.room bs := by simpa using hc
      exact kN w (fun z => hc' z.2) H1 e1
    · have hc' : Rw.num bs rs < Rw.room bs := by simpa using hc
      exact q ⟨w, hc'⟩ H1 e1
theorem sv_need_number {C cR cN b r : Addr} {H : Hp} {bs rs : List Int} (hB : BoardAt C H b bs) (g : Rw.Good bs) (hS : SqL K H r (rs.map V.int)) (w : Tells bs rs) : SpV (sp_need_number K C cR cN) [.ref b, .ref r] H .non :=
  fun H1 e Q q E => ⟨b, r, bs, rs, rfl, hB.mono e, g, ex_l e hS, fun _ => q, fun n => absurd w.1 n, fun _ n => absurd w n⟩
/-- what a row that tells none is refused with -/
def Ref (E : XK) (cR cN : Addr) (bs rs : List Int) (H : Hp) : Prop := (¬ Rw.IsRow bs rs → ∀ H', Ex H H' → E (.ref cR) none H') ∧ (Rw.IsRow bs rs → ∀ H', Ex H H' → E (.ref cN) none H')
theorem Ref.mono {E : XK} {cR cN : Addr} {bs rs : List Int} {H H1 : Hp} (h : Ref E cR cN bs rs H) (e : Ex H H1) : Ref E cR cN bs rs H1 := ⟨fun w H' e' => h.1 w H' (e.trans e'), fun w H' e' => h.2 w H' (e.trans e')⟩
theorem sd_need_number {C cR cN b r : Addr} {H : Hp} {E : XK} {bs rs : List Int} (hB : BoardAt C H b bs) (g : Rw.Good bs) (hS : SqL K H r (rs.map V.int)) (w : ¬ Tells bs rs) (k : Ref E cR cN bs rs H) : SpD (sp_need_number K C cR cN) [.ref b, .ref r] H E :=
  fun H1 e Q => ⟨b, r, bs, rs, rfl, hB.mono e, g, ex_l e hS, fun y => absurd y w, fun n H' e' => k.1 n H' (e.trans e'), fun y _ H' e' => k.2 y H' (e.trans e')⟩
end
end Rk
namespace Rk
open PySem PySem.Spec PyProof.Rows L2 Evl
section
variable {P : Program} {w : World} {K : PySem.W.Frag} {mg : Str → Option Value} {base : Heap}
/-! ### the number that a row tells -/
def sp_number (K : PySem.W.Frag) (C cR cN : Addr) : Sp := fun vs H Q E => ∃ (b r : Addr) (bs rs : List Int), vs = [.ref b, .ref r] ∧ BoardAt C H b bs ∧ Rw.Good bs ∧ SqL K H r (rs.map V.int) ∧
  (Tells bs rs → ∀ H', Ex H H' → Q (.int (Rw.num bs rs)) H') ∧ (¬ Tells bs rs → Ref E cR cN bs rs H)
theorem ok_number (L : Lk K mg) : FnOk P w K mg base (L2N.CX P w) 5 L.f_number L.d_number ["self", "row"] (sp_number K L.C L.c_NoRow L.c_NoNumber) := by
  refine okN L.F_number sc_number (fun vs H Q E h => ?_) (fun cdv A outer s H vs Q E hr h => ?_)
  · obtain ⟨_, _, _, _, rfl, _⟩ := h; rfl
  · obtain ⟨b, r, bs, rs, rfl, hB, g, hS, q, kE⟩ := h
    refine ⟨_, (pss_cons (ps_expr (pe_meth (E := E) (pv 0) L.cl L.m_need_number (ok_need_number L) (hr.mono (by decide)) L.b_need_number .nil hxN (pa_cons (pv 1) pa_nil)))
      (pss_cons (ps_set (i := 2) sc_number.nd rfl (Or.inl rfl) pe_int)
      (pss_cons (ps_set (i := 3) sc_number.nd rfl (Or.inl rfl) (pe_meth (E := E) (pv 0) L.cl L.m_led (ok_led L) (hr.mono (by decide)) L.b_led .nil hxN (pa_cons (pv 1) pa_nil)))
      (pss_cons (ps_for (passes_of rfl) rfl (pi_range3 (by rfl) L.z_range (pa_cons (pe_op op_sub (pe_callB call_len_seq (by rfl) L.z_len PySem.boot_len (pa_cons (pv 1) pa_nil)) pe_int) (pa_cons (pe_un un_neg pe_int) (pa_cons (pe_un un_neg pe_int) pa_nil)))) (pg_name (i := 4) sc_number.nd rfl (Or.inl rfl)) (pss_one (ps_set (i := 2) sc_number.nd rfl (Or.inl rfl) (pe_op op_add (pe_op op_mul (pv 2) (pe_ix ix_list (pe_fld (pv 0) (by rfl)) (pv 4) (fun _ _ => rfl))) (pe_ix ix_list (pv 3) (pv 4) (fun _ _ => rfl))))))
      (pss_one (ps_ret (pv 2))))))), ?_⟩
    obtain ⟨dx, l, t, hb, hl, ht⟩ := id hB
    have h14 := g.len14
    by_cases w : Tells bs rs
    case neg => exact q_dv (dv_meth (ev_var rfl) hb (bf_none l t (by decide +kernel) (by decide +kernel)) (ea_cons (ev_var rfl) ea_nil) (sd_need_number hB g hS w (kE w)))
    have hlen := w.1.len
    have hlm : (rs.map V.int).length = rs.length := List.length_map _
    obtain ⟨x0, x1, hx⟩ := Rw.num_spec g hlen
    have q' := q w
    refine q_drop (ev_meth (ev_var rfl) hb (bf_none l t (by decide +kernel) (by decide +kernel)) (ea_cons (ev_var rfl) ea_nil) (sv_need_number hB g hS w)) fun H1 e1 => ?_
    refine q_asg ev_c fun H2 e2 => ?_
    have E2 := e1.trans e2
    refine q_asgL (el_meth (ev_var rfl) (E2 _ _ hb) (bf_none l t (by decide +kernel) (by decide +kernel)) (ea_cons (ev_var rfl) ea_nil) (sl_led (hB.mono E2) g (ex_l E2 hS) hlen)) fun f H3 hf e3 h3 => ?_
    have E3 := E2.trans e3
    generalize Rw.num bs rs = x at x0 x1 q' h3
    refine q_forD (n := bs.length) (ea_cons (ev_op (ev_len (ev_var rfl) (ex_l E3 hS)) ev_c rv_I0) (ea_cons (ev_un ev_c ru_i) (ea_cons (ev_un ev_c ru_i) ea_nil))) (by rw [hlm]; omega) (by rw [hlm]; omega)
      (fun i σ' H' => ∃ v4, σ' = [some (.ref b), some (.ref r), some (.int (x / Rw.prod (bs.take (bs.length - i)))), some (.ref f), v4] ∧ i ≤ bs.length ∧ Ex H H' ∧ H' f = some (.lst ((Rw.digits bs x).map V.int)))
      (fun H5 e5 => ⟨none, by rw [Nat.sub_zero, List.take_length, Int.ediv_eq_zero_of_lt x0 x1]; rfl, Nat.zero_le _, E3.trans e5, e5 _ _ h3⟩) ?_ ?_
    · rintro i σ' H5 hi ⟨v4, rfl, _, e5, h5⟩
      obtain ⟨j, hj⟩ : ∃ j, j = bs.length - (i + 1) := ⟨_, rfl⟩
      have ej : ((rs.map V.int).length : Int) - 1 - (i : Int) = (j : Int) := by rw [hlm]; omega
      have hjl : j < bs.length := by omega
      have hJ : bs[j]? = some bs[j] := List.getElem?_eq_getElem hjl
      generalize bs[j] = c at hJ
      have c3 := g.get3 hJ
      rw [ej]
      refine s_asg (ev_op (ev_op (ev_var rfl) (ev_op (ev_fld (ev_var rfl) (e5 _ _ hb) L.cl L.nB (bf_bases l t)) (ev_var rfl) (rv_ixL (sq_of (e5 _ _ hl)) (at_map hJ))) (rv_I (cmulR (by omega))))
        (ev_op (ev_var rfl) (ev_var rfl) (rv_ixL (sq_of h5) (at_map (Rw.digits_get g.pos hJ)))) rv_I0) fun H6 e6 => ?_
      have e7 : bs.length - i = j + 1 := by omega
      refine ⟨some (.int (j : Int)), ?_, by omega, e5.trans e6, e6 _ _ h5⟩
      rw [e7, ← hj]
      show [some (V.ref b), some (V.ref r), some (V.int (x / Rw.prod (bs.take (j + 1)) * c + x / Rw.prod (bs.take j) % c)), some (V.ref f), some (V.int (j : Int))] = _
      rw [Rw.numb_step g.pos hJ]
    · rintro σ' H5 ⟨v4, rfl, _, e5, h5⟩
      rw [Nat.sub_self]
      refine s_ret (ev_var rfl) fun H6 e6 => ?_
      have z := q' H6 (e5.trans e6)
      rw [show x / Rw.prod (bs.take 0) = x by simp [Rw.prod]]
      exact z
theorem sv_number {C cR cN b r : Addr} {H : Hp} {bs rs : List Int} (hB : BoardAt C H b bs) (g : Rw.Good bs) (hS : SqL K H r (rs.map V.int)) (w : Tells bs rs) : SpV (sp_number K C cR cN) [.ref b, .ref r] H (.int (Rw.num bs rs)) :=
  fun H1 e Q q E => ⟨b, r, bs, rs, rfl, hB.mono e, g, ex_l e hS, fun _ => q, fun n => absurd w n⟩
theorem sd_number {C cR cN b r : Addr} {H : Hp} {E : XK} {bs rs : List Int} (hB : BoardAt C H b bs) (g : Rw.Good bs) (hS : SqL K H r (rs.map V.int)) (w : ¬ Tells bs rs) (k : Ref E cR cN bs rs H) : SpD (sp_number K C cR cN) [.ref b, .ref r] H E :=
  fun H1 e Q => ⟨b, r, bs, rs, rfl, hB.mono e, g, ex_l e hS, fun y => absurd y w, fun _ => k.mono e⟩
end
end Rk
namespace Rk
open PySem PySem.Spec PyProof.Rows L2 Evl
section
variable {P : Program} {w : World} {K : PySem.W.Frag} {mg : Str → Option Value} {base : Heap}
/-! ### what the others tell -/
def sp_told_by_others (K : PySem.W.Frag) (C : Addr) : Sp := fun vs H Q _ => ∃ (b r : Addr) (bs rs : List Int) (p : Nat) (mp : Int), vs = [.ref b, .ref r, .int (p : Int)] ∧ BoardAt C H b bs ∧ Rw.Good bs ∧ SqL K H r (rs.map V.int) ∧ rs.length = bs.length ∧ bs[p]? = some mp ∧
  ∀ H', Ex H H' → Q (.int (Rw.onum bs rs p % mp)) H'
theorem given_but {n p : Nat} (hp : p < n) : given n (fun i => decide (i ≠ p)) (fun i => V.int (i : Int)) = (((List.range n).eraseIdx p).map fun i : Nat => (i : Int)).map V.int := by
  unfold given
  rw [Rw.range_but hp, List.map_map]
  rfl
theorem places_get {n p a : Nat} (hp : p < n) (ha : a < n - 1) : (((List.range n).eraseIdx p).map fun i : Nat => (i : Int))[a]? = some ((Rw.oth p a : Nat) : Int) := by
  rw [List.getElem?_map, Rw.erase_oth, List.getElem?_range (Rw.oth_lt ha hp)]
  rfl
theorem ok_told_by_others (L : Lk K mg) : FnOk P w K mg base (L2N.CX P w) 1 L.f_told_by_others L.d_told_by_others ["board", "row", "place"] (sp_told_by_others K L.C) := by
  refine okN L.F_told_by_others sc_told_by_others (fun vs H Q E h => ?_) (fun cdv A outer s H vs Q E hr h => ?_)
  · obtain ⟨_, _, _, _, _, _, rfl, _⟩ := h; rfl
  · obtain ⟨b, r, bs, rs, p, mp, rfl, ⟨dx, l, t, hb, hl, ht⟩, g, hS, hlen, hmp, q⟩ := h
    refine ⟨_, (pss_cons (ps_setLc (i := 4) (own := [("k", 3)]) (g := gName 3) rfl sc_told_by_others.nd rfl rfl (sw_true rfl rfl rfl (by decide +kernel)) (pi_range1 (by rfl) L.z_range (pa_cons (pe_callB call_len_seq (by rfl) L.z_len PySem.boot_len (pa_cons (pv 1) pa_nil)) pa_nil)) (blkOk_by (own := [("k", 3)]) (N := ["board", "row", "place", "k", "places", "figures", "at", "base", "value", "j", "turn"]) (sc := defScope s_told_by_others) (by decide +kernel)) (fun _ _ _ _ _ => pg_name (i := 3) sc_told_by_others.nd rfl (Or.inl rfl)) (fun _ _ _ _ _ => by exact (pts_one (pt_cmpR op_ne (pv 3) (pv 2) (nomark _)))) (fun _ _ _ _ _ => by exact (pv 3)))
      (pss_cons (ps_set (i := 5) sc_told_by_others.nd rfl (Or.inl rfl) (pe_lst pa_nil))
      (pss_cons (ps_for (passes_of rfl) rfl (pi_range1 (by rfl) L.z_range (pa_cons (pe_callB call_len_seq (by rfl) L.z_len PySem.boot_len (pa_cons (pv 4) pa_nil)) pa_nil)) (pg_name (i := 6) sc_told_by_others.nd rfl (Or.inl rfl)) (pss_cons (ps_set (i := 3) sc_told_by_others.nd rfl (Or.inl rfl) (pe_ix ix_list (pv 4) (pv 6) (fun _ _ => rfl)))
      (pss_cons (ps_set (i := 7) sc_told_by_others.nd rfl (Or.inl rfl) (pe_ix ix_list (pe_fld (pv 0) (by rfl)) (pv 3) (fun _ _ => rfl)))
      (pss_cons (ps_set (i := 8) sc_told_by_others.nd rfl (Or.inl rfl) pe_int)
      (pss_cons (ps_for (passes_of rfl) rfl (pi_range3 (by rfl) L.z_range (pa_cons (pe_op op_sub (pv 6) pe_int) (pa_cons (pe_un un_neg pe_int) (pa_cons (pe_un un_neg pe_int) pa_nil)))) (pg_name (i := 9) sc_told_by_others.nd rfl (Or.inl rfl)) (pss_one (ps_set (i := 8) sc_told_by_others.nd rfl (Or.inl rfl) (pe_op op_mod (pe_op op_add (pe_op op_mul (pv 8) (pe_ix ix_list (pe_fld (pv 0) (by rfl)) (pe_ix ix_list (pv 4) (pv 9) (fun _ _ => rfl)) (fun _ _ => rfl))) (pe_ix ix_list (pv 5) (pv 9) (fun _ _ => rfl))) (pv 7)))))
      (pss_cons (ps_set (i := 10) sc_told_by_others.nd rfl (Or.inl rfl) (pe_ix ix_list (pe_fld (pv 0) (by rfl)) (pv 3) (fun _ _ => rfl)))
      (pss_cons (ps_if (pt_cmpR op_gt (pv 3) (pv 2) (nomark _)) (pss_one (ps_set (i := 10) sc_told_by_others.nd rfl (Or.inl rfl) (pe_op op_mod (pe_op op_mul (pv 10) (pe_ix ix_list (pe_fld (pv 0) (by rfl)) (pv 2) (fun _ _ => rfl))) (pv 7)))) pss_nil)
      (pss_one (ps_expr (pe_bm PySem.F.plainAttrs_list PySem.F.slot_list_append PySem.F.type_list_append mt_append (pv 5) (pa_cons (pe_op op_mod (pe_op op_mul (pe_op op_sub (pe_ix ix_list (pv 1) (pv 3) (fun _ _ => rfl)) (pv 8)) (pv 10)) (pv 7)) pa_nil)))))))))))
      (pss_cons (ps_set (i := 7) sc_told_by_others.nd rfl (Or.inl rfl) (pe_ix ix_list (pe_fld (pv 0) (by rfl)) (pv 2) (fun _ _ => rfl)))
      (pss_cons (ps_set (i := 8) sc_told_by_others.nd rfl (Or.inl rfl) pe_int)
      (pss_cons (ps_for (passes_of rfl) rfl (pi_range3 (by rfl) L.z_range (pa_cons (pe_op op_sub (pe_callB call_len_seq (by rfl) L.z_len PySem.boot_len (pa_cons (pv 5) pa_nil)) pe_int) (pa_cons (pe_un un_neg pe_int) (pa_cons (pe_un un_neg pe_int) pa_nil)))) (pg_name (i := 9) sc_told_by_others.nd rfl (Or.inl rfl)) (pss_one (ps_set (i := 8) sc_told_by_others.nd rfl (Or.inl rfl) (pe_op op_mod (pe_op op_add (pe_op op_mul (pv 8) (pe_ix ix_list (pe_fld (pv 0) (by rfl)) (pe_ix ix_list (pv 4) (pv 9) (fun _ _ => rfl)) (fun _ _ => rfl))) (pe_ix ix_list (pv 5) (pv 9) (fun _ _ => rfl))) (pv 7)))))
      (pss_one (ps_ret (pv 8))))))))), ?_⟩
    have h14 := g.len14
    have h3 := g.len3
    have hp : p < bs.length := (List.getElem?_eq_some_iff.mp hmp).1
    obtain ⟨y0, y1, hy⟩ := Rw.onum_spec g hlen hp
    generalize Rw.onum bs rs p = y at y0 y1 hy q
    have m3 := g.get3 hmp
    have mp0 : 0 < mp := by omega
    have ps := Rw.pos_erase g.pos p
    have hcl : (bs.eraseIdx p).length = bs.length - 1 := List.length_eraseIdx_of_lt hp
    have hcg : ∀ a, (bs.eraseIdx p)[a]? = bs[Rw.oth p a]? := Rw.erase_oth bs p
    generalize hcs : bs.eraseIdx p = cs at y1 ps hcl hcg
    have hpl : ∀ {a : Nat}, a < bs.length - 1 → (((List.range bs.length).eraseIdx p).map fun i : Nat => (i : Int))[a]? = some ((Rw.oth p a : Nat) : Int) := fun ha => places_get hp ha
    have hpll : (((List.range bs.length).eraseIdx p).map fun i : Nat => (i : Int)).length = bs.length - 1 := by rw [List.length_map, List.length_eraseIdx_of_lt (by simpa using hp), List.length_range]
    have cmp : ∀ i : Nat, (!decide (V.int (i : Int) = V.int (p : Int))) = decide (i ≠ p) := fun i => by
      by_cases e : i = p
      · subst e; simp
      · have : ¬ (V.int (i : Int) = V.int (p : Int)) := fun z => e (by have := V.int.inj z; omega)
        simp [this, e]
    refine q_asgL (el_lcR1 (n := (bs.length : Int)) (fun i => decide (i ≠ p)) (fun i => .int (i : Int)) (ea_cons (ev_is (ev_len (ev_var rfl) hS) (by rw [List.length_map, hlen])) ea_nil) (by omega) (fun _ => rfl)
      (fun i H1 _ _ => et_is (et_test (ev_op (ev_var rfl) (ev_var rfl) (rv_ne rfl))) (cmp i)) (fun i H1 _ _ _ => ev_var rfl)) fun pl H1 hpn e1 h1 => ?_
    rw [Int.toNat_natCast, given_but hp] at h1
    generalize ((List.range bs.length).eraseIdx p).map (fun i : Nat => (i : Int)) = pls at h1 hpl hpll
    refine q_asgL (el_lst ea_nil (by decide)) fun f H2 hf e2 h2 => ?_
    have E2 := e1.trans e2
    have hfH : H f = none := fresh_back e1 hf
    have nfp : pl ≠ f := fun z => by rw [z, hf] at h1; cases h1
    refine q_forR1 (n := ((bs.length - 1 : Nat) : Int)) (ea_cons (ev_is (ev_len (ev_var rfl) (sq_of (e2 _ _ h1))) (by rw [List.length_map, hpll])) ea_nil) (by omega)
      (fun i σ' H' => ∃ v1 v2 v3 v4 v5 v6, σ' = [some (.ref b), some (.ref r), some (.int (p : Int)), v1, some (.ref pl), some (.ref f), v2, v3, v4, v5, v6] ∧ Ex H H' ∧ H' pl = some (.lst (pls.map V.int)) ∧ H' f = some (.lst (((Rw.digits cs y).take i).map V.int)))
      (fun H3 e3 => ⟨none, none, none, none, none, none, rfl, E2.trans e3, e3 _ _ (e2 _ _ h1), e3 _ _ h2⟩) ?_ ?_
    · rintro a σ' H3 ha ⟨v1, v2, v3, v4, v5, v6, rfl, E3, h1, h2⟩
      have ha' : a < bs.length - 1 := by omega
      have hk : Rw.oth p a < bs.length := Rw.oth_lt ha' hp
      have hC : bs[Rw.oth p a]? = some bs[Rw.oth p a] := List.getElem?_eq_getElem hk
      generalize bs[Rw.oth p a] = c at hC
      have c3 := g.get3 hC
      have c0 : 0 < c := by omega
      have hR : rs[Rw.oth p a]? = some (rs[Rw.oth p a]'(by omega)) := List.getElem?_eq_getElem (by omega)
      generalize rs[Rw.oth p a]'(by omega) = rk at hR
      have hCs : cs[a]? = some c := by rw [hcg]; exact hC
      refine q_asg (ev_op (ev_var rfl) (ev_var rfl) (rv_ixL (sq_of h1) (at_map (hpl ha')))) fun H4 e4 => ?_
      refine q_asg (ev_op (ev_fld (ev_var rfl) (e4 _ _ (E3 _ _ hb)) L.cl L.nB (bf_bases l t)) (ev_var rfl) (rv_ixL (sq_of (e4 _ _ (E3 _ _ hl))) (at_map hC))) fun H5 e5 => ?_
      refine q_asg ev_c fun H6 e6 => ?_
      have E46 := (e4.trans e5).trans e6
      refine q_forD (n := a) (ea_cons (ev_op (ev_var rfl) ev_c rv_I0) (ea_cons (ev_un ev_c ru_i) (ea_cons (ev_un ev_c ru_i) ea_nil))) (by omega) (by omega)
        (fun i σ' H' => ∃ v5, σ' = [some (.ref b), some (.ref r), some (.int (p : Int)), some (.int ((Rw.oth p a : Nat) : Int)), some (.ref pl), some (.ref f), some (.int (a : Int)), some (.int c), some (.int (y % Rw.prod (cs.take a) / Rw.prod (cs.take (a - i)) % c)), v5, v6] ∧ i ≤ a ∧ Ex H3 H')
        (fun H7 e7 => ⟨v5, by rw [Nat.sub_zero, Rw.horner0 ps]; rfl, Nat.zero_le _, E46.trans e7⟩) ?_ ?_
      · rintro i σ' H7 hi ⟨v5, rfl, _, e7⟩
        obtain ⟨j, hj⟩ : ∃ j, j = a - (i + 1) := ⟨_, rfl⟩
        have ej : (a : Int) - 1 - (i : Int) = (j : Int) := by omega
        have hjl : j < bs.length - 1 := by omega
        have hJ : bs[Rw.oth p j]? = some (bs[Rw.oth p j]'(Rw.oth_lt hjl hp)) := List.getElem?_eq_getElem (Rw.oth_lt hjl hp)
        generalize bs[Rw.oth p j]'(Rw.oth_lt hjl hp) = d at hJ
        have d3 := g.get3 hJ
        have hJs : cs[j]? = some d := by rw [hcg]; exact hJ
        have hD : ((Rw.digits cs y).take a)[j]? = some (y / Rw.prod (cs.take j) % d) := by rw [List.getElem?_take_of_lt (by omega)]; exact Rw.digits_get ps hJs
        have E7 := E3.trans e7
        rw [ej]
        refine s_asg (ev_op (ev_op (ev_op (ev_var rfl) (ev_op (ev_fld (ev_var rfl) (E7 _ _ hb) L.cl L.nB (bf_bases l t)) (ev_op (ev_var rfl) (ev_var rfl) (rv_ixL (sq_of (e7 _ _ h1)) (at_map (hpl hjl)))) (rv_ixL (sq_of (E7 _ _ hl)) (at_map hJ))) (rv_I (cmulR (by omega))))
          (ev_op (ev_var rfl) (ev_var rfl) (rv_ixL (sq_of (e7 _ _ h2)) (at_map hD))) rv_I0) (ev_var rfl) (rv_I c0)) fun H8 e8 => ?_
        have hh := Rw.horner (m := c) (x := y) (k := a) ps hJs (by omega)
        have e9 : a - i = j + 1 := by omega
        refine ⟨some (.int (j : Int)), ?_, by omega, e7.trans e8⟩
        rw [e9, ← hj, ← hh]
        rfl
      · rintro σ' H7 ⟨v5, rfl, _, e7⟩
        rw [Nat.sub_self, Rw.horner_top]
        have E7 := E3.trans e7
        refine q_asg (ev_op (ev_fld (ev_var rfl) (E7 _ _ hb) L.cl L.nT (bf_turns l t)) (ev_var rfl) (rv_ixL (sq_of (E7 _ _ ht)) (at_map (Rw.turnsOf_get hC)))) fun H8 e8 => ?_
        have E8 := E7.trans e8
        have tt := g.turns hC
        have ot := Rw.oturn g hmp hC
        rw [hcs] at ot
        have t0 := tt.lo
        have t1 := tt.hi
        generalize Rw.inv (Rw.prod (bs.take (Rw.oth p a))) c = tv at ot t0 t1 ⊢
        refine q_ifI (et_test (ev_op (ev_var rfl) (ev_var rfl) rv_I0)) rfl (fun _ => ev_op (ev_op (ev_var rfl) (ev_op (ev_fld (ev_var rfl) (E8 _ _ hb) L.cl L.nB (bf_bases l t)) (ev_var rfl) (rv_ixL (sq_of (E8 _ _ hl)) (at_map hmp))) (rv_I (cmulR (by omega)))) (ev_var rfl) (rv_I c0)) fun H9 e9 => ?_
        have E9 := E8.trans e9
        have eif : (if decide ((p : Int) < ((Rw.oth p a : Nat) : Int)) = true then tv * mp % c else tv) = (if Rw.oth p a > p then tv * mp % c else tv) := by
          by_cases h : Rw.oth p a > p
          · rw [if_pos h, if_pos (decide_eq_true (by omega))]
          · rw [if_neg h, if_neg (by rw [decide_eq_true_eq]; omega)]
        rw [eif]
        have tb : 0 ≤ (if Rw.oth p a > p then tv * mp % c else tv) ∧ (if Rw.oth p a > p then tv * mp % c else tv) < c := by
          split
          · exact ⟨Int.emod_nonneg _ (by omega), Int.emod_lt_of_pos _ c0⟩
          · exact ⟨t0, t1⟩
        generalize (if Rw.oth p a > p then tv * mp % c else tv) = tw at ot tb ⊢
        have h29 := e9 _ _ (e8 _ _ (e7 _ _ h2))
        refine s_app h29 (ev_var rfl) (ev_op (ev_op (ev_op (ev_op (ev_var rfl) (ev_var rfl) (rv_ixL (ex_l E9 hS) (at_map hR))) (ev_var rfl) rv_I0) (ev_var rfl) (rv_I (cmulR (by omega)))) (ev_var rfl) (rv_I c0))
          (by rw [List.length_map, List.length_take, Rw.digits_length]; omega) fun H10 e10 => ?_
        refine ⟨_, _, _, _, _, _, rfl, (E9.trans e10).mut hfH, ?_, ?_⟩
        · rw [upd_ne nfp]; exact e10 _ _ (e9 _ _ (e8 _ _ (e7 _ _ h1)))
        · rw [upd_same, take_next (Rw.digits_get ps hCs), Rw.fig_step (Rw.prod_pos (Rw.pos_take ps a)) c0 ot (hy _ c rk (Rw.oth_ne p a) hC hR)]
    · rintro σ' H3 ⟨v1, v2, v3, v4, v5, v6, rfl, E3, h1, h2⟩
      rw [Int.toNat_natCast, ← hcl, List.take_of_length_le (by rw [Rw.digits_length]; exact Nat.le_refl _)] at h2
      refine q_asg (ev_op (ev_fld (ev_var rfl) (E3 _ _ hb) L.cl L.nB (bf_bases l t)) (ev_var rfl) (rv_ixL (sq_of (E3 _ _ hl)) (at_map hmp))) fun H5 e5 => ?_
      refine q_asg ev_c fun H6 e6 => ?_
      have E56 := e5.trans e6
      have hfl : ((Rw.digits cs y).map V.int).length = cs.length := by rw [List.length_map, Rw.digits_length]
      refine q_forD (n := cs.length) (ea_cons (ev_op (ev_len (ev_var rfl) (sq_of (E56 _ _ h2))) ev_c rv_I0) (ea_cons (ev_un ev_c ru_i) (ea_cons (ev_un ev_c ru_i) ea_nil))) (by rw [hfl]; omega) (by rw [hfl]; omega)
        (fun i σ' H' => ∃ v5, σ' = [some (.ref b), some (.ref r), some (.int (p : Int)), v1, some (.ref pl), some (.ref f), v2, some (.int mp), some (.int (y % Rw.prod (cs.take cs.length) / Rw.prod (cs.take (cs.length - i)) % mp)), v5, v6] ∧ i ≤ cs.length ∧ Ex H3 H')
        (fun H7 e7 => ⟨v5, by rw [Nat.sub_zero, Rw.horner0 ps]; rfl, Nat.zero_le _, E56.trans e7⟩) ?_ ?_
      · rintro i σ' H7 hi ⟨v5, rfl, _, e7⟩
        obtain ⟨j, hj⟩ : ∃ j, j = cs.length - (i + 1) := ⟨_, rfl⟩
        have ej : (((Rw.digits cs y).map V.int).length : Int) - 1 - (i : Int) = (j : Int) := by rw [hfl]; omega
        have hjl : j < bs.length - 1 := by omega
        have hJ : bs[Rw.oth p j]? = some (bs[Rw.oth p j]'(Rw.oth_lt hjl hp)) := List.getElem?_eq_getElem (Rw.oth_lt hjl hp)
        generalize bs[Rw.oth p j]'(Rw.oth_lt hjl hp) = d at hJ
        have d3 := g.get3 hJ
        have hJs : cs[j]? = some d := by rw [hcg]; exact hJ
        have E7 := E3.trans e7
        rw [ej]
        refine s_asg (ev_op (ev_op (ev_op (ev_var rfl) (ev_op (ev_fld (ev_var rfl) (E7 _ _ hb) L.cl L.nB (bf_bases l t)) (ev_op (ev_var rfl) (ev_var rfl) (rv_ixL (sq_of (e7 _ _ h1)) (at_map (hpl hjl)))) (rv_ixL (sq_of (E7 _ _ hl)) (at_map hJ))) (rv_I (cmulR (by omega))))
          (ev_op (ev_var rfl) (ev_var rfl) (rv_ixL (sq_of (e7 _ _ h2)) (at_map (Rw.digits_get ps hJs)))) rv_I0) (ev_var rfl) (rv_I mp0)) fun H8 e8 => ?_
        have hh := Rw.horner (m := mp) (x := y) (k := cs.length) ps hJs (by omega)
        have e9 : cs.length - i = j + 1 := by omega
        refine ⟨some (.int (j : Int)), ?_, by omega, e7.trans e8⟩
        rw [e9, ← hj, ← hh]
        rfl
      · rintro σ' H7 ⟨v5, rfl, _, e7⟩
        rw [Nat.sub_self, Rw.horner_top, List.take_length, Int.emod_eq_of_lt y0 y1]
        exact s_ret (ev_var rfl) fun H8 e8 => q H8 ((E3.trans e7).trans e8)
theorem sv_told {C b r : Addr} {H : Hp} {bs rs : List Int} {p : Nat} {mp : Int} (hB : BoardAt C H b bs) (g : Rw.Good bs) (hS : SqL K H r (rs.map V.int)) (hl : rs.length = bs.length) (hm : bs[p]? = some mp) : SpV (sp_told_by_others K C) [.ref b, .ref r, .int (p : Int)] H (.int (Rw.onum bs rs p % mp)) :=
  fun H1 e Q q _ => ⟨b, r, bs, rs, p, mp, rfl, hB.mono e, g, ex_l e hS, hl, hm, q⟩
end
end Rk
namespace Rk
open PySem PySem.Spec PyProof.Rows L2 Evl
section
variable {P : Program} {w : World} {K : PySem.W.Frag} {mg : Str → Option Value} {base : Heap}
/-! ### the row with what the others tell -/
def sp_without (K : PySem.W.Frag) (C : Addr) : Sp := fun vs H Q _ => ∃ (b r : Addr) (bs rs : List Int) (p : Nat) (mp : Int), vs = [.ref b, .ref r, .int (p : Int)] ∧ BoardAt C H b bs ∧ Rw.Good bs ∧ SqL K H r (rs.map V.int) ∧ rs.length = bs.length ∧ bs[p]? = some mp ∧
  (Rw.onum bs rs p < Rw.room bs → RetL ((rs.set p (Rw.onum bs rs p % mp)).map V.int) H Q) ∧ (¬ Rw.onum bs rs p < Rw.room bs → RetV .non H Q)
theorem ok_without (L : Lk K mg) : FnOk P w K mg base (L2N.CX P w) 2 L.f_without L.d_without ["board", "row", "place"] (sp_without K L.C) := by
  refine okN L.F_without sc_without (fun vs H Q E h => ?_) (fun cdv A outer s H vs Q E hr h => ?_)
  · obtain ⟨_, _, _, _, _, _, rfl, _⟩ := h; rfl
  · obtain ⟨b, r, bs, rs, p, mp, rfl, hB, g, hS, hlen, hmp, q, qN⟩ := h
    refine ⟨_, (pss_cons (ps_set (i := 3) sc_without.nd rfl (Or.inl rfl) (pe_callTy call_list_of (by rfl) L.z_list (by decide +kernel) (pa_cons (pv 1) pa_nil)))
      (pss_cons (ps_asg (pe_call (E := E) (ok_told_by_others L) (hr.mono (by decide)) (by rfl) L.g_told_by_others L.k_told_by_others L.b_told_by_others .nil hxN (pa_cons (pv 0) (pa_cons (pv 1) (pa_cons (pv 2) pa_nil)))) (pg_sub (pv 3) (pv 2) set_list))
      (pss_cons (ps_if (pt_cmpR (op_eqD hr.units) (pe_slice sl_list (pe_meth (E := E) (pv 0) L.cl L.m_led (ok_led L) (hr.mono (by decide)) L.b_led .nil hxN (pa_cons (pv 3) pa_nil)) (po_some (pe_un un_neg pe_int)) po_none) (pe_lst (pa_cons pe_int (pa_cons pe_int pa_nil))) (nomark _)) (pss_one (ps_ret (pv 3))) pss_nil)
      (pss_one (ps_ret pe_non))))), ?_⟩
    obtain ⟨dx, l, t, hb, hl, ht⟩ := id hB
    have hp : p < bs.length := (List.getElem?_eq_some_iff.mp hmp).1
    have ot := Rw.onum_spec g hlen hp
    have hw := ot.whole g hmp
    refine q_asgL (el_list (ev_var rfl) hS) fun f H1 hf e1 h1 => ?_
    refine q_setL h1 (ev_call0 (ea_cons (ev_var rfl) (ea_cons (ev_var rfl) (ea_cons (ev_var rfl) ea_nil))) (sv_told (hB.mono e1) g (ex_l e1 hS) hlen hmp)) (ev_var rfl) (ev_var rfl) (by rw [List.length_map, hlen]; exact hp) fun H2 e2 => ?_
    have hset : (rs.map V.int).set p (.int (Rw.onum bs rs p % mp)) = (rs.set p (Rw.onum bs rs p % mp)).map V.int := by rw [List.map_set]
    have E2 : Ex H (upd H2 f (.lst ((rs.map V.int).set p (.int (Rw.onum bs rs p % mp))))) := (e1.trans e2).mut hf
    have hls : (rs.set p (Rw.onum bs rs p % mp)).length = bs.length := by rw [List.length_set, hlen]
    have hn : Rw.num bs (rs.set p (Rw.onum bs rs p % mp)) = Rw.onum bs rs p := Rw.num_eq g hls ot.lo hw.1 hw.2
    have h2 : (upd H2 f (.lst ((rs.map V.int).set p (.int (Rw.onum bs rs p % mp))))) f = some (.lst ((rs.set p (Rw.onum bs rs p % mp)).map V.int)) := by rw [upd_same, hset]
    generalize upd H2 f (.lst ((rs.map V.int).set p (.int (Rw.onum bs rs p % mp)))) = H3 at E2 h2 ⊢
    refine q_when (et_test (ev_last2 (bs := bs) g hls (el_meth (ev_var rfl) (E2 _ _ hb) (bf_none l t (by decide +kernel) (by decide +kernel)) (ea_cons (ev_var rfl) ea_nil) (sl_led (hB.mono E2) g (sq_of h2) hls)))) (fun hc H4 e4 => ?_) (fun hc H4 e4 => ?_)
    · rw [hn] at hc
      exact s_ret (ev_var rfl) fun H5 e5 => q (of_decide_eq_true hc) f H5 hf ((E2.trans e4).trans e5) (e5 _ _ (e4 _ _ h2))
    · rw [hn] at hc
      exact s_ret ev_c fun H5 e5 => qN (of_decide_eq_false hc) H5 ((E2.trans e4).trans e5)
theorem sl_without {C b r : Addr} {H : Hp} {bs rs : List Int} {p : Nat} {mp : Int} (hB : BoardAt C H b bs) (g : Rw.Good bs) (hS : SqL K H r (rs.map V.int)) (hl : rs.length = bs.length) (hm : bs[p]? = some mp) (h : Rw.onum bs rs p < Rw.room bs) :
    SpL (sp_without K C) [.ref b, .ref r, .int (p : Int)] H ((rs.set p (Rw.onum bs rs p % mp)).map V.int) := fun H1 e Q q _ => ⟨b, r, bs, rs, p, mp, rfl, hB.mono e, g, ex_l e hS, hl, hm, fun _ => q, fun n => absurd h n⟩
theorem sv_without {C b r : Addr} {H : Hp} {bs rs : List Int} {p : Nat} {mp : Int} (hB : BoardAt C H b bs) (g : Rw.Good bs) (hS : SqL K H r (rs.map V.int)) (hl : rs.length = bs.length) (hm : bs[p]? = some mp) (h : ¬ Rw.onum bs rs p < Rw.room bs) :
    SpV (sp_without K C) [.ref b, .ref r, .int (p : Int)] H .non := fun H1 e Q q _ => ⟨b, r, bs, rs, p, mp, rfl, hB.mono e, g, ex_l e hS, hl, hm, fun y => absurd y h, fun _ => q⟩
end
end Rk
namespace Rk
open PySem PySem.Spec PyProof.Rows L2 Evl
section
variable {P : Program} {w : World} {K : PySem.W.Frag} {mg : Str → Option Value} {base : Heap}
/-! ### refilled -/
def sp_refilled (K : PySem.W.Frag) (C cP cR cL : Addr) : Sp := fun vs H Q E => ∃ (b r : Addr) (bs : List Int) (xs : List V) (pl : Int), vs = [.ref b, .ref r, .int pl] ∧ BoardAt C H b bs ∧ Rw.Good bs ∧ SqL K H r xs ∧ xs.length ≤ 1000 ∧
  (¬ (0 ≤ pl ∧ pl < bs.length) → ∀ H', Ex H H' → E (.ref cP) none H') ∧
  (0 ≤ pl ∧ pl < bs.length → ∃ rs : List Int, xs.set pl.toNat (.int 0) = rs.map V.int ∧ (¬ Rw.IsRow bs rs → ∀ H', Ex H H' → E (.ref cR) none H') ∧
    (Rw.IsRow bs rs → ∀ mp, bs[pl.toNat]? = some mp → (Rw.onum bs rs pl.toNat < Rw.room bs → RetL ((rs.set pl.toNat (Rw.onum bs rs pl.toNat % mp)).map V.int) H Q) ∧ (¬ Rw.onum bs rs pl.toNat < Rw.room bs → ∀ H', Ex H H' → E (.ref cL) none H')))
theorem ok_refilled (L : Lk K mg) : FnOk P w K mg base (L2N.CX P w) 3 L.f_refilled L.d_refilled ["board", "row", "place"] (sp_refilled K L.C L.c_NoPlace L.c_NoRow L.c_Lost) := by
  refine okN L.F_refilled sc_refilled (fun vs H Q E h => ?_) (fun cdv A outer s H vs Q E hr h => ?_)
  · obtain ⟨_, _, _, _, _, rfl, _⟩ := h; rfl
  · obtain ⟨b, r, bs, xs, pl, rfl, hB, g, hS, hxl, kP, k⟩ := h
    refine ⟨_, (pss_cons (ps_if (PW.pt (pw_or (pt_cmpR op_lt (pv 2) pe_int (nomark _)) (pw_or1 (pt_cmpR op_ge (pv 2) (pe_callB call_len_seq (by rfl) L.z_len PySem.boot_len (pa_cons (pe_fld (pv 0) (by rfl)) pa_nil)) (nomark _))))) (pss_one (L2N.ps_raise rfl hkN (L2N.pmk_own PySem.F.excBase_ValueError L.x_NoPlace L.g_NoPlace L.e_NoPlace (raises_own L.s_NoPlace L.t_NoPlace) (by rfl)))) pss_nil)
      (pss_cons (ps_set (i := 3) sc_refilled.nd rfl (Or.inl rfl) (pe_callTy call_list_of (by rfl) L.z_list (by decide +kernel) (pa_cons (pv 1) pa_nil)))
      (pss_cons (ps_if (pt_cmpR op_lt (pv 2) (pe_callB call_len_seq (by rfl) L.z_len PySem.boot_len (pa_cons (pv 3) pa_nil)) (nomark _)) (pss_one (ps_asg pe_int (pg_sub (pv 3) (pv 2) set_list))) pss_nil)
      (pss_cons (ps_expr (pe_meth (E := E) (pv 0) L.cl L.m_need_row (ok_need_row L) (hr.mono (by decide)) L.b_need_row .nil hxN (pa_cons (pv 3) pa_nil)))
      (pss_cons (ps_set (i := 4) sc_refilled.nd rfl (Or.inl rfl) (pe_call (E := E) (ok_without L) (hr.mono (by decide)) (by rfl) L.g_without L.k_without L.b_without .nil hxN (pa_cons (pv 0) (pa_cons (pv 3) (pa_cons (pv 2) pa_nil)))))
      (pss_cons (ps_if (pt_cmpR op_isN (pv 4) pe_non (nomark _)) (pss_one (L2N.ps_raise rfl hkN (L2N.pmk_own PySem.F.excBase_ValueError L.x_Lost L.g_Lost L.e_Lost (raises_own L.s_Lost L.t_Lost) (by rfl)))) pss_nil)
      (pss_one (ps_ret (pv 4))))))))), ?_⟩
    obtain ⟨dx, l, t, hb, hl, ht⟩ := id hB
    have hln : (bs.map V.int).length = bs.length := List.length_map _
    refine q_when (et_or (et_test (ev_op (ev_var rfl) ev_c rv_I0)) (fun _ => et_test (ev_op (ev_var rfl) (ev_len (ev_fld (ev_var rfl) hb L.cl L.nB (bf_bases l t)) (sq_of hl)) rv_I0))) (fun hc H1 e1 => ?_) (fun hc H1 e1 => ?_)
    · rw [hln, Bool.or_eq_true, decide_eq_true_eq, decide_eq_true_eq] at hc
      exact kP (by omega) H1 e1
    rw [hln, Bool.or_eq_false_iff, decide_eq_false_iff_not, decide_eq_false_iff_not] at hc
    have hpl : 0 ≤ pl ∧ pl < bs.length := by omega
    obtain ⟨rs, hrs, kR, kk⟩ := k hpl
    obtain ⟨p, rfl⟩ : ∃ p : Nat, pl = (p : Int) := ⟨pl.toNat, by omega⟩
    rw [Int.toNat_natCast] at hrs kk
    have hp : p < bs.length := by omega
    have hmp : bs[p]? = some bs[p] := List.getElem?_eq_getElem hp
    refine q_asgL (el_list (ev_var rfl) (ex_l e1 hS)) fun f H2 hf e2 h2 => ?_
    have hfH : H f = none := fresh_back e1 hf
    refine q_ifSetL (et_test (ev_op (ev_var rfl) (ev_len (ev_var rfl) (sq_of h2)) rv_I0)) (by rw [Bool.eq_iff_iff, decide_eq_true_eq, decide_eq_true_eq]; omega) h2 ev_c (ev_var rfl) (ev_var rfl) fun H3 k3 h3 => ?_
    rw [hrs] at h3
    have E3 : Ex H H3 := fun c o hc => k3 c o (ne_of_none hc hfH) (e2 _ _ (e1 _ _ hc))
    by_cases w : Rw.IsRow bs rs
    case neg => exact q_dv (dv_meth (ev_var rfl) (E3 _ _ hb) (bf_none l t (by decide +kernel) (by decide +kernel)) (ea_cons (ev_var rfl) ea_nil) (sd_need_row (hB.mono E3) g (sq_of h3) w fun H' e' => kR w H' (E3.trans e')))
    refine q_drop (ev_meth (ev_var rfl) (E3 _ _ hb) (bf_none l t (by decide +kernel) (by decide +kernel)) (ea_cons (ev_var rfl) ea_nil) (sv_need_row (hB.mono E3) g (sq_of h3) w)) fun H4 e4 => ?_
    have E4 := E3.trans e4
    obtain ⟨kY, kL⟩ := kk w _ hmp
    by_cases y : Rw.onum bs rs p < Rw.room bs
    · refine q_asgL (el_call0 (ea_cons (ev_var rfl) (ea_cons (ev_var rfl) (ea_cons (ev_var rfl) ea_nil))) (sl_without (hB.mono E4) g (sq_of (e4 _ _ h3)) w.len hmp y)) fun f2 H5 hf2 e5 h5 => ?_
      refine q_when (b := false) (et_is (et_test (ev_op (ev_var rfl) ev_c (fun H1 _ _ q => ⟨rfl, q H1 (Ex.refl H1)⟩))) (by simp)) (fun z => nomatch z) fun _ H6 e6 => ?_
      exact s_ret (ev_var rfl) fun H7 e7 => kY y f2 H7 (fresh_back E4 hf2) (((E4.trans e5).trans e6).trans e7) (e7 _ _ (e6 _ _ h5))
    · refine q_asg (ev_call0 (ea_cons (ev_var rfl) (ea_cons (ev_var rfl) (ea_cons (ev_var rfl) ea_nil))) (sv_without (hB.mono E4) g (sq_of (e4 _ _ h3)) w.len hmp y)) fun H5 e5 => ?_
      refine q_when (b := true) (et_is (et_test (ev_op (ev_var rfl) ev_c (fun H1 _ _ q => ⟨rfl, q H1 (Ex.refl H1)⟩))) (by simp)) (fun _ H6 e6 => ?_) (fun z => nomatch z)
      exact kL y H6 ((E4.trans e5).trans e6)
end
end Rk
namespace Rk
open PySem PySem.Spec PyProof.Rows L2 Evl
section
variable {P : Program} {w : World} {K : PySem.W.Frag} {mg : Str → Option Value} {base : Heap}
def sp_room (C : Addr) : Sp := fun vs H Q _ => ∃ (b : Addr) (bs : List Int), vs = [.ref b] ∧ BoardAt C H b bs ∧ Rw.Good bs ∧ ∀ H', Ex H H' → Q (.int (Rw.room bs)) H'
theorem ok_room (L : Lk K mg) : FnOk P w K mg base (L2N.CX P w) 1 L.f_room L.d_room ["self"] (sp_room L.C) := by
  refine okN L.F_room sc_room (fun vs H Q E h => ?_) (fun cdv A outer s H vs Q E hr h => ?_)
  · obtain ⟨_, _, rfl, _⟩ := h; rfl
  · obtain ⟨b, bs, rfl, ⟨dx, l, t, hb, hl, ht⟩, g, q⟩ := h
    refine ⟨_, (pss_cons (ps_set (i := 1) sc_room.nd rfl (Or.inl rfl) pe_int)
      (pss_cons (ps_for (passes_of rfl) rfl (pi_list (pe_slice sl_list (pe_fld (pv 0) (by rfl)) po_none (po_some (pe_un un_neg pe_int)))) (pg_name (i := 2) sc_room.nd rfl (Or.inl rfl)) (pss_one (ps_set (i := 1) sc_room.nd rfl (Or.inl rfl) (pe_op op_mul (pv 1) (pv 2)))))
      (pss_one (ps_ret (pv 1))))), ?_⟩
    have h3 := g.len3
    have h14 := g.len14
    refine q_asg ev_c fun H1 e1 => ?_
    have ec : cutV (bs.map V.int) none (some (-2)) = (bs.take (bs.length - 2)).map V.int := by rw [cut_but2 _ (by rw [List.length_map]; omega), List.length_map, List.map_take]
    refine q_forNLn (el_sl (ev_fld (ev_var rfl) (e1 _ _ hb) L.cl L.nB (bf_bases l t)) eo_none (eo_some (ev_un ev_c ru_i)) (sq_of (e1 _ _ hl)))
      (fun p i σ' H' => ∃ v3, σ' = [some (.ref b), some (.int (Rw.prod (bs.take i))), v3] ∧ Ex H H' ∧ H' p = some (.lst ((bs.take (bs.length - 2)).map V.int)))
      (fun p H2 hp e2 h2 => ⟨_, rfl, e1.trans e2, by rw [h2, ec]⟩) (fun p i σ' H' _ ⟨_, _, _, h⟩ => by rw [ec]; exact sq_of h) ?_ ?_
    · rintro p i z σ' H2 hi ⟨v3, rfl, e2, h2⟩
      rw [ec] at hi
      obtain ⟨c, hc, rfl⟩ := map_get hi
      have hik : i < bs.length - 2 := by
        have := (List.getElem?_eq_some_iff.mp hc).1
        simp at this
        omega
      rw [List.getElem?_take_of_lt hik] at hc
      have c3 := g.get3 hc
      refine s_asg (ev_op (ev_var rfl) (ev_var rfl) (rv_I (cmulR (by omega)))) fun H3 e3 => ?_
      exact ⟨_, by rw [Rw.prod_take_succ hc]; rfl, e2.trans e3, e3 _ _ h2⟩
    · rintro p σ' H2 ⟨v3, rfl, e2, h2⟩
      rw [ec, List.length_map, List.length_take, Nat.min_eq_left (by omega)]
      exact s_ret (ev_var rfl) fun H3 e3 => q H3 (e2.trans e3)
theorem sv_room {C b : Addr} {H : Hp} {bs : List Int} (hB : BoardAt C H b bs) (g : Rw.Good bs) : SpV (sp_room C) [.ref b] H (.int (Rw.room bs)) := fun H1 e Q q _ => ⟨b, bs, rfl, hB.mono e, g, q⟩
end
end Rk
namespace Rk
open PySem PySem.Spec PyProof.Rows L2 Evl
section
variable {P : Program} {w : World} {K : PySem.W.Frag} {mg : Str → Option Value} {base : Heap}
/-! ### the rests of a number -/
def sp_rests (C cO : Addr) : Sp := fun vs H Q E => ∃ (b : Addr) (bs : List Int) (n : Int), vs = [.ref b, .int n] ∧ BoardAt C H b bs ∧ Rw.Good bs ∧ (0 ≤ n ∧ n < Rw.room bs → RetL ((Rw.rowOf bs n).map V.int) H Q) ∧ (¬ (0 ≤ n ∧ n < Rw.room bs) → ∀ H', Ex H H' → E (.ref cO) none H')
theorem ok_rests (L : Lk K mg) : FnOk P w K mg base (L2N.CX P w) 2 L.f_rests L.d_rests ["self", "number"] (sp_rests L.C L.c_OutOfRoom) := by
  refine okN L.F_rests sc_rests (fun vs H Q E h => ?_) (fun cdv A outer s H vs Q E hr h => ?_)
  · obtain ⟨_, _, _, rfl, _⟩ := h; rfl
  · obtain ⟨b, bs, n, rfl, hB, g, q, kE⟩ := h
    refine ⟨_, (pss_cons (ps_if (PW.pt (pw_or (pt_cmpR op_lt (pv 1) pe_int (nomark _)) (pw_or1 (pt_cmpR op_ge (pv 1) (pe_meth0 (E := E) (pv 0) L.cl L.m_room (ok_room L) (hr.mono (by decide)) L.b_room .nil hxN) (nomark _))))) (pss_one (L2N.ps_raise rfl hkN (L2N.pmk_own PySem.F.excBase_ValueError L.x_OutOfRoom L.g_OutOfRoom L.e_OutOfRoom (raises_own L.s_OutOfRoom L.t_OutOfRoom) (by rfl)))) pss_nil)
      (pss_one (ps_ret (pe_lc (own := [("base", 2)]) (g := gName 2) (tt := tYes) rfl sc_rests.nd (pi_list (pe_fld (pv 0) (by rfl))) (blkOk_by (own := [("base", 2)]) (N := ["self", "number", "base"]) (sc := defScope s_rests) (by decide +kernel)) (fun _ _ _ _ _ => pg_name (i := 2) sc_rests.nd rfl (Or.inl rfl)) (fun _ _ _ _ _ => by exact pts_nil) (fun _ _ _ _ _ => by exact (pe_op op_mod (pv 1) (pv 2))))))), ?_⟩
    obtain ⟨dx, l, t, hb, hl, ht⟩ := id hB
    have h14 := g.len14
    refine q_when (et_or (et_test (ev_op (ev_var rfl) ev_c rv_I0)) (fun _ => et_test (ev_op (ev_var rfl) (ev_meth (ev_var rfl) hb (bf_none l t (by decide +kernel) (by decide +kernel)) ea_nil (sv_room hB g)) rv_I0))) (fun hc H1 e1 => ?_) (fun hc H1 e1 => ?_)
    · rw [Bool.or_eq_true, decide_eq_true_eq, decide_eq_true_eq] at hc
      exact kE (by omega) H1 e1
    · rw [Bool.or_eq_false_iff, decide_eq_false_iff_not, decide_eq_false_iff_not] at hc
      have h0 : 0 ≤ n ∧ n < Rw.room bs := by omega
      refine s_retL (el_mapL (K := K) (f := fun m => n % m) (ev_fld (ev_var rfl) (e1 _ _ hb) L.cl L.nB (bf_bases l t)) (sq_of (e1 _ _ hl)) (by omega) (fun _ => rfl) (fun k m H2 e2 hm => ?_)) fun p H2 hp e2 h2 => ?_
      · have m3 := g.get3 hm
        exact ev_op (ev_var rfl) (ev_var rfl) (rv_I (show 0 < m by omega))
      · exact q h0 p H2 (fresh_back e1 hp) (e1.trans e2) h2
theorem sl_rests {C cO b : Addr} {H : Hp} {bs : List Int} {n : Int} (hB : BoardAt C H b bs) (g : Rw.Good bs) (h0 : 0 ≤ n) (h1 : n < Rw.room bs) : SpL (sp_rests C cO) [.ref b, .int n] H ((Rw.rowOf bs n).map V.int) := fun H1 e Q q E => ⟨b, bs, n, rfl, hB.mono e, g, fun _ => q, fun z => absurd ⟨h0, h1⟩ z⟩
theorem sd_rests {C cO b : Addr} {H : Hp} {E : XK} {bs : List Int} {n : Int} (hB : BoardAt C H b bs) (g : Rw.Good bs) (h0 : ¬ (0 ≤ n ∧ n < Rw.room bs)) (k : ∀ H', Ex H H' → E (.ref cO) none H') : SpD (sp_rests C cO) [.ref b, .int n] H E := fun H1 e Q => ⟨b, bs, n, rfl, hB.mono e, g, fun z => absurd z h0, fun _ H' e' => k H' (e.trans e')⟩
end
end Rk
namespace Rk
open PySem PySem.Spec PyProof.Rows L2 Evl
section
variable {P : Program} {w : World} {K : PySem.W.Frag} {mg : Str → Option Value} {base : Heap}
/-! ### what is refused -/
theorem room3' {bs : List Int} (g : Rw.Good bs) : 3 ≤ Rw.room bs := by
  have h3 := g.len3
  have hb : bs[0]? = some (bs[0]'(by omega)) := List.getElem?_eq_getElem (by omega)
  have hm : bs[0]'(by omega) ∈ bs.take (bs.length - 2) := by
    refine List.mem_of_getElem? (i := 0) ?_
    rw [List.getElem?_take_of_lt (by omega)]
    exact hb
  have h1 := Int.le_of_dvd g.room_pos (Rw.dvd_prod hm)
  have := (g.get3 hb).1
  omega
theorem not_good_twice {bs : List Int} {p : Nat} {m : Int} (hm : bs[p]? = some m) : ¬ Rw.Good (bs.take p ++ [m] ++ bs.drop p) := fun g => by
  have h := (List.pairwise_append.mp g.rise).2.2 m (List.mem_append_right _ List.mem_cons_self) m (by
    refine List.mem_of_getElem? (i := 0) ?_
    rw [List.getElem?_drop, Nat.add_zero]
    exact hm)
  omega
theorem cut_dup (us : List Int) (p : Nat) (v : Int) : cutV (us.map V.int) none (some (p : Int)) ++ [V.int v] ++ cutV (us.map V.int) (some (p : Int)) none = (us.take p ++ [v] ++ us.drop p).map V.int := by
  rw [cut_to, cut_from]
  simp
theorem cut_one (us : List Int) : cutV (us.map V.int) (some 1) none = (us.drop 1).map V.int := by
  rw [show (1 : Int) = ((1 : Nat) : Int) from rfl, cut_from, ← List.map_drop]
section
variable {C cN : Addr} {σ : L2.St} {H : Hp} {E : XK} {t1 ta : TE} {xs : List V} {bs : List Int}
theorem dv_makeH (h : EvH t1 σ H (bs.map V.int)) (g : ¬ Rw.Good bs) (k : ∀ H', Ex H H' → E (.ref cN) none H') : Dv (tMake C (sp___init__ K C cN) [] E (tCons t1 tNil)) σ H := fun H1 e Q => by
  show t1 σ H1 _
  exact h H1 e _ fun a H2 e2 ha => fun x dx nx ndx ne => ⟨H2, x, dx, a, bs, rfl, (Ex.new ndx).mut nx, nx, upd_same, sq_of ha, fun y => absurd y g, fun _ H' e' => k H' ((e.trans e2).trans e')⟩
theorem dv_methH {a dx : Addr} {m : Str} {fs : List (Str × V)} {sp : Sp} (ho : Ev ta σ H (.ref a)) (hi : H a = some (.ins C dx fs)) (hl : fs.lookup m = none) (h : EvH t1 σ H xs) (hs : ∀ p H1, Ex H H1 → H1 p = some (.lst xs) → SpD sp [.ref a, .ref p] H1 E) :
    Dv (tMeth C m sp [] E ta (tCons t1 tNil)) σ H := fun H1 e Q => ho H1 e _ fun H2 e2 => ⟨a, dx, fs, rfl, e2 _ _ (e _ _ hi), hl, by
    show t1 σ H2 _
    exact h H2 (e.trans e2) _ fun p H3 e3 hp => hs p H3 ((e.trans e2).trans e3) hp H3 (Ex.refl H3) Q⟩
end
def sp__law_asked (K : PySem.W.Frag) (cs : List Addr) : Sp := fun vs H _ E => ∃ (b r x : Addr) (bs : List Int) (n v m : Int) (p k : Nat) (c : Addr), vs = [.int (k : Int), .ref b, .ref r, .ref x, .int (p : Int)] ∧ H b = some (.lst (bs.map V.int)) ∧ Rw.Good bs ∧ H r = some (.lst ((Rw.rowOf bs n).map V.int)) ∧ H x = some (.lst (((Rw.rowOf bs n).set p v).map V.int)) ∧
  bs[p]? = some m ∧ 0 ≤ n ∧ n < Rw.room bs ∧ 0 ≤ v ∧ v < m ∧ v ≠ n % m ∧ k < 7 ∧ cs[k]? = some c ∧ ∀ H', Ex H H' → E (.ref c) none H'
theorem ok__law_asked (L : Lk K mg) : FnOk P w K mg base (L2N.CX P w) 6 L.f__law_asked L.d__law_asked ["_law_kind", "_law_bases_here", "_law_row", "_law_wrong", "_law_at"] (sp__law_asked K [L.c_NoBases, L.c_NoRow, L.c_NoNumber, L.c_NoPlace, L.c_NoTurn, L.c_OutOfRoom, L.c_Lost]) := by
  refine okN L.F__law_asked sc__law_asked (fun vs H Q E h => ?_) (fun cdv A outer s H vs Q E hr h => ?_)
  · obtain ⟨_, _, _, _, _, _, _, _, _, _, rfl, _⟩ := h; rfl
  · obtain ⟨b, r, x, bs, n, v, m, p, k, c, rfl, hb, g, hr', hx', hm, n0, n1, v0, v1, hv, h7, hc, q⟩ := h
    refine ⟨_, (pss_cons (ps_set (i := 5) sc__law_asked.nd rfl (Or.inl rfl) (pe_make (E := E) L.mkC (ok___init__ L) (hr.mono (by decide)) (by rfl) L.gC L.b___init__ .nil hxN (pa_cons (pv 1) pa_nil)))
      (pss_cons (ps_if (pt_cmpR op_eq (pv 0) pe_int (nomark _)) (pss_one (ps_ret (pe_make (E := E) L.mkC (ok___init__ L) (hr.mono (by decide)) (by rfl) L.gC L.b___init__ .nil hxN (pa_cons (pe_op op_cat (pe_op op_cat (pe_slice sl_list (pv 1) po_none (po_some (pv 4))) (pe_lst (pa_cons (pe_ix ix_list (pv 1) (pv 4) (fun _ _ => rfl)) pa_nil))) (pe_slice sl_list (pv 1) (po_some (pv 4)) po_none)) pa_nil)))) pss_nil)
      (pss_cons (ps_if (pt_cmpR op_eq (pv 0) pe_int (nomark _)) (pss_one (ps_ret (pe_meth (E := E) (pv 5) L.cl L.m_figures (ok_figures L) (hr.mono (by decide)) L.b_figures .nil hxN (pa_cons (pe_slice sl_list (pv 2) (po_some pe_int) po_none) pa_nil)))) pss_nil)
      (pss_cons (ps_if (pt_cmpR op_eq (pv 0) pe_int (nomark _)) (pss_one (ps_ret (pe_meth (E := E) (pv 5) L.cl L.m_number (ok_number L) (hr.mono (by decide)) L.b_number .nil hxN (pa_cons (pv 3) pa_nil)))) pss_nil)
      (pss_cons (ps_if (pt_cmpR op_eq (pv 0) pe_int (nomark _)) (pss_one (ps_ret (pe_call (E := E) (ok_refilled L) (hr.mono (by decide)) (by rfl) L.g_refilled L.k_refilled L.b_refilled .nil hxN (pa_cons (pv 5) (pa_cons (pv 2) (pa_cons (pe_op op_add (pe_callB call_len_seq (by rfl) L.z_len PySem.boot_len (pa_cons (pv 2) pa_nil)) (pv 4)) pa_nil)))))) pss_nil)
      (pss_cons (ps_if (pt_cmpR op_eq (pv 0) pe_int (nomark _)) (pss_one (ps_ret (pe_call (E := E) (ok_turned L) (hr.mono (by decide)) (by rfl) L.g_turned L.k_turned L.b_turned .nil hxN (pa_cons (pe_op op_mul (pe_ix ix_list (pv 1) (pv 4) (fun _ _ => rfl)) (pe_op op_add (pv 4) pe_int)) (pa_cons (pe_ix ix_list (pv 1) (pv 4) (fun _ _ => rfl)) pa_nil))))) pss_nil)
      (pss_cons (ps_if (pt_cmpR op_eq (pv 0) pe_int (nomark _)) (pss_one (ps_ret (pe_meth (E := E) (pv 5) L.cl L.m_rests (ok_rests L) (hr.mono (by decide)) L.b_rests .nil hxN (pa_cons (pe_op op_add (pe_meth0 (E := E) (pv 5) L.cl L.m_room (ok_room L) (hr.mono (by decide)) L.b_room .nil hxN) (pv 4)) pa_nil)))) pss_nil)
      (pss_one (ps_ret (pe_call (E := E) (ok_refilled L) (hr.mono (by decide)) (by rfl) L.g_refilled L.k_refilled L.b_refilled .nil hxN (pa_cons (pv 5) (pa_cons (pv 3) (pa_cons (pe_op op_mod (pe_op op_add (pv 4) pe_int) (pe_callB call_len_seq (by rfl) L.z_len PySem.boot_len (pa_cons (pv 2) pa_nil))) pa_nil))))))))))))), ?_⟩
    dsimp only [cxOf]
    walk_at "ns"
    have h3 := g.len3
    have h14 := g.len14
    have m3 := g.get3 hm
    have hp := (List.getElem?_eq_some_iff.mp hm).1
    have hlb : (bs.map V.int).length = bs.length := List.length_map _
    have hlr : ((Rw.rowOf bs n).map V.int).length = bs.length := by rw [List.length_map, Rw.rowOf_length]
    have bad := set_ne_row g n0 n1 hm v0 v1 hv
    refine q_asgG (eg_make (ea_cons (ev_var rfl) ea_nil) (sq_of hb) g) fun z G eG ⟨y, dx, l, t, ev, hx, hl, ht, hB⟩ => ?_
    subst ev
    walk_at "ns"
    have hbG := eG _ _ hb
    have hrG := eG _ _ hr'
    have hxG := eG _ _ hx'
    have cmp : ∀ {σ : L2.St} {H1 : Hp} {j : Nat}, σ[0]? = some (some (V.int (k : Int))) → EvT (tTest (tOp rEq (tVar 0) (tC (.int (j : Int))))) σ H1 (decide (k = j)) := fun h => et_is (et_test (ev_op (ev_var h) ev_c (rv_eq rfl))) (by simp [Int.ofNat_inj])
    refine q_when (cmp (j := 0) rfl) (fun h1 H1 e1 => ?_) (fun h1 H1 e1 => ?_)
    · obtain rfl := of_decide_eq_true h1
      have E1 := eG.trans e1
      obtain rfl := Option.some.inj hc
      refine s_dvR (dv_makeH (bs := bs.take p ++ [m] ++ bs.drop p) (eh_new ?_) (not_good_twice hm) fun H' e' => q H' (E1.trans e'))
      rw [← cut_dup bs p m]
      refine el_cat (eh_new (el_cat (eh_new (el_slH (eh_old (ev_var rfl) (e1 _ _ hbG)) eo_none (eo_some (ev_var rfl)))) (eh_new (el_lst (ea_cons (ev_op (ev_var rfl) (ev_var rfl) (rv_ixL (sq_of (e1 _ _ hbG)) (at_map hm))) ea_nil) (by show 1 ≤ 100000; decide))) ?_)) (eh_new (el_slH (eh_old (ev_var rfl) (e1 _ _ hbG)) (eo_some (ev_var rfl)) eo_none)) ?_
      · have := cutV_length (bs.map V.int) none (some (p : Int)); rw [hlb] at this; rw [List.length_singleton]; omega
      · have := cutV_length (bs.map V.int) none (some (p : Int)); have := cutV_length (bs.map V.int) (some (p : Int)) none; rw [hlb] at *; rw [List.length_append, List.length_singleton]; omega
    refine q_when (cmp (j := 1) rfl) (fun h2 H2 e2 => ?_) (fun h2 H2 e2 => ?_)
    · obtain rfl := of_decide_eq_true h2
      have E2 := e1.trans e2
      obtain rfl := Option.some.inj hc
      refine s_dvR (dv_methH (xs := ((Rw.rowOf bs n).drop 1).map V.int) (ev_var rfl) (E2 _ _ hB.1) (bf_none l t (by decide +kernel) (by decide +kernel)) (eh_new ?_) fun pp H' e' hpp => sd_figures (hB.mono (E2.trans e')).at_ g (sq_of hpp) (not_row_len (by rw [List.length_drop, Rw.rowOf_length]; omega)) fun H'' e'' => q H'' (((eG.trans E2).trans e').trans e''))
      rw [← cut_one (Rw.rowOf bs n)]
      exact el_slH (eh_old (ev_var rfl) (E2 _ _ hrG)) (eo_some ev_c) eo_none
    refine q_when (cmp (j := 2) rfl) (fun h3' H3 e3 => ?_) (fun h3' H3 e3 => ?_)
    · obtain rfl := of_decide_eq_true h3'
      have E3 := (e1.trans e2).trans e3
      obtain rfl := Option.some.inj hc
      exact s_dvR (dv_meth (ev_var rfl) (E3 _ _ hB.1) (bf_none l t (by decide +kernel) (by decide +kernel)) (ea_cons (ev_var rfl) ea_nil) (sd_number (hB.mono E3).at_ g (sq_of (E3 _ _ hxG)) (fun z => bad.2 z.2) ⟨fun w => absurd bad.1 w, fun _ H' e' => q H' ((eG.trans E3).trans e')⟩))
    refine q_when (cmp (j := 3) rfl) (fun h4 H4 e4 => ?_) (fun h4 H4 e4 => ?_)
    · obtain rfl := of_decide_eq_true h4
      have E4 := ((e1.trans e2).trans e3).trans e4
      obtain rfl := Option.some.inj hc
      refine s_dvR (dv_call (ea_cons (ev_var rfl) (ea_cons (ev_var rfl) (ea_cons (ev_op (ev_len (ev_var rfl) (sq_of (E4 _ _ hrG))) (ev_var rfl) rv_I0) ea_nil))) fun H' e' Q' => ⟨y, r, bs, _, _, rfl, (hB.mono (E4.trans e')).at_, g, sq_of ((E4.trans e') _ _ hrG), by rw [hlr]; omega, fun _ H'' e'' => q H'' (((eG.trans E4).trans e').trans e''), fun z => absurd z.2 (by rw [hlr]; omega)⟩)
    refine q_when (cmp (j := 4) rfl) (fun h5 H5 e5 => ?_) (fun h5 H5 e5 => ?_)
    · obtain rfl := of_decide_eq_true h5
      have E5 := (((e1.trans e2).trans e3).trans e4).trans e5
      obtain rfl := Option.some.inj hc
      have ncop : ¬ Rw.Cop (m * ((p : Int) + 1)) m := fun z => by
        have z2 := z.dvd_left (Int.dvd_mul_right m ((p : Int) + 1))
        unfold Rw.Cop at z2
        rw [Int.gcd_self] at z2
        omega
      exact s_dvR (dv_call (ea_cons (ev_op (ev_op (ev_var rfl) (ev_var rfl) (rv_ixL (sq_of (E5 _ _ hbG)) (at_map hm))) (ev_op (ev_var rfl) ev_c rv_I0) (rv_I (cmulR (by omega)))) (ea_cons (ev_op (ev_var rfl) (ev_var rfl) (rv_ixL (sq_of (E5 _ _ hbG)) (at_map hm))) ea_nil)) (sd_turned (by omega) (Int.lt_of_le_of_lt m3.2.1 (by decide +kernel)) ncop fun H' e' => q H' ((eG.trans E5).trans e')))
    refine q_when (cmp (j := 5) rfl) (fun h6 H6 e6 => ?_) (fun h6 H6 e6 => ?_)
    · obtain rfl := of_decide_eq_true h6
      have E6 := ((((e1.trans e2).trans e3).trans e4).trans e5).trans e6
      obtain rfl := Option.some.inj hc
      exact s_dvR (dv_meth (ev_var rfl) (E6 _ _ hB.1) (bf_none l t (by decide +kernel) (by decide +kernel)) (ea_cons (ev_op (ev_meth (ev_var rfl) (E6 _ _ hB.1) (bf_none l t (by decide +kernel) (by decide +kernel)) ea_nil (sv_room (hB.mono E6).at_ g)) (ev_var rfl) rv_I0) ea_nil) (sd_rests (hB.mono E6).at_ g (by omega) fun H' e' => q H' ((eG.trans E6).trans e')))
    have hk6 : k = 6 := by
      have := of_decide_eq_false h1; have := of_decide_eq_false h2; have := of_decide_eq_false h3'; have := of_decide_eq_false h4; have := of_decide_eq_false h5; have := of_decide_eq_false h6
      omega
    subst hk6
    have E7 := ((((e1.trans e2).trans e3).trans e4).trans e5).trans e6
    obtain rfl := Option.some.inj hc
    have a0 := Int.emod_nonneg ((p : Int) + 1) (show (bs.length : Int) ≠ 0 by omega)
    have a1 := Int.emod_lt_of_pos ((p : Int) + 1) (show 0 < (bs.length : Int) by omega)
    obtain ⟨s', hs'⟩ : ∃ s' : Nat, ((p : Int) + 1) % (bs.length : Int) = (s' : Int) := ⟨(((p : Int) + 1) % (bs.length : Int)).toNat, by omega⟩
    have hsl : s' < bs.length := by omega
    have hsp : p ≠ s' := fun z => by
      subst z
      by_cases hh : (p : Int) + 1 < bs.length
      · rw [Int.emod_eq_of_lt (by omega) hh] at hs'
        omega
      · rw [show (p : Int) + 1 = (bs.length : Int) by omega, Int.emod_self] at hs'
        omega
    have hd : bs[s']? = some bs[s'] := List.getElem?_eq_getElem hsl
    generalize bs[s'] = d at hd
    have d3 := g.get3 hd
    have w2 : Rw.IsRow bs (((Rw.rowOf bs n).set p v).set s' 0) := isRow_set bad.1 hd (by decide) (by omega)
    have y2 : ¬ Rw.onum bs (((Rw.rowOf bs n).set p v).set s' 0) s' < Rw.room bs := by
      refine onum_two g w2.len hsl hm hsp n0 n1 (rq := v) (fun k b r h1 h2 hb hr => ?_) (by rw [List.getElem?_set_ne (fun z => hsp z.symm)]; exact List.getElem?_set_self (by rw [Rw.rowOf_length]; exact hp)) (fun z => ?_)
      · rw [List.getElem?_set_ne (fun z => h1 z.symm), List.getElem?_set_ne (fun z => h2 z.symm), Rw.rowOf_get hb] at hr
        rw [← Option.some.inj hr, Int.emod_emod]
      · rw [Int.emod_eq_of_lt v0 v1] at z
        exact hv z.symm
    refine s_dvR (dv_call (vs := [.ref y, .ref x, .int (s' : Int)]) (ea_cons (ev_var rfl) (ea_cons (ev_var rfl) (ea_cons (ev_is (ev_op (ev_op (ev_var rfl) ev_c rv_I0) (ev_len (ev_var rfl) (sq_of (E7 _ _ hrG))) (rv_I (by rw [hlr]; omega))) (by rw [hlr, hs'])) ea_nil))) fun H' e' Q' => ⟨y, x, bs, _, _, rfl, (hB.mono (E7.trans e')).at_, g, sq_of ((E7.trans e') _ _ hxG), by rw [List.length_map, List.length_set, Rw.rowOf_length]; omega, fun z => absurd ⟨by omega, by omega⟩ z, fun _ => ⟨((Rw.rowOf bs n).set p v).set s' 0, by rw [Int.toNat_natCast]; simp only [List.map_set], fun z => absurd w2 z, fun _ mp _ => ⟨fun z => absurd (by rw [Int.toNat_natCast] at z; exact z) y2, fun _ H'' e'' => q H'' (((eG.trans E7).trans e').trans e'')⟩⟩⟩)
end
end Rk
namespace Rk
open PySem PySem.Spec PyProof.Rows L2 Evl
section
variable {P : Program} {w : World} {K : PySem.W.Frag} {mg : Str → Option Value} {base : Heap}
/-! ### the law's bases -/
def sp__law_bases : Sp := fun vs H Q _ => ∃ one other : Int, vs = [.int one, .int other] ∧ ∀ bs, Rw.Good bs → RetL (bs.map V.int) H Q
theorem pick {p r : Int} (h : 0 < r) (h4 : r < 4) : ∃ m, atI ([V.int 1, V.int 1, V.int p, V.int (p * p)] : List V) r = some (V.int m) ∧ (m = 1 ∨ m = p ∨ m = p * p) := by
  rcases (show r = ((1 : Nat) : Int) ∨ r = ((2 : Nat) : Int) ∨ r = ((3 : Nat) : Int) by omega) with e | e | e <;> subst e
  · exact ⟨1, atI_nat rfl, .inl rfl⟩
  · exact ⟨p, atI_nat rfl, .inr (.inl rfl)⟩
  · exact ⟨p * p, atI_nat rfl, .inr (.inr rfl)⟩
theorem ok__law_bases (L : Lk K mg) : FnOk P w K mg base (L2N.CX P w) 1 L.f__law_bases L.d__law_bases ["_law_one", "_law_other"] sp__law_bases := by
  refine okN L.F__law_bases sc__law_bases (fun vs H Q E h => ?_) (fun cdv A outer s H vs Q E hr h => ?_)
  · obtain ⟨_, _, rfl, _⟩ := h; rfl
  · obtain ⟨one, other, rfl, q⟩ := h
    refine ⟨_, (pss_cons (ps_set (i := 2) sc__law_bases.nd rfl (Or.inl rfl) (pe_lst pa_nil))
      (pss_cons (ps_set (i := 3) sc__law_bases.nd rfl (Or.inl rfl) (pe_lst (pa_cons pe_int (pa_cons pe_int (pa_cons pe_int (pa_cons pe_int (pa_cons pe_int pa_nil)))))))
      (pss_cons (ps_set (i := 4) sc__law_bases.nd rfl (Or.inl rfl) (pe_lst (pa_cons pe_int (pa_cons pe_int (pa_cons pe_int (pa_cons pe_int (pa_cons pe_int (pa_cons pe_int (pa_cons pe_int (pa_cons pe_int (pa_cons pe_int pa_nil)))))))))))
      (pss_cons (ps_set (i := 5) sc__law_bases.nd rfl (Or.inl rfl) (pe_op op_mul pe_int (pe_op op_mod (pv 1) pe_int)))
      (pss_cons (ps_set (i := 6) sc__law_bases.nd rfl (Or.inl rfl) (pe_op op_fdiv (pv 1) pe_int))
      (pss_cut (ps_if (pt_cmpR op_eq (pe_op op_mod (pv 0) pe_int) pe_int (nomark _)) (pss_cons (ps_set (i := 3) sc__law_bases.nd rfl (Or.inl rfl) (pe_lst (pa_cons pe_int (pa_cons pe_int (pa_cons pe_int (pa_cons pe_int pa_nil))))))
      (pss_cons (ps_set (i := 4) sc__law_bases.nd rfl (Or.inl rfl) (pe_lst (pa_cons pe_int (pa_cons pe_int (pa_cons pe_int (pa_cons pe_int (pa_cons pe_int (pa_cons pe_int pa_nil))))))))
      (pss_cons (ps_set (i := 5) sc__law_bases.nd rfl (Or.inl rfl) (pe_op op_mul pe_int (pe_op op_mod (pv 1) pe_int)))
      (pss_one (ps_set (i := 6) sc__law_bases.nd rfl (Or.inl rfl) (pe_op op_fdiv (pv 1) pe_int)))))) pss_nil)
      (pss_cons (ps_for (passes_of rfl) rfl (pi_list (pv 3)) (pg_name (i := 7) sc__law_bases.nd rfl (Or.inl rfl)) (pss_cut (ps_if (pt_cmpR op_gt (pe_op op_mod (pv 0) pe_int) pe_int (nomark _)) (pss_one (ps_expr (pe_bm PySem.F.plainAttrs_list PySem.F.slot_list_append PySem.F.type_list_append mt_append (pv 2) (pa_cons (pe_op op_mul (pv 7) (pe_ix ix_list (pe_lst (pa_cons pe_int (pa_cons pe_int (pa_cons (pv 7) (pa_cons (pe_op op_mul (pv 7) (pv 7)) pa_nil))))) (pe_op op_mod (pv 0) pe_int) (fun _ _ => rfl))) pa_nil)))) pss_nil)
      (pss_one (ps_set (i := 0) sc__law_bases.nd rfl (Or.inl rfl) (pe_op op_fdiv (pv 0) pe_int)))))
      (pss_cut (ps_if (PW.pt (pw_and (pt_cmpR op_eq (pe_op op_mod (pv 0) pe_int) pe_int (nomark _)) (pw_and (pt_cmpR op_gt (pe_callB call_len_seq (by rfl) L.z_len PySem.boot_len (pa_cons (pv 2) pa_nil)) pe_int (nomark _)) (pw_and1 (pt_cmpR op_lt (pe_op op_mul (pe_ix ix_list (pv 2) pe_int (fun _ _ => rfl)) (pe_ix ix_list (pv 2) pe_int (fun _ _ => rfl))) pe_int (nomark _)))))) (pss_one (ps_set (i := 2) sc__law_bases.nd rfl (Or.inl rfl) (pe_op op_cat (pe_lst (pa_cons (pe_op op_mul (pe_ix ix_list (pv 2) pe_int (fun _ _ => rfl)) (pe_ix ix_list (pv 2) pe_int (fun _ _ => rfl))) pa_nil)) (pe_slice sl_list (pv 2) (po_some pe_int) po_none)))) pss_nil)
      (pss_cons (ps_for (passes_of rfl) rfl (pi_range1 (by rfl) L.z_range (pa_cons (pe_callB call_len_seq (by rfl) L.z_len PySem.boot_len (pa_cons (pv 4) pa_nil)) pa_nil)) (pg_name (i := 8) sc__law_bases.nd rfl (Or.inl rfl)) (pss_cut (ps_if (PW.pt (pw_or (pt_cmpR op_eq (pe_op op_mod (pv 6) pe_int) pe_int (nomark _)) (pw_or1 (pt_cmpR op_le (pe_op op_sub (pe_op op_add (pe_callB call_len_seq (by rfl) L.z_len PySem.boot_len (pa_cons (pv 2) pa_nil)) (pe_callB call_len_seq (by rfl) L.z_len PySem.boot_len (pa_cons (pv 4) pa_nil))) (pv 8)) pe_int (nomark _))))) (pss_one (ps_expr (pe_bm PySem.F.plainAttrs_list PySem.F.slot_list_append PySem.F.type_list_append mt_append (pv 2) (pa_cons (pe_op op_add (pv 5) (pe_ix ix_list (pv 4) (pv 8) (fun _ _ => rfl))) pa_nil)))) pss_nil)
      (pss_one (ps_set (i := 6) sc__law_bases.nd rfl (Or.inl rfl) (pe_op op_fdiv (pv 6) pe_int)))))
      (pss_one (ps_ret (pe_callB cr_sorted (by rfl) L.z_sorted (by decide +kernel) (pa_cons (pv 2) pa_nil))))))))))))), ?_⟩
    refine q_asgL (el_lst ea_nil (by decide)) fun sl H1 hsl e1 h1 => ?_
    refine q_asgL (el_lst (vs := ([3, 5, 7, 11, 13] : List Int).map V.int) (ea_cons ev_c (ea_cons ev_c (ea_cons ev_c (ea_cons ev_c (ea_cons ev_c ea_nil))))) (by decide)) fun pl H2 hpl e2 h2 => ?_
    refine q_asgL (el_lst (vs := ([17, 19, 23, 29, 31, 37, 41, 43, 47] : List Int).map V.int) (ea_cons ev_c (ea_cons ev_c (ea_cons ev_c (ea_cons ev_c (ea_cons ev_c (ea_cons ev_c (ea_cons ev_c (ea_cons ev_c (ea_cons ev_c ea_nil))))))))) (by decide)) fun el H3 hel e3 h3 => ?_
    have spl : sl ≠ pl := fun z => by rw [← z, h1] at hpl; cases hpl
    have sel : sl ≠ el := fun z => by rw [← z, e2 _ _ h1] at hel; cases hel
    have o0 := Int.emod_nonneg other (show (34 : Int) ≠ 0 by decide)
    have o1 := Int.emod_lt_of_pos other (show (0 : Int) < 34 by decide)
    refine q_asg (ev_op ev_c (ev_op (ev_var rfl) ev_c (rv_I (show (0 : Int) < 34 by decide))) (rv_I (cmulL (by decide)))) fun H4 e4 => ?_
    refine q_asg (ev_op (ev_var rfl) ev_c (rv_I ⟨by decide, by decide⟩)) fun H5 e5 => ?_
    have E5 := (((e1.trans e2).trans e3).trans e4).trans e5
    have e45 := e4.trans e5
    have h15 := e45 _ _ (e3 _ _ (e2 _ _ h1))
    have h25 := e45 _ _ (e3 _ _ h2)
    have h35 := e45 _ _ h3
    refine q_cut (M := fun σ' H' => ∃ (N : Int) (ps es : List Int) (far picks : Int) (pl el : Addr), σ' = [some (.int one), some (.int other), some (.ref sl), some (.ref pl), some (.ref el), some (.int far), some (.int picks), none, none] ∧
      Rw.Cfg N ps es ∧ Rw.Far N far ∧ Ex H H' ∧ sl ≠ pl ∧ sl ≠ el ∧ H' sl = some (.lst []) ∧ H' pl = some (.lst (ps.map V.int)) ∧ H' el = some (.lst (es.map V.int))) ?_ ?_
    · refine s_when (et_test (ev_op (ev_op (ev_var rfl) ev_c (rv_I (show (0 : Int) < 7 by decide))) ev_c (rv_eq rfl))) (fun _ H6 e6 => ?_) (fun _ H6 e6 => ?_)
      · refine q_asgL (el_lst (vs := ([3, 5, 7, 11] : List Int).map V.int) (ea_cons ev_c (ea_cons ev_c (ea_cons ev_c (ea_cons ev_c ea_nil)))) (by decide)) fun pl H7 hpl e7 h7 => ?_
        refine q_asgL (el_lst (vs := ([13, 17, 19, 23, 29, 31] : List Int).map V.int) (ea_cons ev_c (ea_cons ev_c (ea_cons ev_c (ea_cons ev_c (ea_cons ev_c (ea_cons ev_c ea_nil)))))) (by decide)) fun el H8 hel e8 h8 => ?_
        have o2 := Int.emod_nonneg other (show (429 : Int) ≠ 0 by decide)
        have o3 := Int.emod_lt_of_pos other (show (0 : Int) < 429 by decide)
        refine q_asg (ev_op ev_c (ev_op (ev_var rfl) ev_c (rv_I (show (0 : Int) < 429 by decide))) (rv_I (cmulL (by decide)))) fun H9 e9 => ?_
        refine s_asg (ev_op (ev_var rfl) ev_c (rv_I ⟨by decide, by decide⟩)) fun H10 e10 => ?_
        have e78 := (e7.trans e8).trans (e9.trans e10)
        refine ⟨2310, _, _, _, _, pl, el, rfl, Rw.cfg2, ⟨Int.dvd_mul_right _ _, by omega, by omega⟩, (E5.trans e6).trans e78, fun z => ?_, fun z => ?_, e78 _ _ (e6 _ _ h15), (e9.trans e10) _ _ (e8 _ _ h7), (e9.trans e10) _ _ h8⟩
        · rw [← z, e6 _ _ h15] at hpl; cases hpl
        · rw [← z, e7 _ _ (e6 _ _ h15)] at hel; cases hel
      · exact ⟨30030, _, _, _, _, pl, el, rfl, Rw.cfg1, ⟨Int.dvd_mul_right _ _, by omega, by omega⟩, E5.trans e6, spl, sel, e6 _ _ h15, e6 _ _ h25, e6 _ _ h35⟩
    clear h15 h25 h35 h1 h2 h3 spl sel hpl hel E5 e45 e1 e2 e3 e4 e5
    rintro σ' H6 ⟨N, ps, es, far, picks, pl, el, rfl, c, hf, e6, spl, sel, h1, h2, h3⟩
    have plen := c.plen
    have elen := c.elen
    refine q_forLn (ev_var rfl) (sq_of h2) (fun i σ' H' => ∃ (one' : Int) (sm : List Int) (v7 : Option V), σ' = [some (.int one'), some (.int other), some (.ref sl), some (.ref pl), some (.ref el), some (.int far), some (.int picks), v7, none] ∧
      Rw.InvA N ps i sm ∧ Ex H H' ∧ H' sl = some (.lst (sm.map V.int)) ∧ H' pl = some (.lst (ps.map V.int)) ∧ H' el = some (.lst (es.map V.int)))
      (fun H7 e7 => ⟨one, [], none, rfl, Rw.InvA.start _ _, e6.trans e7, e7 _ _ h1, e7 _ _ h2, e7 _ _ h3⟩) (fun i σ' H' _ ⟨_, _, _, _, _, _, _, h, _⟩ => sq_of h) ?_ ?_
    · rintro i x σ' H7 hi ⟨one', sm, v7, rfl, inv, e7, h1, h2, h3⟩
      obtain ⟨p, hp, rfl⟩ := map_get hi
      obtain ⟨po, p3, p13, pd⟩ := c.podd p (List.mem_of_getElem? hp)
      have r0 := Int.emod_nonneg one' (show (4 : Int) ≠ 0 by decide)
      have r1 := Int.emod_lt_of_pos one' (show (0 : Int) < 4 by decide)
      refine q_cut (M := fun σ' H' => ∃ (sm : List Int), σ' = [some (.int one'), some (.int other), some (.ref sl), some (.ref pl), some (.ref el), some (.int far), some (.int picks), some (.int p), none] ∧
        Rw.InvA N ps (i + 1) sm ∧ Ex H H' ∧ H' sl = some (.lst (sm.map V.int)) ∧ H' pl = some (.lst (ps.map V.int)) ∧ H' el = some (.lst (es.map V.int))) ?_ ?_
      · refine s_when (et_test (ev_op (ev_op (ev_var rfl) ev_c (rv_I (show (0 : Int) < 4 by decide))) ev_c rv_I0)) (fun hc H8 e8 => ?_) (fun hc H8 e8 => ?_)
        · have hc' : 0 < one' % 4 := of_decide_eq_true hc
          obtain ⟨m, hm, hm3⟩ := pick (p := p) hc' r1
          refine s_app (e8 _ _ h1) (ev_var rfl) (ev_op (ev_var rfl) (ev_ixH (eh_new (el_lst (ea_cons ev_c (ea_cons ev_c (ea_cons (ev_var rfl) (ea_cons (ev_op (ev_var rfl) (ev_var rfl) (rv_I (cmulL (by omega)))) ea_nil)))) (by show 4 ≤ 100000; decide))) (ev_op (ev_var rfl) ev_c (rv_I (show (0 : Int) < 4 by decide))) hm) (rv_I (cmulL (by omega))))
            (by rw [List.length_map]; have := inv.len; have := (List.getElem?_eq_some_iff.mp hp).1; omega) fun H9 e9 => ?_
          refine ⟨sm ++ [p * m], rfl, inv.add c hp hm3, ((e7.trans e8).trans e9).mut hsl, ?_, ?_, ?_⟩
          · rw [upd_same, List.map_append]; rfl
          · rw [upd_ne spl.symm]; exact e9 _ _ (e8 _ _ h2)
          · rw [upd_ne sel.symm]; exact e9 _ _ (e8 _ _ h3)
        · exact ⟨sm, rfl, inv.skip, e7.trans e8, e8 _ _ h1, e8 _ _ h2, e8 _ _ h3⟩
      · rintro σ' H8 ⟨sm, rfl, inv, e8, h1, h2, h3⟩
        refine s_asg (ev_op (ev_var rfl) ev_c (rv_I ⟨by decide, by decide⟩)) fun H9 e9 => ?_
        exact ⟨_, sm, _, rfl, inv, e8.trans e9, e9 _ _ h1, e9 _ _ h2, e9 _ _ h3⟩
    rintro σ' H7 ⟨one', sm, v7, rfl, inv, e7, h1, h2, h3⟩
    rw [List.length_map] at inv
    have inv := inv.toB
    refine q_cut (M := fun σ' H' => ∃ (sm : List Int) (sl : Addr), σ' = [some (.int one'), some (.int other), some (.ref sl), some (.ref pl), some (.ref el), some (.int far), some (.int picks), v7, none] ∧ H sl = none ∧ sl ≠ el ∧
      Rw.InvB N ps.length sm ∧ Ex H H' ∧ H' sl = some (.lst (sm.map V.int)) ∧ H' el = some (.lst (es.map V.int))) ?_ ?_
    · have at0 : ∀ {a b : Int} {r : List Int}, atI ((a :: b :: r).map V.int) 0 = some (.int a) := fun {a b r} => at_mapI (k := 0) rfl rfl
      have at1 : ∀ {a b : Int} {r : List Int}, atI ((a :: b :: r).map V.int) 1 = some (.int b) := fun {a b r} => at_mapI (k := 1) rfl rfl
      rcases sm with _ | ⟨a, _ | ⟨b, r⟩⟩
      · refine s_when (b := false) (et_is (et_and (et_test (ev_op (ev_op (ev_var rfl) ev_c (rv_I (show (0 : Int) < 2 by decide))) ev_c (rv_eq rfl))) (fun _ => et_and (b := false) (a := false) (et_test (ev_op (ev_len (ev_var rfl) (sq_of h1)) ev_c rv_I0)) (fun z => nomatch z))) (by simp)) (fun z => nomatch z) (fun _ H8 e8 => ?_)
        exact ⟨_, sl, rfl, hsl, sel, inv, e7.trans e8, e8 _ _ h1, e8 _ _ h3⟩
      · refine s_when (b := false) (et_is (et_and (et_test (ev_op (ev_op (ev_var rfl) ev_c (rv_I (show (0 : Int) < 2 by decide))) ev_c (rv_eq rfl))) (fun _ => et_and (b := false) (a := false) (et_test (ev_op (ev_len (ev_var rfl) (sq_of h1)) ev_c rv_I0)) (fun z => nomatch z))) (by simp)) (fun z => nomatch z) (fun _ H8 e8 => ?_)
        exact ⟨_, sl, rfl, hsl, sel, inv, e7.trans e8, e8 _ _ h1, e8 _ _ h3⟩
      · have ax := inv.el a List.mem_cons_self
        have ev2 : ∀ {H8}, Ex H7 H8 → Ev (tOp (rI CMul fun i j => .int (i * j)) (tOp (rIxL K) (tVar 2) (tC (.int 0))) (tOp (rIxL K) (tVar 2) (tC (.int 1)))) [some (.int one'), some (.int other), some (.ref sl), some (.ref pl), some (.ref el), some (.int far), some (.int picks), v7, none] H8 (.int (a * b)) := fun {H8} e8 =>
          ev_op (ev_op (ev_var rfl) ev_c (rv_ixL (sq_of (e8 _ _ h1)) at0)) (ev_op (ev_var rfl) ev_c (rv_ixL (sq_of (e8 _ _ h1)) at1)) (rv_I (cmulL (by omega)))
        refine s_when (et_and (et_test (ev_op (ev_op (ev_var rfl) ev_c (rv_I (show (0 : Int) < 2 by decide))) ev_c (rv_eq rfl))) (fun _ => et_and (et_test (ev_op (ev_len (ev_var rfl) (sq_of h1)) ev_c rv_I0)) (fun _ => et_test (ev_op (ev2 (Ex.refl H7)) ev_c rv_I0)))) (fun hc H8 e8 => ?_) (fun hc H8 e8 => ?_)
        · rw [Bool.and_eq_true, Bool.and_eq_true, decide_eq_true_eq, decide_eq_true_eq, decide_eq_true_eq] at hc
          refine s_asgL (el_cat (eh_new (el_lst (ea_cons (ev2 e8) ea_nil) (by show 1 ≤ 100000; decide))) (eh_new (el_slH (eh_old (ev_var rfl) (e8 _ _ h1)) (eo_some ev_c) eo_none)) (Nat.le_trans (Nat.add_le_add_left (cutV_length _ _ _) _) (by have := inv.len; simp at this ⊢; omega))) fun l H9 hl e9 h9 => ?_
          refine ⟨a * b :: r, l, rfl, fresh_back (e7.trans e8) hl, (fun z => by rw [z, e8 _ _ h3] at hl; cases hl), inv.merge hc.2.2, (e7.trans e8).trans e9, ?_, e9 _ _ (e8 _ _ h3)⟩
          rw [h9, show (2 : Int) = ((2 : Nat) : Int) from rfl, cut_from]
          rfl
        · exact ⟨_, sl, rfl, hsl, sel, inv, e7.trans e8, e8 _ _ h1, e8 _ _ h3⟩
    clear h1 h2 h3 hsl spl sel inv
    rintro σ' H8 ⟨sm, sl, rfl, hsl, sel, inv, e8, h1, h3⟩
    have hle : (es.map V.int).length = es.length := List.length_map _
    refine q_forR1 (n := (es.length : Int)) (ea_cons (ev_is (ev_len (ev_var rfl) (sq_of h3)) (by rw [hle])) ea_nil) (by omega)
      (fun k σ' H' => ∃ (pk : Int) (sm : List Int) (v8 : Option V), σ' = [some (.int one'), some (.int other), some (.ref sl), some (.ref pl), some (.ref el), some (.int far), some (.int pk), v7, v8] ∧
        Rw.InvC far es ps.length k sm ∧ Ex H H' ∧ H' sl = some (.lst (sm.map V.int)) ∧ H' el = some (.lst (es.map V.int)))
      (fun H9 e9 => ⟨_, sm, none, rfl, inv.toC c hf, e8.trans e9, e9 _ _ h1, e9 _ _ h3⟩) ?_ ?_
    · rintro k σ' H9 hk ⟨pk, sm, v8, rfl, inv, e9, h1, h3⟩
      have hk' : k < es.length := by omega
      have hE : es[k]? = some es[k] := List.getElem?_eq_getElem hk'
      generalize es[k] = ek at hE
      have hls : (sm.map V.int).length = sm.length := List.length_map _
      refine q_cut (M := fun σ' H' => ∃ (sm : List Int), σ' = [some (.int one'), some (.int other), some (.ref sl), some (.ref pl), some (.ref el), some (.int far), some (.int pk), v7, some (.int (k : Int))] ∧
        Rw.InvC far es ps.length (k + 1) sm ∧ Ex H H' ∧ H' sl = some (.lst (sm.map V.int)) ∧ H' el = some (.lst (es.map V.int))) ?_ ?_
      · refine s_when (et_or (et_test (ev_op (ev_op (ev_var rfl) ev_c (rv_I (show (0 : Int) < 2 by decide))) ev_c (rv_eq rfl))) (fun _ => et_test (ev_op (ev_op (ev_op (ev_len (ev_var rfl) (sq_of h1)) (ev_len (ev_var rfl) (sq_of h3)) rv_I0) (ev_var rfl) rv_I0) ev_c rv_I0))) (fun hc H10 e10 => ?_) (fun hc H10 e10 => ?_)
        · refine s_app (e10 _ _ h1) (ev_var rfl) (ev_op (ev_var rfl) (ev_op (ev_var rfl) (ev_var rfl) (rv_ixL (sq_of (e10 _ _ h3)) (at_map hE))) rv_I0) (by rw [hls]; have := inv.len; omega) fun H11 e11 => ?_
          refine ⟨sm ++ [far + ek], rfl, inv.add c hf hE, ((e9.trans e10).trans e11).mut hsl, ?_, ?_⟩
          · rw [upd_same, List.map_append]; rfl
          · rw [upd_ne sel.symm]; exact e11 _ _ (e10 _ _ h3)
        · rw [Bool.or_eq_false_iff, decide_eq_false_iff_not, decide_eq_false_iff_not, hls, hle] at hc
          exact ⟨sm, rfl, inv.skip hk' hc.2, e9.trans e10, e10 _ _ h1, e10 _ _ h3⟩
      · rintro σ' H10 ⟨sm, rfl, inv, e10, h1, h3⟩
        refine s_asg (ev_op (ev_var rfl) ev_c (rv_I ⟨by decide, by decide⟩)) fun H11 e11 => ?_
        exact ⟨_, sm, _, rfl, inv, e10.trans e11, e11 _ _ h1, e11 _ _ h3⟩
    · rintro σ' H9 ⟨pk, sm, v8, rfl, inv, e9, h1, h3⟩
      rw [Int.toNat_natCast] at inv
      refine s_retSorted (ev_var rfl) (sq_of h1) (by have := inv.len; have := c.len; omega) fun ns' p H10 hp hs hn e10 h10 => ?_
      exact q ns' (inv.good c hp hs) p H10 (fresh_back e9 hn) (e9.trans e10) h10
/-- the law's bases: good ones, a new list -/
theorem q_bases {σ : L2.St} {H : Hp} {E : XK} {D : Ends} {tz : TS} {tA : TA} {i : Nat} {a b : Int} (h : EvA tA σ H [.int a, .int b]) (k : ∀ bs p H1, Rw.Good bs → H p = none → Ex H H1 → H1 p = some (.lst (bs.map V.int)) → tz D (σ.set i (some (.ref p))) H1) :
    tSeq (tAsg (tCall sp__law_bases [] E tA) (gName i)) tz D σ H := h H (Ex.refl H) _ fun H1 e1 => ⟨a, b, rfl, fun bs g p H2 hp e2 h2 => k bs p H2 g (fresh_back e1 hp) (e1.trans e2) h2⟩
end
end Rk
namespace Rk
open PySem PySem.Spec PyProof.Rows L2 Evl
section
variable {P : Program} {w : World} {K : PySem.W.Frag} {mg : Str → Option Value} {base : Heap}
/-! ### a cell of the script -/
def sp__law_cell_at (K : PySem.W.Frag) : Sp := fun vs H Q _ => ∃ (a : Addr) (ns : List Int) (i : Int), vs = [.ref a, .int i] ∧ SqL K H a (ns.map V.int) ∧ 0 ≤ i ∧ ∀ H', Ex H H' → Q (.int (cell ns i)) H'
theorem ok__law_cell_at (L : Lk K mg) : FnOk P w K mg base (L2N.CX P w) 1 L.f__law_cell_at L.d__law_cell_at ["_law_script", "_law_k"] (sp__law_cell_at K) := by
  refine okN L.F__law_cell_at sc__law_cell_at (fun vs H Q E h => ?_) (fun cdv A outer s H vs Q E hr h => ?_)
  · obtain ⟨_, _, _, rfl, _⟩ := h; rfl
  · obtain ⟨a, ns, i, rfl, hS, h0, q⟩ := h
    refine ⟨_, (pss_cons (ps_if (pt_cmpR op_lt (pv 1) (pe_callB call_len_seq (by rfl) L.z_len PySem.boot_len (pa_cons (pv 0) pa_nil)) (nomark _)) (pss_one (ps_ret (pe_ix ix_list (pv 0) (pv 1) (fun _ _ => rfl)))) pss_nil)
      (pss_one (ps_ret pe_int))), ?_⟩
    refine q_when (et_test (ev_op (ev_var rfl) (ev_len (ev_var rfl) hS) rv_I0)) (fun hc H1 e1 => ?_) (fun hc H1 e1 => ?_)
    · have hc' : i < ((ns.map V.int).length : Int) := of_decide_eq_true hc
      rw [List.length_map] at hc'
      have hg : ns[i.toNat]? = some (cell ns i) := by
        unfold cell
        rw [List.getD_eq_getElem?_getD, List.getElem?_eq_getElem (show i.toNat < ns.length by omega)]
        rfl
      have ei : i = ((i.toNat : Nat) : Int) := by omega
      refine s_ret (ev_op (ev_var rfl) (ev_var rfl) (rv_ixL (ex_l e1 hS) (by rw [ei]; exact at_map hg))) fun H2 e2 => ?_
      exact q H2 (e1.trans e2)
    · have hc' : ¬ i < ((ns.map V.int).length : Int) := of_decide_eq_false hc
      rw [List.length_map] at hc'
      have hg : cell ns i = 0 := by
        unfold cell
        rw [List.getD_eq_getElem?_getD, List.getElem?_eq_none (by omega)]
        rfl
      refine s_ret ev_c fun H2 e2 => ?_
      have := q H2 (e1.trans e2)
      rw [hg] at this
      exact this
theorem sv_cell {H : Hp} {a : Addr} {ns : List Int} {i : Int} (hS : SqL K H a (ns.map V.int)) (h0 : 0 ≤ i := by decide) : SpV (sp__law_cell_at K) [.ref a, .int i] H (.int (cell ns i)) :=
  fun H1 e Q q _ => ⟨a, ns, i, rfl, ex_l e hS, h0, q⟩
/-- the k-th cell, written -/
theorem ev_cell {σ : L2.St} {H : Hp} {a : Addr} {ns : List Int} {i : Int} {E : XK} {j : Nat} (hv : σ[j]? = some (some (.ref a))) (hS : SqL K H a (ns.map V.int)) (h0 : 0 ≤ i := by decide) :
    Ev (tCall (sp__law_cell_at K) [] E (tCons (tVar j) (tCons (tC (.int i)) tNil))) σ H (.int (cell ns i)) := ev_call0 (ea_cons (ev_var hv) (ea_cons ev_c ea_nil)) (sv_cell hS h0)
end
end Rk
namespace Rk
open PySem PySem.Spec PyProof.Rows L2 Evl
section
variable {P : Program} {w : World} {K : PySem.W.Frag} {mg : Str → Option Value} {base : Heap}
/-! ### the law -/
theorem dpA_bls {H : Hp} : ∀ bs : List Bool, DpAll K H (bs.map V.bl) (bs.map PyData.bool)
  | [] => .nil
  | b :: bs => .cons (.bl b) (dpA_bls bs)
theorem ev_eqB {σ : L2.St} {H : Hp} {ta tb : TE} {xs : List Bool} (hs : SeqAt.shaped (.list (xs.map PyData.bool)) = true) (ha : EvH ta σ H (xs.map V.bl)) (hb : EvH tb σ H (xs.map V.bl)) : Ev (tOp (rEqD K) ta tb) σ H (.bl true) := ev_opHH ha hb fun p q H1 hp hq _ => fun H1 e _ k =>
  ⟨_, _, .lst (ex_l e (sq_of hp)) (dpA_bls xs), .lst (ex_l e (sq_of hq)) (dpA_bls xs), hs, hs, by
    show _
    rw [show PyData.eqv (.list (xs.map PyData.bool)) (.list (xs.map PyData.bool)) = true from SeqAt.eqv_refl _ (SeqAt.canLay_of_shaped hs)]
    exact k H1 (Ex.refl H1)⟩
theorem set_int (us : List Int) (p : Nat) (v : Int) : (us.map V.int).set p (.int v) = (us.set p v).map V.int := by rw [List.map_set]
theorem hot7 (k : Nat) : given (7 : Int).toNat (fun _ => true) (fun i => V.bl (decide (V.int (i : Int) = V.int (k : Int)))) = ((List.range 7).map fun i => decide (i = k)).map V.bl := by
  unfold given
  rw [List.filter_eq_self.mpr fun _ _ => rfl, List.map_map]
  refine List.map_congr_left fun i _ => ?_
  show V.bl _ = V.bl _
  congr 1
  simp [Int.ofNat_inj]
def sp_law (K : PySem.W.Frag) : Sp := fun vs H Q _ => ∃ (a : Addr) (ns : List Int), vs = [.ref a] ∧ SqL K H a (ns.map V.int) ∧ ns.length ≤ 63 ∧ ∀ H', Q (.bl true) H'
theorem ok_law (L : Lk K mg) : FnOk P w K mg base (L2N.CX P w) 7 L.f_law L.d_law ["_law_script"] (sp_law K) := by
  refine okN L.F_law sc_law (fun vs H Q E h => ?_) (fun cdv A outer s H vs Q E hr h => ?_)
  · obtain ⟨_, _, rfl, _⟩ := h; rfl
  · obtain ⟨a, ns, rfl, hS, hlen, q⟩ := h
    refine ⟨_, (pss_cons (ps_set (i := 1) sc_law.nd rfl (Or.inl rfl) (pe_call (E := E) (ok__law_bases L) (hr.mono (by decide)) (by rfl) L.g__law_bases L.k__law_bases L.b__law_bases .nil hxN (pa_cons (pe_call (E := E) (ok__law_cell_at L) (hr.mono (by decide)) (by rfl) L.g__law_cell_at L.k__law_cell_at L.b__law_cell_at .nil hxN (pa_cons (pv 0) (pa_cons pe_int pa_nil))) (pa_cons (pe_call (E := E) (ok__law_cell_at L) (hr.mono (by decide)) (by rfl) L.g__law_cell_at L.k__law_cell_at L.b__law_cell_at .nil hxN (pa_cons (pv 0) (pa_cons pe_int pa_nil))) pa_nil))))
      (pss_cons (ps_set (i := 2) sc_law.nd rfl (Or.inl rfl) (pe_op op_mod (pe_call (E := E) (ok__law_cell_at L) (hr.mono (by decide)) (by rfl) L.g__law_cell_at L.k__law_cell_at L.b__law_cell_at .nil hxN (pa_cons (pv 0) (pa_cons pe_int pa_nil))) (pe_callB call_len_seq (by rfl) L.z_len PySem.boot_len (pa_cons (pv 1) pa_nil))))
      (pss_cons (ps_set (i := 3) sc_law.nd rfl (Or.inr rfl) (pe_op op_mod (pe_call (E := E) (ok__law_cell_at L) (hr.mono (by decide)) (by rfl) L.g__law_cell_at L.k__law_cell_at L.b__law_cell_at .nil hxN (pa_cons (pv 0) (pa_cons pe_int pa_nil))) pe_int))
      (pss_cons (ps_set (i := 4) sc_law.nd rfl (Or.inr rfl) (pe_op op_mod (pe_callB call_abs (by rfl) L.z_abs (by decide +kernel) (pa_cons (pe_call (E := E) (ok__law_cell_at L) (hr.mono (by decide)) (by rfl) L.g__law_cell_at L.k__law_cell_at L.b__law_cell_at .nil hxN (pa_cons (pv 0) (pa_cons pe_int pa_nil))) pa_nil)) pe_int))
      (pss_cons (ps_setLc (i := 5) (own := [("_law_base", 9)]) (g := gName 9) (tt := tYes) rfl sc_law.nd rfl rfl (sw_true rfl rfl rfl (by decide +kernel)) (pi_list (pv 1)) (blkOk_by (own := [("_law_base", 9)]) (N := ["_law_script", "_law_bases_here", "_law_at", "_law_kind", "_law_number", "_law_row", "_law_wrong", "e", "_law_found", "_law_base", "_law_k"]) (sc := defScope s_law) (by decide +kernel)) (fun _ _ _ _ _ => pg_name (i := 9) sc_law.nd rfl (Or.inl rfl)) (fun _ _ _ _ _ => by exact pts_nil) (fun _ _ _ _ _ => by exact (pe_op op_mod (pv 4) (pv 9))))
      (pss_cons (ps_set (i := 6) sc_law.nd rfl (Or.inl rfl) (pe_callTy call_list_of (by rfl) L.z_list (by decide +kernel) (pa_cons (pv 5) pa_nil)))
      (pss_cons (ps_asg (pe_op op_mod (pe_op op_add (pe_op op_add (pe_ix ix_list (pv 5) (pv 2) (fun _ _ => rfl)) pe_int) (pe_op op_mod (pe_call (E := E) (ok__law_cell_at L) (hr.mono (by decide)) (by rfl) L.g__law_cell_at L.k__law_cell_at L.b__law_cell_at .nil hxN (pa_cons (pv 0) (pa_cons pe_int pa_nil))) (pe_op op_sub (pe_ix ix_list (pv 1) (pv 2) (fun _ _ => rfl)) pe_int))) (pe_ix ix_list (pv 1) (pv 2) (fun _ _ => rfl))) (pg_sub (pv 6) (pv 2) set_list))
      (pss_cons (L2N.ps_try_as (i := 7) rfl rfl sc_law.nd rfl rfl ⟨by rfl, by decide, Or.inl L.g_RestError⟩ hkN (fun W pn xe tk po => (pss_one (ps_expr (pe_callS (ok__law_asked L) (hr.mono (by decide)) (by rfl) L.g__law_asked L.k__law_asked L.b__law_asked (fun σ => L2N.passAt tk σ) (pa_cons (pv 3) (pa_cons (pv 1) (pa_cons (pv 5) (pa_cons (pv 6) (pa_cons (pv 2) pa_nil))))))))) (fun a oe cls d pn hz hf => (pss_cons (ps_set (i := 8) sc_law.nd rfl (Or.inl rfl) (pe_lst (pa_cons (pe_callB (call_isE' hz.zc hf) (by rfl) L.z_isinstance (by decide +kernel) (pa_cons (pv 7) (pa_cons (pe_glob (v := .ref L.c_NoBases) rfl L.g_NoBases rfl) pa_nil))) (pa_cons (pe_callB (call_isE' hz.zc hf) (by rfl) L.z_isinstance (by decide +kernel) (pa_cons (pv 7) (pa_cons (pe_glob (v := .ref L.c_NoRow) rfl L.g_NoRow rfl) pa_nil))) (pa_cons (pe_callB (call_isE' hz.zc hf) (by rfl) L.z_isinstance (by decide +kernel) (pa_cons (pv 7) (pa_cons (pe_glob (v := .ref L.c_NoNumber) rfl L.g_NoNumber rfl) pa_nil))) (pa_cons (pe_callB (call_isE' hz.zc hf) (by rfl) L.z_isinstance (by decide +kernel) (pa_cons (pv 7) (pa_cons (pe_glob (v := .ref L.c_NoPlace) rfl L.g_NoPlace rfl) pa_nil))) pa_nil))))))
      (pss_cons (ps_set (i := 8) sc_law.nd rfl (Or.inl rfl) (pe_op op_cat (pv 8) (pe_lst (pa_cons (pe_callB (call_isE' hz.zc hf) (by rfl) L.z_isinstance (by decide +kernel) (pa_cons (pv 7) (pa_cons (pe_glob (v := .ref L.c_NoTurn) rfl L.g_NoTurn rfl) pa_nil))) (pa_cons (pe_callB (call_isE' hz.zc hf) (by rfl) L.z_isinstance (by decide +kernel) (pa_cons (pv 7) (pa_cons (pe_glob (v := .ref L.c_OutOfRoom) rfl L.g_OutOfRoom rfl) pa_nil))) (pa_cons (pe_callB (call_isE' hz.zc hf) (by rfl) L.z_isinstance (by decide +kernel) (pa_cons (pv 7) (pa_cons (pe_glob (v := .ref L.c_Lost) rfl L.g_Lost rfl) pa_nil))) pa_nil))))))
      (pss_one (ps_ret (pe_and (pe_callB (call_isE' hz.zc hf) (by rfl) L.z_isinstance (by decide +kernel) (pa_cons (pv 7) (pa_cons (pe_bltn (v := .ty "ValueError") (by rfl) L.z_ValueError (by decide +kernel) rfl) pa_nil))) (pe_one (pe_cmpR (op_eqDK (K := K) hr.units) (pv 8) (RkH.lc_hot (own := [("_law_k", 10)]) (g := gName 10) (RkH.hot_of hz hf) sc_law.nd (L2H.pi_range1H (by rfl) L.z_range (pa_cons pe_int pa_nil)) (blkOk_by (own := [("_law_k", 10)]) (N := ["_law_script", "_law_bases_here", "_law_at", "_law_kind", "_law_number", "_law_row", "_law_wrong", "e", "_law_found", "_law_base", "_law_k"]) (sc := defScope s_law) (by decide +kernel)) (fun _ _ _ _ _ => pg_name (i := 10) sc_law.nd rfl (Or.inl rfl)) (fun _ _ _ _ _ => by exact (pe_cmpR op_eq (pv 10) (pv 3) (nomark _)))) (nomark _))))))))))
      (pss_one (ps_ret pe_bl)))))))))), ?_⟩
    dsimp only [cxOf]
    walk_at "ns"
    refine q_bases (ea_cons (ev_cell rfl hS) (ea_cons (ev_cell rfl hS) ea_nil)) fun bs bp H1 g hbp e1 hb1 => ?_
    walk_at "ns"
    have h3 := g.len3
    have h14 := g.len14
    have hlb : (bs.map V.int).length = bs.length := List.length_map _
    have k0 := Int.emod_nonneg (cell ns 2) (show (bs.length : Int) ≠ 0 by omega)
    have k1 := Int.emod_lt_of_pos (cell ns 2) (show 0 < (bs.length : Int) by omega)
    obtain ⟨p, hp'⟩ : ∃ p : Nat, cell ns 2 % (bs.length : Int) = (p : Int) := ⟨(cell ns 2 % (bs.length : Int)).toNat, by omega⟩
    have hpl : p < bs.length := by omega
    have hc : bs[p]? = some bs[p] := List.getElem?_eq_getElem hpl
    generalize bs[p] = c at hc
    have c3 := g.get3 hc
    refine q_asg (ev_is (ev_op (ev_cell rfl (ex_l e1 hS)) (ev_len (ev_var rfl) (sq_of hb1)) (rv_I (by rw [hlb]; omega))) (by rw [hlb, hp'])) fun H2 e2 => ?_
    walk_at "ns"
    have E2 := e1.trans e2
    have j0 := Int.emod_nonneg (cell ns 3) (show (7 : Int) ≠ 0 by decide)
    have j1 := Int.emod_lt_of_pos (cell ns 3) (show (0 : Int) < 7 by decide)
    obtain ⟨k, hk'⟩ : ∃ k : Nat, cell ns 3 % 7 = (k : Int) := ⟨(cell ns 3 % 7).toNat, by omega⟩
    have hk7 : k < 7 := by omega
    refine q_asg (ev_is (ev_op (ev_cell rfl (ex_l E2 hS)) ev_c (rv_I (show (0 : Int) < 7 by decide))) (by rw [hk'])) fun H3 e3 => ?_
    walk_at "ns"
    have E3 := E2.trans e3
    refine q_asg (ev_op (ev_cb (ea_cons (ev_cell rfl (ex_l E3 hS)) ea_nil) rc_abs) ev_c (rv_I (show (0 : Int) < 3 by decide))) fun H4 e4 => ?_
    walk_at "ns"
    have n0 := Int.emod_nonneg (if cell ns 4 < 0 then -cell ns 4 else cell ns 4) (show (3 : Int) ≠ 0 by decide)
    have n1' := Int.emod_lt_of_pos (if cell ns 4 < 0 then -cell ns 4 else cell ns 4) (show (0 : Int) < 3 by decide)
    generalize (if cell ns 4 < 0 then -cell ns 4 else cell ns 4) % 3 = n at n0 n1' ⊢
    have n1 : n < Rw.room bs := by have := room3' g; omega
    have E4 := E3.trans e4
    have hb4 := ((e2.trans e3).trans e4) _ _ hb1
    refine q_asgL (el_rowL (x := n) (ev_var rfl) (sq_of hb4) (by omega) (fun _ => rfl) (fun k c H2 e2 hc => ev_op (ev_var rfl) (ev_var rfl) (rv_I (g.pos c (List.mem_of_getElem? hc))))) fun rp H5 hrp e5 hr5 => ?_
    walk_at "ns"
    refine q_asgL (el_listH (eh_old (ev_var rfl) hr5)) fun sp G hsp e6 hs6 => ?_
    walk_at "ns"
    have EG := (E4.trans e5).trans e6
    have hbG := (e5.trans e6) _ _ hb4
    have hrG := e6 _ _ hr5
    have hb5 := e5 _ _ hb4
    have hlr : ((Rw.rowOf bs n).map V.int).length = bs.length := by rw [List.length_map, Rw.rowOf_length]
    have z0 := Int.emod_nonneg (cell ns 5) (show c - 1 ≠ 0 by omega)
    have z1 := Int.emod_lt_of_pos (cell ns 5) (show 0 < c - 1 by omega)
    have spl := spoil_ne (x := n) (m := c) (d := 1 + cell ns 5 % (c - 1)) c3.1 (by omega) (by omega)
    refine q_setL hs6 (v := .int ((n % c + (1 + cell ns 5 % (c - 1))) % c)) (ev_is (ev_op (ev_op (ev_op (ev_op (ev_var rfl) (ev_var rfl) (rv_ixL (sq_of hrG) (at_map (Rw.rowOf_get hc)))) ev_c rv_I0) (ev_op (ev_cell rfl (ex_l EG hS)) (ev_op (ev_op (ev_var rfl) (ev_var rfl) (rv_ixL (sq_of hbG) (at_map hc))) ev_c rv_I0) (rv_I (show 0 < c - 1 by omega))) rv_I0) (ev_op (ev_var rfl) (ev_var rfl) (rv_ixL (sq_of hbG) (at_map hc))) (rv_I (show 0 < c by omega))) (by rw [Int.add_assoc])) (ev_var rfl) (ev_var rfl) (by rw [hlr]; exact hpl) fun H7 e7 => ?_
    generalize (n % c + (1 + cell ns 5 % (c - 1))) % c = v at spl ⊢
    rw [set_int]
    have x7 : Ex H5 (upd H7 sp (.lst (((Rw.rowOf bs n).set p v).map V.int))) := (e6.trans e7).mut hsp
    have s7 : (upd H7 sp (.lst (((Rw.rowOf bs n).set p v).map V.int))) sp = some (.lst (((Rw.rowOf bs n).set p v).map V.int)) := upd_same
    have hb7 := x7 _ _ hb5
    have hr7 := x7 _ _ hr5
    generalize upd H7 sp (.lst (((Rw.rowOf bs n).set p v).map V.int)) = H8 at s7 hb7 hr7 ⊢
    have hcs : ∃ cc, [L.c_NoBases, L.c_NoRow, L.c_NoNumber, L.c_NoPlace, L.c_NoTurn, L.c_OutOfRoom, L.c_Lost][k]? = some cc := ⟨_, List.getElem?_eq_getElem hk7⟩
    obtain ⟨cc, hcc⟩ := hcs
    refine s_dv (dv_callS (ea_cons (ev_var rfl) (ea_cons (ev_var rfl) (ea_cons (ev_var rfl) (ea_cons (ev_var rfl) (ea_cons (ev_var rfl) ea_nil))))) fun H9 e9 Q' => ⟨bp, rp, sp, bs, n, v, c, p, k, cc, rfl, e9 _ _ hb7, g, e9 _ _ hr7, e9 _ _ s7, hc, n0, n1, spl.2.1, spl.2.2, spl.1, hk7, hcc, fun H10 e10 => ?_⟩)
    rcases (show k = 0 ∨ k = 1 ∨ k = 2 ∨ k = 3 ∨ k = 4 ∨ k = 5 ∨ k = 6 by omega) with e | e | e | e | e | e | e <;> subst e <;> obtain rfl := Option.some.inj hcc
    · refine ⟨true, exm_yes L.s_RestError L.h_RestError L.t_RestError L.u_NoBases_RestError, fun _ xe hxe => ?_, fun z => nomatch z⟩
      dsimp only
      walk_at "ns"
      refine q_asgL (el_lst (vs := [V.bl true, V.bl false, V.bl false, V.bl false]) ((ea_cons (ev_cb (ea_cons (ev_var rfl) (ea_cons ev_c ea_nil)) (rc_isX L.i_NoBases (rel_ref L.c_NoBases) L.w_NoBases_NoBases)) (ea_cons (ev_cb (ea_cons (ev_var rfl) (ea_cons ev_c ea_nil)) (rc_isX L.i_NoBases (rel_ref L.c_NoRow) L.w_NoBases_NoRow)) (ea_cons (ev_cb (ea_cons (ev_var rfl) (ea_cons ev_c ea_nil)) (rc_isX L.i_NoBases (rel_ref L.c_NoNumber) L.w_NoBases_NoNumber)) (ea_cons (ev_cb (ea_cons (ev_var rfl) (ea_cons ev_c ea_nil)) (rc_isX L.i_NoBases (rel_ref L.c_NoPlace) L.w_NoBases_NoPlace)) ea_nil))))) (by show 4 ≤ 100000; decide)) fun f1 H11 hf1 e11 h11 => ?_
      walk_at "ns"
      refine q_asgL (el_cat (ys := [V.bl false, V.bl false, V.bl false]) (eh_old (ev_var rfl) h11) (eh_new (el_lst (vs := [V.bl false, V.bl false, V.bl false]) ((ea_cons (ev_cb (ea_cons (ev_var rfl) (ea_cons ev_c ea_nil)) (rc_isX L.i_NoBases (rel_ref L.c_NoTurn) L.w_NoBases_NoTurn)) (ea_cons (ev_cb (ea_cons (ev_var rfl) (ea_cons ev_c ea_nil)) (rc_isX L.i_NoBases (rel_ref L.c_OutOfRoom) L.w_NoBases_OutOfRoom)) (ea_cons (ev_cb (ea_cons (ev_var rfl) (ea_cons ev_c ea_nil)) (rc_isX L.i_NoBases (rel_ref L.c_Lost) L.w_NoBases_Lost)) ea_nil)))) (by show 3 ≤ 100000; decide))) (by show 7 ≤ 100000; decide)) fun f2 H12 hf2 e12 h12 => ?_
      walk_at "ns"
      refine s_ret (v := .bl true) (ev_is (ev_andV (a := true) (b := true) (ev_cb (ea_cons (ev_var rfl) (ea_cons ev_c ea_nil)) (rc_isX L.i_NoBases (rel_ty _) L.v_NoBases)) (fun _ => ev_eqB (xs := (List.range 7).map fun i => decide (i = 0)) (by decide +kernel) (eh_old (ev_var rfl) h12)
        (eh_new (by
          rw [← hot7 0]
          exact el_lcR1 (n := 7) (t := tYes) (fun _ => true) (fun i => .bl (decide (V.int (i : Int) = V.int ((0 : Nat) : Int)))) (ea_cons ev_c ea_nil) (by decide) (fun _ => rfl) (fun _ _ _ _ H1 _ Q q => q H1 (Ex.refl H1)) (fun i H1 e hi _ => ev_op (ev_var rfl) (ev_var rfl) (rv_eq rfl)))))) rfl) fun H13 _ => q H13
    · refine ⟨true, exm_yes L.s_RestError L.h_RestError L.t_RestError L.u_NoRow_RestError, fun _ xe hxe => ?_, fun z => nomatch z⟩
      dsimp only
      walk_at "ns"
      refine q_asgL (el_lst (vs := [V.bl false, V.bl true, V.bl false, V.bl false]) ((ea_cons (ev_cb (ea_cons (ev_var rfl) (ea_cons ev_c ea_nil)) (rc_isX L.i_NoRow (rel_ref L.c_NoBases) L.w_NoRow_NoBases)) (ea_cons (ev_cb (ea_cons (ev_var rfl) (ea_cons ev_c ea_nil)) (rc_isX L.i_NoRow (rel_ref L.c_NoRow) L.w_NoRow_NoRow)) (ea_cons (ev_cb (ea_cons (ev_var rfl) (ea_cons ev_c ea_nil)) (rc_isX L.i_NoRow (rel_ref L.c_NoNumber) L.w_NoRow_NoNumber)) (ea_cons (ev_cb (ea_cons (ev_var rfl) (ea_cons ev_c ea_nil)) (rc_isX L.i_NoRow (rel_ref L.c_NoPlace) L.w_NoRow_NoPlace)) ea_nil))))) (by show 4 ≤ 100000; decide)) fun f1 H11 hf1 e11 h11 => ?_
      walk_at "ns"
      refine q_asgL (el_cat (ys := [V.bl false, V.bl false, V.bl false]) (eh_old (ev_var rfl) h11) (eh_new (el_lst (vs := [V.bl false, V.bl false, V.bl false]) ((ea_cons (ev_cb (ea_cons (ev_var rfl) (ea_cons ev_c ea_nil)) (rc_isX L.i_NoRow (rel_ref L.c_NoTurn) L.w_NoRow_NoTurn)) (ea_cons (ev_cb (ea_cons (ev_var rfl) (ea_cons ev_c ea_nil)) (rc_isX L.i_NoRow (rel_ref L.c_OutOfRoom) L.w_NoRow_OutOfRoom)) (ea_cons (ev_cb (ea_cons (ev_var rfl) (ea_cons ev_c ea_nil)) (rc_isX L.i_NoRow (rel_ref L.c_Lost) L.w_NoRow_Lost)) ea_nil)))) (by show 3 ≤ 100000; decide))) (by show 7 ≤ 100000; decide)) fun f2 H12 hf2 e12 h12 => ?_
      walk_at "ns"
      refine s_ret (v := .bl true) (ev_is (ev_andV (a := true) (b := true) (ev_cb (ea_cons (ev_var rfl) (ea_cons ev_c ea_nil)) (rc_isX L.i_NoRow (rel_ty _) L.v_NoRow)) (fun _ => ev_eqB (xs := (List.range 7).map fun i => decide (i = 1)) (by decide +kernel) (eh_old (ev_var rfl) h12)
        (eh_new (by
          rw [← hot7 1]
          exact el_lcR1 (n := 7) (t := tYes) (fun _ => true) (fun i => .bl (decide (V.int (i : Int) = V.int ((1 : Nat) : Int)))) (ea_cons ev_c ea_nil) (by decide) (fun _ => rfl) (fun _ _ _ _ H1 _ Q q => q H1 (Ex.refl H1)) (fun i H1 e hi _ => ev_op (ev_var rfl) (ev_var rfl) (rv_eq rfl)))))) rfl) fun H13 _ => q H13
    · refine ⟨true, exm_yes L.s_RestError L.h_RestError L.t_RestError L.u_NoNumber_RestError, fun _ xe hxe => ?_, fun z => nomatch z⟩
      dsimp only
      walk_at "ns"
      refine q_asgL (el_lst (vs := [V.bl false, V.bl false, V.bl true, V.bl false]) ((ea_cons (ev_cb (ea_cons (ev_var rfl) (ea_cons ev_c ea_nil)) (rc_isX L.i_NoNumber (rel_ref L.c_NoBases) L.w_NoNumber_NoBases)) (ea_cons (ev_cb (ea_cons (ev_var rfl) (ea_cons ev_c ea_nil)) (rc_isX L.i_NoNumber (rel_ref L.c_NoRow) L.w_NoNumber_NoRow)) (ea_cons (ev_cb (ea_cons (ev_var rfl) (ea_cons ev_c ea_nil)) (rc_isX L.i_NoNumber (rel_ref L.c_NoNumber) L.w_NoNumber_NoNumber)) (ea_cons (ev_cb (ea_cons (ev_var rfl) (ea_cons ev_c ea_nil)) (rc_isX L.i_NoNumber (rel_ref L.c_NoPlace) L.w_NoNumber_NoPlace)) ea_nil))))) (by show 4 ≤ 100000; decide)) fun f1 H11 hf1 e11 h11 => ?_
      walk_at "ns"
      refine q_asgL (el_cat (ys := [V.bl false, V.bl false, V.bl false]) (eh_old (ev_var rfl) h11) (eh_new (el_lst (vs := [V.bl false, V.bl false, V.bl false]) ((ea_cons (ev_cb (ea_cons (ev_var rfl) (ea_cons ev_c ea_nil)) (rc_isX L.i_NoNumber (rel_ref L.c_NoTurn) L.w_NoNumber_NoTurn)) (ea_cons (ev_cb (ea_cons (ev_var rfl) (ea_cons ev_c ea_nil)) (rc_isX L.i_NoNumber (rel_ref L.c_OutOfRoom) L.w_NoNumber_OutOfRoom)) (ea_cons (ev_cb (ea_cons (ev_var rfl) (ea_cons ev_c ea_nil)) (rc_isX L.i_NoNumber (rel_ref L.c_Lost) L.w_NoNumber_Lost)) ea_nil)))) (by show 3 ≤ 100000; decide))) (by show 7 ≤ 100000; decide)) fun f2 H12 hf2 e12 h12 => ?_
      walk_at "ns"
      refine s_ret (v := .bl true) (ev_is (ev_andV (a := true) (b := true) (ev_cb (ea_cons (ev_var rfl) (ea_cons ev_c ea_nil)) (rc_isX L.i_NoNumber (rel_ty _) L.v_NoNumber)) (fun _ => ev_eqB (xs := (List.range 7).map fun i => decide (i = 2)) (by decide +kernel) (eh_old (ev_var rfl) h12)
        (eh_new (by
          rw [← hot7 2]
          exact el_lcR1 (n := 7) (t := tYes) (fun _ => true) (fun i => .bl (decide (V.int (i : Int) = V.int ((2 : Nat) : Int)))) (ea_cons ev_c ea_nil) (by decide) (fun _ => rfl) (fun _ _ _ _ H1 _ Q q => q H1 (Ex.refl H1)) (fun i H1 e hi _ => ev_op (ev_var rfl) (ev_var rfl) (rv_eq rfl)))))) rfl) fun H13 _ => q H13
    · refine ⟨true, exm_yes L.s_RestError L.h_RestError L.t_RestError L.u_NoPlace_RestError, fun _ xe hxe => ?_, fun z => nomatch z⟩
      dsimp only
      walk_at "ns"
      refine q_asgL (el_lst (vs := [V.bl false, V.bl false, V.bl false, V.bl true]) ((ea_cons (ev_cb (ea_cons (ev_var rfl) (ea_cons ev_c ea_nil)) (rc_isX L.i_NoPlace (rel_ref L.c_NoBases) L.w_NoPlace_NoBases)) (ea_cons (ev_cb (ea_cons (ev_var rfl) (ea_cons ev_c ea_nil)) (rc_isX L.i_NoPlace (rel_ref L.c_NoRow) L.w_NoPlace_NoRow)) (ea_cons (ev_cb (ea_cons (ev_var rfl) (ea_cons ev_c ea_nil)) (rc_isX L.i_NoPlace (rel_ref L.c_NoNumber) L.w_NoPlace_NoNumber)) (ea_cons (ev_cb (ea_cons (ev_var rfl) (ea_cons ev_c ea_nil)) (rc_isX L.i_NoPlace (rel_ref L.c_NoPlace) L.w_NoPlace_NoPlace)) ea_nil))))) (by show 4 ≤ 100000; decide)) fun f1 H11 hf1 e11 h11 => ?_
      walk_at "ns"
      refine q_asgL (el_cat (ys := [V.bl false, V.bl false, V.bl false]) (eh_old (ev_var rfl) h11) (eh_new (el_lst (vs := [V.bl false, V.bl false, V.bl false]) ((ea_cons (ev_cb (ea_cons (ev_var rfl) (ea_cons ev_c ea_nil)) (rc_isX L.i_NoPlace (rel_ref L.c_NoTurn) L.w_NoPlace_NoTurn)) (ea_cons (ev_cb (ea_cons (ev_var rfl) (ea_cons ev_c ea_nil)) (rc_isX L.i_NoPlace (rel_ref L.c_OutOfRoom) L.w_NoPlace_OutOfRoom)) (ea_cons (ev_cb (ea_cons (ev_var rfl) (ea_cons ev_c ea_nil)) (rc_isX L.i_NoPlace (rel_ref L.c_Lost) L.w_NoPlace_Lost)) ea_nil)))) (by show 3 ≤ 100000; decide))) (by show 7 ≤ 100000; decide)) fun f2 H12 hf2 e12 h12 => ?_
      walk_at "ns"
      refine s_ret (v := .bl true) (ev_is (ev_andV (a := true) (b := true) (ev_cb (ea_cons (ev_var rfl) (ea_cons ev_c ea_nil)) (rc_isX L.i_NoPlace (rel_ty _) L.v_NoPlace)) (fun _ => ev_eqB (xs := (List.range 7).map fun i => decide (i = 3)) (by decide +kernel) (eh_old (ev_var rfl) h12)
        (eh_new (by
          rw [← hot7 3]
          exact el_lcR1 (n := 7) (t := tYes) (fun _ => true) (fun i => .bl (decide (V.int (i : Int) = V.int ((3 : Nat) : Int)))) (ea_cons ev_c ea_nil) (by decide) (fun _ => rfl) (fun _ _ _ _ H1 _ Q q => q H1 (Ex.refl H1)) (fun i H1 e hi _ => ev_op (ev_var rfl) (ev_var rfl) (rv_eq rfl)))))) rfl) fun H13 _ => q H13
    · refine ⟨true, exm_yes L.s_RestError L.h_RestError L.t_RestError L.u_NoTurn_RestError, fun _ xe hxe => ?_, fun z => nomatch z⟩
      dsimp only
      walk_at "ns"
      refine q_asgL (el_lst (vs := [V.bl false, V.bl false, V.bl false, V.bl false]) ((ea_cons (ev_cb (ea_cons (ev_var rfl) (ea_cons ev_c ea_nil)) (rc_isX L.i_NoTurn (rel_ref L.c_NoBases) L.w_NoTurn_NoBases)) (ea_cons (ev_cb (ea_cons (ev_var rfl) (ea_cons ev_c ea_nil)) (rc_isX L.i_NoTurn (rel_ref L.c_NoRow) L.w_NoTurn_NoRow)) (ea_cons (ev_cb (ea_cons (ev_var rfl) (ea_cons ev_c ea_nil)) (rc_isX L.i_NoTurn (rel_ref L.c_NoNumber) L.w_NoTurn_NoNumber)) (ea_cons (ev_cb (ea_cons (ev_var rfl) (ea_cons ev_c ea_nil)) (rc_isX L.i_NoTurn (rel_ref L.c_NoPlace) L.w_NoTurn_NoPlace)) ea_nil))))) (by show 4 ≤ 100000; decide)) fun f1 H11 hf1 e11 h11 => ?_
      walk_at "ns"
      refine q_asgL (el_cat (ys := [V.bl true, V.bl false, V.bl false]) (eh_old (ev_var rfl) h11) (eh_new (el_lst (vs := [V.bl true, V.bl false, V.bl false]) ((ea_cons (ev_cb (ea_cons (ev_var rfl) (ea_cons ev_c ea_nil)) (rc_isX L.i_NoTurn (rel_ref L.c_NoTurn) L.w_NoTurn_NoTurn)) (ea_cons (ev_cb (ea_cons (ev_var rfl) (ea_cons ev_c ea_nil)) (rc_isX L.i_NoTurn (rel_ref L.c_OutOfRoom) L.w_NoTurn_OutOfRoom)) (ea_cons (ev_cb (ea_cons (ev_var rfl) (ea_cons ev_c ea_nil)) (rc_isX L.i_NoTurn (rel_ref L.c_Lost) L.w_NoTurn_Lost)) ea_nil)))) (by show 3 ≤ 100000; decide))) (by show 7 ≤ 100000; decide)) fun f2 H12 hf2 e12 h12 => ?_
      walk_at "ns"
      refine s_ret (v := .bl true) (ev_is (ev_andV (a := true) (b := true) (ev_cb (ea_cons (ev_var rfl) (ea_cons ev_c ea_nil)) (rc_isX L.i_NoTurn (rel_ty _) L.v_NoTurn)) (fun _ => ev_eqB (xs := (List.range 7).map fun i => decide (i = 4)) (by decide +kernel) (eh_old (ev_var rfl) h12)
        (eh_new (by
          rw [← hot7 4]
          exact el_lcR1 (n := 7) (t := tYes) (fun _ => true) (fun i => .bl (decide (V.int (i : Int) = V.int ((4 : Nat) : Int)))) (ea_cons ev_c ea_nil) (by decide) (fun _ => rfl) (fun _ _ _ _ H1 _ Q q => q H1 (Ex.refl H1)) (fun i H1 e hi _ => ev_op (ev_var rfl) (ev_var rfl) (rv_eq rfl)))))) rfl) fun H13 _ => q H13
    · refine ⟨true, exm_yes L.s_RestError L.h_RestError L.t_RestError L.u_OutOfRoom_RestError, fun _ xe hxe => ?_, fun z => nomatch z⟩
      dsimp only
      walk_at "ns"
      refine q_asgL (el_lst (vs := [V.bl false, V.bl false, V.bl false, V.bl false]) ((ea_cons (ev_cb (ea_cons (ev_var rfl) (ea_cons ev_c ea_nil)) (rc_isX L.i_OutOfRoom (rel_ref L.c_NoBases) L.w_OutOfRoom_NoBases)) (ea_cons (ev_cb (ea_cons (ev_var rfl) (ea_cons ev_c ea_nil)) (rc_isX L.i_OutOfRoom (rel_ref L.c_NoRow) L.w_OutOfRoom_NoRow)) (ea_cons (ev_cb (ea_cons (ev_var rfl) (ea_cons ev_c ea_nil)) (rc_isX L.i_OutOfRoom (rel_ref L.c_NoNumber) L.w_OutOfRoom_NoNumber)) (ea_cons (ev_cb (ea_cons (ev_var rfl) (ea_cons ev_c ea_nil)) (rc_isX L.i_OutOfRoom (rel_ref L.c_NoPlace) L.w_OutOfRoom_NoPlace)) ea_nil))))) (by show 4 ≤ 100000; decide)) fun f1 H11 hf1 e11 h11 => ?_
      walk_at "ns"
      refine q_asgL (el_cat (ys := [V.bl false, V.bl true, V.bl false]) (eh_old (ev_var rfl) h11) (eh_new (el_lst (vs := [V.bl false, V.bl true, V.bl false]) ((ea_cons (ev_cb (ea_cons (ev_var rfl) (ea_cons ev_c ea_nil)) (rc_isX L.i_OutOfRoom (rel_ref L.c_NoTurn) L.w_OutOfRoom_NoTurn)) (ea_cons (ev_cb (ea_cons (ev_var rfl) (ea_cons ev_c ea_nil)) (rc_isX L.i_OutOfRoom (rel_ref L.c_OutOfRoom) L.w_OutOfRoom_OutOfRoom)) (ea_cons (ev_cb (ea_cons (ev_var rfl) (ea_cons ev_c ea_nil)) (rc_isX L.i_OutOfRoom (rel_ref L.c_Lost) L.w_OutOfRoom_Lost)) ea_nil)))) (by show 3 ≤ 100000; decide))) (by show 7 ≤ 100000; decide)) fun f2 H12 hf2 e12 h12 => ?_
      walk_at "ns"
      refine s_ret (v := .bl true) (ev_is (ev_andV (a := true) (b := true) (ev_cb (ea_cons (ev_var rfl) (ea_cons ev_c ea_nil)) (rc_isX L.i_OutOfRoom (rel_ty _) L.v_OutOfRoom)) (fun _ => ev_eqB (xs := (List.range 7).map fun i => decide (i = 5)) (by decide +kernel) (eh_old (ev_var rfl) h12)
        (eh_new (by
          rw [← hot7 5]
          exact el_lcR1 (n := 7) (t := tYes) (fun _ => true) (fun i => .bl (decide (V.int (i : Int) = V.int ((5 : Nat) : Int)))) (ea_cons ev_c ea_nil) (by decide) (fun _ => rfl) (fun _ _ _ _ H1 _ Q q => q H1 (Ex.refl H1)) (fun i H1 e hi _ => ev_op (ev_var rfl) (ev_var rfl) (rv_eq rfl)))))) rfl) fun H13 _ => q H13
    · refine ⟨true, exm_yes L.s_RestError L.h_RestError L.t_RestError L.u_Lost_RestError, fun _ xe hxe => ?_, fun z => nomatch z⟩
      dsimp only
      walk_at "ns"
      refine q_asgL (el_lst (vs := [V.bl false, V.bl false, V.bl false, V.bl false]) ((ea_cons (ev_cb (ea_cons (ev_var rfl) (ea_cons ev_c ea_nil)) (rc_isX L.i_Lost (rel_ref L.c_NoBases) L.w_Lost_NoBases)) (ea_cons (ev_cb (ea_cons (ev_var rfl) (ea_cons ev_c ea_nil)) (rc_isX L.i_Lost (rel_ref L.c_NoRow) L.w_Lost_NoRow)) (ea_cons (ev_cb (ea_cons (ev_var rfl) (ea_cons ev_c ea_nil)) (rc_isX L.i_Lost (rel_ref L.c_NoNumber) L.w_Lost_NoNumber)) (ea_cons (ev_cb (ea_cons (ev_var rfl) (ea_cons ev_c ea_nil)) (rc_isX L.i_Lost (rel_ref L.c_NoPlace) L.w_Lost_NoPlace)) ea_nil))))) (by show 4 ≤ 100000; decide)) fun f1 H11 hf1 e11 h11 => ?_
      walk_at "ns"
      refine q_asgL (el_cat (ys := [V.bl false, V.bl false, V.bl true]) (eh_old (ev_var rfl) h11) (eh_new (el_lst (vs := [V.bl false, V.bl false, V.bl true]) ((ea_cons (ev_cb (ea_cons (ev_var rfl) (ea_cons ev_c ea_nil)) (rc_isX L.i_Lost (rel_ref L.c_NoTurn) L.w_Lost_NoTurn)) (ea_cons (ev_cb (ea_cons (ev_var rfl) (ea_cons ev_c ea_nil)) (rc_isX L.i_Lost (rel_ref L.c_OutOfRoom) L.w_Lost_OutOfRoom)) (ea_cons (ev_cb (ea_cons (ev_var rfl) (ea_cons ev_c ea_nil)) (rc_isX L.i_Lost (rel_ref L.c_Lost) L.w_Lost_Lost)) ea_nil)))) (by show 3 ≤ 100000; decide))) (by show 7 ≤ 100000; decide)) fun f2 H12 hf2 e12 h12 => ?_
      walk_at "ns"
      refine s_ret (v := .bl true) (ev_is (ev_andV (a := true) (b := true) (ev_cb (ea_cons (ev_var rfl) (ea_cons ev_c ea_nil)) (rc_isX L.i_Lost (rel_ty _) L.v_Lost)) (fun _ => ev_eqB (xs := (List.range 7).map fun i => decide (i = 6)) (by decide +kernel) (eh_old (ev_var rfl) h12)
        (eh_new (by
          rw [← hot7 6]
          exact el_lcR1 (n := 7) (t := tYes) (fun _ => true) (fun i => .bl (decide (V.int (i : Int) = V.int ((6 : Nat) : Int)))) (ea_cons ev_c ea_nil) (by decide) (fun _ => rfl) (fun _ _ _ _ H1 _ Q q => q H1 (Ex.refl H1)) (fun i H1 e hi _ => ev_op (ev_var rfl) (ev_var rfl) (rv_eq rfl)))))) rfl) fun H13 _ => q H13
end
end Rk
namespace Rk
open PySem PySem.Spec PyProof.Rows L2 Evl
section
variable {P : Program} {w : World} {K : PySem.W.Frag} {mg : Str → Option Value} {base : Heap}
theorem all_mk {l : PySem.W.OpenLaw} {w : World} {K : PySem.W.Frag} {h : Heap} {mg : Str → Option Value} {fa f_told_by_others f_without f_refilled f_common f_turned f_need_bases f___init__ f_room f_need_row f_need_number f_rests f_led f_figures f_tells f_number f__law_cell_at f__law_bases f__law_asked f_law c_RestError c_NoBases c_NoRow c_NoNumber c_NoPlace c_NoTurn c_OutOfRoom c_Lost C : Addr} (X : K.In h) (G : h.Ns mainGlobals mg) (hfa : mg "law" = some (.ref fa))
    {od_told_by_others an_told_by_others od_without an_without od_refilled an_refilled od_common an_common od_turned an_turned od_need_bases an_need_bases od___init__ an___init__ od_room an_room od_need_row an_need_row od_need_number an_need_number od_rests an_rests od_led an_led od_figures an_figures od_tells an_tells od_number an_number od__law_cell_at an__law_cell_at od__law_bases an__law_bases od__law_asked an__law_asked od_law an_law : Option Addr} {sl_told_by_others sl_without sl_refilled sl_common sl_turned sl_need_bases sl___init__ sl_room sl_need_row sl_need_number sl_rests sl_led sl_figures sl_tells sl_number sl__law_cell_at sl__law_bases sl__law_asked sl_law : Array (Option Value)} {oc_told_by_others kV_told_by_others dc_told_by_others pm_told_by_others cd_told_by_others ct_told_by_others oc_without kV_without dc_without pm_without cd_without ct_without oc_refilled kV_refilled dc_refilled pm_refilled cd_refilled ct_refilled oc_common kV_common dc_common pm_common cd_common ct_common oc_turned kV_turned dc_turned pm_turned cd_turned ct_turned oc_need_bases kV_need_bases dc_need_bases pm_need_bases cd_need_bases ct_need_bases oc___init__ kV___init__ dc___init__ pm___init__ cd___init__ ct___init__ oc_room kV_room dc_room pm_room cd_room ct_room oc_need_row kV_need_row dc_need_row pm_need_row cd_need_row ct_need_row oc_need_number kV_need_number dc_need_number pm_need_number cd_need_number ct_need_number oc_rests kV_rests dc_rests pm_rests cd_rests ct_rests oc_led kV_led dc_led pm_led cd_led ct_led oc_figures kV_figures dc_figures pm_figures cd_figures ct_figures oc_tells kV_tells dc_tells pm_tells cd_tells ct_tells oc_number kV_number dc_number pm_number cd_number ct_number oc__law_cell_at kV__law_cell_at dc__law_cell_at pm__law_cell_at cd__law_cell_at ct__law_cell_at oc__law_bases kV__law_bases dc__law_bases pm__law_bases cd__law_bases ct__law_bases oc__law_asked kV__law_asked dc__law_asked pm__law_asked cd__law_asked ct__law_asked oc_law kV_law dc_law pm_law cd_law ct_law : Value} {t_LEAST t_MOST t_FEWEST t_SO_MANY : Tok}
    (aC : PySem.W.nsIn K mainGlobals "Board" = some (some (.ref C)))
    (a_told_by_others : PySem.W.nsIn K mainGlobals "told_by_others" = some (some (.ref f_told_by_others)))
    (l_told_by_others : K.lookup f_told_by_others = some ⟨oc_told_by_others, od_told_by_others, .func (PySem.W.fnOf "told_by_others" "told_by_others" (defArgs s_told_by_others) (defBody s_told_by_others) (defScope s_told_by_others) .none kV_told_by_others dc_told_by_others pm_told_by_others an_told_by_others cd_told_by_others ct_told_by_others), sl_told_by_others⟩)
    (q_told_by_others : PySem.W.codeIn K cd_told_by_others "told_by_others" = true)
    (k_told_by_others : PySem.W.keepIn K (.ref f_told_by_others) = true)
    (a_without : PySem.W.nsIn K mainGlobals "without" = some (some (.ref f_without)))
    (l_without : K.lookup f_without = some ⟨oc_without, od_without, .func (PySem.W.fnOf "without" "without" (defArgs s_without) (defBody s_without) (defScope s_without) .none kV_without dc_without pm_without an_without cd_without ct_without), sl_without⟩)
    (q_without : PySem.W.codeIn K cd_without "without" = true)
    (k_without : PySem.W.keepIn K (.ref f_without) = true)
    (a_refilled : PySem.W.nsIn K mainGlobals "refilled" = some (some (.ref f_refilled)))
    (l_refilled : K.lookup f_refilled = some ⟨oc_refilled, od_refilled, .func (PySem.W.fnOf "refilled" "refilled" (defArgs s_refilled) (defBody s_refilled) (defScope s_refilled) .none kV_refilled dc_refilled pm_refilled an_refilled cd_refilled ct_refilled), sl_refilled⟩)
    (q_refilled : PySem.W.codeIn K cd_refilled "refilled" = true)
    (k_refilled : PySem.W.keepIn K (.ref f_refilled) = true)
    (a_common : PySem.W.nsIn K mainGlobals "common" = some (some (.ref f_common)))
    (l_common : K.lookup f_common = some ⟨oc_common, od_common, .func (PySem.W.fnOf "common" "common" (defArgs s_common) (defBody s_common) (defScope s_common) .none kV_common dc_common pm_common an_common cd_common ct_common), sl_common⟩)
    (q_common : PySem.W.codeIn K cd_common "common" = true)
    (k_common : PySem.W.keepIn K (.ref f_common) = true)
    (a_turned : PySem.W.nsIn K mainGlobals "turned" = some (some (.ref f_turned)))
    (l_turned : K.lookup f_turned = some ⟨oc_turned, od_turned, .func (PySem.W.fnOf "turned" "turned" (defArgs s_turned) (defBody s_turned) (defScope s_turned) .none kV_turned dc_turned pm_turned an_turned cd_turned ct_turned), sl_turned⟩)
    (q_turned : PySem.W.codeIn K cd_turned "turned" = true)
    (k_turned : PySem.W.keepIn K (.ref f_turned) = true)
    (a_need_bases : PySem.W.nsIn K mainGlobals "need_bases" = some (some (.ref f_need_bases)))
    (l_need_bases : K.lookup f_need_bases = some ⟨oc_need_bases, od_need_bases, .func (PySem.W.fnOf "need_bases" "need_bases" (defArgs s_need_bases) (defBody s_need_bases) (defScope s_need_bases) .none kV_need_bases dc_need_bases pm_need_bases an_need_bases cd_need_bases ct_need_bases), sl_need_bases⟩)
    (q_need_bases : PySem.W.codeIn K cd_need_bases "need_bases" = true)
    (k_need_bases : PySem.W.keepIn K (.ref f_need_bases) = true)
    (a___init__ : PySem.W.findIn K (.ref C) "__init__" = some (some (.ref f___init__)))
    (i___init__ : PySem.W.isFn K (.ref f___init__) = true)
    (l___init__ : K.lookup f___init__ = some ⟨oc___init__, od___init__, .func (PySem.W.fnOf "__init__" "Board.__init__" (defArgs s___init__) (defBody s___init__) (defScope s___init__) .none kV___init__ dc___init__ pm___init__ an___init__ cd___init__ ct___init__), sl___init__⟩)
    (q___init__ : PySem.W.codeIn K cd___init__ "Board.__init__" = true)
    (k___init__ : PySem.W.keepIn K (.ref f___init__) = true)
    (a_room : PySem.W.findIn K (.ref C) "room" = some (some (.ref f_room)))
    (i_room : PySem.W.isFn K (.ref f_room) = true)
    (l_room : K.lookup f_room = some ⟨oc_room, od_room, .func (PySem.W.fnOf "room" "Board.room" (defArgs s_room) (defBody s_room) (defScope s_room) .none kV_room dc_room pm_room an_room cd_room ct_room), sl_room⟩)
    (q_room : PySem.W.codeIn K cd_room "Board.room" = true)
    (k_room : PySem.W.keepIn K (.ref f_room) = true)
    (a_need_row : PySem.W.findIn K (.ref C) "need_row" = some (some (.ref f_need_row)))
    (i_need_row : PySem.W.isFn K (.ref f_need_row) = true)
    (l_need_row : K.lookup f_need_row = some ⟨oc_need_row, od_need_row, .func (PySem.W.fnOf "need_row" "Board.need_row" (defArgs s_need_row) (defBody s_need_row) (defScope s_need_row) .none kV_need_row dc_need_row pm_need_row an_need_row cd_need_row ct_need_row), sl_need_row⟩)
    (q_need_row : PySem.W.codeIn K cd_need_row "Board.need_row" = true)
    (k_need_row : PySem.W.keepIn K (.ref f_need_row) = true)
    (a_need_number : PySem.W.findIn K (.ref C) "need_number" = some (some (.ref f_need_number)))
    (i_need_number : PySem.W.isFn K (.ref f_need_number) = true)
    (l_need_number : K.lookup f_need_number = some ⟨oc_need_number, od_need_number, .func (PySem.W.fnOf "need_number" "Board.need_number" (defArgs s_need_number) (defBody s_need_number) (defScope s_need_number) .none kV_need_number dc_need_number pm_need_number an_need_number cd_need_number ct_need_number), sl_need_number⟩)
    (q_need_number : PySem.W.codeIn K cd_need_number "Board.need_number" = true)
    (k_need_number : PySem.W.keepIn K (.ref f_need_number) = true)
    (a_rests : PySem.W.findIn K (.ref C) "rests" = some (some (.ref f_rests)))
    (i_rests : PySem.W.isFn K (.ref f_rests) = true)
    (l_rests : K.lookup f_rests = some ⟨oc_rests, od_rests, .func (PySem.W.fnOf "rests" "Board.rests" (defArgs s_rests) (defBody s_rests) (defScope s_rests) .none kV_rests dc_rests pm_rests an_rests cd_rests ct_rests), sl_rests⟩)
    (q_rests : PySem.W.codeIn K cd_rests "Board.rests" = true)
    (k_rests : PySem.W.keepIn K (.ref f_rests) = true)
    (a_led : PySem.W.findIn K (.ref C) "led" = some (some (.ref f_led)))
    (i_led : PySem.W.isFn K (.ref f_led) = true)
    (l_led : K.lookup f_led = some ⟨oc_led, od_led, .func (PySem.W.fnOf "led" "Board.led" (defArgs s_led) (defBody s_led) (defScope s_led) .none kV_led dc_led pm_led an_led cd_led ct_led), sl_led⟩)
    (q_led : PySem.W.codeIn K cd_led "Board.led" = true)
    (k_led : PySem.W.keepIn K (.ref f_led) = true)
    (a_figures : PySem.W.findIn K (.ref C) "figures" = some (some (.ref f_figures)))
    (i_figures : PySem.W.isFn K (.ref f_figures) = true)
    (l_figures : K.lookup f_figures = some ⟨oc_figures, od_figures, .func (PySem.W.fnOf "figures" "Board.figures" (defArgs s_figures) (defBody s_figures) (defScope s_figures) .none kV_figures dc_figures pm_figures an_figures cd_figures ct_figures), sl_figures⟩)
    (q_figures : PySem.W.codeIn K cd_figures "Board.figures" = true)
    (k_figures : PySem.W.keepIn K (.ref f_figures) = true)
    (a_tells : PySem.W.findIn K (.ref C) "tells" = some (some (.ref f_tells)))
    (i_tells : PySem.W.isFn K (.ref f_tells) = true)
    (l_tells : K.lookup f_tells = some ⟨oc_tells, od_tells, .func (PySem.W.fnOf "tells" "Board.tells" (defArgs s_tells) (defBody s_tells) (defScope s_tells) .none kV_tells dc_tells pm_tells an_tells cd_tells ct_tells), sl_tells⟩)
    (q_tells : PySem.W.codeIn K cd_tells "Board.tells" = true)
    (k_tells : PySem.W.keepIn K (.ref f_tells) = true)
    (a_number : PySem.W.findIn K (.ref C) "number" = some (some (.ref f_number)))
    (i_number : PySem.W.isFn K (.ref f_number) = true)
    (l_number : K.lookup f_number = some ⟨oc_number, od_number, .func (PySem.W.fnOf "number" "Board.number" (defArgs s_number) (defBody s_number) (defScope s_number) .none kV_number dc_number pm_number an_number cd_number ct_number), sl_number⟩)
    (q_number : PySem.W.codeIn K cd_number "Board.number" = true)
    (k_number : PySem.W.keepIn K (.ref f_number) = true)
    (a__law_cell_at : PySem.W.nsIn K mainGlobals "_law_cell_at" = some (some (.ref f__law_cell_at)))
    (l__law_cell_at : K.lookup f__law_cell_at = some ⟨oc__law_cell_at, od__law_cell_at, .func (PySem.W.fnOf "_law_cell_at" "_law_cell_at" (defArgs s__law_cell_at) (defBody s__law_cell_at) (defScope s__law_cell_at) .none kV__law_cell_at dc__law_cell_at pm__law_cell_at an__law_cell_at cd__law_cell_at ct__law_cell_at), sl__law_cell_at⟩)
    (q__law_cell_at : PySem.W.codeIn K cd__law_cell_at "_law_cell_at" = true)
    (k__law_cell_at : PySem.W.keepIn K (.ref f__law_cell_at) = true)
    (a__law_bases : PySem.W.nsIn K mainGlobals "_law_bases" = some (some (.ref f__law_bases)))
    (l__law_bases : K.lookup f__law_bases = some ⟨oc__law_bases, od__law_bases, .func (PySem.W.fnOf "_law_bases" "_law_bases" (defArgs s__law_bases) (defBody s__law_bases) (defScope s__law_bases) .none kV__law_bases dc__law_bases pm__law_bases an__law_bases cd__law_bases ct__law_bases), sl__law_bases⟩)
    (q__law_bases : PySem.W.codeIn K cd__law_bases "_law_bases" = true)
    (k__law_bases : PySem.W.keepIn K (.ref f__law_bases) = true)
    (a__law_asked : PySem.W.nsIn K mainGlobals "_law_asked" = some (some (.ref f__law_asked)))
    (l__law_asked : K.lookup f__law_asked = some ⟨oc__law_asked, od__law_asked, .func (PySem.W.fnOf "_law_asked" "_law_asked" (defArgs s__law_asked) (defBody s__law_asked) (defScope s__law_asked) .none kV__law_asked dc__law_asked pm__law_asked an__law_asked cd__law_asked ct__law_asked), sl__law_asked⟩)
    (q__law_asked : PySem.W.codeIn K cd__law_asked "_law_asked" = true)
    (k__law_asked : PySem.W.keepIn K (.ref f__law_asked) = true)
    (a_law : PySem.W.nsIn K mainGlobals "law" = some (some (.ref f_law)))
    (l_law : K.lookup f_law = some ⟨oc_law, od_law, .func (PySem.W.fnOf "law" "law" (defArgs s_law) (defBody s_law) (defScope s_law) .none kV_law dc_law pm_law an_law cd_law ct_law), sl_law⟩)
    (q_law : PySem.W.codeIn K cd_law "law" = true)
    (k_law : PySem.W.keepIn K (.ref f_law) = true)
    (pg : PySem.W.plainGet K C Str.empty = true)
    (hd : PySem.W.hasDictIn K C = true)
    (po : PySem.W.plainOver K C = true)
    (sa : PySem.W.findIn K (.ref C) "__setattr__" = some (some (.builtin "object.__setattr__")))
    (mk : PySem.W.makesIn K C = true)
    (kc : PySem.W.keepIn K (.ref C) = true)
    (nB : PySem.W.findIn K (.ref C) "bases" = some none)
    (nT : PySem.W.findIn K (.ref C) "turns" = some none)
    (g_RestError : PySem.W.nsIn K mainGlobals "RestError" = some (some (.ref c_RestError)))
    (x_RestError : PySem.W.excIn K c_RestError [.type "ValueError", .type "Exception", .type "BaseException", .type "object"] "ValueError.__new__" = true)
    (e_RestError : PySem.W.keepIn K (.ref c_RestError) = true)
    (s_RestError : PySem.W.subIn K (.ref c_RestError) (.type "BaseException") = some true)
    (t_RestError : PySem.W.typeIn K (.ref c_RestError) = some (.type "type"))
    (h_RestError : PySem.W.hasDictIn K c_RestError = true)
    (g_NoBases : PySem.W.nsIn K mainGlobals "NoBases" = some (some (.ref c_NoBases)))
    (x_NoBases : PySem.W.excIn K c_NoBases [.type "ValueError", .type "Exception", .type "BaseException", .type "object"] "ValueError.__new__" = true)
    (e_NoBases : PySem.W.keepIn K (.ref c_NoBases) = true)
    (s_NoBases : PySem.W.subIn K (.ref c_NoBases) (.type "BaseException") = some true)
    (t_NoBases : PySem.W.typeIn K (.ref c_NoBases) = some (.type "type"))
    (h_NoBases : PySem.W.hasDictIn K c_NoBases = true)
    (g_NoRow : PySem.W.nsIn K mainGlobals "NoRow" = some (some (.ref c_NoRow)))
    (x_NoRow : PySem.W.excIn K c_NoRow [.type "ValueError", .type "Exception", .type "BaseException", .type "object"] "ValueError.__new__" = true)
    (e_NoRow : PySem.W.keepIn K (.ref c_NoRow) = true)
    (s_NoRow : PySem.W.subIn K (.ref c_NoRow) (.type "BaseException") = some true)
    (t_NoRow : PySem.W.typeIn K (.ref c_NoRow) = some (.type "type"))
    (h_NoRow : PySem.W.hasDictIn K c_NoRow = true)
    (g_NoNumber : PySem.W.nsIn K mainGlobals "NoNumber" = some (some (.ref c_NoNumber)))
    (x_NoNumber : PySem.W.excIn K c_NoNumber [.type "ValueError", .type "Exception", .type "BaseException", .type "object"] "ValueError.__new__" = true)
    (e_NoNumber : PySem.W.keepIn K (.ref c_NoNumber) = true)
    (s_NoNumber : PySem.W.subIn K (.ref c_NoNumber) (.type "BaseException") = some true)
    (t_NoNumber : PySem.W.typeIn K (.ref c_NoNumber) = some (.type "type"))
    (h_NoNumber : PySem.W.hasDictIn K c_NoNumber = true)
    (g_NoPlace : PySem.W.nsIn K mainGlobals "NoPlace" = some (some (.ref c_NoPlace)))
    (x_NoPlace : PySem.W.excIn K c_NoPlace [.type "ValueError", .type "Exception", .type "BaseException", .type "object"] "ValueError.__new__" = true)
    (e_NoPlace : PySem.W.keepIn K (.ref c_NoPlace) = true)
    (s_NoPlace : PySem.W.subIn K (.ref c_NoPlace) (.type "BaseException") = some true)
    (t_NoPlace : PySem.W.typeIn K (.ref c_NoPlace) = some (.type "type"))
    (h_NoPlace : PySem.W.hasDictIn K c_NoPlace = true)
    (g_NoTurn : PySem.W.nsIn K mainGlobals "NoTurn" = some (some (.ref c_NoTurn)))
    (x_NoTurn : PySem.W.excIn K c_NoTurn [.type "ValueError", .type "Exception", .type "BaseException", .type "object"] "ValueError.__new__" = true)
    (e_NoTurn : PySem.W.keepIn K (.ref c_NoTurn) = true)
    (s_NoTurn : PySem.W.subIn K (.ref c_NoTurn) (.type "BaseException") = some true)
    (t_NoTurn : PySem.W.typeIn K (.ref c_NoTurn) = some (.type "type"))
    (h_NoTurn : PySem.W.hasDictIn K c_NoTurn = true)
    (g_OutOfRoom : PySem.W.nsIn K mainGlobals "OutOfRoom" = some (some (.ref c_OutOfRoom)))
    (x_OutOfRoom : PySem.W.excIn K c_OutOfRoom [.type "ValueError", .type "Exception", .type "BaseException", .type "object"] "ValueError.__new__" = true)
    (e_OutOfRoom : PySem.W.keepIn K (.ref c_OutOfRoom) = true)
    (s_OutOfRoom : PySem.W.subIn K (.ref c_OutOfRoom) (.type "BaseException") = some true)
    (t_OutOfRoom : PySem.W.typeIn K (.ref c_OutOfRoom) = some (.type "type"))
    (h_OutOfRoom : PySem.W.hasDictIn K c_OutOfRoom = true)
    (g_Lost : PySem.W.nsIn K mainGlobals "Lost" = some (some (.ref c_Lost)))
    (x_Lost : PySem.W.excIn K c_Lost [.type "ValueError", .type "Exception", .type "BaseException", .type "object"] "ValueError.__new__" = true)
    (e_Lost : PySem.W.keepIn K (.ref c_Lost) = true)
    (s_Lost : PySem.W.subIn K (.ref c_Lost) (.type "BaseException") = some true)
    (t_Lost : PySem.W.typeIn K (.ref c_Lost) = some (.type "type"))
    (h_Lost : PySem.W.hasDictIn K c_Lost = true)
    (u_Lost_RestError : PySem.W.subIn K (.ref c_Lost) (.ref c_RestError) = some true)
    (u_NoBases_RestError : PySem.W.subIn K (.ref c_NoBases) (.ref c_RestError) = some true)
    (u_NoNumber_RestError : PySem.W.subIn K (.ref c_NoNumber) (.ref c_RestError) = some true)
    (u_NoPlace_RestError : PySem.W.subIn K (.ref c_NoPlace) (.ref c_RestError) = some true)
    (u_NoRow_RestError : PySem.W.subIn K (.ref c_NoRow) (.ref c_RestError) = some true)
    (u_NoTurn_RestError : PySem.W.subIn K (.ref c_NoTurn) (.ref c_RestError) = some true)
    (u_OutOfRoom_RestError : PySem.W.subIn K (.ref c_OutOfRoom) (.ref c_RestError) = some true)
    (ig_Lost : PySem.W.findIn K (.ref c_Lost) "__getattribute__" = some (some (.builtin "BaseException.__getattribute__")))
    (ik_Lost : PySem.W.findIn K (.ref c_Lost) "__getattr__" = some none)
    (ia_Lost : PySem.W.findIn K (.ref c_Lost) "__class__" = some (some (.builtin "object.__class__")))
    (im_Lost : PySem.W.mroIn K c_Lost (.type "object") = some true)
    (v_Lost : PySem.W.subIn K (.ref c_Lost) (.type "ValueError") = some true)
    (ig_NoBases : PySem.W.findIn K (.ref c_NoBases) "__getattribute__" = some (some (.builtin "BaseException.__getattribute__")))
    (ik_NoBases : PySem.W.findIn K (.ref c_NoBases) "__getattr__" = some none)
    (ia_NoBases : PySem.W.findIn K (.ref c_NoBases) "__class__" = some (some (.builtin "object.__class__")))
    (im_NoBases : PySem.W.mroIn K c_NoBases (.type "object") = some true)
    (v_NoBases : PySem.W.subIn K (.ref c_NoBases) (.type "ValueError") = some true)
    (ig_NoNumber : PySem.W.findIn K (.ref c_NoNumber) "__getattribute__" = some (some (.builtin "BaseException.__getattribute__")))
    (ik_NoNumber : PySem.W.findIn K (.ref c_NoNumber) "__getattr__" = some none)
    (ia_NoNumber : PySem.W.findIn K (.ref c_NoNumber) "__class__" = some (some (.builtin "object.__class__")))
    (im_NoNumber : PySem.W.mroIn K c_NoNumber (.type "object") = some true)
    (v_NoNumber : PySem.W.subIn K (.ref c_NoNumber) (.type "ValueError") = some true)
    (ig_NoPlace : PySem.W.findIn K (.ref c_NoPlace) "__getattribute__" = some (some (.builtin "BaseException.__getattribute__")))
    (ik_NoPlace : PySem.W.findIn K (.ref c_NoPlace) "__getattr__" = some none)
    (ia_NoPlace : PySem.W.findIn K (.ref c_NoPlace) "__class__" = some (some (.builtin "object.__class__")))
    (im_NoPlace : PySem.W.mroIn K c_NoPlace (.type "object") = some true)
    (v_NoPlace : PySem.W.subIn K (.ref c_NoPlace) (.type "ValueError") = some true)
    (ig_NoRow : PySem.W.findIn K (.ref c_NoRow) "__getattribute__" = some (some (.builtin "BaseException.__getattribute__")))
    (ik_NoRow : PySem.W.findIn K (.ref c_NoRow) "__getattr__" = some none)
    (ia_NoRow : PySem.W.findIn K (.ref c_NoRow) "__class__" = some (some (.builtin "object.__class__")))
    (im_NoRow : PySem.W.mroIn K c_NoRow (.type "object") = some true)
    (v_NoRow : PySem.W.subIn K (.ref c_NoRow) (.type "ValueError") = some true)
    (ig_NoTurn : PySem.W.findIn K (.ref c_NoTurn) "__getattribute__" = some (some (.builtin "BaseException.__getattribute__")))
    (ik_NoTurn : PySem.W.findIn K (.ref c_NoTurn) "__getattr__" = some none)
    (ia_NoTurn : PySem.W.findIn K (.ref c_NoTurn) "__class__" = some (some (.builtin "object.__class__")))
    (im_NoTurn : PySem.W.mroIn K c_NoTurn (.type "object") = some true)
    (v_NoTurn : PySem.W.subIn K (.ref c_NoTurn) (.type "ValueError") = some true)
    (ig_OutOfRoom : PySem.W.findIn K (.ref c_OutOfRoom) "__getattribute__" = some (some (.builtin "BaseException.__getattribute__")))
    (ik_OutOfRoom : PySem.W.findIn K (.ref c_OutOfRoom) "__getattr__" = some none)
    (ia_OutOfRoom : PySem.W.findIn K (.ref c_OutOfRoom) "__class__" = some (some (.builtin "object.__class__")))
    (im_OutOfRoom : PySem.W.mroIn K c_OutOfRoom (.type "object") = some true)
    (v_OutOfRoom : PySem.W.subIn K (.ref c_OutOfRoom) (.type "ValueError") = some true)
    (in_ : PySem.W.specialIn K (.builtin "object.__class__") "__get__" = some (some (.builtin "getset_descriptor.__get__")))
    (it_ : PySem.W.takesIn K (.builtin "object.__class__") = some true)
    (j_Lost : PySem.W.isClsIn K c_Lost = true)
    (j_NoBases : PySem.W.isClsIn K c_NoBases = true)
    (j_NoNumber : PySem.W.isClsIn K c_NoNumber = true)
    (j_NoPlace : PySem.W.isClsIn K c_NoPlace = true)
    (j_NoRow : PySem.W.isClsIn K c_NoRow = true)
    (j_NoTurn : PySem.W.isClsIn K c_NoTurn = true)
    (j_OutOfRoom : PySem.W.isClsIn K c_OutOfRoom = true)
    (w_Lost_Lost : PySem.W.subIn K (.ref c_Lost) (.ref c_Lost) = some true)
    (w_Lost_NoBases : PySem.W.subIn K (.ref c_Lost) (.ref c_NoBases) = some false)
    (w_Lost_NoNumber : PySem.W.subIn K (.ref c_Lost) (.ref c_NoNumber) = some false)
    (w_Lost_NoPlace : PySem.W.subIn K (.ref c_Lost) (.ref c_NoPlace) = some false)
    (w_Lost_NoRow : PySem.W.subIn K (.ref c_Lost) (.ref c_NoRow) = some false)
    (w_Lost_NoTurn : PySem.W.subIn K (.ref c_Lost) (.ref c_NoTurn) = some false)
    (w_Lost_OutOfRoom : PySem.W.subIn K (.ref c_Lost) (.ref c_OutOfRoom) = some false)
    (w_NoBases_Lost : PySem.W.subIn K (.ref c_NoBases) (.ref c_Lost) = some false)
    (w_NoBases_NoBases : PySem.W.subIn K (.ref c_NoBases) (.ref c_NoBases) = some true)
    (w_NoBases_NoNumber : PySem.W.subIn K (.ref c_NoBases) (.ref c_NoNumber) = some false)
    (w_NoBases_NoPlace : PySem.W.subIn K (.ref c_NoBases) (.ref c_NoPlace) = some false)
    (w_NoBases_NoRow : PySem.W.subIn K (.ref c_NoBases) (.ref c_NoRow) = some false)
    (w_NoBases_NoTurn : PySem.W.subIn K (.ref c_NoBases) (.ref c_NoTurn) = some false)
    (w_NoBases_OutOfRoom : PySem.W.subIn K (.ref c_NoBases) (.ref c_OutOfRoom) = some false)
    (w_NoNumber_Lost : PySem.W.subIn K (.ref c_NoNumber) (.ref c_Lost) = some false)
    (w_NoNumber_NoBases : PySem.W.subIn K (.ref c_NoNumber) (.ref c_NoBases) = some false)
    (w_NoNumber_NoNumber : PySem.W.subIn K (.ref c_NoNumber) (.ref c_NoNumber) = some true)
    (w_NoNumber_NoPlace : PySem.W.subIn K (.ref c_NoNumber) (.ref c_NoPlace) = some false)
    (w_NoNumber_NoRow : PySem.W.subIn K (.ref c_NoNumber) (.ref c_NoRow) = some false)
    (w_NoNumber_NoTurn : PySem.W.subIn K (.ref c_NoNumber) (.ref c_NoTurn) = some false)
    (w_NoNumber_OutOfRoom : PySem.W.subIn K (.ref c_NoNumber) (.ref c_OutOfRoom) = some false)
    (w_NoPlace_Lost : PySem.W.subIn K (.ref c_NoPlace) (.ref c_Lost) = some false)
    (w_NoPlace_NoBases : PySem.W.subIn K (.ref c_NoPlace) (.ref c_NoBases) = some false)
    (w_NoPlace_NoNumber : PySem.W.subIn K (.ref c_NoPlace) (.ref c_NoNumber) = some false)
    (w_NoPlace_NoPlace : PySem.W.subIn K (.ref c_NoPlace) (.ref c_NoPlace) = some true)
    (w_NoPlace_NoRow : PySem.W.subIn K (.ref c_NoPlace) (.ref c_NoRow) = some false)
    (w_NoPlace_NoTurn : PySem.W.subIn K (.ref c_NoPlace) (.ref c_NoTurn) = some false)
    (w_NoPlace_OutOfRoom : PySem.W.subIn K (.ref c_NoPlace) (.ref c_OutOfRoom) = some false)
    (w_NoRow_Lost : PySem.W.subIn K (.ref c_NoRow) (.ref c_Lost) = some false)
    (w_NoRow_NoBases : PySem.W.subIn K (.ref c_NoRow) (.ref c_NoBases) = some false)
    (w_NoRow_NoNumber : PySem.W.subIn K (.ref c_NoRow) (.ref c_NoNumber) = some false)
    (w_NoRow_NoPlace : PySem.W.subIn K (.ref c_NoRow) (.ref c_NoPlace) = some false)
    (w_NoRow_NoRow : PySem.W.subIn K (.ref c_NoRow) (.ref c_NoRow) = some true)
    (w_NoRow_NoTurn : PySem.W.subIn K (.ref c_NoRow) (.ref c_NoTurn) = some false)
    (w_NoRow_OutOfRoom : PySem.W.subIn K (.ref c_NoRow) (.ref c_OutOfRoom) = some false)
    (w_NoTurn_Lost : PySem.W.subIn K (.ref c_NoTurn) (.ref c_Lost) = some false)
    (w_NoTurn_NoBases : PySem.W.subIn K (.ref c_NoTurn) (.ref c_NoBases) = some false)
    (w_NoTurn_NoNumber : PySem.W.subIn K (.ref c_NoTurn) (.ref c_NoNumber) = some false)
    (w_NoTurn_NoPlace : PySem.W.subIn K (.ref c_NoTurn) (.ref c_NoPlace) = some false)
    (w_NoTurn_NoRow : PySem.W.subIn K (.ref c_NoTurn) (.ref c_NoRow) = some false)
    (w_NoTurn_NoTurn : PySem.W.subIn K (.ref c_NoTurn) (.ref c_NoTurn) = some true)
    (w_NoTurn_OutOfRoom : PySem.W.subIn K (.ref c_NoTurn) (.ref c_OutOfRoom) = some false)
    (w_OutOfRoom_Lost : PySem.W.subIn K (.ref c_OutOfRoom) (.ref c_Lost) = some false)
    (w_OutOfRoom_NoBases : PySem.W.subIn K (.ref c_OutOfRoom) (.ref c_NoBases) = some false)
    (w_OutOfRoom_NoNumber : PySem.W.subIn K (.ref c_OutOfRoom) (.ref c_NoNumber) = some false)
    (w_OutOfRoom_NoPlace : PySem.W.subIn K (.ref c_OutOfRoom) (.ref c_NoPlace) = some false)
    (w_OutOfRoom_NoRow : PySem.W.subIn K (.ref c_OutOfRoom) (.ref c_NoRow) = some false)
    (w_OutOfRoom_NoTurn : PySem.W.subIn K (.ref c_OutOfRoom) (.ref c_NoTurn) = some false)
    (w_OutOfRoom_OutOfRoom : PySem.W.subIn K (.ref c_OutOfRoom) (.ref c_OutOfRoom) = some true)
    (k_LEAST : PySem.W.nsIn K mainGlobals "LEAST" = some (some (.int 3 t_LEAST)))
    (k_MOST : PySem.W.nsIn K mainGlobals "MOST" = some (some (.int 999999 t_MOST)))
    (k_FEWEST : PySem.W.nsIn K mainGlobals "FEWEST" = some (some (.int 3 t_FEWEST)))
    (k_SO_MANY : PySem.W.nsIn K mainGlobals "SO_MANY" = some (some (.int 14 t_SO_MANY)))
    (z_ValueError : PySem.W.nsIn K mainGlobals "ValueError" = some none)
    (z_abs : PySem.W.nsIn K mainGlobals "abs" = some none)
    (z_isinstance : PySem.W.nsIn K mainGlobals "isinstance" = some none)
    (z_len : PySem.W.nsIn K mainGlobals "len" = some none)
    (z_list : PySem.W.nsIn K mainGlobals "list" = some none)
    (z_range : PySem.W.nsIn K mainGlobals "range" = some none)
    (z_sorted : PySem.W.nsIn K mainGlobals "sorted" = some none)
    (z_zip : PySem.W.nsIn K mainGlobals "zip" = some none) :
    ∃ fd : FuncData, (∀ (s : Shared) (v : Value), BindsTo s fd ⟨[v], []⟩ [("_law_script", v)]) ∧ ∀ base : Heap, K.In base → base.Ns mainGlobals mg → FnOk l.prog w K mg base (L2N.CX l.prog w) 7 fa fd ["_law_script"] (sp_law K) := by
  have e := hfa.symm.trans (PySem.W.mg_of X G a_law)
  cases e
  have F_told_by_others := fun_mk (st := s_told_by_others) l_told_by_others q_told_by_others k_told_by_others
  have F_without := fun_mk (st := s_without) l_without q_without k_without
  have F_refilled := fun_mk (st := s_refilled) l_refilled q_refilled k_refilled
  have F_common := fun_mk (st := s_common) l_common q_common k_common
  have F_turned := fun_mk (st := s_turned) l_turned q_turned k_turned
  have F_need_bases := fun_mk (st := s_need_bases) l_need_bases q_need_bases k_need_bases
  have F___init__ := fun_mk (st := s___init__) l___init__ q___init__ k___init__
  have F_room := fun_mk (st := s_room) l_room q_room k_room
  have F_need_row := fun_mk (st := s_need_row) l_need_row q_need_row k_need_row
  have F_need_number := fun_mk (st := s_need_number) l_need_number q_need_number k_need_number
  have F_rests := fun_mk (st := s_rests) l_rests q_rests k_rests
  have F_led := fun_mk (st := s_led) l_led q_led k_led
  have F_figures := fun_mk (st := s_figures) l_figures q_figures k_figures
  have F_tells := fun_mk (st := s_tells) l_tells q_tells k_tells
  have F_number := fun_mk (st := s_number) l_number q_number k_number
  have F__law_cell_at := fun_mk (st := s__law_cell_at) l__law_cell_at q__law_cell_at k__law_cell_at
  have F__law_bases := fun_mk (st := s__law_bases) l__law_bases q__law_bases k__law_bases
  have F__law_asked := fun_mk (st := s__law_asked) l__law_asked q__law_asked k__law_asked
  have F_law := fun_mk (st := s_law) l_law q_law k_law
  refine ⟨_, fun s v => ?_, fun base _ _ => ok_law (K := K) (mg := mg) { f_told_by_others := f_told_by_others, d_told_by_others := _, F_told_by_others := F_told_by_others, b_told_by_others := (F_told_by_others.binds (ps := ["board", "row", "place"]) fun _ _ _ _ _ _ us hl => match us, hl with | [_, _, _], _ => rfl), f_without := f_without, d_without := _, F_without := F_without, b_without := (F_without.binds (ps := ["board", "row", "place"]) fun _ _ _ _ _ _ us hl => match us, hl with | [_, _, _], _ => rfl), f_refilled := f_refilled, d_refilled := _, F_refilled := F_refilled, b_refilled := (F_refilled.binds (ps := ["board", "row", "place"]) fun _ _ _ _ _ _ us hl => match us, hl with | [_, _, _], _ => rfl), f_common := f_common, d_common := _, F_common := F_common, b_common := (F_common.binds (ps := ["one", "other"]) fun _ _ _ _ _ _ us hl => match us, hl with | [_, _], _ => rfl), f_turned := f_turned, d_turned := _, F_turned := F_turned, b_turned := (F_turned.binds (ps := ["number", "base"]) fun _ _ _ _ _ _ us hl => match us, hl with | [_, _], _ => rfl), f_need_bases := f_need_bases, d_need_bases := _, F_need_bases := F_need_bases, b_need_bases := (F_need_bases.binds (ps := ["bases"]) fun _ _ _ _ _ _ us hl => match us, hl with | [_], _ => rfl), f___init__ := f___init__, d___init__ := _, F___init__ := F___init__, b___init__ := (F___init__.binds (ps := ["self", "bases"]) fun _ _ _ _ _ _ us hl => match us, hl with | [_, _], _ => rfl), f_room := f_room, d_room := _, F_room := F_room, b_room := (F_room.binds (ps := ["self"]) fun _ _ _ _ _ _ us hl => match us, hl with | [_], _ => rfl), f_need_row := f_need_row, d_need_row := _, F_need_row := F_need_row, b_need_row := (F_need_row.binds (ps := ["self", "row"]) fun _ _ _ _ _ _ us hl => match us, hl with | [_, _], _ => rfl), f_need_number := f_need_number, d_need_number := _, F_need_number := F_need_number, b_need_number := (F_need_number.binds (ps := ["self", "row"]) fun _ _ _ _ _ _ us hl => match us, hl with | [_, _], _ => rfl), f_rests := f_rests, d_rests := _, F_rests := F_rests, b_rests := (F_rests.binds (ps := ["self", "number"]) fun _ _ _ _ _ _ us hl => match us, hl with | [_, _], _ => rfl), f_led := f_led, d_led := _, F_led := F_led, b_led := (F_led.binds (ps := ["self", "row"]) fun _ _ _ _ _ _ us hl => match us, hl with | [_, _], _ => rfl), f_figures := f_figures, d_figures := _, F_figures := F_figures, b_figures := (F_figures.binds (ps := ["self", "row"]) fun _ _ _ _ _ _ us hl => match us, hl with | [_, _], _ => rfl), f_tells := f_tells, d_tells := _, F_tells := F_tells, b_tells := (F_tells.binds (ps := ["self", "row"]) fun _ _ _ _ _ _ us hl => match us, hl with | [_, _], _ => rfl), f_number := f_number, d_number := _, F_number := F_number, b_number := (F_number.binds (ps := ["self", "row"]) fun _ _ _ _ _ _ us hl => match us, hl with | [_, _], _ => rfl), f__law_cell_at := f__law_cell_at, d__law_cell_at := _, F__law_cell_at := F__law_cell_at, b__law_cell_at := (F__law_cell_at.binds (ps := ["_law_script", "_law_k"]) fun _ _ _ _ _ _ us hl => match us, hl with | [_, _], _ => rfl), f__law_bases := f__law_bases, d__law_bases := _, F__law_bases := F__law_bases, b__law_bases := (F__law_bases.binds (ps := ["_law_one", "_law_other"]) fun _ _ _ _ _ _ us hl => match us, hl with | [_, _], _ => rfl), f__law_asked := f__law_asked, d__law_asked := _, F__law_asked := F__law_asked, b__law_asked := (F__law_asked.binds (ps := ["_law_kind", "_law_bases_here", "_law_row", "_law_wrong", "_law_at"]) fun _ _ _ _ _ _ us hl => match us, hl with | [_, _, _, _, _], _ => rfl), f_law := _, d_law := _, F_law := F_law, b_law := (F_law.binds (ps := ["_law_script"]) fun _ _ _ _ _ _ us hl => match us, hl with | [_], _ => rfl), C := C, cl := ⟨pg, hd, po, sa⟩, nB := nB, nT := nT, gC := PySem.W.mg_of X G aC, mkC := ⟨mk, a___init__, i___init__, kc⟩, g_told_by_others := PySem.W.mg_of X G a_told_by_others, k_told_by_others := k_told_by_others, g_without := PySem.W.mg_of X G a_without, k_without := k_without, g_refilled := PySem.W.mg_of X G a_refilled, k_refilled := k_refilled, g_common := PySem.W.mg_of X G a_common, k_common := k_common, g_turned := PySem.W.mg_of X G a_turned, k_turned := k_turned, g_need_bases := PySem.W.mg_of X G a_need_bases, k_need_bases := k_need_bases, m_room := ⟨a_room, i_room, k_room⟩, m_need_row := ⟨a_need_row, i_need_row, k_need_row⟩, m_need_number := ⟨a_need_number, i_need_number, k_need_number⟩, m_rests := ⟨a_rests, i_rests, k_rests⟩, m_led := ⟨a_led, i_led, k_led⟩, m_figures := ⟨a_figures, i_figures, k_figures⟩, m_tells := ⟨a_tells, i_tells, k_tells⟩, m_number := ⟨a_number, i_number, k_number⟩, g__law_cell_at := PySem.W.mg_of X G a__law_cell_at, k__law_cell_at := k__law_cell_at, g__law_bases := PySem.W.mg_of X G a__law_bases, k__law_bases := k__law_bases, g__law_asked := PySem.W.mg_of X G a__law_asked, k__law_asked := k__law_asked, g_law := PySem.W.mg_of X G a_law, k_law := k_law, c_RestError := c_RestError, g_RestError := PySem.W.mg_of X G g_RestError, x_RestError := x_RestError, e_RestError := e_RestError, s_RestError := s_RestError, t_RestError := t_RestError, h_RestError := h_RestError, c_NoBases := c_NoBases, g_NoBases := PySem.W.mg_of X G g_NoBases, x_NoBases := x_NoBases, e_NoBases := e_NoBases, s_NoBases := s_NoBases, t_NoBases := t_NoBases, h_NoBases := h_NoBases, c_NoRow := c_NoRow, g_NoRow := PySem.W.mg_of X G g_NoRow, x_NoRow := x_NoRow, e_NoRow := e_NoRow, s_NoRow := s_NoRow, t_NoRow := t_NoRow, h_NoRow := h_NoRow, c_NoNumber := c_NoNumber, g_NoNumber := PySem.W.mg_of X G g_NoNumber, x_NoNumber := x_NoNumber, e_NoNumber := e_NoNumber, s_NoNumber := s_NoNumber, t_NoNumber := t_NoNumber, h_NoNumber := h_NoNumber, c_NoPlace := c_NoPlace, g_NoPlace := PySem.W.mg_of X G g_NoPlace, x_NoPlace := x_NoPlace, e_NoPlace := e_NoPlace, s_NoPlace := s_NoPlace, t_NoPlace := t_NoPlace, h_NoPlace := h_NoPlace, c_NoTurn := c_NoTurn, g_NoTurn := PySem.W.mg_of X G g_NoTurn, x_NoTurn := x_NoTurn, e_NoTurn := e_NoTurn, s_NoTurn := s_NoTurn, t_NoTurn := t_NoTurn, h_NoTurn := h_NoTurn, c_OutOfRoom := c_OutOfRoom, g_OutOfRoom := PySem.W.mg_of X G g_OutOfRoom, x_OutOfRoom := x_OutOfRoom, e_OutOfRoom := e_OutOfRoom, s_OutOfRoom := s_OutOfRoom, t_OutOfRoom := t_OutOfRoom, h_OutOfRoom := h_OutOfRoom, c_Lost := c_Lost, g_Lost := PySem.W.mg_of X G g_Lost, x_Lost := x_Lost, e_Lost := e_Lost, s_Lost := s_Lost, t_Lost := t_Lost, h_Lost := h_Lost, u_Lost_RestError := u_Lost_RestError, u_NoBases_RestError := u_NoBases_RestError, u_NoNumber_RestError := u_NoNumber_RestError, u_NoPlace_RestError := u_NoPlace_RestError, u_NoRow_RestError := u_NoRow_RestError, u_NoTurn_RestError := u_NoTurn_RestError, u_OutOfRoom_RestError := u_OutOfRoom_RestError, i_Lost := ⟨ig_Lost, ik_Lost, s_Lost, h_Lost, ia_Lost, in_, it_, im_Lost⟩, v_Lost := kit_exT (by decide +kernel) v_Lost, i_NoBases := ⟨ig_NoBases, ik_NoBases, s_NoBases, h_NoBases, ia_NoBases, in_, it_, im_NoBases⟩, v_NoBases := kit_exT (by decide +kernel) v_NoBases, i_NoNumber := ⟨ig_NoNumber, ik_NoNumber, s_NoNumber, h_NoNumber, ia_NoNumber, in_, it_, im_NoNumber⟩, v_NoNumber := kit_exT (by decide +kernel) v_NoNumber, i_NoPlace := ⟨ig_NoPlace, ik_NoPlace, s_NoPlace, h_NoPlace, ia_NoPlace, in_, it_, im_NoPlace⟩, v_NoPlace := kit_exT (by decide +kernel) v_NoPlace, i_NoRow := ⟨ig_NoRow, ik_NoRow, s_NoRow, h_NoRow, ia_NoRow, in_, it_, im_NoRow⟩, v_NoRow := kit_exT (by decide +kernel) v_NoRow, i_NoTurn := ⟨ig_NoTurn, ik_NoTurn, s_NoTurn, h_NoTurn, ia_NoTurn, in_, it_, im_NoTurn⟩, v_NoTurn := kit_exT (by decide +kernel) v_NoTurn, i_OutOfRoom := ⟨ig_OutOfRoom, ik_OutOfRoom, s_OutOfRoom, h_OutOfRoom, ia_OutOfRoom, in_, it_, im_OutOfRoom⟩, v_OutOfRoom := kit_exT (by decide +kernel) v_OutOfRoom, w_Lost_Lost := kit_exC (.inl rfl) w_Lost_Lost j_Lost t_Lost, w_Lost_NoBases := kit_exC (.inr fun e => by have z := w_Lost_NoBases; rw [e, w_NoBases_NoBases] at z; cases z) w_Lost_NoBases j_NoBases t_NoBases, w_Lost_NoNumber := kit_exC (.inr fun e => by have z := w_Lost_NoNumber; rw [e, w_NoNumber_NoNumber] at z; cases z) w_Lost_NoNumber j_NoNumber t_NoNumber, w_Lost_NoPlace := kit_exC (.inr fun e => by have z := w_Lost_NoPlace; rw [e, w_NoPlace_NoPlace] at z; cases z) w_Lost_NoPlace j_NoPlace t_NoPlace, w_Lost_NoRow := kit_exC (.inr fun e => by have z := w_Lost_NoRow; rw [e, w_NoRow_NoRow] at z; cases z) w_Lost_NoRow j_NoRow t_NoRow, w_Lost_NoTurn := kit_exC (.inr fun e => by have z := w_Lost_NoTurn; rw [e, w_NoTurn_NoTurn] at z; cases z) w_Lost_NoTurn j_NoTurn t_NoTurn, w_Lost_OutOfRoom := kit_exC (.inr fun e => by have z := w_Lost_OutOfRoom; rw [e, w_OutOfRoom_OutOfRoom] at z; cases z) w_Lost_OutOfRoom j_OutOfRoom t_OutOfRoom, w_NoBases_Lost := kit_exC (.inr fun e => by have z := w_NoBases_Lost; rw [e, w_Lost_Lost] at z; cases z) w_NoBases_Lost j_Lost t_Lost, w_NoBases_NoBases := kit_exC (.inl rfl) w_NoBases_NoBases j_NoBases t_NoBases, w_NoBases_NoNumber := kit_exC (.inr fun e => by have z := w_NoBases_NoNumber; rw [e, w_NoNumber_NoNumber] at z; cases z) w_NoBases_NoNumber j_NoNumber t_NoNumber, w_NoBases_NoPlace := kit_exC (.inr fun e => by have z := w_NoBases_NoPlace; rw [e, w_NoPlace_NoPlace] at z; cases z) w_NoBases_NoPlace j_NoPlace t_NoPlace, w_NoBases_NoRow := kit_exC (.inr fun e => by have z := w_NoBases_NoRow; rw [e, w_NoRow_NoRow] at z; cases z) w_NoBases_NoRow j_NoRow t_NoRow, w_NoBases_NoTurn := kit_exC (.inr fun e => by have z := w_NoBases_NoTurn; rw [e, w_NoTurn_NoTurn] at z; cases z) w_NoBases_NoTurn j_NoTurn t_NoTurn, w_NoBases_OutOfRoom := kit_exC (.inr fun e => by have z := w_NoBases_OutOfRoom; rw [e, w_OutOfRoom_OutOfRoom] at z; cases z) w_NoBases_OutOfRoom j_OutOfRoom t_OutOfRoom, w_NoNumber_Lost := kit_exC (.inr fun e => by have z := w_NoNumber_Lost; rw [e, w_Lost_Lost] at z; cases z) w_NoNumber_Lost j_Lost t_Lost, w_NoNumber_NoBases := kit_exC (.inr fun e => by have z := w_NoNumber_NoBases; rw [e, w_NoBases_NoBases] at z; cases z) w_NoNumber_NoBases j_NoBases t_NoBases, w_NoNumber_NoNumber := kit_exC (.inl rfl) w_NoNumber_NoNumber j_NoNumber t_NoNumber, w_NoNumber_NoPlace := kit_exC (.inr fun e => by have z := w_NoNumber_NoPlace; rw [e, w_NoPlace_NoPlace] at z; cases z) w_NoNumber_NoPlace j_NoPlace t_NoPlace, w_NoNumber_NoRow := kit_exC (.inr fun e => by have z := w_NoNumber_NoRow; rw [e, w_NoRow_NoRow] at z; cases z) w_NoNumber_NoRow j_NoRow t_NoRow, w_NoNumber_NoTurn := kit_exC (.inr fun e => by have z := w_NoNumber_NoTurn; rw [e, w_NoTurn_NoTurn] at z; cases z) w_NoNumber_NoTurn j_NoTurn t_NoTurn, w_NoNumber_OutOfRoom := kit_exC (.inr fun e => by have z := w_NoNumber_OutOfRoom; rw [e, w_OutOfRoom_OutOfRoom] at z; cases z) w_NoNumber_OutOfRoom j_OutOfRoom t_OutOfRoom, w_NoPlace_Lost := kit_exC (.inr fun e => by have z := w_NoPlace_Lost; rw [e, w_Lost_Lost] at z; cases z) w_NoPlace_Lost j_Lost t_Lost, w_NoPlace_NoBases := kit_exC (.inr fun e => by have z := w_NoPlace_NoBases; rw [e, w_NoBases_NoBases] at z; cases z) w_NoPlace_NoBases j_NoBases t_NoBases, w_NoPlace_NoNumber := kit_exC (.inr fun e => by have z := w_NoPlace_NoNumber; rw [e, w_NoNumber_NoNumber] at z; cases z) w_NoPlace_NoNumber j_NoNumber t_NoNumber, w_NoPlace_NoPlace := kit_exC (.inl rfl) w_NoPlace_NoPlace j_NoPlace t_NoPlace, w_NoPlace_NoRow := kit_exC (.inr fun e => by have z := w_NoPlace_NoRow; rw [e, w_NoRow_NoRow] at z; cases z) w_NoPlace_NoRow j_NoRow t_NoRow, w_NoPlace_NoTurn := kit_exC (.inr fun e => by have z := w_NoPlace_NoTurn; rw [e, w_NoTurn_NoTurn] at z; cases z) w_NoPlace_NoTurn j_NoTurn t_NoTurn, w_NoPlace_OutOfRoom := kit_exC (.inr fun e => by have z := w_NoPlace_OutOfRoom; rw [e, w_OutOfRoom_OutOfRoom] at z; cases z) w_NoPlace_OutOfRoom j_OutOfRoom t_OutOfRoom, w_NoRow_Lost := kit_exC (.inr fun e => by have z := w_NoRow_Lost; rw [e, w_Lost_Lost] at z; cases z) w_NoRow_Lost j_Lost t_Lost, w_NoRow_NoBases := kit_exC (.inr fun e => by have z := w_NoRow_NoBases; rw [e, w_NoBases_NoBases] at z; cases z) w_NoRow_NoBases j_NoBases t_NoBases, w_NoRow_NoNumber := kit_exC (.inr fun e => by have z := w_NoRow_NoNumber; rw [e, w_NoNumber_NoNumber] at z; cases z) w_NoRow_NoNumber j_NoNumber t_NoNumber, w_NoRow_NoPlace := kit_exC (.inr fun e => by have z := w_NoRow_NoPlace; rw [e, w_NoPlace_NoPlace] at z; cases z) w_NoRow_NoPlace j_NoPlace t_NoPlace, w_NoRow_NoRow := kit_exC (.inl rfl) w_NoRow_NoRow j_NoRow t_NoRow, w_NoRow_NoTurn := kit_exC (.inr fun e => by have z := w_NoRow_NoTurn; rw [e, w_NoTurn_NoTurn] at z; cases z) w_NoRow_NoTurn j_NoTurn t_NoTurn, w_NoRow_OutOfRoom := kit_exC (.inr fun e => by have z := w_NoRow_OutOfRoom; rw [e, w_OutOfRoom_OutOfRoom] at z; cases z) w_NoRow_OutOfRoom j_OutOfRoom t_OutOfRoom, w_NoTurn_Lost := kit_exC (.inr fun e => by have z := w_NoTurn_Lost; rw [e, w_Lost_Lost] at z; cases z) w_NoTurn_Lost j_Lost t_Lost, w_NoTurn_NoBases := kit_exC (.inr fun e => by have z := w_NoTurn_NoBases; rw [e, w_NoBases_NoBases] at z; cases z) w_NoTurn_NoBases j_NoBases t_NoBases, w_NoTurn_NoNumber := kit_exC (.inr fun e => by have z := w_NoTurn_NoNumber; rw [e, w_NoNumber_NoNumber] at z; cases z) w_NoTurn_NoNumber j_NoNumber t_NoNumber, w_NoTurn_NoPlace := kit_exC (.inr fun e => by have z := w_NoTurn_NoPlace; rw [e, w_NoPlace_NoPlace] at z; cases z) w_NoTurn_NoPlace j_NoPlace t_NoPlace, w_NoTurn_NoRow := kit_exC (.inr fun e => by have z := w_NoTurn_NoRow; rw [e, w_NoRow_NoRow] at z; cases z) w_NoTurn_NoRow j_NoRow t_NoRow, w_NoTurn_NoTurn := kit_exC (.inl rfl) w_NoTurn_NoTurn j_NoTurn t_NoTurn, w_NoTurn_OutOfRoom := kit_exC (.inr fun e => by have z := w_NoTurn_OutOfRoom; rw [e, w_OutOfRoom_OutOfRoom] at z; cases z) w_NoTurn_OutOfRoom j_OutOfRoom t_OutOfRoom, w_OutOfRoom_Lost := kit_exC (.inr fun e => by have z := w_OutOfRoom_Lost; rw [e, w_Lost_Lost] at z; cases z) w_OutOfRoom_Lost j_Lost t_Lost, w_OutOfRoom_NoBases := kit_exC (.inr fun e => by have z := w_OutOfRoom_NoBases; rw [e, w_NoBases_NoBases] at z; cases z) w_OutOfRoom_NoBases j_NoBases t_NoBases, w_OutOfRoom_NoNumber := kit_exC (.inr fun e => by have z := w_OutOfRoom_NoNumber; rw [e, w_NoNumber_NoNumber] at z; cases z) w_OutOfRoom_NoNumber j_NoNumber t_NoNumber, w_OutOfRoom_NoPlace := kit_exC (.inr fun e => by have z := w_OutOfRoom_NoPlace; rw [e, w_NoPlace_NoPlace] at z; cases z) w_OutOfRoom_NoPlace j_NoPlace t_NoPlace, w_OutOfRoom_NoRow := kit_exC (.inr fun e => by have z := w_OutOfRoom_NoRow; rw [e, w_NoRow_NoRow] at z; cases z) w_OutOfRoom_NoRow j_NoRow t_NoRow, w_OutOfRoom_NoTurn := kit_exC (.inr fun e => by have z := w_OutOfRoom_NoTurn; rw [e, w_NoTurn_NoTurn] at z; cases z) w_OutOfRoom_NoTurn j_NoTurn t_NoTurn, w_OutOfRoom_OutOfRoom := kit_exC (.inl rfl) w_OutOfRoom_OutOfRoom j_OutOfRoom t_OutOfRoom, t_LEAST := t_LEAST, k_LEAST := PySem.W.mg_of X G k_LEAST, t_MOST := t_MOST, k_MOST := PySem.W.mg_of X G k_MOST, t_FEWEST := t_FEWEST, k_FEWEST := PySem.W.mg_of X G k_FEWEST, t_SO_MANY := t_SO_MANY, k_SO_MANY := PySem.W.mg_of X G k_SO_MANY, z_ValueError := PySem.W.mg_none_of X G z_ValueError, z_abs := PySem.W.mg_none_of X G z_abs, z_isinstance := PySem.W.mg_none_of X G z_isinstance, z_len := PySem.W.mg_none_of X G z_len, z_list := PySem.W.mg_none_of X G z_list, z_range := PySem.W.mg_none_of X G z_range, z_sorted := PySem.W.mg_none_of X G z_sorted, z_zip := PySem.W.mg_none_of X G z_zip }⟩
  exact .of_eq rfl
theorem walk {l : PySem.W.OpenLaw} {q : Program} {loose : List Str} {XP : (Str → Option Value) → Heap → Prop} {YP : World → Heap → Prop} {d : DefRec} {K : Params → PySem.W.Frag} (hn : l.most = some 63) (hdf : d.params.defaults = [])
    (hY : ∀ (w : World) (h : Heap), YP w h → (K w.params).In h)
    (F : ∀ (w : World) (mg : Str → Option Value) (fa : Addr) (h : Heap), (K w.params).In h → h.Ns mainGlobals mg → mg d.name = some (.ref fa) →
      ∃ fd : FuncData, (∀ (s : Shared) (u : Value), BindsTo s fd ⟨[u], []⟩ [("_law_script", u)]) ∧ ∀ base : Heap, (K w.params).In base → base.Ns mainGlobals mg → FnOk l.prog w (K w.params) mg base (L2N.CX l.prog w) 7 fa fd ["_law_script"] (sp_law (K w.params))) :
    PySem.W.WalkO q loose XP YP l.row.toRowW d [] (fun f vs => PySem.call f vs) :=
  L2.walk_of (n := 63) (k := 7) (x := "_law_script") (CX := fun w => L2N.CX l.prog w) (sp := fun w => sp_law (K w.params)) hn (by decide) hdf ⟨rfl, by decide, by decide⟩ hY F (fun _ _ a ns hl _ hS => ⟨a, ns, rfl, hS, hl, fun _ => rfl⟩) fun _ _ _ _ _ ⟨_, _, _, _, _, _, _, _, _, _, _, _, z⟩ => z
end
end Rk
open PySem PySem.W PyProof.Rows in
set_option maxRecDepth 100000 in
set_option maxHeartbeats 0 in
theorem PySem.Challenge.cw_restrow_k14_refusals_apart_holds : PySem.Challenge.rw_restrow_k14_refusals_apart.Holds := by
  w_on; o_law; k_head; (case hw => w_witness2)
  k_fill
  refine Rk.walk (l := PySem.Challenge.rw_restrow_k14_refusals_apart) rfl rfl (fun w h Y => PySem.W.kIn_of Y) ?F
  case F =>
    intro w mg fa h KX G hmg
    refine' Rk.all_mk KX G hmg ?aC ?a_told_by_others ?l_told_by_others ?q_told_by_others ?k_told_by_others ?a_without ?l_without ?q_without ?k_without ?a_refilled ?l_refilled ?q_refilled ?k_refilled ?a_common ?l_common ?q_common ?k_common ?a_turned ?l_turned ?q_turned ?k_turned ?a_need_bases ?l_need_bases ?q_need_bases ?k_need_bases ?a___init__ ?i___init__ ?l___init__ ?q___init__ ?k___init__ ?a_room ?i_room ?l_room ?q_room ?k_room ?a_need_row ?i_need_row ?l_need_row ?q_need_row ?k_need_row ?a_need_number ?i_need_number ?l_need_number ?q_need_number ?k_need_number ?a_rests ?i_rests ?l_rests ?q_rests ?k_rests ?a_led ?i_led ?l_led ?q_led ?k_led ?a_figures ?i_figures ?l_figures ?q_figures ?k_figures ?a_tells ?i_tells ?l_tells ?q_tells ?k_tells ?a_number ?i_number ?l_number ?q_number ?k_number ?a__law_cell_at ?l__law_cell_at ?q__law_cell_at ?k__law_cell_at ?a__law_bases ?l__law_bases ?q__law_bases ?k__law_bases ?a__law_asked ?l__law_asked ?q__law_asked ?k__law_asked ?a_law ?l_law ?q_law ?k_law ?pg ?hd ?po ?sa ?mk ?kc ?nB ?nT ?g_RestError ?x_RestError ?e_RestError ?s_RestError ?t_RestError ?h_RestError ?g_NoBases ?x_NoBases ?e_NoBases ?s_NoBases ?t_NoBases ?h_NoBases ?g_NoRow ?x_NoRow ?e_NoRow ?s_NoRow ?t_NoRow ?h_NoRow ?g_NoNumber ?x_NoNumber ?e_NoNumber ?s_NoNumber ?t_NoNumber ?h_NoNumber ?g_NoPlace ?x_NoPlace ?e_NoPlace ?s_NoPlace ?t_NoPlace ?h_NoPlace ?g_NoTurn ?x_NoTurn ?e_NoTurn ?s_NoTurn ?t_NoTurn ?h_NoTurn ?g_OutOfRoom ?x_OutOfRoom ?e_OutOfRoom ?s_OutOfRoom ?t_OutOfRoom ?h_OutOfRoom ?g_Lost ?x_Lost ?e_Lost ?s_Lost ?t_Lost ?h_Lost ?u_Lost_RestError ?u_NoBases_RestError ?u_NoNumber_RestError ?u_NoPlace_RestError ?u_NoRow_RestError ?u_NoTurn_RestError ?u_OutOfRoom_RestError ?ig_Lost ?ik_Lost ?ia_Lost ?im_Lost ?v_Lost ?ig_NoBases ?ik_NoBases ?ia_NoBases ?im_NoBases ?v_NoBases ?ig_NoNumber ?ik_NoNumber ?ia_NoNumber ?im_NoNumber ?v_NoNumber ?ig_NoPlace ?ik_NoPlace ?ia_NoPlace ?im_NoPlace ?v_NoPlace ?ig_NoRow ?ik_NoRow ?ia_NoRow ?im_NoRow ?v_NoRow ?ig_NoTurn ?ik_NoTurn ?ia_NoTurn ?im_NoTurn ?v_NoTurn ?ig_OutOfRoom ?ik_OutOfRoom ?ia_OutOfRoom ?im_OutOfRoom ?v_OutOfRoom ?in_ ?it_ ?j_Lost ?j_NoBases ?j_NoNumber ?j_NoPlace ?j_NoRow ?j_NoTurn ?j_OutOfRoom ?w_Lost_Lost ?w_Lost_NoBases ?w_Lost_NoNumber ?w_Lost_NoPlace ?w_Lost_NoRow ?w_Lost_NoTurn ?w_Lost_OutOfRoom ?w_NoBases_Lost ?w_NoBases_NoBases ?w_NoBases_NoNumber ?w_NoBases_NoPlace ?w_NoBases_NoRow ?w_NoBases_NoTurn ?w_NoBases_OutOfRoom ?w_NoNumber_Lost ?w_NoNumber_NoBases ?w_NoNumber_NoNumber ?w_NoNumber_NoPlace ?w_NoNumber_NoRow ?w_NoNumber_NoTurn ?w_NoNumber_OutOfRoom ?w_NoPlace_Lost ?w_NoPlace_NoBases ?w_NoPlace_NoNumber ?w_NoPlace_NoPlace ?w_NoPlace_NoRow ?w_NoPlace_NoTurn ?w_NoPlace_OutOfRoom ?w_NoRow_Lost ?w_NoRow_NoBases ?w_NoRow_NoNumber ?w_NoRow_NoPlace ?w_NoRow_NoRow ?w_NoRow_NoTurn ?w_NoRow_OutOfRoom ?w_NoTurn_Lost ?w_NoTurn_NoBases ?w_NoTurn_NoNumber ?w_NoTurn_NoPlace ?w_NoTurn_NoRow ?w_NoTurn_NoTurn ?w_NoTurn_OutOfRoom ?w_OutOfRoom_Lost ?w_OutOfRoom_NoBases ?w_OutOfRoom_NoNumber ?w_OutOfRoom_NoPlace ?w_OutOfRoom_NoRow ?w_OutOfRoom_NoTurn ?w_OutOfRoom_OutOfRoom ?k_LEAST ?k_MOST ?k_FEWEST ?k_SO_MANY ?z_ValueError ?z_abs ?z_isinstance ?z_len ?z_list ?z_range ?z_sorted ?z_zip
    (case aC => k_is)
    (case a_told_by_others => k_is)
    (case l_told_by_others => k_is)
    (case q_told_by_others => k_is)
    (case k_told_by_others => k_is)
    (case a_without => k_is)
    (case l_without => k_is)
    (case q_without => k_is)
    (case k_without => k_is)
    (case a_refilled => k_is)
    (case l_refilled => k_is)
    (case q_refilled => k_is)
    (case k_refilled => k_is)
    (case a_common => k_is)
    (case l_common => k_is)
    (case q_common => k_is)
    (case k_common => k_is)
    (case a_turned => k_is)
    (case l_turned => k_is)
    (case q_turned => k_is)
    (case k_turned => k_is)
    (case a_need_bases => k_is)
    (case l_need_bases => k_is)
    (case q_need_bases => k_is)
    (case k_need_bases => k_is)
    (case a___init__ => k_is)
    (case i___init__ => k_is)
    (case l___init__ => k_is)
    (case q___init__ => k_is)
    (case k___init__ => k_is)
    (case a_room => k_is)
    (case i_room => k_is)
    (case l_room => k_is)
    (case q_room => k_is)
    (case k_room => k_is)
    (case a_need_row => k_is)
    (case i_need_row => k_is)
    (case l_need_row => k_is)
    (case q_need_row => k_is)
    (case k_need_row => k_is)
    (case a_need_number => k_is)
    (case i_need_number => k_is)
    (case l_need_number => k_is)
    (case q_need_number => k_is)
    (case k_need_number => k_is)
    (case a_rests => k_is)
    (case i_rests => k_is)
    (case l_rests => k_is)
    (case q_rests => k_is)
    (case k_rests => k_is)
    (case a_led => k_is)
    (case i_led => k_is)
    (case l_led => k_is)
    (case q_led => k_is)
    (case k_led => k_is)
    (case a_figures => k_is)
    (case i_figures => k_is)
    (case l_figures => k_is)
    (case q_figures => k_is)
    (case k_figures => k_is)
    (case a_tells => k_is)
    (case i_tells => k_is)
    (case l_tells => k_is)
    (case q_tells => k_is)
    (case k_tells => k_is)
    (case a_number => k_is)
    (case i_number => k_is)
    (case l_number => k_is)
    (case q_number => k_is)
    (case k_number => k_is)
    (case a__law_cell_at => k_is)
    (case l__law_cell_at => k_is)
    (case q__law_cell_at => k_is)
    (case k__law_cell_at => k_is)
    (case a__law_bases => k_is)
    (case l__law_bases => k_is)
    (case q__law_bases => k_is)
    (case k__law_bases => k_is)
    (case a__law_asked => k_is)
    (case l__law_asked => k_is)
    (case q__law_asked => k_is)
    (case k__law_asked => k_is)
    (case a_law => k_is)
    (case l_law => k_is)
    (case q_law => k_is)
    (case k_law => k_is)
    (case pg => k_is)
    (case hd => k_is)
    (case po => k_is)
    (case sa => k_is)
    (case mk => k_is)
    (case kc => k_is)
    (case nB => k_is)
    (case nT => k_is)
    (case g_RestError => k_is)
    (case x_RestError => k_exc)
    (case e_RestError => k_is)
    (case s_RestError => k_is)
    (case t_RestError => k_is)
    (case h_RestError => k_is)
    (case g_NoBases => k_is)
    (case x_NoBases => k_exc)
    (case e_NoBases => k_is)
    (case s_NoBases => k_is)
    (case t_NoBases => k_is)
    (case h_NoBases => k_is)
    (case g_NoRow => k_is)
    (case x_NoRow => k_exc)
    (case e_NoRow => k_is)
    (case s_NoRow => k_is)
    (case t_NoRow => k_is)
    (case h_NoRow => k_is)
    (case g_NoNumber => k_is)
    (case x_NoNumber => k_exc)
    (case e_NoNumber => k_is)
    (case s_NoNumber => k_is)
    (case t_NoNumber => k_is)
    (case h_NoNumber => k_is)
    (case g_NoPlace => k_is)
    (case x_NoPlace => k_exc)
    (case e_NoPlace => k_is)
    (case s_NoPlace => k_is)
    (case t_NoPlace => k_is)
    (case h_NoPlace => k_is)
    (case g_NoTurn => k_is)
    (case x_NoTurn => k_exc)
    (case e_NoTurn => k_is)
    (case s_NoTurn => k_is)
    (case t_NoTurn => k_is)
    (case h_NoTurn => k_is)
    (case g_OutOfRoom => k_is)
    (case x_OutOfRoom => k_exc)
    (case e_OutOfRoom => k_is)
    (case s_OutOfRoom => k_is)
    (case t_OutOfRoom => k_is)
    (case h_OutOfRoom => k_is)
    (case g_Lost => k_is)
    (case x_Lost => k_exc)
    (case e_Lost => k_is)
    (case s_Lost => k_is)
    (case t_Lost => k_is)
    (case h_Lost => k_is)
    (case u_Lost_RestError => k_is)
    (case u_NoBases_RestError => k_is)
    (case u_NoNumber_RestError => k_is)
    (case u_NoPlace_RestError => k_is)
    (case u_NoRow_RestError => k_is)
    (case u_NoTurn_RestError => k_is)
    (case u_OutOfRoom_RestError => k_is)
    (case ig_Lost => k_is)
    (case ik_Lost => k_is)
    (case ia_Lost => k_is)
    (case im_Lost => k_is)
    (case v_Lost => k_is)
    (case ig_NoBases => k_is)
    (case ik_NoBases => k_is)
    (case ia_NoBases => k_is)
    (case im_NoBases => k_is)
    (case v_NoBases => k_is)
    (case ig_NoNumber => k_is)
    (case ik_NoNumber => k_is)
    (case ia_NoNumber => k_is)
    (case im_NoNumber => k_is)
    (case v_NoNumber => k_is)
    (case ig_NoPlace => k_is)
    (case ik_NoPlace => k_is)
    (case ia_NoPlace => k_is)
    (case im_NoPlace => k_is)
    (case v_NoPlace => k_is)
    (case ig_NoRow => k_is)
    (case ik_NoRow => k_is)
    (case ia_NoRow => k_is)
    (case im_NoRow => k_is)
    (case v_NoRow => k_is)
    (case ig_NoTurn => k_is)
    (case ik_NoTurn => k_is)
    (case ia_NoTurn => k_is)
    (case im_NoTurn => k_is)
    (case v_NoTurn => k_is)
    (case ig_OutOfRoom => k_is)
    (case ik_OutOfRoom => k_is)
    (case ia_OutOfRoom => k_is)
    (case im_OutOfRoom => k_is)
    (case v_OutOfRoom => k_is)
    (case in_ => k_is)
    (case it_ => k_is)
    (case j_Lost => k_is)
    (case j_NoBases => k_is)
    (case j_NoNumber => k_is)
    (case j_NoPlace => k_is)
    (case j_NoRow => k_is)
    (case j_NoTurn => k_is)
    (case j_OutOfRoom => k_is)
    (case w_Lost_Lost => k_is)
    (case w_Lost_NoBases => k_is)
    (case w_Lost_NoNumber => k_is)
    (case w_Lost_NoPlace => k_is)
    (case w_Lost_NoRow => k_is)
    (case w_Lost_NoTurn => k_is)
    (case w_Lost_OutOfRoom => k_is)
    (case w_NoBases_Lost => k_is)
    (case w_NoBases_NoBases => k_is)
    (case w_NoBases_NoNumber => k_is)
    (case w_NoBases_NoPlace => k_is)
    (case w_NoBases_NoRow => k_is)
    (case w_NoBases_NoTurn => k_is)
    (case w_NoBases_OutOfRoom => k_is)
    (case w_NoNumber_Lost => k_is)
    (case w_NoNumber_NoBases => k_is)
    (case w_NoNumber_NoNumber => k_is)
    (case w_NoNumber_NoPlace => k_is)
    (case w_NoNumber_NoRow => k_is)
    (case w_NoNumber_NoTurn => k_is)
    (case w_NoNumber_OutOfRoom => k_is)
    (case w_NoPlace_Lost => k_is)
    (case w_NoPlace_NoBases => k_is)
    (case w_NoPlace_NoNumber => k_is)
    (case w_NoPlace_NoPlace => k_is)
    (case w_NoPlace_NoRow => k_is)
    (case w_NoPlace_NoTurn => k_is)
    (case w_NoPlace_OutOfRoom => k_is)
    (case w_NoRow_Lost => k_is)
    (case w_NoRow_NoBases => k_is)
    (case w_NoRow_NoNumber => k_is)
    (case w_NoRow_NoPlace => k_is)
    (case w_NoRow_NoRow => k_is)
    (case w_NoRow_NoTurn => k_is)
    (case w_NoRow_OutOfRoom => k_is)
    (case w_NoTurn_Lost => k_is)
    (case w_NoTurn_NoBases => k_is)
    (case w_NoTurn_NoNumber => k_is)
    (case w_NoTurn_NoPlace => k_is)
    (case w_NoTurn_NoRow => k_is)
    (case w_NoTurn_NoTurn => k_is)
    (case w_NoTurn_OutOfRoom => k_is)
    (case w_OutOfRoom_Lost => k_is)
    (case w_OutOfRoom_NoBases => k_is)
    (case w_OutOfRoom_NoNumber => k_is)
    (case w_OutOfRoom_NoPlace => k_is)
    (case w_OutOfRoom_NoRow => k_is)
    (case w_OutOfRoom_NoTurn => k_is)
    (case w_OutOfRoom_OutOfRoom => k_is)
    (case k_LEAST => k_is)
    (case k_MOST => k_is)
    (case k_FEWEST => k_is)
    (case k_SO_MANY => k_is)
    (case z_ValueError => k_is)
    (case z_abs => k_is)
    (case z_isinstance => k_is)
    (case z_len => k_is)
    (case z_list => k_is)
    (case z_range => k_is)
    (case z_sorted => k_is)
    (case z_zip => k_is)
