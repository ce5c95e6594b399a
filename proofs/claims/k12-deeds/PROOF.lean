import PyProof.Rows.All
import Wide.All
import OpenK.AllK
import Wide.FinOn
import PyProof.EqAt
import PyProof.EqKinds
import PyProof.TupleCall
import HandS.ForMost
import HandS.Exc
import HandS.TryOnly
import HandS.TryMany
import HandS.ExcOwn
import HandS.ExcIs
import HandS.WordsExc
import HandS.IsInst
import HandS.Wide
import HandS.Style
import HandS.Zip
import HandS.Evl
import KE.KDictZip
import KE.KItemsList
import HandS.ListItems
import HandS.ExcCtx
import HandS.HotCalls
import PySem.Challenge.RW_restrow_k12_whole_deeds
set_option Elab.async false
set_option linter.all false
set_option maxRecDepth 100000
set_option maxHeartbeats 4000000
set_option exponentiation.threshold 400
local macro_rules | `(tactic| walk_at "ns") => `(tactic| (try (conv => (arg 4; simp only [L2.start, List.map_cons, List.map_nil, List.cons_append, List.nil_append, List.reduceReplicate, List.length_cons, List.length_nil, Nat.reduceAdd, Nat.reduceSub, List.set_cons_zero, List.set_cons_succ]))))
namespace Rw
/-! ## The mathematics: bases, rows, figures. No program here. -/

/-- two numbers without a common divisor above 1 -/
abbrev Cop (a b : Int) : Prop := Int.gcd a b = 1
theorem Cop.symm {a b : Int} (h : Cop a b) : Cop b a := by
  show Int.gcd b a = 1
  rw [Int.gcd_comm]
  exact h
theorem Cop.mul_right {a b c : Int} (h1 : Cop a b) (h2 : Cop a c) : Cop a (b * c) := by
  show Int.gcd a (b * c) = 1
  rw [Int.gcd_mul_right_right_of_gcd_eq_one h1]
  exact h2
theorem Cop.one_right (a : Int) : Cop a 1 := by
  show Int.gcd a 1 = 1
  simp
theorem Cop.mul_dvd {a b x : Int} (h : Cop a b) (ha : a ∣ x) (hb : b ∣ x) : a * b ∣ x := by
  have h' : Nat.Coprime a.natAbs b.natAbs := h
  have := Nat.Coprime.mul_dvd_of_dvd_of_dvd h' (Int.natAbs_dvd_natAbs.mpr ha) (Int.natAbs_dvd_natAbs.mpr hb)
  rw [← Int.natAbs_mul] at this
  exact Int.natAbs_dvd_natAbs.mp this
theorem Cop.dvd_left {a b c : Int} (h : Cop a b) (hd : c ∣ a) : Cop c b := by
  have h' : Nat.Coprime a.natAbs b.natAbs := h
  exact Nat.Coprime.coprime_dvd_left (Int.natAbs_dvd_natAbs.mpr hd) h'

/-! ### products -/
def prod : List Int → Int
  | [] => 1
  | b :: bs => b * prod bs
theorem prod_append : ∀ (l m : List Int), prod (l ++ m) = prod l * prod m
  | [], m => by simp [prod]
  | a :: l, m => by
    show a * prod (l ++ m) = a * prod l * prod m
    rw [prod_append l m, Int.mul_assoc]
theorem prod_pos : ∀ {l : List Int}, (∀ b ∈ l, 0 < b) → 0 < prod l
  | [], _ => by decide
  | a :: l, h => by
    show 0 < a * prod l
    exact Int.mul_pos (h a List.mem_cons_self) (prod_pos fun b hb => h b (List.mem_cons_of_mem _ hb))
theorem dvd_prod : ∀ {l : List Int} {b : Int}, b ∈ l → b ∣ prod l
  | a :: l, b, h => by
    show b ∣ a * prod l
    rcases List.mem_cons.mp h with h | h
    · rw [h]; exact Int.dvd_mul_right _ _
    · exact Int.dvd_trans (dvd_prod h) (Int.dvd_mul_left _ _)
theorem cop_prod : ∀ {l : List Int} {a : Int}, (∀ b ∈ l, Cop a b) → Cop a (prod l)
  | [], a, _ => Cop.one_right a
  | b :: l, a, h => Cop.mul_right (h b List.mem_cons_self) (cop_prod fun c hc => h c (List.mem_cons_of_mem _ hc))
theorem prod_take_succ {bs : List Int} {k : Nat} {b : Int} (h : bs[k]? = some b) : prod (bs.take (k + 1)) = prod (bs.take k) * b := by
  obtain ⟨hk, e⟩ := List.getElem?_eq_some_iff.mp h
  rw [List.take_succ_eq_append_getElem hk, prod_append, e]
  simp [prod]

/-! ### the chinese remainders -/
abbrev PC (bs : List Int) : Prop := bs.Pairwise Cop
abbrev Pos (bs : List Int) : Prop := ∀ b ∈ bs, 0 < b
/-- x has the rests rs over bs -/
def Has (bs : List Int) (rs : List Int) (x : Int) : Prop := ∀ (k : Nat) (b r : Int), bs[k]? = some b → rs[k]? = some r → x % b = r % b
/-- same rests -/
def Like (bs : List Int) (x y : Int) : Prop := ∀ b ∈ bs, x % b = y % b
theorem mod_eq_iff {x y b : Int} : x % b = y % b ↔ b ∣ x - y := by
  rw [Int.emod_eq_emod_iff_emod_sub_eq_zero, ← Int.dvd_iff_emod_eq_zero]
theorem like_dvd : ∀ {bs : List Int} {x y : Int}, PC bs → Like bs x y → prod bs ∣ x - y
  | [], x, y, _, _ => Int.one_dvd _
  | b :: bs, x, y, pc, h => by
    obtain ⟨h1, h2⟩ := List.pairwise_cons.mp pc
    exact Cop.mul_dvd (cop_prod h1) (mod_eq_iff.mp (h b List.mem_cons_self)) (like_dvd h2 fun c hc => h c (List.mem_cons_of_mem _ hc))
theorem eq_of_dvd {x y m p : Int} (hd : p ∣ x - y) (hm : m ≤ p) (x0 : 0 ≤ x) (x1 : x < m) (y0 : 0 ≤ y) (y1 : y < m) : x = y := by
  have h := mod_eq_iff.mpr hd
  rwa [Int.emod_eq_of_lt x0 (by omega), Int.emod_eq_of_lt y0 (by omega)] at h
theorem like_eq {bs : List Int} {x y m : Int} (pc : PC bs) (h : Like bs x y) (hm : m ≤ prod bs) (x0 : 0 ≤ x) (x1 : x < m) (y0 : 0 ≤ y) (y1 : y < m) : x = y :=
  eq_of_dvd (like_dvd pc h) hm x0 x1 y0 y1
theorem has_like {bs rs : List Int} {x y : Int} (hl : bs.length ≤ rs.length) (hx : Has bs rs x) (hy : Has bs rs y) : Like bs x y := fun b hb => by
  obtain ⟨k, hk⟩ := List.mem_iff_getElem?.mp hb
  have hk' := (List.getElem?_eq_some_iff.mp hk).1
  have hr : rs[k]? = some (rs[k]'(by omega)) := List.getElem?_eq_getElem (by omega)
  rw [hx k b _ hk hr, hy k b _ hk hr]
theorem Like.symm {bs : List Int} {x y : Int} (h : Like bs x y) : Like bs y x := fun b hb => (h b hb).symm
theorem Like.trans {bs : List Int} {x y z : Int} (h : Like bs x y) (h' : Like bs y z) : Like bs x z := fun b hb => (h b hb).trans (h' b hb)

/-! ### turning numbers -/
theorem bez (n m : Nat) : ∃ u v : Int, u * n + v * m = Nat.gcd n m := by
  induction n, m using Nat.gcd.induction with
  | H0 m => exact ⟨0, 1, by simp⟩
  | H1 n m hn ih =>
    obtain ⟨u, v, h⟩ := ih
    refine ⟨v - u * (m / n : Nat), u, ?_⟩
    rw [Nat.gcd_rec, ← h]
    have e : (m : Int) = n * (m / n : Nat) + (m % n : Nat) := by
      have := Nat.div_add_mod m n
      rw [← Int.natCast_mul, ← Int.natCast_add, this]
    generalize ((m / n : Nat) : Int) = q at *
    generalize ((m % n : Nat) : Int) = r at *
    rw [e]
    grind
theorem bezI {a b : Int} (h : Cop a b) : ∃ u v : Int, u * a + v * b = 1 := by
  obtain ⟨u, v, e⟩ := bez a.natAbs b.natAbs
  have e1 : Nat.gcd a.natAbs b.natAbs = 1 := h
  rw [e1] at e
  rcases Int.natAbs_eq a with ha | ha <;> rcases Int.natAbs_eq b with hb | hb
  · exact ⟨u, v, by rw [ha, hb]; exact e⟩
  · exact ⟨u, -v, by rw [ha, hb]; grind⟩
  · exact ⟨-u, v, by rw [ha, hb]; grind⟩
  · exact ⟨-u, -v, by rw [ha, hb]; grind⟩
theorem cop_of_bez {a b u v : Int} (h : u * a + v * b = 1) : Cop a b := by
  show Int.gcd a b = 1
  have h1 : ((Int.gcd a b : Nat) : Int) ∣ 1 := by
    rw [← h]
    exact Int.dvd_add (Int.dvd_mul_of_dvd_right (Int.gcd_dvd_left ..)) (Int.dvd_mul_of_dvd_right (Int.gcd_dvd_right ..))
  have := Int.eq_one_of_dvd_one (Int.natCast_nonneg _) h1
  omega
/-- t turns a over b -/
structure Turns (a b t : Int) : Prop where
  lo : 0 ≤ t
  hi : t < b
  eq : t * a % b = 1 % b
theorem turns_ex {a b : Int} (h : Cop a b) (hb : 0 < b) : ∃ t, Turns a b t := by
  obtain ⟨u, v, e⟩ := bezI h
  refine ⟨u % b, Int.emod_nonneg _ (by omega), Int.emod_lt_of_pos _ hb, ?_⟩
  rw [Int.mul_emod, Int.emod_emod, ← Int.mul_emod]
  have : u * a = 1 + b * (-v) := by grind
  rw [this, Int.add_mul_emod_self_left]
theorem Turns.uniq {a b t s : Int} (h : Turns a b t) (h' : Turns a b s) : t = s := by
  have e : t * a % b = s * a % b := h.eq.trans h'.eq.symm
  have e2 : t * a * t % b = s * a * t % b := by rw [Int.mul_emod, e, ← Int.mul_emod]
  have x1 : t * a * t % b = t % b := by rw [Int.mul_emod, h.eq, ← Int.mul_emod, Int.one_mul]
  have x2 : s * a * t % b = s % b := by
    have : s * a * t = s * (t * a) := by grind
    rw [this, Int.mul_emod, h.eq, ← Int.mul_emod, Int.mul_one]
  rw [x1, x2, Int.emod_eq_of_lt h.lo h.hi, Int.emod_eq_of_lt h'.lo h'.hi] at e2
  exact e2
/-- the step that both the chinese remainders and the figures make -/
theorem turn_step {a b t x r : Int} (h : t * a % b = 1 % b) : (x + a * ((r - x) * t % b)) % b = r % b := by
  have e : (a * ((r - x) * t % b)) % b = (r - x) % b := by
    rw [Int.mul_emod, Int.emod_emod, ← Int.mul_emod]
    have : a * ((r - x) * t) = (r - x) * (t * a) := by grind
    rw [this, Int.mul_emod, h, ← Int.mul_emod, Int.mul_one]
  rw [Int.add_emod, e, ← Int.add_emod]
  congr 1
  omega
theorem crt : ∀ {bs : List Int} (rs : List Int), PC bs → Pos bs → rs.length = bs.length → ∃ x, 0 ≤ x ∧ x < prod bs ∧ Has bs rs x
  | [], rs, _, _, _ => ⟨0, by decide, by decide, fun k b r h => by simp at h⟩
  | b :: bs, [], _, _, h => by simp at h
  | b :: bs, r :: rs, pc, ps, hl => by
    obtain ⟨h1, h2⟩ := List.pairwise_cons.mp pc
    have pos2 : Pos bs := fun c hc => ps c (List.mem_cons_of_mem _ hc)
    have hb : 0 < b := ps b List.mem_cons_self
    obtain ⟨x, x0, x1, hx⟩ := crt rs h2 pos2 (by simpa using hl)
    obtain ⟨t, ht⟩ := turns_ex (cop_prod h1).symm hb
    have pp := prod_pos pos2
    have s0 := Int.emod_nonneg ((r - x) * t) (show b ≠ 0 by omega)
    have s1 := Int.emod_lt_of_pos ((r - x) * t) hb
    refine ⟨x + prod bs * ((r - x) * t % b), ?_, ?_, ?_⟩
    · have := Int.mul_nonneg (Int.le_of_lt pp) s0
      omega
    · have : prod bs * ((r - x) * t % b) ≤ prod bs * (b - 1) := Int.mul_le_mul_of_nonneg_left (by omega) (Int.le_of_lt pp)
      show _ < b * prod bs
      have e : prod bs * (b - 1) = b * prod bs - prod bs := by grind
      omega
    · rintro (_ | k) c s hc hs
      · have e1 : b = c := by simpa using hc
        have e2 : r = s := by simpa using hs
        subst e1 e2
        exact turn_step ht.eq
      · have hc' : bs[k]? = some c := by simpa using hc
        have hs' : rs[k]? = some s := by simpa using hs
        rw [← hx k c s hc' hs']
        obtain ⟨q, hq⟩ := dvd_prod (List.mem_of_getElem? hc')
        rw [hq, Int.mul_assoc, Int.add_mul_emod_self_left]

/-! ### figures -/
def digits : List Int → Int → List Int
  | [], _ => []
  | b :: bs, x => x % b :: digits bs (x / b)
theorem digits_length : ∀ (bs : List Int) (x : Int), (digits bs x).length = bs.length
  | [], _ => rfl
  | b :: bs, x => by show (digits bs (x / b)).length + 1 = bs.length + 1; rw [digits_length bs]
theorem digits_get : ∀ {bs : List Int} {x : Int} {k : Nat} {b : Int}, Pos bs → bs[k]? = some b → (digits bs x)[k]? = some (x / prod (bs.take k) % b)
  | c :: bs, x, 0, b, _, h => by
    have e : c = b := by simpa using h
    subst e
    simp [digits, prod]
  | c :: bs, x, k + 1, b, ps, h => by
    have h' : bs[k]? = some b := by simpa using h
    have ih := digits_get (x := x / c) (fun d hd => ps d (List.mem_cons_of_mem _ hd)) h'
    have hc : 0 < c := ps c List.mem_cons_self
    show (digits bs (x / c))[k]? = some (x / (c * prod (bs.take k)) % b)
    rw [ih, Int.ediv_ediv_of_nonneg (Int.le_of_lt hc)]
theorem digits_range {bs : List Int} {x : Int} {k : Nat} {b d : Int} (ps : Pos bs) (hb : bs[k]? = some b) (hd : (digits bs x)[k]? = some d) : 0 ≤ d ∧ d < b := by
  rw [digits_get ps hb] at hd
  have e := Option.some.inj hd
  have hb' := ps b (List.mem_of_getElem? hb)
  exact ⟨by rw [← e]; exact Int.emod_nonneg _ (by omega), by rw [← e]; exact Int.emod_lt_of_pos _ hb'⟩
theorem digits_drop : ∀ {bs : List Int} (x : Int) (k : Nat), Pos bs → (digits bs x).drop k = digits (bs.drop k) (x / prod (bs.take k))
  | bs, x, 0, _ => by simp [prod]
  | [], x, k + 1, _ => rfl
  | c :: bs, x, k + 1, ps => by
    have hc : 0 < c := ps c List.mem_cons_self
    show (digits bs (x / c)).drop k = digits (bs.drop k) (x / (c * prod (bs.take k)))
    rw [digits_drop (x / c) k (fun d hd => ps d (List.mem_cons_of_mem _ hd)), Int.ediv_ediv_of_nonneg (Int.le_of_lt hc)]
theorem div_step {x p b : Int} (hp : 0 < p) : x / p = x / (p * b) * b + x / p % b := by
  rw [← Int.ediv_ediv_of_nonneg (Int.le_of_lt hp)]
  have := Int.emod_add_ediv_mul (x / p) b
  omega
theorem mod_div_mod {x p b m : Int} (hp : 0 < p) (hm : p * b ∣ m) : x % m / p % b = x / p % b := by
  obtain ⟨q, rfl⟩ := hm
  have e := Int.emod_add_mul_ediv x (p * b * q)
  conv => rhs; rw [← e]
  have : p * b * q * (x / (p * b * q)) = p * (b * (q * (x / (p * b * q)))) := by grind
  rw [this, Int.add_mul_ediv_left _ _ (by omega), Int.add_mul_emod_self_left]
theorem prod_take_dvd {bs : List Int} {i k : Nat} (h : i ≤ k) : prod (bs.take i) ∣ prod (bs.take k) := by
  have : bs.take k = bs.take i ++ (bs.take k).drop i := by
    have := List.take_append_drop i (bs.take k)
    rw [List.take_take, Nat.min_eq_left h] at this
    exact this.symm
  rw [this, prod_append]
  exact Int.dvd_mul_right _ _
theorem pos_take {bs : List Int} (ps : Pos bs) (k : Nat) : Pos (bs.take k) := fun b hb => ps b (List.mem_of_mem_take hb)
/-- Horner's step, as led does it -/
theorem horner {bs : List Int} {x : Int} {i k : Nat} {b m : Int} (ps : Pos bs) (hb : bs[i]? = some b) (hi : i < k) :
    (x % prod (bs.take k) / prod (bs.take (i + 1)) % m * b + x / prod (bs.take i) % b) % m = x % prod (bs.take k) / prod (bs.take i) % m := by
  have hp := prod_pos (pos_take ps i)
  have e := div_step (x := x % prod (bs.take k)) (b := b) hp
  have dv : prod (bs.take i) * b ∣ prod (bs.take k) := by
    rw [← prod_take_succ hb]
    exact prod_take_dvd hi
  rw [mod_div_mod hp dv, ← prod_take_succ hb] at e
  rw [Int.add_emod, Int.mul_emod, Int.emod_emod, ← Int.mul_emod, ← Int.add_emod, ← e]
theorem horner0 {bs : List Int} {x : Int} {k : Nat} {m : Int} (ps : Pos bs) : x % prod (bs.take k) / prod (bs.take k) % m = 0 := by
  have hp := prod_pos (pos_take ps k)
  rw [Int.ediv_eq_zero_of_lt (Int.emod_nonneg _ (by omega)) (Int.emod_lt_of_pos _ hp), Int.zero_emod]
theorem horner_top {bs : List Int} {x : Int} {k : Nat} {m : Int} : x % prod (bs.take k) / prod (bs.take 0) % m = x % prod (bs.take k) % m := by
  simp [prod]
/-- the figure that led appends -/
theorem fig_step {x p b t r : Int} (hp : 0 < p) (hb : 0 < b) (ht : t * p % b = 1 % b) (hr : x % b = r % b) : (r - x % p % b) * t % b = x / p % b := by
  have e := Int.emod_add_mul_ediv x p
  have e1 : (r - x % p % b) % b = (p * (x / p)) % b := by
    have : (r - x % p % b) % b = (x - x % p) % b := by
      rw [Int.sub_emod, ← hr, Int.emod_emod, ← Int.sub_emod]
    rw [this]
    congr 1
    omega
  rw [Int.mul_emod, e1, ← Int.mul_emod]
  have : p * (x / p) * t = x / p * (t * p) := by grind
  rw [this, Int.mul_emod, ht, ← Int.mul_emod, Int.mul_one]
/-- number's Horner -/
theorem numb_step {bs : List Int} {x : Int} {i : Nat} {b : Int} (ps : Pos bs) (hb : bs[i]? = some b) : x / prod (bs.take (i + 1)) * b + x / prod (bs.take i) % b = x / prod (bs.take i) := by
  have hp := prod_pos (pos_take ps i)
  rw [prod_take_succ hb]
  have := div_step (x := x) (b := b) hp
  omega
theorem sum_odd : ∀ {bs : List Int} {x : Int}, (∀ b ∈ bs, 0 < b ∧ b % 2 = 1) → 0 ≤ x → x < prod bs → (digits bs x).sum % 2 = x % 2
  | [], x, _, h0, h1 => by
    have : x = 0 := by have : prod [] = 1 := rfl; omega
    subst this
    rfl
  | b :: bs, x, h, h0, h1 => by
    obtain ⟨hb, ho⟩ := h b List.mem_cons_self
    have h1' : x < b * prod bs := h1
    have ih := sum_odd (bs := bs) (x := x / b) (fun c hc => h c (List.mem_cons_of_mem _ hc)) (Int.ediv_nonneg h0 (Int.le_of_lt hb)) (Int.ediv_lt_of_lt_mul hb (by rw [Int.mul_comm]; exact h1'))
    show (x % b :: digits bs (x / b)).sum % 2 = x % 2
    rw [List.sum_cons]
    have e := Int.emod_add_mul_ediv x b
    have e2 : (b * (x / b)) % 2 = x / b % 2 := by rw [Int.mul_emod, ho, Int.one_mul, Int.emod_emod]
    omega
theorem value_two {g1 g2 y : Int} (h1 : 0 < g1) (h2 : 0 < g2) (y0 : 0 ≤ y) (y1 : y < g1 * g2) : digits [g1, g2] y = [0, 0] ↔ y = 0 := by
  constructor
  · intro h
    have h' : [y % g1, y / g1 % g2] = [0, 0] := h
    have a1 : y % g1 = 0 := by simpa using congrArg (·.head?) h'
    have a2 : y / g1 % g2 = 0 := by
      have := List.cons.inj h'
      have := List.cons.inj this.2
      exact this.1
    have l : y / g1 < g2 := Int.ediv_lt_of_lt_mul h1 (by rw [Int.mul_comm]; exact y1)
    rw [Int.emod_eq_of_lt (Int.ediv_nonneg y0 (Int.le_of_lt h1)) l] at a2
    have e := Int.emod_add_mul_ediv y g1
    rw [a1, a2] at e
    omega
  · intro h
    subst h
    simp [digits]
end Rw

namespace Rw
/-! ## Bases as the board takes them -/
structure Good (bs : List Int) : Prop where
  len3 : 3 ≤ bs.length
  len14 : bs.length ≤ 14
  rng : ∀ b ∈ bs, 3 ≤ b ∧ b ≤ 999999
  odd : ∀ b ∈ bs, b % 2 = 1
  rise : bs.Pairwise (· < ·)
  cop : PC bs
theorem Good.pos {bs : List Int} (g : Good bs) : Pos bs := fun b hb => by have := (g.rng b hb).1; omega
def room (bs : List Int) : Int := prod (bs.take (bs.length - 2))
def rowOf (bs : List Int) (x : Int) : List Int := bs.map (fun b => x % b)
theorem rowOf_length (bs : List Int) (x : Int) : (rowOf bs x).length = bs.length := by simp [rowOf]
theorem rowOf_get {bs : List Int} {x : Int} {k : Nat} {b : Int} (h : bs[k]? = some b) : (rowOf bs x)[k]? = some (x % b) := by simp [rowOf, h]
theorem has_rowOf (bs : List Int) (x : Int) : Has bs (rowOf bs x) x := fun k b r hb hr => by
  rw [rowOf_get hb] at hr
  have e := Option.some.inj hr
  rw [← e, Int.emod_emod]
theorem rowOf_eq_iff {bs : List Int} {x y : Int} : rowOf bs x = rowOf bs y ↔ Like bs x y := by
  unfold rowOf Like
  constructor
  · intro h b hb
    obtain ⟨k, hk⟩ := List.mem_iff_getElem?.mp hb
    have := congrArg (fun l => l[k]?) h
    simp only [List.getElem?_map, hk, Option.map_some] at this
    exact Option.some.inj this
  · intro h
    exact List.map_congr_left h
/-- the two guards -/
theorem Good.guards {bs : List Int} (g : Good bs) : ∃ g1 g2, bs.drop (bs.length - 2) = [g1, g2] ∧ bs[bs.length - 2]? = some g1 ∧ bs[bs.length - 1]? = some g2 ∧ 3 ≤ g1 ∧ 3 ≤ g2 ∧ g1 ∈ bs ∧ g2 ∈ bs := by
  have h3 := g.len3
  have l1 : bs.length - 2 < bs.length := by omega
  have l2 : bs.length - 2 + 1 < bs.length := by omega
  refine ⟨bs[bs.length - 2], bs[bs.length - 1], ?_, by simp [l1], by simp, (g.rng _ (List.getElem_mem _)).1, (g.rng _ (List.getElem_mem _)).1, List.getElem_mem _, List.getElem_mem _⟩
  rw [List.drop_eq_getElem_cons l1, List.drop_eq_getElem_cons l2]
  have e : bs.length - 2 + 1 = bs.length - 1 := by omega
  have e2 : bs.length - 2 + 1 + 1 = bs.length := by omega
  simp only [e2, List.drop_length]
  congr 2
  simp only [e]
theorem Good.room_pos {bs : List Int} (g : Good bs) : 0 < room bs := prod_pos (pos_take g.pos _)
theorem Good.prod_eq {bs : List Int} (g : Good bs) : ∃ g1 g2, bs.drop (bs.length - 2) = [g1, g2] ∧ 3 ≤ g1 ∧ 3 ≤ g2 ∧ bs[bs.length - 2]? = some g1 ∧ bs[bs.length - 1]? = some g2 ∧ prod bs = room bs * (g1 * g2) := by
  obtain ⟨g1, g2, h, k1, k2, p1, p2, _, _⟩ := g.guards
  refine ⟨g1, g2, h, p1, p2, k1, k2, ?_⟩
  have := List.take_append_drop (bs.length - 2) bs
  conv => lhs; rw [← this, prod_append, h]
  simp [prod, room]
theorem Good.room9 {bs : List Int} (g : Good bs) : room bs * 9 ≤ prod bs := by
  obtain ⟨g1, g2, _, p1, p2, _, _, e⟩ := g.prod_eq
  rw [e]
  have hp := g.room_pos
  refine Int.mul_le_mul_of_nonneg_left ?_ (Int.le_of_lt hp)
  have : 3 * 3 ≤ g1 * g2 := Int.mul_le_mul p1 p2 (by decide) (by omega)
  omega
/-- a row tells a number just where the last two figures are 0 -/
theorem Good.tells {bs : List Int} (g : Good bs) {x : Int} (x0 : 0 ≤ x) (x1 : x < prod bs) : (digits bs x).drop (bs.length - 2) = [0, 0] ↔ x < room bs := by
  obtain ⟨g1, g2, h, p1, p2, _, _, e⟩ := g.prod_eq
  have hp := g.room_pos
  rw [digits_drop x _ g.pos, h]
  show digits [g1, g2] (x / room bs) = [0, 0] ↔ _
  rw [value_two (by omega) (by omega) (Int.ediv_nonneg x0 (Int.le_of_lt hp)) (Int.ediv_lt_of_lt_mul hp (by rw [Int.mul_comm, ← e]; exact x1))]
  constructor
  · intro h0
    have := Int.emod_add_mul_ediv x (room bs)
    have l := Int.emod_lt_of_pos x hp
    rw [h0] at this
    omega
  · intro h0
    exact Int.ediv_eq_zero_of_lt x0 h0
theorem Good.crt {bs : List Int} (g : Good bs) {rs : List Int} (h : rs.length = bs.length) : ∃ x, 0 ≤ x ∧ x < prod bs ∧ Has bs rs x := Rw.crt rs g.cop g.pos h

/-! ### one place left out -/
theorem prod_erase : ∀ {bs : List Int} {p : Nat} {b : Int}, bs[p]? = some b → prod (bs.eraseIdx p) * b = prod bs
  | c :: bs, 0, b, h => by
    have e : c = b := by simpa using h
    subst e
    show prod bs * c = c * prod bs
    exact Int.mul_comm _ _
  | c :: bs, p + 1, b, h => by
    have h' : bs[p]? = some b := by simpa using h
    show c * prod (bs.eraseIdx p) * b = c * prod bs
    rw [Int.mul_assoc, prod_erase h']
theorem pos_erase {bs : List Int} (ps : Pos bs) (p : Nat) : Pos (bs.eraseIdx p) := fun b hb => ps b (List.mem_of_mem_eraseIdx hb)
theorem pc_erase {bs : List Int} (h : PC bs) (p : Nat) : PC (bs.eraseIdx p) := List.Pairwise.sublist (List.eraseIdx_sublist ..) h
theorem rise_le {bs : List Int} (h : bs.Pairwise (· < ·)) {i j : Nat} {a b : Int} (hi : bs[i]? = some a) (hj : bs[j]? = some b) (hij : i ≤ j) : a ≤ b := by
  obtain ⟨li, ei⟩ := List.getElem?_eq_some_iff.mp hi
  obtain ⟨lj, ej⟩ := List.getElem?_eq_some_iff.mp hj
  rcases Nat.lt_or_eq_of_le hij with h1 | h1
  · have := List.pairwise_iff_getElem.mp h i j li lj h1
    omega
  · subst h1
    rw [hi] at hj
    have := Option.some.inj hj
    omega
theorem Good.room_erase {bs : List Int} (g : Good bs) (p : Nat) (hp : p < bs.length) : room bs * 3 ≤ prod (bs.eraseIdx p) := by
  obtain ⟨g1, g2, _, p1, p2, k1, k2, e⟩ := g.prod_eq
  have hb : bs[p]? = some bs[p] := List.getElem?_eq_getElem hp
  have e2 := prod_erase hb
  have b3 := (g.rng _ (List.getElem_mem hp)).1
  have le : bs[p] ≤ g2 := rise_le g.rise hb k2 (by omega)
  have pe := prod_pos (pos_erase g.pos p)
  have pr := g.room_pos
  have h1 : prod (bs.eraseIdx p) * bs[p] ≤ prod (bs.eraseIdx p) * g2 := Int.mul_le_mul_of_nonneg_left le (Int.le_of_lt pe)
  rw [e2, e, ← Int.mul_assoc] at h1
  have h2 : room bs * g1 ≤ prod (bs.eraseIdx p) := Int.le_of_mul_le_mul_right h1 (by omega)
  have h3 : room bs * 3 ≤ room bs * g1 := Int.mul_le_mul_of_nonneg_left p1 (Int.le_of_lt pr)
  omega
/-- two numbers of the room whose rests differ at two places at most are one -/
theorem Good.uniq2 {bs : List Int} (g : Good bs) {x y : Int} (x0 : 0 ≤ x) (x1 : x < room bs) (y0 : 0 ≤ y) (y1 : y < room bs) {p q : Nat} (hpq : p < q) (hq : q < bs.length)
    (h : ∀ (k : Nat) (b : Int), bs[k]? = some b → k ≠ p → k ≠ q → x % b = y % b) : x = y := by
  obtain ⟨g1, g2, _, p1, p2, k1, k2, e⟩ := g.prod_eq
  have hb : bs[q]? = some bs[q] := List.getElem?_eq_getElem hq
  have ha : bs[p]? = some (bs[p]'(by omega)) := List.getElem?_eq_getElem (by omega)
  have ha' : (bs.eraseIdx q)[p]? = some (bs[p]'(by omega)) := by rw [List.getElem?_eraseIdx_of_lt hpq]; exact ha
  have e1 := prod_erase hb
  have e2 := prod_erase ha'
  have la : bs[p]'(by omega) ≤ g1 := rise_le g.rise ha k1 (by omega)
  have lb : bs[q] ≤ g2 := rise_le g.rise hb k2 (by omega)
  have a3 := (g.rng _ (List.getElem_mem (show p < bs.length by omega))).1
  have b3 := (g.rng _ (List.getElem_mem hq)).1
  have pe := prod_pos (pos_erase (pos_erase g.pos q) p)
  have pr := g.room_pos
  generalize hC : prod ((bs.eraseIdx q).eraseIdx p) = C at *
  generalize hA : bs[p]'(by omega) = A at *
  generalize hB : bs[q] = B at *
  have hm : room bs ≤ C := by
    have h1 : C * (A * B) = room bs * (g1 * g2) := by rw [← Int.mul_assoc, e2, e1, e]
    have h2 : A * B ≤ g1 * g2 := Int.mul_le_mul la lb (by omega) (by omega)
    have h3 : 0 < A * B := Int.mul_pos (by omega) (by omega)
    have h4 : room bs * (A * B) ≤ room bs * (g1 * g2) := Int.mul_le_mul_of_nonneg_left h2 (Int.le_of_lt pr)
    rw [← h1] at h4
    exact Int.le_of_mul_le_mul_right h4 h3
  refine like_eq (bs := (bs.eraseIdx q).eraseIdx p) (pc_erase (pc_erase g.cop q) p) (fun b hb' => ?_) (by rw [hC]; exact hm) x0 x1 y0 y1
  obtain ⟨i, hi⟩ := List.mem_iff_getElem?.mp hb'
  rw [List.getElem?_eraseIdx, List.getElem?_eraseIdx, List.getElem?_eraseIdx] at hi
  split at hi <;> split at hi
  · exact h i b hi (by omega) (by omega)
  · exact h (i + 1) b hi (by omega) (by omega)
  · exact h (i + 1) b hi (by omega) (by omega)
  · exact h (i + 1 + 1) b hi (by omega) (by omega)
theorem Good.uniq1 {bs : List Int} (g : Good bs) {x y : Int} (x0 : 0 ≤ x) (x1 : x < room bs) (y0 : 0 ≤ y) (y1 : y < room bs) {p : Nat} (hp : p < bs.length)
    (h : ∀ (k : Nat) (b : Int), bs[k]? = some b → k ≠ p → x % b = y % b) : x = y := by
  have h3 := g.len3
  by_cases hq : p + 1 < bs.length
  · exact g.uniq2 x0 x1 y0 y1 (Nat.lt_succ_self p) hq fun k b hb h1 _ => h k b hb h1
  · exact g.uniq2 x0 x1 y0 y1 (p := p - 1) (q := p) (by omega) hp fun k b hb _ h1 => h k b hb h1
theorem Good.uniq0 {bs : List Int} (g : Good bs) {x y : Int} (x0 : 0 ≤ x) (x1 : x < room bs) (y0 : 0 ≤ y) (y1 : y < room bs) (h : Like bs x y) : x = y :=
  g.uniq1 x0 x1 y0 y1 (p := 0) (by have := g.len3; omega) fun _ b hb _ => h b (List.mem_of_getElem? hb)

/-- the least number that has the other rests -/
structure Others (bs rs : List Int) (p : Nat) (y : Int) : Prop where
  lo : 0 ≤ y
  hi : y < prod (bs.eraseIdx p)
  has : ∀ (k : Nat) (b r : Int), k ≠ p → bs[k]? = some b → rs[k]? = some r → y % b = r % b
theorem Good.others {bs : List Int} (g : Good bs) {rs : List Int} (h : rs.length = bs.length) (p : Nat) (hp : p < bs.length) : ∃ y, Others bs rs p y := by
  obtain ⟨y, y0, y1, hy⟩ := Rw.crt (bs := bs.eraseIdx p) (rs.eraseIdx p) (pc_erase g.cop p) (pos_erase g.pos p) (by simp [List.length_eraseIdx, h])
  refine ⟨y, y0, y1, fun k b r hk hb hr => ?_⟩
  by_cases hlt : k < p
  · exact hy k b r (by rw [List.getElem?_eraseIdx_of_lt hlt]; exact hb) (by rw [List.getElem?_eraseIdx_of_lt hlt]; exact hr)
  · obtain ⟨j, rfl⟩ : ∃ j, k = j + 1 := ⟨k - 1, by omega⟩
    exact hy j b r (by rw [List.getElem?_eraseIdx_of_ge (by omega)]; exact hb) (by rw [List.getElem?_eraseIdx_of_ge (by omega)]; exact hr)
/-- a number of the room with the other rests is it -/
theorem Others.is {bs rs : List Int} {p : Nat} {y m : Int} (o : Others bs rs p y) (g : Good bs) (hl : bs.length ≤ rs.length) (hp : p < bs.length) (m0 : 0 ≤ m) (m1 : m < room bs)
    (h : ∀ (k : Nat) (b r : Int), k ≠ p → bs[k]? = some b → rs[k]? = some r → m % b = r % b) : y = m := by
  have hr := g.room_erase p hp
  have pr := g.room_pos
  refine like_eq (pc_erase g.cop p) (fun b hb => ?_) (Int.le_refl _) o.lo o.hi m0 (by omega)
  obtain ⟨i, hi⟩ := List.mem_iff_getElem?.mp hb
  rw [List.getElem?_eraseIdx] at hi
  have key : ∀ k, k ≠ p → bs[k]? = some b → y % b = m % b := fun k hk hb' => by
    have := (List.getElem?_eq_some_iff.mp hb').1
    have hr' : rs[k]? = some (rs[k]'(by omega)) := List.getElem?_eq_getElem (by omega)
    rw [o.has k b _ hk hb' hr', h k b _ hk hb' hr']
  split at hi
  · exact key i (by omega) hi
  · exact key (i + 1) (by omega) hi
/-- with its own rest at the place it has all rests, and is the number of the whole row -/
theorem Others.whole {bs rs : List Int} {p : Nat} {y b : Int} (o : Others bs rs p y) (g : Good bs) (hb : bs[p]? = some b) : y < prod bs ∧ Has bs (rs.set p (y % b)) y := by
  have b3 := (g.rng _ (List.mem_of_getElem? hb)).1
  refine ⟨?_, fun k c r hc hr => ?_⟩
  · have e := prod_erase hb
    have : prod (bs.eraseIdx p) * 1 ≤ prod (bs.eraseIdx p) * b := Int.mul_le_mul_of_nonneg_left (by omega) (by have := o.lo; have := o.hi; omega)
    have := o.hi
    omega
  · by_cases hk : k = p
    · subst hk
      rw [hb] at hc
      have e := Option.some.inj hc
      subst e
      rw [List.getElem?_set] at hr
      simp only [if_true] at hr
      split at hr
      · rw [← Option.some.inj hr, Int.emod_emod]
      · cases hr
    · rw [List.getElem?_set_ne (fun e => hk e.symm)] at hr
      exact o.has k c r hk hc hr
theorem Good.two280 {bs : List Int} (g : Good bs) : ∀ (l : List Int), (∀ b ∈ l, 0 < b ∧ b ≤ 999999) → prod l ≤ 2 ^ (20 * l.length)
  | [], _ => by decide
  | b :: l, h => by
    have ih := g.two280 l fun c hc => h c (List.mem_cons_of_mem _ hc)
    obtain ⟨b0, b1⟩ := h b List.mem_cons_self
    have pp : 0 < prod l := prod_pos fun c hc => (h c (List.mem_cons_of_mem _ hc)).1
    show b * prod l ≤ 2 ^ (20 * (l.length + 1))
    have e : (2 : Int) ^ (20 * (l.length + 1)) = 2 ^ 20 * 2 ^ (20 * l.length) := by rw [← Int.pow_add]; congr 1; omega
    rw [e]
    refine Int.mul_le_mul ?_ ih (Int.le_of_lt pp) (by decide)
    have : (2 : Int) ^ 20 = 1048576 := by decide
    omega
theorem Good.prod_lt {bs : List Int} (g : Good bs) : prod bs < 2 ^ 300 := by
  have h := g.two280 bs fun b hb => ⟨g.pos b hb, (g.rng b hb).2⟩
  have h1 : (2 : Nat) ^ (20 * bs.length) ≤ 2 ^ 280 := Nat.pow_le_pow_right (by decide) (by have := g.len14; omega)
  have h2 : (2 : Nat) ^ 280 < 2 ^ 300 := Nat.pow_lt_pow_right (by decide) (by decide)
  have h3 : (2 : Int) ^ (20 * bs.length) < 2 ^ 300 := by exact_mod_cast Nat.lt_of_le_of_lt h1 h2
  exact Int.lt_of_le_of_lt h h3
theorem Good.room_lt {bs : List Int} (g : Good bs) : room bs < 2 ^ 300 := by
  have := g.prod_lt
  have := g.room9
  have := g.room_pos
  omega
end Rw

namespace Rw
/-! ## Euclid -/
theorem gcd_emod (a b : Int) : Int.gcd a b = Int.gcd b (a % b) := by
  have h1 : Int.gcd a b ∣ Int.gcd b (a % b) := by
    refine Int.dvd_gcd (Int.gcd_dvd_right ..) ?_
    rw [Int.emod_def]
    exact Int.dvd_sub (Int.gcd_dvd_left ..) (Int.dvd_mul_of_dvd_left (Int.gcd_dvd_right ..))
  have h2 : Int.gcd b (a % b) ∣ Int.gcd a b := by
    refine Int.dvd_gcd ?_ (Int.gcd_dvd_left ..)
    have e := Int.emod_add_mul_ediv a b
    have : ((Int.gcd b (a % b) : Nat) : Int) ∣ a % b + b * (a / b) := Int.dvd_add (Int.gcd_dvd_right ..) (Int.dvd_mul_of_dvd_left (Int.gcd_dvd_left ..))
    rwa [e] at this
  exact Nat.dvd_antisymm h1 h2
theorem gcd_zero (a : Int) (h : 0 ≤ a) : (Int.gcd a 0 : Int) = a := by simp; omega
/-- turned's loop -/
structure EG (number base high low ahead behind : Int) : Prop where
  l0 : 0 ≤ low
  lh : low < high
  hb : high ≤ base
  gcd : Int.gcd high low = Int.gcd number base
  c1 : (ahead * number - high) % base = 0
  c2 : (behind * number - low) % base = 0
  sg : ∃ A B : Int, 0 ≤ A ∧ 0 ≤ B ∧ B * high + A * low = base ∧ ((ahead = -A ∧ behind = B) ∨ (ahead = A ∧ behind = -B))
theorem EG.start {number base : Int} (hb : 2 ≤ base) : EG number base base (number % base) 0 1 := by
  have h0 := Int.emod_nonneg number (show base ≠ 0 by omega)
  have h1 := Int.emod_lt_of_pos number (show 0 < base by omega)
  refine ⟨h0, h1, Int.le_refl _, (gcd_emod number base).symm, ?_, ?_, 0, 1, by decide, by decide, by omega, .inl ⟨rfl, rfl⟩⟩
  · rw [Int.zero_mul, Int.zero_sub, Int.neg_emod_self]
  · rw [Int.one_mul, ← Int.dvd_iff_emod_eq_zero]
    have := Int.emod_add_mul_ediv number base
    exact ⟨number / base, by omega⟩
theorem EG.step {number base high low ahead behind : Int} (e : EG number base high low ahead behind) (hl : 0 < low) :
    EG number base low (high - high / low * low) behind (ahead - high / low * behind) := by
  obtain ⟨l0, lh, hb, g, c1, c2, A, B, a0, b0, s, sg⟩ := e
  have em : high - high / low * low = high % low := by
    have := Int.emod_add_ediv_mul high low
    omega
  have m0 : 0 ≤ high / low := Int.ediv_nonneg (by omega) l0
  refine ⟨?_, ?_, by omega, ?_, c2, ?_, B, A + high / low * B, b0, ?_, ?_, ?_⟩
  · rw [em]; exact Int.emod_nonneg _ (by omega)
  · rw [em]; exact Int.emod_lt_of_pos _ hl
  · rw [em, ← gcd_emod, g]
  · rw [← Int.dvd_iff_emod_eq_zero] at c1 c2 ⊢
    have : (ahead - high / low * behind) * number - (high - high / low * low) = (ahead * number - high) - high / low * (behind * number - low) := by grind
    rw [this]
    exact Int.dvd_sub c1 (Int.dvd_mul_of_dvd_right c2)
  · have := Int.mul_nonneg m0 b0
    omega
  · rw [← s]; grind
  · rcases sg with ⟨e1, e2⟩ | ⟨e1, e2⟩
    · right; exact ⟨e2, by rw [e1, e2]; grind⟩
    · left; exact ⟨e2, by rw [e1, e2]; grind⟩
theorem EG.bound {number base high low ahead behind : Int} (e : EG number base high low ahead behind) (hl : 0 < low) : ahead.natAbs ≤ base.natAbs ∧ behind.natAbs ≤ base.natAbs ∧ high.natAbs ≤ base.natAbs ∧ low.natAbs ≤ base.natAbs ∧ (high / low).natAbs ≤ base.natAbs := by
  obtain ⟨l0, lh, hb, g, c1, c2, A, B, a0, b0, s, sg⟩ := e
  have h1 : B * 1 ≤ B * high := Int.mul_le_mul_of_nonneg_left (by omega) b0
  have h2 : A * 1 ≤ A * low := Int.mul_le_mul_of_nonneg_left (by omega) a0
  have h3 := Int.mul_nonneg b0 (show 0 ≤ high by omega)
  have h4 := Int.mul_nonneg a0 l0
  have h5 := Int.ediv_nonneg (show 0 ≤ high by omega) l0
  have h6 := Int.ediv_le_self low (show 0 ≤ high by omega)
  refine ⟨?_, ?_, by omega, by omega, by omega⟩
  · rcases sg with ⟨e1, e2⟩ | ⟨e1, e2⟩ <;> omega
  · rcases sg with ⟨e1, e2⟩ | ⟨e1, e2⟩ <;> omega
theorem EG.end_ {number base high ahead behind : Int} (e : EG number base high 0 ahead behind) : high = 1 ↔ Cop number base := by
  have h := e.gcd
  have h0 := e.lh
  have := gcd_zero high (by omega)
  show high = 1 ↔ Int.gcd number base = 1
  omega
theorem EG.turns {number base ahead behind : Int} (hb : 2 ≤ base) (e : EG number base 1 0 ahead behind) : Turns number base (ahead % base) := by
  refine ⟨Int.emod_nonneg _ (by omega), Int.emod_lt_of_pos _ (by omega), ?_⟩
  rw [Int.mul_emod, Int.emod_emod, ← Int.mul_emod]
  exact mod_eq_iff.mpr (Int.dvd_iff_emod_eq_zero.mpr e.c1)
theorem Turns.pos {a b t : Int} (h : Turns a b t) (hb : 2 ≤ b) : 0 < t := by
  have := h.lo
  have e := h.eq
  rw [Int.emod_eq_of_lt (a := 1) (by decide) (by omega)] at e
  rcases Int.lt_or_eq_of_le this with h | h
  · exact h
  · rw [← h] at e
    simp at e

/-! ## where the other places are -/
/-- the at-th of the places but p -/
def oth (p a : Nat) : Nat := if a < p then a else a + 1
theorem oth_ne (p a : Nat) : oth p a ≠ p := by unfold oth; split <;> omega
theorem oth_lt {p a n : Nat} (h : a < n - 1) (hp : p < n) : oth p a < n := by unfold oth; split <;> omega
theorem erase_oth {α : Type} (l : List α) (p a : Nat) : (l.eraseIdx p)[a]? = l[oth p a]? := by
  rw [List.getElem?_eraseIdx]
  unfold oth
  split <;> rfl
theorem range_but : ∀ {n p : Nat}, p < n → (List.range n).filter (fun i => decide (i ≠ p)) = (List.range n).eraseIdx p
  | n + 1, p, hp => by
    rw [List.range_succ, List.filter_append]
    by_cases e : p = n
    · subst e
      have h1 : (List.range p).filter (fun i => decide (i ≠ p)) = List.range p := List.filter_eq_self.mpr fun a ha => by
        have := List.mem_range.mp ha
        exact decide_eq_true (by omega)
      rw [h1, List.eraseIdx_append_of_length_le (by simp)]
      simp
    · have hlt : p < n := by omega
      rw [range_but hlt, List.eraseIdx_append_of_lt_length (by simpa using hlt)]
      have : ([n] : List Nat).filter (fun i => decide (i ≠ p)) = [n] := by
        simp
        omega
      rw [this]
theorem prod_erase_take {bs : List Int} {p a : Nat} {b : Int} (hb : bs[p]? = some b) : prod ((bs.eraseIdx p).take a) * (if oth p a > p then b else 1) = prod (bs.take (oth p a)) := by
  obtain ⟨hp, _⟩ := List.getElem?_eq_some_iff.mp hb
  unfold oth
  by_cases h : a < p
  · rw [if_pos h, if_neg (by omega), Int.mul_one]
    congr 1
    rw [List.eraseIdx_eq_take_drop_succ, List.take_append_of_le_length (by simp; omega), List.take_take, Nat.min_eq_left (by omega)]
  · rw [if_neg h, if_pos (by omega)]
    have e : (bs.eraseIdx p).take a = (bs.take (a + 1)).eraseIdx p := by
      apply List.ext_getElem?
      intro i
      rw [List.getElem?_eraseIdx]
      by_cases hi : i < a
      · rw [List.getElem?_take_of_lt hi, List.getElem?_eraseIdx]
        split
        · rw [List.getElem?_take_of_lt (by omega)]
        · rw [List.getElem?_take_of_lt (by omega)]
      · rw [List.getElem?_eq_none (by simp; omega)]
        rw [if_neg (by omega), List.getElem?_eq_none (by simp; omega)]
    rw [e, prod_erase]
    rw [List.getElem?_take_of_lt (by omega)]
    exact hb
end Rw
namespace Rw
/- the number that turns a over b -/
open Classical in
noncomputable def inv (a b : Int) : Int := if h : ∃ t, Turns a b t then Classical.choose h else 0
theorem inv_spec {a b : Int} (h : Cop a b) (hb : 0 < b) : Turns a b (inv a b) := by
  have e := turns_ex h hb
  unfold inv
  rw [dif_pos e]
  exact Classical.choose_spec e
theorem inv_eq {a b t : Int} (h : Cop a b) (hb : 0 < b) (ht : Turns a b t) : inv a b = t := (inv_spec h hb).uniq ht
theorem natAbs_lt300 {b : Int} (h0 : 0 ≤ b) (h : b < 2 ^ 300) : b.natAbs < 2 ^ 300 := by
  have e : ((b.natAbs : Nat) : Int) = b := Int.natAbs_of_nonneg h0
  have h2 : ((b.natAbs : Nat) : Int) < ((2 ^ 300 : Nat) : Int) := by
    rw [e]
    exact_mod_cast h
  exact_mod_cast h2
end Rw

namespace Rw
open Classical
/-! ## The number of a row, the turning numbers of a board -/
/- the number whose rests a row has -/
noncomputable def num (bs rs : List Int) : Int := if h : ∃ x, 0 ≤ x ∧ x < prod bs ∧ Has bs rs x then Classical.choose h else 0
theorem num_spec {bs rs : List Int} (g : Good bs) (h : rs.length = bs.length) : 0 ≤ num bs rs ∧ num bs rs < prod bs ∧ Has bs rs (num bs rs) := by
  have e := g.crt h
  unfold num
  rw [dif_pos e]
  exact Classical.choose_spec e
theorem num_eq {bs rs : List Int} {x : Int} (g : Good bs) (h : rs.length = bs.length) (x0 : 0 ≤ x) (x1 : x < prod bs) (hx : Has bs rs x) : num bs rs = x := by
  obtain ⟨n0, n1, hn⟩ := num_spec g h
  exact like_eq g.cop (has_like (by omega) hn hx) (Int.le_refl _) n0 n1 x0 x1
theorem num_row {bs : List Int} {x : Int} (g : Good bs) (x0 : 0 ≤ x) (x1 : x < prod bs) : num bs (rowOf bs x) = x := num_eq g (rowOf_length _ _) x0 x1 (has_rowOf _ _)
theorem num_rowR {bs : List Int} {x : Int} (g : Good bs) (x0 : 0 ≤ x) (x1 : x < room bs) : num bs (rowOf bs x) = x := num_row g x0 (by have := g.room9; have := g.room_pos; omega)
/-- a row over the bases -/
structure IsRow (bs rs : List Int) : Prop where
  len : rs.length = bs.length
  rng : ∀ (k : Nat) (r b : Int), rs[k]? = some r → bs[k]? = some b → 0 ≤ r ∧ r < b
theorem isRow_rowOf {bs : List Int} (g : Good bs) (x : Int) : IsRow bs (rowOf bs x) := ⟨rowOf_length _ _, fun k r b hr hb => by
  rw [rowOf_get hb] at hr
  have e := Option.some.inj hr
  have p := g.pos b (List.mem_of_getElem? hb)
  rw [← e]
  exact ⟨Int.emod_nonneg _ (by omega), Int.emod_lt_of_pos _ p⟩⟩
/-- a row is the row of its number -/
theorem row_num {bs rs : List Int} (g : Good bs) (h : IsRow bs rs) : rowOf bs (num bs rs) = rs := by
  obtain ⟨_, _, hn⟩ := num_spec g h.len
  apply List.ext_getElem?
  intro k
  by_cases hk : k < bs.length
  · have hb : bs[k]? = some bs[k] := List.getElem?_eq_getElem hk
    have hr : rs[k]? = some (rs[k]'(by rw [h.len]; exact hk)) := List.getElem?_eq_getElem (by rw [h.len]; exact hk)
    rw [rowOf_get hb, hr, hn k _ _ hb hr]
    obtain ⟨r0, r1⟩ := h.rng k _ _ hr hb
    rw [Int.emod_eq_of_lt r0 r1]
  · rw [List.getElem?_eq_none (by rw [rowOf_length]; omega), List.getElem?_eq_none (by rw [h.len]; omega)]
theorem is_row_of {bs rs : List Int} {x : Int} (g : Good bs) (h : IsRow bs rs) (hx : num bs rs = x) : rs = rowOf bs x := by rw [← hx, row_num g h]
/-- the turning numbers -/
noncomputable def turnsOf (bs : List Int) : List Int := (List.range bs.length).map fun k => inv (prod (bs.take k)) (bs.getD k 0)
theorem turnsOf_length (bs : List Int) : (turnsOf bs).length = bs.length := by simp [turnsOf]
theorem getD_of {bs : List Int} {k : Nat} {b : Int} (h : bs[k]? = some b) : bs.getD k 0 = b := by rw [List.getD_eq_getElem?_getD, h]; rfl
theorem turnsOf_get {bs : List Int} {k : Nat} {b : Int} (h : bs[k]? = some b) : (turnsOf bs)[k]? = some (inv (prod (bs.take k)) b) := by
  have hk := (List.getElem?_eq_some_iff.mp h).1
  simp only [turnsOf, List.getElem?_map, List.getElem?_range hk, Option.map_some, getD_of h]
theorem Good.copTake {bs : List Int} (g : Good bs) {k : Nat} {b : Int} (h : bs[k]? = some b) : Cop (prod (bs.take k)) b := by
  refine (cop_prod fun c hc => ?_).symm
  obtain ⟨j, hj⟩ := List.mem_iff_getElem?.mp hc
  have hjk : j < k := by
    have := (List.getElem?_eq_some_iff.mp hj).1
    simp at this
    omega
  rw [List.getElem?_take_of_lt hjk] at hj
  obtain ⟨lj, ej⟩ := List.getElem?_eq_some_iff.mp hj
  obtain ⟨lk, ek⟩ := List.getElem?_eq_some_iff.mp h
  have := List.pairwise_iff_getElem.mp g.cop j k lj lk hjk
  rw [ej, ek] at this
  exact this.symm
theorem Good.turns {bs : List Int} (g : Good bs) {k : Nat} {b : Int} (h : bs[k]? = some b) : Turns (prod (bs.take k)) b (inv (prod (bs.take k)) b) := inv_spec (g.copTake h) (g.pos b (List.mem_of_getElem? h))
theorem Good.get3 {bs : List Int} (g : Good bs) {k : Nat} {b : Int} (h : bs[k]? = some b) : 3 ≤ b ∧ b ≤ 999999 ∧ b % 2 = 1 := ⟨(g.rng b (List.mem_of_getElem? h)).1, (g.rng b (List.mem_of_getElem? h)).2, g.odd b (List.mem_of_getElem? h)⟩
/-- the weight's own rest turns as well -/
theorem inv_mod {a b : Int} (h : Cop a b) (hb : 0 < b) : Cop (a % b) b ∧ inv (a % b) b = inv a b := by
  have c : Cop (a % b) b := by
    show Int.gcd (a % b) b = 1
    rw [Int.gcd_comm, ← gcd_emod]
    exact h
  refine ⟨c, inv_eq c hb ⟨(inv_spec h hb).lo, (inv_spec h hb).hi, ?_⟩⟩
  rw [Int.mul_emod, Int.emod_emod, ← Int.mul_emod]
  exact (inv_spec h hb).eq
/-- as need_bases looks -/
theorem good_of {bs : List Int} (h3 : 3 ≤ bs.length) (h14 : bs.length ≤ 14) (hr : ∀ (k : Nat) (b : Int), bs[k]? = some b → 3 ≤ b ∧ b ≤ 999999 ∧ b % 2 = 1)
    (hn : ∀ (k : Nat) (a b : Int), bs[k]? = some a → bs[k + 1]? = some b → a < b) (hc : ∀ (j k : Nat) (a b : Int), j < k → bs[j]? = some a → bs[k]? = some b → Cop a b) : Good bs := by
  refine ⟨h3, h14, fun b hb => ?_, fun b hb => ?_, ?_, ?_⟩
  · obtain ⟨k, hk⟩ := List.mem_iff_getElem?.mp hb
    exact ⟨(hr k b hk).1, (hr k b hk).2.1⟩
  · obtain ⟨k, hk⟩ := List.mem_iff_getElem?.mp hb
    exact (hr k b hk).2.2
  · rw [List.pairwise_iff_getElem]
    intro i j hi hj hij
    have key : ∀ d, ∀ (h : i + 1 + d < bs.length), bs[i] < bs[i + 1 + d] := by
      intro d
      induction d with
      | zero => intro h; exact hn i _ _ (List.getElem?_eq_getElem hi) (List.getElem?_eq_getElem h)
      | succ d ih =>
        intro h
        have h1 := ih (by omega)
        have h2 := hn (i + 1 + d) _ _ (List.getElem?_eq_getElem (by omega)) (List.getElem?_eq_getElem h)
        have h2' : bs[i + 1 + d]'(by omega) < bs[i + 1 + (d + 1)] := h2
        omega
    have e : i + 1 + (j - i - 1) = j := by omega
    have := key (j - i - 1) (by omega)
    simp only [e] at this
    exact this
  · rw [show PC bs ↔ bs.Pairwise Cop from Iff.rfl, List.pairwise_iff_getElem]
    intro i j hi hj hij
    exact hc i j _ _ hij (List.getElem?_eq_getElem hi) (List.getElem?_eq_getElem hj)
theorem Good.next {bs : List Int} (g : Good bs) {k : Nat} {a b : Int} (ha : bs[k]? = some a) (hb : bs[k + 1]? = some b) : a < b := by
  obtain ⟨li, ei⟩ := List.getElem?_eq_some_iff.mp ha
  obtain ⟨lj, ej⟩ := List.getElem?_eq_some_iff.mp hb
  have := List.pairwise_iff_getElem.mp g.rise k (k + 1) li lj (by omega)
  rw [ei, ej] at this
  exact this
theorem Good.cop2 {bs : List Int} (g : Good bs) {j k : Nat} {a b : Int} (hjk : j < k) (ha : bs[j]? = some a) (hb : bs[k]? = some b) : Cop a b := by
  obtain ⟨li, ei⟩ := List.getElem?_eq_some_iff.mp ha
  obtain ⟨lj, ej⟩ := List.getElem?_eq_some_iff.mp hb
  have := List.pairwise_iff_getElem.mp g.cop j k li lj hjk
  rw [ei, ej] at this
  exact this
/-- the least number with the other rests -/
noncomputable def onum (bs rs : List Int) (p : Nat) : Int := if h : ∃ y, Others bs rs p y then Classical.choose h else 0
theorem onum_spec {bs rs : List Int} {p : Nat} (g : Good bs) (h : rs.length = bs.length) (hp : p < bs.length) : Others bs rs p (onum bs rs p) := by
  have e := g.others h p hp
  unfold onum
  rw [dif_pos e]
  exact Classical.choose_spec e
end Rw
namespace Rw
/-! ## Sums, halves -/
theorem prod_like {bs : List Int} (x : Int) : Like bs (x % prod bs) x := fun b hb => Int.emod_emod_of_dvd x (dvd_prod hb)
theorem num_rowOf {bs : List Int} (g : Good bs) (x : Int) : num bs (rowOf bs x) = x % prod bs := by
  have pp := prod_pos g.pos
  rw [← rowOf_eq_iff.mpr (prod_like (bs := bs) x)]
  exact num_row g (Int.emod_nonneg _ (by omega)) (Int.emod_lt_of_pos _ pp)
theorem sum_row {bs : List Int} {x y : Int} {k : Nat} {b : Int} (_hb : bs[k]? = some b) : (x % b + y % b) % b = (x + y) % b := (Int.add_emod x y b).symm
theorem sub_row {x y b : Int} : (x % b - y % b) % b = (x - y) % b := (Int.sub_emod x y b).symm
theorem num_sum {bs : List Int} (g : Good bs) {x y : Int} (x0 : 0 ≤ x) (x1 : x < room bs) (y0 : 0 ≤ y) (y1 : y < room bs) : num bs (rowOf bs (x + y)) = x + y := by
  have := g.room9
  rw [num_rowOf g, Int.emod_eq_of_lt (by omega) (by omega)]
theorem num_sub {bs : List Int} (g : Good bs) {x y : Int} (x0 : 0 ≤ x) (x1 : x < room bs) (y0 : 0 ≤ y) (y1 : y < room bs) : (0 ≤ x - y ∧ num bs (rowOf bs (x - y)) = x - y) ∨ (x - y < 0 ∧ room bs ≤ num bs (rowOf bs (x - y))) := by
  have h9 := g.room9
  rw [num_rowOf g]
  by_cases h : 0 ≤ x - y
  · exact .inl ⟨h, Int.emod_eq_of_lt h (by omega)⟩
  · refine .inr ⟨by omega, ?_⟩
    have e : (x - y) % prod bs = x - y + prod bs := by
      rw [← Int.add_emod_right, Int.emod_eq_of_lt (by omega) (by omega)]
    omega
theorem cop_two {b : Int} (h : b % 2 = 1) : Cop 2 b := by
  show Int.gcd 2 b = 1
  rw [Int.gcd_comm, gcd_emod, h]
  decide
theorem half_step {x r b : Int} (h3 : 3 ≤ b) (ho : b % 2 = 1) (hr : x % b = r % b) : (r - x % 2) * inv 2 b % b = x / 2 % b := by
  have t := inv_spec (cop_two ho) (show 0 < b by omega)
  have e := fig_step (x := x) (p := 2) (b := b) (t := inv 2 b) (r := r) (by decide) (by omega) t.eq hr
  have m0 := Int.emod_nonneg x (show (2 : Int) ≠ 0 by decide)
  have m1 := Int.emod_lt_of_pos x (show (0 : Int) < 2 by decide)
  rw [Int.emod_eq_of_lt m0 (by omega)] at e
  exact e
theorem num_get {bs rs : List Int} (g : Good bs) (hl : rs.length = bs.length) {k : Nat} {b r : Int} (hb : bs[k]? = some b) (hr : rs[k]? = some r) : num bs rs % b = r % b := (num_spec g hl).2.2 k b r hb hr
theorem Good.oddpos {bs : List Int} (g : Good bs) : ∀ b ∈ bs, 0 < b ∧ b % 2 = 1 := fun b hb => ⟨g.pos b hb, g.odd b hb⟩
/-! ## what the others tell -/
/-- the turning number of the at-th of the other places -/
theorem oturn {bs : List Int} (g : Good bs) {p a : Nat} {b c : Int} (hp : bs[p]? = some b) (hc : bs[oth p a]? = some c) :
    (if oth p a > p then inv (prod (bs.take (oth p a))) c * b % c else inv (prod (bs.take (oth p a))) c) * prod ((bs.eraseIdx p).take a) % c = 1 % c := by
  have e := prod_erase_take (a := a) hp
  have t := (g.turns hc).eq
  by_cases h : oth p a > p
  · rw [if_pos h] at e ⊢
    rw [Int.mul_emod, Int.emod_emod, ← Int.mul_emod]
    rw [← e] at t
    have e2 : inv (prod ((bs.eraseIdx p).take a) * b) c * b * prod ((bs.eraseIdx p).take a) = inv (prod ((bs.eraseIdx p).take a) * b) c * (prod ((bs.eraseIdx p).take a) * b) := by
      rw [Int.mul_assoc, Int.mul_comm b]
    rw [← e, e2, t]
  · rw [if_neg h, Int.mul_one] at e
    rw [if_neg h, ← e]
    rw [← e] at t
    exact t
end Rw

namespace Rw
/-! ## The bases that the laws build -/
structure Cfg (N : Int) (ps es : List Int) : Prop where
  pcop : PC ps
  podd : ∀ p ∈ ps, p % 2 = 1 ∧ 3 ≤ p ∧ p ≤ 13 ∧ p ∣ N
  ecop : ∀ e ∈ es, Cop e N ∧ e % 2 = 1 ∧ 3 ≤ e ∧ e ≤ 47
  ediff : es.Pairwise fun a b => (b - a) ∣ N ^ 5
  even : (2 : Int) ∣ N
  plen : ps.length ≤ 5
  elen : 3 ≤ es.length ∧ es.length ≤ 9
  len : ps.length + es.length ≤ 14
theorem cfg1 : Cfg 30030 [3, 5, 7, 11, 13] [17, 19, 23, 29, 31, 37, 41, 43, 47] := ⟨by decide +kernel, by decide +kernel, by decide +kernel, by decide +kernel, by decide +kernel, by decide, by decide, by decide⟩
theorem cfg2 : Cfg 2310 [3, 5, 7, 11] [13, 17, 19, 23, 29, 31] := ⟨by decide +kernel, by decide +kernel, by decide +kernel, by decide +kernel, by decide +kernel, by decide, by decide, by decide⟩
theorem Cop.mul_left {a b c : Int} (h1 : Cop a c) (h2 : Cop b c) : Cop (a * b) c := (Cop.mul_right h1.symm h2.symm).symm
theorem Cop.dvd_right {a b c : Int} (h : Cop a b) (hd : c ∣ b) : Cop a c := (h.symm.dvd_left hd).symm
theorem Cop.pow_right {a b : Int} (h : Cop a b) : ∀ n : Nat, Cop a (b ^ n)
  | 0 => by rw [Int.pow_zero]; exact Cop.one_right a
  | n + 1 => by rw [Int.pow_succ]; exact Cop.mul_right (h.pow_right n) h
theorem Cop.shift {a b : Int} (h : Cop a (b - a)) : Cop a b := by
  obtain ⟨u, v, e⟩ := bezI h
  refine cop_of_bez (u := u - v) (v := v) ?_
  rw [← e]
  grind
theorem odd_mul {a b : Int} (ha : a % 2 = 1) (hb : b % 2 = 1) : a * b % 2 = 1 := by
  rw [Int.mul_emod, ha, hb]
  decide
/-- behind i of the primes -/
structure InvA (N : Int) (ps : List Int) (i : Nat) (some : List Int) : Prop where
  el : ∀ x ∈ some, x % 2 = 1 ∧ 3 ≤ x ∧ x ≤ 2197 ∧ (∀ y, Cop y N → Cop y x) ∧ ∀ j p, i ≤ j → ps[j]? = .some p → Cop x p
  pc : PC some
  len : some.length ≤ i
theorem InvA.start (N : Int) (ps : List Int) : InvA N ps 0 [] := ⟨fun x h => by simp at h, List.Pairwise.nil, Nat.le_refl _⟩
theorem InvA.skip {N : Int} {ps : List Int} {i : Nat} {some : List Int} (h : InvA N ps i some) : InvA N ps (i + 1) some :=
  ⟨fun x hx => ⟨(h.el x hx).1, (h.el x hx).2.1, (h.el x hx).2.2.1, (h.el x hx).2.2.2.1, fun j p hj hp => (h.el x hx).2.2.2.2 j p (by omega) hp⟩, h.pc, Nat.le_succ_of_le h.len⟩
theorem pc_append {l : List Int} {x : Int} (h : PC l) (hx : ∀ y ∈ l, Cop y x) : PC (l ++ [x]) := by
  show (l ++ [x]).Pairwise Cop
  rw [List.pairwise_append]
  refine ⟨h, List.pairwise_singleton _ _, fun a ha b hb => ?_⟩
  have : b = x := by simpa using hb
  rw [this]
  exact hx a ha
theorem InvA.add {N : Int} {ps es : List Int} {i : Nat} {some : List Int} {p m : Int} (h : InvA N ps i some) (c : Cfg N ps es) (hp : ps[i]? = .some p) (hm : m = 1 ∨ m = p ∨ m = p * p) : InvA N ps (i + 1) (some ++ [p * m]) := by
  obtain ⟨po, p3, p13, pd⟩ := c.podd p (List.mem_of_getElem? hp)
  have cy : ∀ y, Cop y p → Cop y (p * m) := fun y hy => by
    rcases hm with hm | hm | hm <;> rw [hm]
    · rw [Int.mul_one]; exact hy
    · exact hy.mul_right hy
    · exact hy.mul_right (hy.mul_right hy)
  have bnd : 3 ≤ p * m ∧ p * m ≤ 2197 := by
    rcases hm with hm | hm | hm <;> rw [hm]
    · omega
    · have h1 : 3 * 3 ≤ p * p := Int.mul_le_mul p3 p3 (by decide) (by omega)
      have h2 : p * p ≤ 13 * 13 := Int.mul_le_mul p13 p13 (by omega) (by decide)
      omega
    · have h1 : 3 * 3 ≤ p * p := Int.mul_le_mul p3 p3 (by decide) (by omega)
      have h2 : p * p ≤ 13 * 13 := Int.mul_le_mul p13 p13 (by omega) (by decide)
      have h3 : 3 * 9 ≤ p * (p * p) := Int.mul_le_mul p3 (by omega) (by decide) (by omega)
      have h4 : p * (p * p) ≤ 13 * 169 := Int.mul_le_mul p13 (by omega) (by omega) (by decide)
      omega
  have od : p * m % 2 = 1 := by
    rcases hm with hm | hm | hm <;> rw [hm]
    · rw [Int.mul_one]; exact po
    · exact odd_mul po po
    · exact odd_mul po (odd_mul po po)
  refine ⟨fun x hx => ?_, pc_append h.pc fun y hy => cy y ((h.el y hy).2.2.2.2 i p (Nat.le_refl _) hp), by rw [List.length_append]; have := h.len; simp; omega⟩
  rcases List.mem_append.mp hx with hx | hx
  · exact ⟨(h.el x hx).1, (h.el x hx).2.1, (h.el x hx).2.2.1, (h.el x hx).2.2.2.1, fun j q hj hq => (h.el x hx).2.2.2.2 j q (by omega) hq⟩
  · have ex : x = p * m := by simpa using hx
    subst ex
    refine ⟨od, bnd.1, bnd.2, fun y hy => cy y (hy.dvd_right pd), fun j q hj hq => ?_⟩
    have : Cop p q := by
      obtain ⟨li, ei⟩ := List.getElem?_eq_some_iff.mp hp
      obtain ⟨lj, ej⟩ := List.getElem?_eq_some_iff.mp hq
      have := List.pairwise_iff_getElem.mp c.pcop i j li lj (by omega)
      rw [ei, ej] at this
      exact this
    exact (cy q this.symm).symm
/-- behind the primes, two of them as one or not -/
structure InvB (N : Int) (n : Nat) (some : List Int) : Prop where
  el : ∀ x ∈ some, x % 2 = 1 ∧ 3 ≤ x ∧ x ≤ 999999 ∧ ∀ y, Cop y N → Cop y x
  pc : PC some
  len : some.length ≤ n
theorem InvA.toB {N : Int} {ps : List Int} {some : List Int} (h : InvA N ps ps.length some) : InvB N ps.length some :=
  ⟨fun x hx => ⟨(h.el x hx).1, (h.el x hx).2.1, by have := (h.el x hx).2.2.1; omega, (h.el x hx).2.2.2.1⟩, h.pc, h.len⟩
theorem InvB.merge {N : Int} {n : Nat} {a b : Int} {r : List Int} (h : InvB N n (a :: b :: r)) (hl : a * b < 900000) : InvB N n (a * b :: r) := by
  obtain ⟨ha, ha3, _, hac⟩ := h.el a List.mem_cons_self
  obtain ⟨hb, hb3, _, hbc⟩ := h.el b (List.mem_cons_of_mem _ List.mem_cons_self)
  obtain ⟨p1, p2⟩ := List.pairwise_cons.mp h.pc
  obtain ⟨p3, p4⟩ := List.pairwise_cons.mp p2
  refine ⟨fun x hx => ?_, List.pairwise_cons.mpr ⟨fun y hy => Cop.mul_left (p1 y (List.mem_cons_of_mem _ hy)) (p3 y hy), p4⟩, by have := h.len; simp at this ⊢; omega⟩
  rcases List.mem_cons.mp hx with hx | hx
  · subst hx
    have : 3 * 3 ≤ a * b := Int.mul_le_mul ha3 hb3 (by decide) (by omega)
    exact ⟨odd_mul ha hb, by omega, by omega, fun y hy => (hac y hy).mul_right (hbc y hy)⟩
  · exact h.el x (List.mem_cons_of_mem _ (List.mem_cons_of_mem _ hx))
/-- behind k of the ends -/
structure InvC (far : Int) (es : List Int) (n k : Nat) (some : List Int) : Prop where
  el : ∀ x ∈ some, x % 2 = 1 ∧ 3 ≤ x ∧ x ≤ 999999 ∧ ∀ j e, k ≤ j → es[j]? = .some e → Cop x (far + e)
  pc : PC some
  len : some.length ≤ n + k
  low : 3 ≤ some.length + (es.length - k)
/-- how far the ends lie -/
def Far (N far : Int) : Prop := N ∣ far ∧ 0 ≤ far ∧ far ≤ 990990
theorem far_cop {N far e : Int} (h : N ∣ far) (he : Cop e N) : Cop (far + e) N := by
  obtain ⟨t, rfl⟩ := h
  obtain ⟨u, v, q⟩ := bezI he
  refine cop_of_bez (u := u) (v := v - u * t) ?_
  rw [← q]
  grind
theorem InvB.toC {N far : Int} {ps es : List Int} {some : List Int} (h : InvB N ps.length some) (c : Cfg N ps es) (hf : Far N far) : InvC far es ps.length 0 some :=
  ⟨fun x hx => ⟨(h.el x hx).1, (h.el x hx).2.1, (h.el x hx).2.2.1, fun j e _ he => ((h.el x hx).2.2.2 _ (far_cop hf.1 (c.ecop e (List.mem_of_getElem? he)).1)).symm⟩, h.pc, by have := h.len; omega, by have := c.elen; omega⟩
theorem InvC.skip {far : Int} {es : List Int} {n k : Nat} {some : List Int} (h : InvC far es n k some) (hk : k < es.length) (hl : ¬ (some.length : Int) + es.length - k ≤ 3) : InvC far es n (k + 1) some :=
  ⟨fun x hx => ⟨(h.el x hx).1, (h.el x hx).2.1, (h.el x hx).2.2.1, fun j e hj he => (h.el x hx).2.2.2 j e (by omega) he⟩, h.pc, by have := h.len; omega, by omega⟩
theorem InvC.add {N far e : Int} {ps es : List Int} {n k : Nat} {some : List Int} (h : InvC far es n k some) (c : Cfg N ps es) (hf : Far N far) (he : es[k]? = .some e) : InvC far es n (k + 1) (some ++ [far + e]) := by
  obtain ⟨ec, eo, e3, e47⟩ := c.ecop e (List.mem_of_getElem? he)
  obtain ⟨f1, f2, f3⟩ := hf
  have f2' : far % 2 = 0 := by
    have := Int.dvd_trans c.even f1
    omega
  refine ⟨fun x hx => ?_, pc_append h.pc fun y hy => (h.el y hy).2.2.2 k e (Nat.le_refl _) he, by rw [List.length_append]; have := h.len; simp; omega, by rw [List.length_append]; have := h.low; simp; omega⟩
  rcases List.mem_append.mp hx with hx | hx
  · exact ⟨(h.el x hx).1, (h.el x hx).2.1, (h.el x hx).2.2.1, fun j e' hj he' => (h.el x hx).2.2.2 j e' (by omega) he'⟩
  · have ex : x = far + e := by simpa using hx
    subst ex
    refine ⟨by omega, by omega, by omega, fun j e' hj he' => Cop.shift ?_⟩
    have d : (e' - e) ∣ N ^ 5 := by
      obtain ⟨li, ei⟩ := List.getElem?_eq_some_iff.mp he
      obtain ⟨lj, ej⟩ := List.getElem?_eq_some_iff.mp he'
      have := List.pairwise_iff_getElem.mp c.ediff k j li lj (by omega)
      rw [ei, ej] at this
      exact this
    have e1 : far + e' - (far + e) = e' - e := by omega
    rw [e1]
    exact ((far_cop f1 ec).pow_right 5).dvd_right d
theorem InvC.good {far : Int} {es ps : List Int} {N : Int} {some srt : List Int} (h : InvC far es ps.length es.length some) (c : Cfg N ps es) (hp : srt.Perm some) (hs : srt.Pairwise (· ≤ ·)) : Good srt := by
  have hl := hp.length_eq
  have hm : ∀ x ∈ srt, x ∈ some := fun x hx => hp.mem_iff.mp hx
  have pc : PC srt := (hp.pairwise_iff (fun {a b} (z : Cop a b) => z.symm)).mpr h.pc
  refine ⟨by have := h.low; omega, by have := h.len; have := c.len; omega, fun b hb => ⟨(h.el b (hm b hb)).2.1, (h.el b (hm b hb)).2.2.1⟩, fun b hb => (h.el b (hm b hb)).1, ?_, pc⟩
  rw [List.pairwise_iff_getElem]
  intro i j hi hj hij
  have h1 := List.pairwise_iff_getElem.mp hs i j hi hj hij
  have h2 := List.pairwise_iff_getElem.mp pc i j hi hj hij
  rcases Int.lt_or_eq_of_le h1 with h3 | h3
  · exact h3
  · rw [h3] at h2
    have h4 : Int.gcd srt[j] srt[j] = 1 := h2
    have h5 := (h.el srt[j] (hm _ (List.getElem_mem hj))).2.1
    simp at h4
    omega
end Rw

namespace Rk
open PySem PySem.Spec PyProof.Rows L2 Evl
/-! ## The layer: what a reading comes to -/
/-- P tells of the heap ahead, the value and the heap behind -/
def EvG (te : TE) (σ : L2.St) (H : Hp) (P : Hp → V → Hp → Prop) : Prop := ∀ H1, Ex H H1 → ∀ Q : VK, (∀ v H2, Ex H1 H2 → P H1 v H2 → Q v H2) → te σ H1 Q
def SpG (sp : Sp) (vs : List V) (H : Hp) (P : Hp → V → Hp → Prop) : Prop := ∀ H1, Ex H H1 → ∀ Q : VK, (∀ v H2, Ex H1 H2 → P H1 v H2 → Q v H2) → ∀ E : XK, sp vs H1 Q E
/-- it goes out by an exception that is wished -/
def Dv (te : TE) (σ : L2.St) (H : Hp) : Prop := ∀ H1, Ex H H1 → ∀ Q : VK, te σ H1 Q
def SpD (sp : Sp) (vs : List V) (H : Hp) (E : XK) : Prop := ∀ H1, Ex H H1 → ∀ Q : VK, sp vs H1 Q E
section
variable {P : Program} {w : World} {K : PySem.W.Frag} {mg : Str → Option Value} {base : Heap} {N : List Str} {qual : Str} {scope : Scope} {f : Addr} {cd : Value} {A : Around} {outer : List Env} {s : Shared} {H : Hp} {E : XK}
theorem hk : Takes (cxOf (L2.CX P w) P w K mg base N qual scope f cd A outer s H E) (fun cls d _ H' => E cls d H') := takes_of rfl rfl rfl rfl
theorem hx : Passes (L2.CX P w) (cxOf (L2.CX P w) P w K mg base N qual scope f cd A outer s H E) E := passes_call hk fun _ _ _ _ h => h
end
section
variable {K : PySem.W.Frag} {σ : L2.St} {H H' : Hp} {ta tb te tx : TE} {t u : TT} {x y z v : V} {r : R2} {D : Ends} {tz tu tw : TS}
theorem Dv.mono (e : Ex H H') (h : Dv te σ H) : Dv te σ H' := fun H1 a Q => h H1 (e.trans a) Q
theorem dv_op1 (h : Dv ta σ H) : Dv (tOp r ta tb) σ H := fun H1 e Q => h H1 e _
theorem q_dv (h : Dv te σ H) : tSeq (tDrop te) tz D σ H := h H (Ex.refl H) _
theorem q_dvA {i : Nat} (h : Dv te σ H) : tSeq (tAsg te (gName i)) tz D σ H := h H (Ex.refl H) _
theorem s_dvA {i : Nat} (h : Dv te σ H) : tAsg te (gName i) D σ H := h H (Ex.refl H) _
theorem s_dvR (h : Dv te σ H) : tRet te D σ H := h H (Ex.refl H) _
theorem dv_call {sp : Sp} {vs : List V} {E : XK} {tA : TA} (h : EvA tA σ H vs) (hs : SpD sp vs H E) : Dv (tCall sp [] E tA) σ H := fun H1 e Q =>
  h H1 e _ fun H2 e2 => by
    show sp (vs ++ []) H2 Q E
    rw [List.append_nil]
    exact hs H2 (e.trans e2) Q
theorem dv_meth {C a dx : Addr} {m : Str} {fs : List (Str × V)} {sp : Sp} {vs : List V} {E : XK} {tA : TA} (ho : Ev ta σ H (.ref a)) (hi : H a = some (.ins C dx fs)) (hl : fs.lookup m = none) (h : EvA tA σ H vs) (hs : SpD sp (.ref a :: vs) H E) :
    Dv (tMeth C m sp [] E ta tA) σ H := fun H1 e Q => ho H1 e _ fun H2 e2 => ⟨a, dx, fs, rfl, e2 _ _ (e _ _ hi), hl, h H2 (e.trans e2) _ fun H3 e3 => by
    show sp (.ref a :: (vs ++ [])) H3 Q E
    rw [List.append_nil]
    exact hs H3 ((e.trans e2).trans e3) Q⟩
theorem ev_call0 {sp : Sp} {vs : List V} {E : XK} {tA : TA} (h : EvA tA σ H vs) (hs : SpV sp vs H z) : Ev (tCall sp [] E tA) σ H z := ev_call h (by rw [List.append_nil]; exact hs)
theorem el_call0 {sp : Sp} {vs xs : List V} {E : XK} {tA : TA} (h : EvA tA σ H vs) (hs : SpL sp vs H xs) : EvL (tCall sp [] E tA) σ H xs := el_call h (by rw [List.append_nil]; exact hs)
theorem eg_call {sp : Sp} {vs : List V} {E : XK} {tA : TA} {R : Hp → V → Hp → Prop} (hR : ∀ H0 H1 v H2, Ex H0 H1 → R H1 v H2 → R H0 v H2) (h : EvA tA σ H vs) (hs : SpG sp vs H R) : EvG (tCall sp [] E tA) σ H R := fun H1 e Q q =>
  h H1 e _ fun H2 e2 => by
    show sp (vs ++ []) H2 Q E
    rw [List.append_nil]
    exact hs H2 (e.trans e2) Q (fun v H3 e3 p => q v H3 (e2.trans e3) (hR _ _ _ _ e2 p)) E
theorem ev_meth {C a dx : Addr} {m : Str} {fs : List (Str × V)} {sp : Sp} {vs : List V} {E : XK} {tA : TA} (ho : Ev ta σ H (.ref a)) (hi : H a = some (.ins C dx fs)) (hl : fs.lookup m = none) (h : EvA tA σ H vs) (hs : SpV sp (.ref a :: vs) H z) :
    Ev (tMeth C m sp [] E ta tA) σ H z := fun H1 e Q q => ho H1 e _ fun H2 e2 => ⟨a, dx, fs, rfl, e2 _ _ (e _ _ hi), hl, h H2 (e.trans e2) _ fun H3 e3 => by
    show sp (.ref a :: (vs ++ [])) H3 Q E
    rw [List.append_nil]
    exact hs H3 ((e.trans e2).trans e3) Q (fun H4 e4 => q H4 ((e2.trans e3).trans e4)) E⟩
theorem el_meth {C a dx : Addr} {m : Str} {fs : List (Str × V)} {sp : Sp} {vs xs : List V} {E : XK} {tA : TA} (ho : Ev ta σ H (.ref a)) (hi : H a = some (.ins C dx fs)) (hl : fs.lookup m = none) (h : EvA tA σ H vs) (hs : SpL sp (.ref a :: vs) H xs) :
    EvL (tMeth C m sp [] E ta tA) σ H xs := fun H1 e Q q => ho H1 e _ fun H2 e2 => ⟨a, dx, fs, rfl, e2 _ _ (e _ _ hi), hl, h H2 (e.trans e2) _ fun H3 e3 => by
    show sp (.ref a :: (vs ++ [])) H3 Q E
    rw [List.append_nil]
    exact hs H3 ((e.trans e2).trans e3) Q (fun p H4 hp e4 h4 => q p H4 (fresh_back (e2.trans e3) hp) ((e2.trans e3).trans e4) h4) E⟩
theorem ev_fld {a C dx : Addr} {fs : List (Str × V)} {f : Str} (h : Ev ta σ H (.ref a)) (ho : H a = some (.ins C dx fs)) (hc : Cls K C) (hn : NoAttr K C f) (hl : fs.lookup f = some v) : Ev (tFld K ta f) σ H v := fun H1 e Q q =>
  h H1 e _ fun H2 e2 => ⟨a, C, dx, fs, v, rfl, e2 _ _ (e _ _ ho), hc, hn, hl, q H2 e2⟩
theorem rc_abs {i : Int} : RC (fun xs H Q => ∃ i, xs = [V.int i] ∧ Q (V.int (if i < 0 then -i else i)) H) [.int i] H (.int (if i < 0 then -i else i)) := fun H1 _ _ q => ⟨i, rfl, q H1 (Ex.refl H1)⟩
theorem rc_min {i j : Int} : RC (fun xs H Q => ∃ i j, xs = [V.int i, V.int j] ∧ Q (V.int (if j < i then j else i)) H) [.int i, .int j] H (.int (if j < i then j else i)) := fun H1 _ _ q => ⟨i, j, rfl, q H1 (Ex.refl H1)⟩
theorem rc_max {i j : Int} : RC (fun xs H Q => ∃ i j, xs = [V.int i, V.int j] ∧ Q (V.int (if j > i then j else i)) H) [.int i, .int j] H (.int (if j > i then j else i)) := fun H1 _ _ q => ⟨i, j, rfl, q H1 (Ex.refl H1)⟩
theorem rc_isi {c : V} {cv t : Value} {b : Bool} (hc : ClsV c cv) (ht : ∀ H1, Ex H H1 → TyX K H1 x t) (hk : PySem.W.kitOne K t cv = some b) : RC (rIsi K) [x, c] H (.bl b) := fun H1 e _ q => ⟨x, c, t, cv, b, rfl, hc, ht H1 e, hk, q H1 (Ex.refl H1)⟩
theorem ru_i {g : Int → V} {i : Int} : RU (rU g) (.int i) H (g i) := fun H1 _ _ q => ⟨i, rfl, q H1 (Ex.refl H1)⟩
theorem at_map {bs : List Int} {k : Nat} {b : Int} (h : bs[k]? = some b) : atI (bs.map V.int) (k : Int) = some (.int b) := atI_nat (by rw [List.getElem?_map, h]; rfl)
/-- for j in range(a, b, -1) -/
theorem q_forD {tA : TA} {j : Nat} {lo hi : Int} {n : Nat} (h : EvA tA σ H [.int lo, .int hi, .int (-1)]) (hn : -(2 ^ 62) ≤ lo ∧ lo < 2 ^ 62 ∧ -(2 ^ 62) ≤ hi ∧ hi < 2 ^ 62) (en : (lo - hi).toNat = n) (Pv : Nat → L2.St → Hp → Prop) (h0 : ∀ H1, Ex H H1 → Pv 0 σ H1)
    (hs : ∀ (i : Nat) σ' H', i < n → Pv i σ' H' → tu { D with nx := Pv (i + 1), ct := Pv (i + 1), bk := tz D } (σ'.set j (some (.int (lo - (i : Int))))) H') (hd : ∀ σ' H', Pv n σ' H' → tz D σ' H') : tSeq (tFor (iRng3 tA) (gName j) tu) tz D σ H := by
  refine h H (Ex.refl H) _ fun H1 e => ⟨lo, hi, -1, n, rfl, ?_, ?_⟩
  · rw [← en]
    exact RgC.neg hn.1 hn.2.1 hn.2.2.1 hn.2.2.2
  · refine for_rangeC (lo := lo) (c := -1) (n := n) (D := { D with nx := tz D }) Pv (h0 H1 e) (fun i σ' H' hi p => ?_) hd
    have e1 : lo + (i : Int) * (-1) = lo - (i : Int) := by omega
    show tu _ (σ'.set j (some (.int (lo + (i : Int) * (-1))))) H'
    rw [e1]
    exact hs i σ' H' hi p
end
/-! ### a board -/
def bf (l t : Addr) : List (Str × V) := [("bases", .ref l), ("turns", .ref t)]
theorem bf_bases (l t : Addr) : (bf l t).lookup ("bases" : Str) = some (V.ref l) := by simp [bf, List.lookup]
theorem bf_turns (l t : Addr) : (bf l t).lookup ("turns" : Str) = some (V.ref t) := by
  have h : (("turns" : Str) == "bases") = false := by decide +kernel
  simp [bf, List.lookup, h]
theorem bf_none (l t : Addr) {m : Str} (h1 : (m == ("bases" : Str)) = false) (h2 : (m == ("turns" : Str)) = false) : (bf l t).lookup m = none := by simp [bf, List.lookup, h1, h2]
end Rk

namespace Rk
open PySem PySem.Spec PyProof.Rows L2 Evl
/-! ### the layer that tells that an exception's context is None -/
section
variable {P : Program} {w : World} {K : PySem.W.Frag} {mg : Str → Option Value} {base : Heap} {N : List Str} {qual : Str} {scope : Scope} {f : Addr} {cd : Value} {A : Around} {outer : List Env} {s : Shared} {H : Hp} {E : XK}
theorem hkN : L2N.Takes (cxOf (L2N.CX P w) P w K mg base N qual scope f cd A outer s H E) (fun cls d _ H' => E cls d H') := L2N.takes_of rfl rfl rfl rfl
theorem hxN : Passes (L2N.CX P w) (cxOf (L2N.CX P w) P w K mg base N qual scope f cd A outer s H E) E := L2N.passes_call hkN fun _ _ _ _ h => h
theorem okN {x qual : Str} {st : Stmt} {f : Addr} {fd : FuncData} {N ps : List Str} {k : Nat} {sp : Sp} (F : Fun K x qual st f fd) (S : FnScope N ps (defScope st)) (len : ∀ vs H Q E, sp vs H Q E → vs.length = ps.length)
    (hbody : ∀ (cdv : Value) (A : Around) (outer : List Env) (s : Shared) (H : Hp) (vs : List V) (Q : VK) (E : XK), Room k (A.deeper (envOfC qual (defScope st) s.heap.objs.size f cdv)) → sp vs H Q E →
      ∃ t, PSs (cxOf (L2N.CX P w) P w K mg base N qual (defScope st) f cdv A outer s H E) (defBody st) t ∧ t { nx := fun _ H' => Q .non H', rt := Q } (start N vs) H) : FnOk P w K mg base (L2N.CX P w) (k + 1) f fd ps sp := by
  obtain ⟨oc, od, kV, doc, pm, an, cdv, ct, osl, rfl, lk, hcd⟩ := F.ex
  exact fn_of lk hcd S len fun A outer s H vs Q E hr hsp => hbody cdv A outer s H vs Q E hr hsp
theorem passLN {X : Cx} : Passes (L2N.CX X.prog X.w) X E0 := fun _ _ _ _ _ _ _ h => by
  obtain ⟨_, _, _, _, _, _, _, _, _, _, _, _, h⟩ := h
  exact False.elim h
end
section
variable {K : PySem.W.Frag} {σ : L2.St} {H H' : Hp} {ta tb te tx : TE} {t u : TT} {x y z v : V} {r : R2} {D : Ends} {tz tu tw : TS}
theorem ev_callS {sp : Sp} {vs : List V} {E : L2.St → XK} {tA : TA} (h : EvA tA σ H vs) (hs : SpV sp vs H z) : Ev (tCallS sp E tA) σ H z := fun H1 e Q q =>
  h H1 e _ fun H2 e2 => hs H2 (e.trans e2) Q (fun H3 e3 => q H3 (e2.trans e3)) (E σ)
theorem el_callS {sp : Sp} {vs xs : List V} {E : L2.St → XK} {tA : TA} (h : EvA tA σ H vs) (hs : SpL sp vs H xs) : EvL (tCallS sp E tA) σ H xs := fun H1 e Q q =>
  h H1 e _ fun H2 e2 => hs H2 (e.trans e2) Q (fun p H3 hp e3 h3 => q p H3 (fresh_back e2 hp) (e2.trans e3) h3) (E σ)
theorem dv_callS {sp : Sp} {vs : List V} {E : L2.St → XK} {tA : TA} (h : EvA tA σ H vs) (hs : SpD sp vs H (E σ)) : Dv (tCallS sp E tA) σ H := fun H1 e Q =>
  h H1 e _ fun H2 e2 => hs H2 (e.trans e2) Q
/-- what the class of an exception says to isinstance, the class read off the exception itself -/
def rIsX (K : PySem.W.Frag) (cls : Value) (d : Option Addr) (a : Addr) : List V → Hp → VK → Prop := fun xs H Q =>
  ∃ (C : Addr) (c : V) (cv : Value) (b : Bool), cls = .ref C ∧ d = none ∧ ExcC K C ∧ xs = [.ref a, c] ∧ (∀ u, RelV c u → u = cv) ∧ PySem.W.kitOne K (.ref C) cv = some b ∧ Q (.bl b) H
theorem call_isE' {X : Cx} {a : Addr} {cls : Value} {d : Option Addr} {oe : Obj} {pn : List (Addr × Obj)} (hz : Zc cls d oe) (hf : ∃ vs, oe.data = .fields vs) : CallR (X.suite a ((a, oe) :: pn)) (.builtin "isinstance") (rIsX X.K cls d a) := by
  intro p1 s1 σ1 H1 xs us Q1 I1 r1 hh
  obtain ⟨C, c, cv, b, e1, e2, k1, k2, k3, k4, k5⟩ := hh
  subst e1 e2
  exact call_isE k1 hz hf p1 s1 σ1 H1 xs us Q1 I1 r1 ⟨c, cv, b, k2, k3, k4, k5⟩
theorem rc_isX {a C : Addr} {c : V} {cv : Value} {b : Bool} (k1 : ExcC K C) (k3 : ∀ u, RelV c u → u = cv) (k4 : PySem.W.kitOne K (.ref C) cv = some b) : RC (rIsX K (.ref C) none a) [.ref a, c] H (.bl b) :=
  fun H1 _ _ q => ⟨C, c, cv, b, rfl, rfl, k1, rfl, k3, k4, q H1 (Ex.refl H1)⟩
theorem rel_ty (n : String) : ∀ u, RelV (.ty n) u → u = .type n := fun _ h => h
theorem rel_ref (C : Addr) : ∀ u, RelV (.ref C) u → u = .ref C := fun _ h => h
/-! ### the script's cells -/
def cell (ns : List Int) (i : Int) : Int := ns.getD i.toNat 0
end
/-! ### a field, the written part told (within a comprehension) -/
theorem pe_fldK {X : Cx} {K : PySem.W.Frag} {e : Expr} {f : Str} {pos : Pos} {ta : TE} (he : PE X e ta) (hb : attributeBase e f X.env (eval e X.env) = eval e X.env) (hK : X.K = K := by rfl) : PE X (.Attribute e f pos) (tFld K ta f) := by
  subst hK
  exact pe_fld he hb
theorem ix_listK {X : Cx} {K : PySem.W.Frag} (hK : X.K = K := by rfl) : IxR X (rIxL K) := by
  subst hK
  exact ix_list
theorem ix_tupK {X : Cx} {K : PySem.W.Frag} (hK : X.K = K := by rfl) : IxR X (rIxT K) := by
  subst hK
  exact ix_tup
theorem sl_listK {X : Cx} {K : PySem.W.Frag} (hK : X.K = K := by rfl) : SlR X (rSlL K) := by
  subst hK
  exact sl_list
theorem pi_listK {X : Cx} {K : PySem.W.Frag} {tg e : Expr} {tl : TE} (hl : PE X e tl) (hK : X.K = K := by rfl) : PI X tg e (iList K tl) := by
  subst hK
  exact pi_list hl
/-! ### methods and makers whose exceptions are wished for at the slots -/
section
variable {X : Cx} {C : Addr} {m : Str} {sp : Sp} {k : Nat} {f : Addr} {fd : FuncData} {ps : List Str} {E : L2.St → XK} {o e : Expr} {es : List Expr} {ta : TE} {tA : TA} {pos apos p : Pos} {x : Str}
def tMethW (C : Addr) (m : Str) (sp : Sp) (E : L2.St → XK) (ta : TE) (tA : TA) : TE := fun σ H Q =>
  ta σ H fun y H1 => ∃ a dx fs, y = .ref a ∧ H1 a = some (.ins C dx fs) ∧ fs.lookup m = none ∧ tA σ H1 fun vs H2 => sp (y :: vs) H2 Q (E σ)
theorem pe_methS1 {pl : Sem Bool} (ho : PE X o ta) (c : Cls X.K C) (hm : Meth X.K C m f) (F : FnOk X.prog X.w X.K X.mg X.base (L2.CX X.prog X.w) k f fd ps sp) (hr : Room k X.A) (hb : Binds X.K fd ps []) (hp : ∀ σ, PassesAt (L2.CX X.prog X.w) X σ (E σ)) (ha : PA X (e :: es) tA)
    (h1 : starEach (e :: es) X.env = (false, eval e X.env) :: starEach es X.env := by rfl) (h2 : (backTo pos (starEach es X.env)).any (·.1) = false := by rfl)
    (h3 : eval (.Call (.Attribute o m apos) (e :: es) [] pos) X.env = (eval o X.env >>= fun ov => standAt apos.atName >>= fun _ => holding [ov] (getMethod ov m pl) >>= fun z =>
      callWith pos z.1 z.2 (backTo pos (starEach (e :: es) X.env)) (backToKw pos (keywordEach [] X.env))) := by rfl) :
    PE X (.Call (.Attribute o m apos) (e :: es) [] pos) (tMethW C m sp E ta tA) := .mk fun P1 s1 σ1 H1 Q1 I1 hh => by
  refine PySem.W.methodCall_KW (pl := pl) (thn (ho.run P1 s1 σ1 H1 _ I1 hh) fun u s2 z2 => ?_) h3
  obtain ⟨y, H2, I2, ry, a, dx, fs, ey, ea, el, q⟩ := z2
  subst ey
  cases (show u = Value.ref a from ry)
  refine getmeth_ok I2 ea c hm el (PySem.W.callWith_K (first := [.ref a]) (h₀ := X.base) I2.ok.mod.kin hm.kp (thn (ha.run pos P1 s2 σ1 H2 _ I2 q) fun us s3 z3 => ?_) h1 h2)
  obtain ⟨vs, H3, I3, r3, q3⟩ := z3
  exact ⟨I3.kIn, run_fnS (us := .ref a :: us) (vs := .ref a :: vs) F hr hb (hp σ1) I3 (.cons rfl r3) q3⟩
theorem pe_methS0 {pl : Sem Bool} (ho : PE X o ta) (c : Cls X.K C) (hm : Meth X.K C m f) (F : FnOk X.prog X.w X.K X.mg X.base (L2.CX X.prog X.w) k f fd ps sp) (hr : Room k X.A) (hb : Binds X.K fd ps []) (hp : ∀ σ, PassesAt (L2.CX X.prog X.w) X σ (E σ))
    (h3 : eval (.Call (.Attribute o m apos) [] [] pos) X.env = (eval o X.env >>= fun ov => standAt apos.atName >>= fun _ => holding [ov] (getMethod ov m pl) >>= fun z =>
      callWith pos z.1 z.2 (backTo pos (starEach [] X.env)) (backToKw pos (keywordEach [] X.env))) := by rfl) :
    PE X (.Call (.Attribute o m apos) [] [] pos) (tMethW C m sp E ta tNil) := .mk fun P1 s1 σ1 H1 Q1 I1 hh => by
  refine PySem.W.methodCall_KW (pl := pl) (thn (ho.run P1 s1 σ1 H1 _ I1 hh) fun u s2 z2 => ?_) h3
  obtain ⟨y, H2, I2, ry, a, dx, fs, ey, ea, el, q⟩ := z2
  subst ey
  cases (show u = Value.ref a from ry)
  exact getmeth_ok I2 ea c hm el (PySem.W.callWith_K0 (first := [.ref a]) I2.kIn hm.kp (run_fnS (us := [.ref a]) (vs := [.ref a]) F hr hb (hp σ1) I2 (.cons rfl .nil) q))
end
section
variable {K : PySem.W.Frag} {σ : L2.St} {H H' : Hp} {ta tb te tx : TE} {t u : TT} {x y z v : V} {r : R2} {D : Ends} {tz tu tw : TS}
theorem ev_methW {C a dx : Addr} {m : Str} {fs : List (Str × V)} {sp : Sp} {vs : List V} {E : L2.St → XK} {tA : TA} (ho : Ev ta σ H (.ref a)) (hi : H a = some (.ins C dx fs)) (hl : fs.lookup m = none) (h : EvA tA σ H vs) (hs : SpV sp (.ref a :: vs) H z) :
    Ev (tMethW C m sp E ta tA) σ H z := fun H1 e Q q => ho H1 e _ fun H2 e2 => ⟨a, dx, fs, rfl, e2 _ _ (e _ _ hi), hl, h H2 (e.trans e2) _ fun H3 e3 => hs H3 ((e.trans e2).trans e3) Q (fun H4 e4 => q H4 ((e2.trans e3).trans e4)) (E σ)⟩
theorem el_methW {C a dx : Addr} {m : Str} {fs : List (Str × V)} {sp : Sp} {vs xs : List V} {E : L2.St → XK} {tA : TA} (ho : Ev ta σ H (.ref a)) (hi : H a = some (.ins C dx fs)) (hl : fs.lookup m = none) (h : EvA tA σ H vs) (hs : SpL sp (.ref a :: vs) H xs) :
    EvL (tMethW C m sp E ta tA) σ H xs := fun H1 e Q q => ho H1 e _ fun H2 e2 => ⟨a, dx, fs, rfl, e2 _ _ (e _ _ hi), hl, h H2 (e.trans e2) _ fun H3 e3 => hs H3 ((e.trans e2).trans e3) Q (fun p H4 hp e4 h4 => q p H4 (fresh_back (e2.trans e3) hp) ((e2.trans e3).trans e4) h4) (E σ)⟩
theorem dv_methW {C a dx : Addr} {m : Str} {fs : List (Str × V)} {sp : Sp} {vs : List V} {E : L2.St → XK} {tA : TA} (ho : Ev ta σ H (.ref a)) (hi : H a = some (.ins C dx fs)) (hl : fs.lookup m = none) (h : EvA tA σ H vs) (hs : SpD sp (.ref a :: vs) H (E σ)) :
    Dv (tMethW C m sp E ta tA) σ H := fun H1 e Q => ho H1 e _ fun H2 e2 => ⟨a, dx, fs, rfl, e2 _ _ (e _ _ hi), hl, h H2 (e.trans e2) _ fun H3 e3 => hs H3 ((e.trans e2).trans e3) Q⟩
end
section
variable {K : PySem.W.Frag} {σ : L2.St} {H H' : Hp} {ta tb tc te tx : TE} {t u : TT} {x y z v : V} {r r' : R2} {D : Ends} {tz tu tw : TS}
theorem ev_chain {b1 b2 : Bool} (ha : Ev ta σ H x) (hb : Ev tb σ H y) (h1 : RV r x y H (.bl b1)) (hc : b1 = true → Ev tc σ H z) (h2 : b1 = true → RV r' y z H (.bl b2)) : Ev (tChain r r' ta tb tc) σ H (.bl (b1 && b2)) := fun H1 e Q q =>
  ha H1 e _ fun H2 e2 => hb H2 (e.trans e2) _ fun H3 e3 => h1 H3 ((e.trans e2).trans e3) _ fun H4 e4 => ⟨b1, rfl, by
    cases b1 with
    | true =>
      show tc σ H4 fun w' H5 => r' y w' H5 Q
      exact hc rfl H4 (((e.trans e2).trans e3).trans e4) _ fun H5 e5 => h2 rfl H5 ((((e.trans e2).trans e3).trans e4).trans e5) Q fun H6 e6 => q H6 ((((e2.trans e3).trans e4).trans e5).trans e6)
    | false => exact q H4 ((e2.trans e3).trans e4)⟩
theorem set_same {i : Nat} {o : Option V} (h : σ[i]? = some o) : σ.set i o = σ := by
  obtain ⟨hi, e⟩ := List.getElem?_eq_some_iff.mp h
  rw [← e, List.set_getElem_self]
/-- if c: x = e, both numbers -/
theorem q_ifI {i : Nat} {b : Bool} {x0 x1 : Int} (h : EvT t σ H b) (h0 : σ[i]? = some (some (.int x0))) (h1 : b = true → Ev te σ H (.int x1)) (k : ∀ H1, Ex H H1 → tz D (σ.set i (some (.int (if b = true then x1 else x0)))) H1) : tSeq (tIfS t (tAsg te (gName i)) tNext) tz D σ H := by
  cases b with
  | true => exact q_ifAsg h h1 (fun z => nomatch z) k
  | false => exact q_ifAsg h (fun z => nomatch z) (fun _ => set_same h0) k
/-- what an own class in an except clause says -/
theorem exm_yes {A B : Addr} {b : Bool} (h1 : PySem.W.subIn K (.ref B) (.type "BaseException") = some true) (h2 : PySem.W.hasDictIn K B = true) (h3 : PySem.W.typeIn K (.ref B) = some (.type "type")) (h4 : PySem.W.subIn K (.ref A) (.ref B) = some b) : PySem.W.exmOne K (.ref A) (.ref B) = some b := PySem.W.exm_ref h1 h2 h3 h4
end
section
variable {K : PySem.W.Frag}
theorem kit_exT {C : Addr} {T : String} {b : Bool} (hT : PySem.W.kitMeta T = true) (h : PySem.W.subIn K (.ref C) (.type T) = some b) : PySem.W.kitOne K (.ref C) (.type T) = some b := by
  show (if (Value.ref C == Value.type T) = true then some true else (if PySem.W.kitMeta T = true then PySem.W.subIn K (.ref C) (.type T) else none)) = some b
  rw [if_neg (by simp), if_pos hT, h]
theorem kit_exC {A B : Addr} {b : Bool} (hb : b = true ∨ A ≠ B) (h : PySem.W.subIn K (.ref A) (.ref B) = some b) (j : PySem.W.isClsIn K B = true) (t : PySem.W.typeIn K (.ref B) = some (.type "type")) : PySem.W.kitOne K (.ref A) (.ref B) = some b := by
  have e2 : ((PySem.W.clsIn K B).isSome && PySem.W.typeIn K (.ref B) == some (.type "type")) = true := by
    have j' : (PySem.W.clsIn K B).isSome = true := j
    rw [j', t] <;> rfl
  show (if (Value.ref A == Value.ref B) = true then some true else (if ((PySem.W.clsIn K B).isSome && PySem.W.typeIn K (.ref B) == some (.type "type")) = true then PySem.W.subIn K (.ref A) (.ref B) else none)) = some b
  by_cases e : A = B
  · rcases hb with hb | hb
    · rw [if_pos (by rw [e]; simp), hb]
    · exact absurd e hb
  · rw [if_neg (by simp [e]), if_pos e2, h]
end
theorem ten60 : (0 : Int) < 10 ^ (60 : Int).toNat := by decide +kernel
/-! ### a board in the heap -/
def BoardAt (C : Addr) (H : Hp) (b : Addr) (bs : List Int) : Prop := ∃ dx l t, H b = some (.ins C dx (bf l t)) ∧ H l = some (.lst (bs.map V.int)) ∧ H t = some (.lst ((Rw.turnsOf bs).map V.int))
theorem BoardAt.mono {C b : Addr} {H H' : Hp} {bs : List Int} (h : BoardAt C H b bs) (e : Ex H H') : BoardAt C H' b bs := by
  obtain ⟨dx, l, t, h1, h2, h3⟩ := h
  exact ⟨dx, l, t, e _ _ h1, e _ _ h2, e _ _ h3⟩
/-- the same, its lists told -/
def BoardIs (C : Addr) (H : Hp) (b : Addr) (bs : List Int) (dx l t : Addr) : Prop := H b = some (.ins C dx (bf l t)) ∧ H l = some (.lst (bs.map V.int)) ∧ H t = some (.lst ((Rw.turnsOf bs).map V.int))
theorem BoardIs.at_ {C : Addr} {H : Hp} {b : Addr} {bs : List Int} {dx l t : Addr} (h : BoardIs C H b bs dx l t) : BoardAt C H b bs := ⟨dx, l, t, h⟩
theorem BoardIs.mono {C : Addr} {H H' : Hp} {b : Addr} {bs : List Int} {dx l t : Addr} (h : BoardIs C H b bs dx l t) (e : Ex H H') : BoardIs C H' b bs dx l t := ⟨e _ _ h.1, e _ _ h.2.1, e _ _ h.2.2⟩
/-- a list that is none of its objects changes -/
theorem BoardIs.put {C : Addr} {H : Hp} {b : Addr} {bs : List Int} {dx l t p : Addr} {o : HO} (h : BoardIs C H b bs dx l t) (n1 : b ≠ p) (n2 : l ≠ p) (n3 : t ≠ p) : BoardIs C (upd H p o) b bs dx l t :=
  ⟨by rw [upd_ne n1]; exact h.1, by rw [upd_ne n2]; exact h.2.1, by rw [upd_ne n3]; exact h.2.2⟩
/-- a list made behind it changes -/
theorem BoardIs.putN {C : Addr} {H H1 : Hp} {b : Addr} {bs : List Int} {dx l t p : Addr} {o : HO} (h : BoardIs C H b bs dx l t) (e : Ex H H1) (hp : H p = none) : BoardIs C (upd H1 p o) b bs dx l t := (h.mono e).put (ne_of_none h.1 hp) (ne_of_none h.2.1 hp) (ne_of_none h.2.2 hp)
section
variable {K : PySem.W.Frag} {σ : L2.St} {H H' : Hp} {ta tb tc te tx : TE} {t u : TT} {x y z v : V} {r r' : R2} {D : Ends} {tz tu tw : TS}
theorem s_forNLn {xs : List V} {tl : TE} {j : Nat} (h : EvL tl σ H xs) (Pv : Addr → Nat → L2.St → Hp → Prop) (h0 : ∀ p H1, H p = none → Ex H H1 → H1 p = some (.lst xs) → Pv p 0 σ H1) (hl : ∀ p i σ' H', i ≤ xs.length → Pv p i σ' H' → SqL K H' p xs)
    (hs : ∀ p i x σ' H', xs[i]? = some x → Pv p i σ' H' → tu { D with nx := Pv p (i + 1), ct := Pv p (i + 1), bk := D.nx } (σ'.set j (some x)) H') (hd : ∀ p σ' H', Pv p xs.length σ' H' → D.nx σ' H') : tFor (iList K tl) (gName j) tu D σ H := s_forNL h Pv h0 hl hs hd
theorem s_forD {tA : TA} {j : Nat} {lo hi : Int} {n : Nat} (h : EvA tA σ H [.int lo, .int hi, .int (-1)]) (hn : -(2 ^ 62) ≤ lo ∧ lo < 2 ^ 62 ∧ -(2 ^ 62) ≤ hi ∧ hi < 2 ^ 62) (en : (lo - hi).toNat = n) (Pv : Nat → L2.St → Hp → Prop) (h0 : ∀ H1, Ex H H1 → Pv 0 σ H1)
    (hs : ∀ (i : Nat) σ' H', i < n → Pv i σ' H' → tu { D with nx := Pv (i + 1), ct := Pv (i + 1), bk := D.nx } (σ'.set j (some (.int (lo - (i : Int))))) H') (hd : ∀ σ' H', Pv n σ' H' → D.nx σ' H') : tFor (iRng3 tA) (gName j) tu D σ H := by
  have z := q_forD (tz := tNext) (D := D) (tu := tu) (σ := σ) (H := H) h hn en Pv h0 (fun i σ' H' hi p => hs i σ' H' hi p) hd
  exact z
theorem q_fldL {a C dx : Addr} {fs : List (Str × V)} {f : Str} {xs : List V} {tv : TE} (hv : EvL tv σ H xs) (ha : Ev ta σ H (.ref a)) (ho : H a = some (.ins C dx fs)) (hc : Cls K C) (hn : NoAttr K C f) (hl : fs.length < 1000)
    (k : ∀ p H1, H p = none → Ex H H1 → H1 p = some (.lst xs) → tz D σ (upd H1 a (.ins C dx (putF f (.ref p) fs)))) : tSeq (sFld K ta tv f) tz D σ H :=
  hv H (Ex.refl H) _ fun p H1 hp e1 h1 => ha H1 e1 _ fun H2 e2 => ⟨a, C, dx, fs, rfl, e2 _ _ (e1 _ _ ho), hc, hn, hl, k p H2 hp (e1.trans e2) (e2 _ _ h1)⟩
theorem dv_sl {rr : V → Option Int → Option Int → Hp → VK → Prop} {tl th : TO} (h : Dv te σ H) : Dv (tSl rr te tl th) σ H := fun H1 e Q => h H1 e _
/-- a test that goes out -/
def DvT (t : TT) (σ : L2.St) (H : Hp) : Prop := ∀ H1, Ex H H1 → ∀ Q : Bool → Hp → Prop, t σ H1 Q
theorem dt_B (h : Dv te σ H) : DvT (tB te) σ H := fun H1 e _ => h H1 e _
theorem dt_test (h : Dv te σ H) : DvT (tTest te) σ H := fun H1 e _ => h H1 e _
theorem dt_not (h : DvT t σ H) : DvT (tNot t) σ H := fun H1 e _ => h H1 e _
theorem s_dvI (h : DvT t σ H) : tIfS t tu tw D σ H := h H (Ex.refl H) _
theorem q_dvI (h : DvT t σ H) : tSeq (tIfS t tu tw) tz D σ H := h H (Ex.refl H) _
/-- for x, y in zip(xs, ys), of one length -/
theorem s_forZip {a b : Addr} {xs ys : List V} {g : TG} (h1 : Ev ta σ H (.ref a)) (hx : SqL K H a xs) (h2 : Ev tb σ H (.ref b)) (hy : SqL K H b ys) (hl : xs.length = ys.length) (Pv : Nat → L2.St → Hp → Prop) (h0 : ∀ H1, Ex H H1 → Pv 0 σ H1)
    (hq : ∀ i σ' H', Pv i σ' H' → SqL K H' a xs ∧ SqL K H' b ys) (hs : ∀ (i : Nat) (x y : V) (T : Addr) σ' H', xs[i]? = some x → ys[i]? = some y → Pv i σ' H' → H' T = none → g (.ref T) σ' (upd H' T (.tup [x, y])) fun σ2 H2 => tu { D with nx := Pv (i + 1), ct := Pv (i + 1), bk := D.nx } σ2 H2)
    (hd : ∀ σ' H', Pv xs.length σ' H' → D.nx σ' H') : tFor (iZip K (tCons ta (tCons tb tNil))) g tu D σ H :=
  h1 H (Ex.refl H) _ fun H1 e1 => h2 H1 e1 _ fun H2 e2 => ⟨a, b, xs, ys, rfl, ex_l (e1.trans e2) hx, ex_l (e1.trans e2) hy, RZ.for_zipL hl Pv (h0 H2 (e1.trans e2)) hq hs hd⟩
theorem cut_to (xs : List V) (k : Nat) : cutV xs none (some (k : Int)) = xs.take k := by
  unfold cutV
  rw [HT.sIx_none, show HT.sIx xs.length xs.length (some (k : Int)) = min k xs.length from HT.sIx_nat xs.length _ k]
  simp only [List.drop_zero, Nat.sub_zero]
  rw [List.take_eq_take_iff]
  omega
theorem cut_from (xs : List V) (k : Nat) : cutV xs (some (k : Int)) none = xs.drop k := by
  unfold cutV
  rw [HT.sIx_none, show HT.sIx xs.length 0 (some (k : Int)) = min k xs.length from HT.sIx_nat xs.length _ k]
  rcases Nat.le_total k xs.length with h | h
  · rw [Nat.min_eq_left h, List.take_of_length_le (by rw [List.length_drop]; exact Nat.le_refl _)]
  · rw [Nat.min_eq_right h, List.drop_length, List.drop_of_length_le h]
    simp
theorem sIx_m2 (n d : Nat) (h : 2 ≤ n) : HT.sIx n d (some (-2)) = n - 2 := by
  unfold HT.sIx
  simp
  try omega
theorem cut_last2 (xs : List V) (h : 2 ≤ xs.length) : cutV xs (some (-2)) none = xs.drop (xs.length - 2) := by
  unfold cutV
  rw [HT.sIx_none, sIx_m2 _ _ h, List.take_of_length_le (by rw [List.length_drop]; exact Nat.le_refl _)]
theorem cut_but2 (xs : List V) (h : 2 ≤ xs.length) : cutV xs none (some (-2)) = xs.take (xs.length - 2) := by
  unfold cutV
  rw [HT.sIx_none, sIx_m2 _ _ h]
  rfl
/-! ### lists that stand in the heap, new or old -/
def EvH (te : TE) (σ : L2.St) (H : Hp) (xs : List V) : Prop := ∀ H1, Ex H H1 → ∀ Q : VK, (∀ p H2, Ex H1 H2 → H2 p = some (.lst xs) → Q (.ref p) H2) → te σ H1 Q
theorem eh_new {xs : List V} (h : EvL te σ H xs) : EvH te σ H xs := fun H1 e Q q => h H1 e Q fun p H2 _ e2 h2 => q p H2 e2 h2
theorem eh_old {xs : List V} {a : Addr} (h : Ev te σ H (.ref a)) (ha : H a = some (.lst xs)) : EvH te σ H xs := fun H1 e Q q => h H1 e Q fun H2 e2 => q a H2 e2 (e2 _ _ (e _ _ ha))
theorem EvH.mono {xs : List V} (e : Ex H H') (h : EvH te σ H xs) : EvH te σ H' xs := fun H1 a Q q => h H1 (e.trans a) Q q
theorem ev_opHH {xs ys : List V} (ha : EvH ta σ H xs) (hb : EvH tb σ H ys) (hr : ∀ p q H1, H1 p = some (.lst xs) → H1 q = some (.lst ys) → Ex H H1 → RV r (.ref p) (.ref q) H1 z) : Ev (tOp r ta tb) σ H z := fun H1 e Q k =>
  ha H1 e _ fun p H2 e2 hp => hb H2 (e.trans e2) _ fun q H3 e3 hq => hr p q H3 (e3 p _ hp) hq ((e.trans e2).trans e3) H3 (Ex.refl H3) Q fun H4 e4 => k H4 ((e2.trans e3).trans e4)
theorem ev_opHV {xs : List V} (ha : EvH ta σ H xs) (hb : Ev tb σ H y) (hr : ∀ p H1, H1 p = some (.lst xs) → Ex H H1 → RV r (.ref p) y H1 z) : Ev (tOp r ta tb) σ H z := fun H1 e Q k =>
  ha H1 e _ fun p H2 e2 hp => hb H2 (e.trans e2) _ fun H3 e3 => hr p H3 (e3 p _ hp) ((e.trans e2).trans e3) H3 (Ex.refl H3) Q fun H4 e4 => k H4 ((e2.trans e3).trans e4)
theorem el_cat {xs ys : List V} (ha : EvH ta σ H xs) (hb : EvH tb σ H ys) (hl : xs.length + ys.length ≤ 100000) : EvL (tOp rCat ta tb) σ H (xs ++ ys) := fun H1 e Q k =>
  ha H1 e _ fun p H2 e2 hp => hb H2 (e.trans e2) _ fun q H3 e3 hq => ⟨p, q, xs, ys, rfl, rfl, e3 p _ hp, hq, sz_of hl, fun l hl2 => k l _ (fresh_back (e2.trans e3) hl2) ((e2.trans e3).trans (Ex.new hl2)) upd_same⟩
theorem el_slH {tl th : TO} {xs : List V} {lo hi : Option Int} (h : EvH te σ H xs) (h1 : EvO tl σ H lo) (h2 : EvO th σ H hi) : EvL (tSl (rSlL K) te tl th) σ H (cutV xs lo hi) := fun H1 e Q q =>
  h H1 e _ fun a H2 e2 ha => h1 H2 (e.trans e2) _ fun H3 e3 => h2 H3 ((e.trans e2).trans e3) _ fun H4 e4 =>
    ⟨a, xs, rfl, sq_of (e4 _ _ (e3 _ _ ha)), fun p hp => q p _ (fresh_back ((e2.trans e3).trans e4) hp) (((e2.trans e3).trans e4).trans (Ex.new hp)) upd_same⟩
theorem ev_lenH {xs : List V} (ha : EvH ta σ H xs) : Ev (tCB (rLenS K) (tCons ta tNil)) σ H (.int (xs.length : Int)) := fun H1 e Q q =>
  ha H1 e _ fun p H2 e2 h2 => ⟨p, xs, rfl, Or.inl (sq_of h2), q H2 e2⟩
theorem el_listH {xs : List V} (ha : EvH ta σ H xs) : EvL (tCB (rListS K) (tCons ta tNil)) σ H xs := fun H1 e Q q =>
  ha H1 e _ fun p H2 e2 h2 => ⟨p, xs, rfl, Or.inl (sq_of h2), fun l hl => q l _ (fresh_back e2 hl) (e2.trans (Ex.new hl)) upd_same⟩
theorem ev_ixH {xs : List V} {i : Int} (ha : EvH ta σ H xs) (hb : Ev tb σ H (.int i)) (h : atI xs i = some v) : Ev (tOp (rIxL K) ta tb) σ H v := ev_opHV ha hb fun p H1 hp _ => rv_ixL (sq_of hp) h
theorem map_get {bs : List Int} {k : Nat} {y : V} (h : (bs.map V.int)[k]? = some y) : ∃ b, bs[k]? = some b ∧ y = .int b := by
  rw [List.getElem?_map] at h
  cases e : bs[k]? with
  | none => rw [e] at h; cases h
  | some b => rw [e] at h; exact ⟨b, rfl, (Option.some.inj h).symm⟩
/-! ### comprehensions that give a number each -/
theorem given_map {n : Nat} {f : Nat → Bool} {v : Nat → V} {ys : List V} (hf : ∀ i, f i = true) (hl : ys.length = n) (hv : ∀ i, i < n → ys[i]? = some (v i)) : given n f v = ys := by
  apply List.ext_getElem?
  intro i
  have e : (List.range n).filter f = List.range n := List.filter_eq_self.mpr fun a _ => hf a
  unfold given
  rw [e]
  by_cases hi : i < n
  · simp [List.getElem?_range hi, hv i hi]
  · rw [List.getElem?_eq_none (by simp; omega), List.getElem?_eq_none (by omega)]
/-- [f(m) for m in ns] -/
theorem el_mapL {a : Addr} {ns : List Int} {f : Int → Int} {tl : TE} {j : Nat} {vs : List Nat} (h : Ev tl σ H (.ref a)) (hx : SqL K H a (ns.map V.int)) (hz : ns.length ≤ 40000) (hw : ∀ x, wipe ((wipe σ vs).set j (some x)) vs = wipe σ vs)
    (he : ∀ (i : Nat) (m : Int) H1, Ex H H1 → ns[i]? = some m → Ev te ((wipe σ vs).set j (some (.int m))) H1 (.int (f m))) : EvL (tLc (iList K tl) (gName j) tYes te vs) σ H ((ns.map f).map V.int) := by
  have z := el_lcL (K := K) (t := tYes) (te := te) (fun _ => true) (fun i => .int (f (ns.getD i 0))) h hx (by rw [List.length_map]; exact hz) hw (fun _ _ _ _ _ H1 _ Q q => q H1 (Ex.refl H1)) (fun i x H1 e hi _ => by
    obtain ⟨m, hm, rfl⟩ := map_get hi
    rw [Rw.getD_of hm]
    exact he i m H1 e hm)
  rw [given_map (ys := (ns.map f).map V.int) (fun _ => rfl) (by simp) (fun i hi => by
    rw [List.length_map] at hi
    have hg : ns[i]? = some ns[i] := List.getElem?_eq_getElem hi
    rw [Rw.getD_of hg, List.getElem?_map, List.getElem?_map, hg]
    rfl)] at z
  exact z
/-- [x % b for b in bs] -/
theorem el_rowL {a : Addr} {bs : List Int} {x : Int} {tl : TE} {j : Nat} {vs : List Nat} (h : Ev tl σ H (.ref a)) (hx : SqL K H a (bs.map V.int)) (hz : bs.length ≤ 40000) (hw : ∀ x, wipe ((wipe σ vs).set j (some x)) vs = wipe σ vs)
    (he : ∀ (i : Nat) (m : Int) H1, Ex H H1 → bs[i]? = some m → Ev te ((wipe σ vs).set j (some (.int m))) H1 (.int (x % m))) : EvL (tLc (iList K tl) (gName j) tYes te vs) σ H ((Rw.rowOf bs x).map V.int) := el_mapL (f := fun m => x % m) h hx hz hw he
/-- [v(k) for k in range(n)] -/
theorem el_mapR {tA : TA} {n : Nat} {ys : List Int} {j : Nat} {vs : List Nat} (h : EvA tA σ H [.int (n : Int)]) (hz : n ≤ 40000) (hl : ys.length = n) (hw : ∀ x, wipe ((wipe σ vs).set j (some x)) vs = wipe σ vs)
    (he : ∀ (i : Nat) (y : Int) H1, Ex H H1 → i < n → ys[i]? = some y → Ev te ((wipe σ vs).set j (some (.int (i : Int)))) H1 (.int y)) : EvL (tLc (iRng1 tA) (gName j) tYes te vs) σ H (ys.map V.int) := by
  have z := el_lcR1 (t := tYes) (te := te) (fun _ => true) (fun i => .int (ys.getD i 0)) h (by omega) hw (fun _ _ _ _ H1 _ Q q => q H1 (Ex.refl H1)) (fun i H1 e hi _ => by
    have hi' : i < ys.length := by omega
    have hg : ys[i]? = some ys[i] := List.getElem?_eq_getElem hi'
    rw [Rw.getD_of hg]
    exact he i _ H1 e (by omega) hg)
  rw [Int.toNat_natCast, given_map (ys := ys.map V.int) (fun _ => rfl) (by simpa using hl) (fun i hi => by
    have hi' : i < ys.length := by omega
    have hg : ys[i]? = some ys[i] := List.getElem?_eq_getElem hi'
    rw [Rw.getD_of hg, List.getElem?_map, hg]
    rfl)] at z
  exact z
theorem s_retG {R : Hp → V → Hp → Prop} (h : EvG te σ H R) (k : ∀ v H1, Ex H H1 → R H v H1 → D.rt v H1) : tRet te D σ H := h H (Ex.refl H) _ k
theorem q_asgG {i : Nat} {R : Hp → V → Hp → Prop} (h : EvG te σ H R) (k : ∀ v H1, Ex H H1 → R H v H1 → tz D (σ.set i (some v)) H1) : tSeq (tAsg te (gName i)) tz D σ H := h H (Ex.refl H) _ k
theorem s_dv (h : Dv te σ H) : tDrop te D σ H := h H (Ex.refl H) _
theorem ev_sumH {ns : List Int} (ha : EvH ta σ H (ns.map V.int)) : Ev (tCB (rSum K) (tCons ta tNil)) σ H (.int ns.sum) := fun H1 e Q q => ha H1 e _ fun p H2 e2 h2 => ⟨p, ns, rfl, sq_of h2, q H2 e2⟩
/-- if c: xs[j] = e, c just where j is a place of xs -/
theorem q_ifSetL {l : Addr} {xs : List V} {j : Nat} {b : Bool} (h : EvT t σ H b) (hb : b = decide (j < xs.length)) (hl : H l = some (.lst xs)) (he : Ev te σ H v) (ho : Ev ta σ H (.ref l)) (hi : Ev tb σ H (.int (j : Int)))
    (k : ∀ H', (∀ c o, c ≠ l → H c = some o → H' c = some o) → H' l = some (.lst (xs.set j v)) → tz D σ H') : tSeq (tIfS t (tAsg te (gSub ta tb rSetL)) tNext) tz D σ H := by
  refine q_when h (fun e1 H1 x1 => ?_) (fun e1 H1 x1 => ?_)
  · subst hb
    refine s_setL (D := { D with nx := tz D }) (x1 _ _ hl) (he.mono x1) (ho.mono x1) (hi.mono x1) (of_decide_eq_true e1) fun H2 x2 => k _ (fun c o nc hc => ?_) upd_same
    rw [upd_ne nc]
    exact x2 _ _ (x1 _ _ hc)
  · subst hb
    refine k H1 (fun c o _ hc => x1 _ _ hc) ?_
    rw [List.set_eq_of_length_le (Nat.le_of_not_lt (of_decide_eq_false e1))]
    exact x1 _ _ hl
/-- (a new list, a value) -/
theorem eg_pairN {xs : List V} (h : EvL ta σ H xs) (hv : ∀ H1, Ex H H1 → Ev tb σ H1 v) : EvG (tTup (tCons ta (tCons tb tNil))) σ H (fun H1 u H2 => ∃ p h, u = .ref p ∧ H1 p = none ∧ H1 h = none ∧ p ≠ h ∧ H2 h = some (.lst xs) ∧ H2 p = some (.tup [.ref h, v])) := fun H1 e Q q =>
  h H1 e _ fun l H2 hl e2 h2 => hv H2 (e.trans e2) H2 (Ex.refl H2) _ fun H3 e3 => ⟨sz_of (by show 2 ≤ 100000; decide), fun p hp =>
    q _ _ ((e2.trans e3).trans (Ex.new hp)) ⟨p, l, rfl, fresh_back (e2.trans e3) hp, hl, (fun z => by rw [z, e3 _ _ h2] at hp; cases hp), Ex.new hp _ _ (e3 _ _ h2), upd_same⟩⟩
theorem s_retSorted {a : Addr} {ns : List Int} (h : Ev ta σ H (.ref a)) (hx : SqL K H a (ns.map V.int)) (hl : ns.length < 64) (k : ∀ (ns' : List Int) p H1, ns'.Perm ns → ns'.Pairwise (· ≤ ·) → H p = none → Ex H H1 → H1 p = some (.lst (ns'.map V.int)) → D.rt (.ref p) H1) :
    tRet (tCB (rSorted K) (tCons ta tNil)) D σ H := h H (Ex.refl H) _ fun H1 e1 => ⟨a, ns, rfl, ex_l e1 hx, hl, fun ns' p hp hs hn => k ns' p _ hp hs (fresh_back e1 hn) (e1.trans (Ex.new hn)) upd_same⟩
theorem at_mapI {bs : List Int} {i : Int} {k : Nat} {b : Int} (e : i = (k : Int)) (h : bs[k]? = some b) : atI (bs.map V.int) i = some (.int b) := by rw [e]; exact at_map h
/-! ### data, compared -/
theorem dpA_ints : ∀ ns : List Int, DpAll K H (ns.map V.int) (ns.map PyData.int)
  | [] => .nil
  | n :: ns => .cons (.int n) (dpA_ints ns)
theorem dp_ints {p : Addr} {ns : List Int} (h : SqL K H p (ns.map V.int)) : Dp K H (.ref p) (.list (ns.map PyData.int)) := .lst h (dpA_ints ns)
theorem lay_ints : ∀ ns : List Int, PyData.canLayAll0 (ns.map PyData.int) = true
  | [] => rfl
  | n :: ns => by
    show (PyData.canLay0 (.int n) && PyData.canLayAll0 (ns.map PyData.int)) = true
    rw [lay_ints ns]
    rfl
theorem dep_ints : ∀ ns : List Int, PyData.depthAll (ns.map PyData.int) = 0
  | [] => rfl
  | n :: ns => by
    show max 0 (PyData.depthAll (ns.map PyData.int)) = 0
    rw [dep_ints ns]
    rfl
theorem shp_ints (ns : List Int) : SeqAt.shaped (.list (ns.map PyData.int)) = true := by
  show (PyData.canLayAll0 (ns.map PyData.int) && decide (PyData.depthAll (ns.map PyData.int) + 1 ≤ 64)) = true
  rw [lay_ints, dep_ints]
  rfl
theorem eqvA_ints : ∀ xs ys : List Int, PyData.eqvAll (xs.map PyData.int) (ys.map PyData.int) = decide (xs = ys)
  | [], [] => by simp [PyData.eqvAll]
  | [], _ :: _ => by simp [PyData.eqvAll]
  | _ :: _, [] => by simp [PyData.eqvAll]
  | x :: xs, y :: ys => by
    show ((x == y) && PyData.eqvAll (xs.map PyData.int) (ys.map PyData.int)) = decide (x :: xs = y :: ys)
    rw [eqvA_ints xs ys, Bool.eq_iff_iff]
    simp
theorem rv_eqI {p q : Addr} {xs ys : List Int} (h1 : SqL K H p (xs.map V.int)) (h2 : SqL K H q (ys.map V.int)) : RV (rEqD K) (.ref p) (.ref q) H (.bl (decide (xs = ys))) := fun H1 e _ k =>
  ⟨_, _, dp_ints (ex_l e h1), dp_ints (ex_l e h2), shp_ints _, shp_ints _, by
    show _
    rw [show PyData.eqv (.list (xs.map PyData.int)) (.list (ys.map PyData.int)) = decide (xs = ys) from eqvA_ints xs ys]
    exact k H1 (Ex.refl H1)⟩
theorem rv_neI {p q : Addr} {xs ys : List Int} (h1 : SqL K H p (xs.map V.int)) (h2 : SqL K H q (ys.map V.int)) : RV (rNeD K) (.ref p) (.ref q) H (.bl (!decide (xs = ys))) := fun H1 e _ k =>
  ⟨_, _, dp_ints (ex_l e h1), dp_ints (ex_l e h2), shp_ints _, shp_ints _, by
    show _
    rw [show PyData.eqv (.list (xs.map PyData.int)) (.list (ys.map PyData.int)) = decide (xs = ys) from eqvA_ints xs ys]
    exact k H1 (Ex.refl H1)⟩
theorem ev_eqH {xs ys : List Int} (ha : EvH ta σ H (xs.map V.int)) (hb : EvH tb σ H (ys.map V.int)) : Ev (tOp (rEqD K) ta tb) σ H (.bl (decide (xs = ys))) := ev_opHH ha hb fun p q H1 hp hq _ => rv_eqI (sq_of hp) (sq_of hq)
theorem ev_neH {xs ys : List Int} (ha : EvH ta σ H (xs.map V.int)) (hb : EvH tb σ H (ys.map V.int)) : Ev (tOp (rNeD K) ta tb) σ H (.bl (!decide (xs = ys))) := ev_opHH ha hb fun p q H1 hp hq _ => rv_neI (sq_of hp) (sq_of hq)
/-- row[-2:] == [0, 0], the row's figures -/
theorem last2_iff {bs rs : List Int} (g : Rw.Good bs) (hl : rs.length = bs.length) : cutV ((Rw.digits bs (Rw.num bs rs)).map V.int) (some (-2)) none = ((Rw.digits bs (Rw.num bs rs)).drop (bs.length - 2)).map V.int := by
  have h3 := g.len3
  rw [cut_last2 _ (by rw [List.length_map, Rw.digits_length]; omega), List.length_map, Rw.digits_length, List.map_drop]
theorem num_tells {bs rs : List Int} (g : Rw.Good bs) (hl : rs.length = bs.length) : decide ((Rw.digits bs (Rw.num bs rs)).drop (bs.length - 2) = [0, 0]) = decide (Rw.num bs rs < Rw.room bs) := by
  obtain ⟨n0, n1, _⟩ := Rw.num_spec g hl
  rw [Bool.eq_iff_iff, decide_eq_true_eq, decide_eq_true_eq]
  exact g.tells n0 n1
theorem el_00 : EvL (tLst (tCons (tC (.int 0)) (tCons (tC (.int 0)) tNil))) σ H (([0, 0] : List Int).map V.int) := el_lst (ea_cons ev_c (ea_cons ev_c ea_nil)) (by decide)
theorem ev_last2 {bs rs : List Int} (g : Rw.Good bs) (hl : rs.length = bs.length) (h : EvL te σ H ((Rw.digits bs (Rw.num bs rs)).map V.int)) :
    Ev (tOp (rEqD K) (tSl (rSlL K) te (tPart (tUn (rU fun i => .int (-i)) (tC (.int 2)))) tNoPart) (tLst (tCons (tC (.int 0)) (tCons (tC (.int 0)) tNil)))) σ H (.bl (decide (Rw.num bs rs < Rw.room bs))) := by
  rw [← num_tells g hl]
  refine ev_eqH (eh_new ?_) (eh_new el_00)
  have z := el_slH (K := K) (eh_new h) (eo_some (ev_un (r := rU fun i => V.int (-i)) (ev_c (v := .int 2)) ru_i)) eo_none
  rw [last2_iff g hl] at z
  exact z
theorem ev_last2N {bs rs : List Int} (g : Rw.Good bs) (hl : rs.length = bs.length) (h : EvL te σ H ((Rw.digits bs (Rw.num bs rs)).map V.int)) :
    Ev (tOp (rNeD K) (tSl (rSlL K) te (tPart (tUn (rU fun i => .int (-i)) (tC (.int 2)))) tNoPart) (tLst (tCons (tC (.int 0)) (tCons (tC (.int 0)) tNil)))) σ H (.bl (!decide (Rw.num bs rs < Rw.room bs))) := by
  rw [← num_tells g hl]
  refine ev_neH (eh_new ?_) (eh_new el_00)
  have z := el_slH (K := K) (eh_new h) (eo_some (ev_un (r := rU fun i => V.int (-i)) (ev_c (v := .int 2)) ru_i)) eo_none
  rw [last2_iff g hl] at z
  exact z
theorem cmulR {i j : Int} (h : -(2 ^ 64) < j ∧ j < 2 ^ 64) : CMul i j := .inr h
theorem cmulL {i j : Int} (h : -(2 ^ 64) < i ∧ i < 2 ^ 64) : CMul i j := .inl h
/-- a and -a in range(len(..)) -/
theorem ev_neg1 {i : Int} : Ev (tUn (rU fun i => .int (-i)) (tC (.int i))) σ H (.int (-i)) := ev_un ev_c ru_i
theorem take_next {l : List Int} {k : Nat} {b : Int} (h : l[k]? = some b) : (l.take (k + 1)).map V.int = (l.take k).map V.int ++ [.int b] := by
  obtain ⟨hk, e⟩ := List.getElem?_eq_some_iff.mp h
  rw [List.take_succ_eq_append_getElem hk, List.map_append, e]
  rfl
end
theorem ty_int {K : PySem.W.Frag} {H : Hp} {i : Int} : TyX K H (.int i) (.type "int") := .base (.int i)
theorem ty_lst {K : PySem.W.Frag} {H : Hp} {p : Addr} {xs : List V} (h : H p = some (.lst xs)) : TyX K H (.ref p) (.type "list") := .base (.lst h)
theorem ty_tup {K : PySem.W.Frag} {H : Hp} {p : Addr} {xs : List V} (h : H p = some (.tup xs)) : TyX K H (.ref p) (.type "tuple") := .base (.tup h)
end Rk

/-! ## list(zip(one, other)) of two lists of one length: after the kit's rule for list(d.items()) -/
namespace RkZ
open PySem PySem.Calls PySem.Spec PyProof.Rows L2
theorem zip_no_len : typeLookup (.type "zip") "__len__" = pure none := by rw [typeLookup_type, builtinLookup_eq_fast]; kernel_rfl
theorem zip_no_hint : typeLookup (.type "zip") "__length_hint__" = pure none := by rw [typeLookup_type, builtinLookup_eq_fast]; kernel_rfl
/-- the zip's state at turn i, the tuple that it gave out held or not -/
def ZSt (h : Heap) (z TI TO i1 i2 l1 l2 S : Addr) (xs ys : Array Value) (i : Nat) : Prop :=
  IsPair h TI (.ref i1) (.ref i2) ∧ h.IsListIter i1 l1 i ∧ h.IsListIter i2 l2 i ∧ h.IsList l1 xs ∧ h.IsList l2 ys ∧
    ((IsZip h z TI TO .none ∧ ∃ a b, IsPair h TO a b) ∨ ∃ T f oT, IsZipHeld h z TI TO T f ∧ h.get? T = some oT ∧ T ≠ z ∧ T ≠ i1 ∧ T ≠ i2 ∧ T ≠ S)
theorem ZSt.keep {h h' : Heap} {z TI TO i1 i2 l1 l2 S : Addr} {xs ys : Array Value} {i : Nat} (x : ZSt h z TI TO i1 i2 l1 l2 S xs ys i) (hk : ∀ b o, b ≠ S → h.get? b = some o → h'.get? b = some o)
    (n : z ≠ S ∧ TI ≠ S ∧ TO ≠ S ∧ i1 ≠ S ∧ i2 ≠ S ∧ l1 ≠ S ∧ l2 ≠ S) : ZSt h' z TI TO i1 i2 l1 l2 S xs ys i := by
  obtain ⟨hTI, h1, h2, hl1, hl2, hz⟩ := x
  obtain ⟨n1, n2, n3, n4, n5, n6, n7⟩ := n
  refine ⟨hk _ _ n2 hTI, h1.at fun o e => hk _ o n4 e, h2.at fun o e => hk _ o n5 e, hl1.at fun o e => hk _ o n6 e, hl2.at fun o e => hk _ o n7 e, ?_⟩
  rcases hz with ⟨hz, a, b, hTO⟩ | ⟨T, f, oT, hz, hT, r1, r2, r3, r4⟩
  · exact .inl ⟨hk _ _ n1 hz, a, b, hk _ _ n3 hTO⟩
  · exact .inr ⟨T, f, oT, hk _ _ n1 hz, hk _ _ r4 hT, r1, r2, r3, r4⟩
section
variable {prog : Program} {w : World} {A : Around} {E : Value → Shared → Prop} {s : Shared} {z TI TO i1 i2 l1 l2 S : Addr} {xs ys : Array Value}
theorem zs_item {i : Nat} {x y : Value} {Q : Option Value → Shared → Prop} (D : ZipApart z TI TO i1 i2 l1 l2) (st : ZSt s.heap z TI TO i1 i2 l1 l2 S xs ys i) (hS : S < s.heap.objs.size) (ex : xs[i]? = some x) (ey : ys[i]? = some y)
    (hQ : ∀ h', ZSt h' z TI TO i1 i2 l1 l2 S xs ys (i + 1) → h'.get? s.heap.objs.size = some { cls := .type "tuple", data := .seq #[x, y] } → h'.objs.size = s.heap.objs.size + 1 →
      (∀ b o, b ≠ z → b ≠ TO → b ≠ i1 → b ≠ i2 → s.heap.get? b = some o → h'.get? b = some o) → Q (some (.ref s.heap.objs.size)) { s with heap := h' }) :
    wpAny (model prog w) A (pyNext (.ref z)) Q E s := by
  obtain ⟨hTI, h1, h2, hl1, hl2, hz⟩ := st
  have lt : ∀ {c o}, s.heap.get? c = some o → s.heap.objs.size ≠ c := fun e => Nat.ne_of_gt (Heap.lt_size e)
  have n1 : s.heap.objs.size ≠ i1 := let ⟨_, e, _⟩ := h1; lt e
  have n2 : s.heap.objs.size ≠ i2 := let ⟨_, e, _⟩ := h2; lt e
  rcases hz with ⟨hz, a, b, hTO⟩ | ⟨T, f, oT, hz, hT, r1, r2, r3, r4⟩
  · refine wpAny_pyNext_zip_item D hz hTI hTO h1 h2 hl1 hl2 ex ey fun h' a1 a2 a3 a4 a5 a6 hk => ?_
    exact hQ h' ⟨hk _ _ D.TIz D.TITO D.TIi1 D.TIi2 hTI, a3, a4, hl1.at fun o e => hk _ o D.l1z D.l1TO D.l1i1 D.l1i2 e, hl2.at fun o e => hk _ o D.l2z D.l2TO D.l2i1 D.l2i2 e,
        .inr ⟨s.heap.objs.size, false, _, a1, a5, lt hz, n1, n2, Nat.ne_of_gt hS⟩⟩ a5 a6 hk
  · refine wpAny_pyNext_zip_item_held D hz hT hTI h1 h2 hl1 hl2 ex ey fun h' a1 a3 a4 a5 a6 hk => ?_
    exact hQ h' ⟨hk _ _ D.TIz D.TIi1 D.TIi2 hTI, a3, a4, hl1.at fun o e => hk _ o D.l1z D.l1i1 D.l1i2 e, hl2.at fun o e => hk _ o D.l2z D.l2i1 D.l2i2 e,
        .inr ⟨T, true, oT, a1, hk _ _ r1 r2 r3 hT, r1, r2, r3, r4⟩⟩ a5 a6 fun c o c1 _ c3 c4 e => hk c o c1 c3 c4 e
theorem zs_done {i : Nat} {Q : Option Value → Shared → Prop} (hh : A.handled = none) (D : ZipApart z TI TO i1 i2 l1 l2) (st : ZSt s.heap z TI TO i1 i2 l1 l2 S xs ys i) (hend : xs[i]? = none ∨ ys[i]? = none)
    (hQ : ∀ h', (∀ b o, b ≠ z → b ≠ TO → b ≠ i1 → b ≠ i2 → s.heap.get? b = some o → h'.get? b = some o) → Q none { s with heap := h' }) :
    wpAny (model prog w) A (pyNext (.ref z)) Q E s := by
  obtain ⟨hTI, h1, h2, hl1, hl2, hz⟩ := st
  rcases hz with ⟨hz, a, b, hTO⟩ | ⟨T, f, oT, hz, hT, r1, r2, r3, r4⟩
  · exact wpAny_pyNext_zip_end hh D hz hTI hTO h1 h2 hl1 hl2 hend fun h' hk => hQ h' hk
  · exact wpAny_pyNext_zip_end_held hh D hz hT hTI h1 h2 hl1 hl2 hend fun h' hk => hQ h' fun c o c1 _ c3 c4 e => hk c o c1 c3 c4 e
end
structure ZG (xs ys : Array Value) (lo : Addr) (h : Heap) (as : List Addr) : Prop where
  rise : as.Pairwise (· < ·)
  above : ∀ a ∈ as, lo < a
  pairs : ∀ (j : Nat) (a : Addr), as[j]? = some a → ∃ x y, xs[j]? = some x ∧ ys[j]? = some y ∧ h.get? a = some { cls := .type "tuple", data := .seq #[x, y] }
theorem ZG.there {xs ys : Array Value} {lo : Addr} {h : Heap} {as : List Addr} (g : ZG xs ys lo h as) {a : Addr} (ha : a ∈ as) : a < h.objs.size := by
  obtain ⟨j, hj⟩ := List.mem_iff_getElem?.mp ha
  obtain ⟨_, _, _, _, e⟩ := g.pairs j a hj
  exact Heap.lt_size e
section
variable {prog : Program} {w : World} {A : Around} {s : Shared} {R : Result → Shared → Prop} {z TI TO i1 i2 l1 l2 S : Addr} {xs ys : Array Value}
theorem zs_loop (hh : A.handled = none) (D : ZipApart z TI TO i1 i2 l1 l2) (SL : z < S ∧ TI < S ∧ TO < S ∧ i1 < S ∧ i2 < S ∧ l1 < S ∧ l2 < S) (hxy : xs.size = ys.size) (hn : xs.size ≤ sizeLine) (res : Value) {h₁ : Heap}
    (hR : ∀ h' tk acc c as, (∀ b o, b ≠ S → b ≠ z → b ≠ TO → b ≠ i1 → b ≠ i2 → h₁.get? b = some o → h'.get? b = some o) → h'.get? S = some { cls := .type "list", dict := none, data := .seq acc c, slots := #[] } → as.length = xs.size → ZG xs ys S h' as →
      acc.toList = as.map Value.ref → R (.ok (.ret res)) { s with heap := h', toks := tk }) :
    ∀ (k i : Nat) (h : Heap) (tk c : Nat) (acc : Array Value) (as : List Addr), xs.size - i = k → i ≤ xs.size → ZSt h z TI TO i1 i2 l1 l2 S xs ys i → (∀ b o, b ≠ S → b ≠ z → b ≠ TO → b ≠ i1 → b ≠ i2 → h₁.get? b = some o → h.get? b = some o) →
      h.get? S = some { cls := .type "list", dict := none, data := .seq acc c, slots := #[] } → acc.toList = as.map Value.ref → as.length = i → ZG xs ys S h as →
      codeAny (model prog w) A (.builtin "list.extend.loop" ⟨[.ref S, .ref z, res], []⟩) R { s with heap := h, toks := tk } := by
  obtain ⟨s1, s2, s3, s4, s5, s6, s7⟩ := SL
  have ab : ∀ {a : Addr}, S < a → a ≠ z ∧ a ≠ TO ∧ a ≠ i1 ∧ a ≠ i2 := fun h => ⟨Nat.ne_of_gt (Nat.lt_trans s1 h), Nat.ne_of_gt (Nat.lt_trans s3 h), Nat.ne_of_gt (Nat.lt_trans s4 h), Nat.ne_of_gt (Nat.lt_trans s5 h)⟩
  intro k
  induction k with
  | zero =>
    intro i h tk c acc as hk hi hst hkeep hS hacc hal hG
    have hin : i = xs.size := by omega
    refine codeAny_builtin PySem.F.entry_extend_loop ?_
    rw [Around.under_plainId PySem.F.plain_extend_loop _]
    show wpAny _ A.in1 (pyNext (.ref z) >>= _) _ _ _
    refine wpAny_bind (zs_done (s := { s with heap := h, toks := tk }) (A := A.in1) hh D hst (.inl (by simp [hin])) fun h' he => ?_)
    refine wpAny_pure (hR h' tk acc c as (fun b o h0 h1 h2 h3 h4 e => he b o h1 h2 h3 h4 (hkeep b o h0 h1 h2 h3 h4 e)) (he S _ (Nat.ne_of_gt s1) (Nat.ne_of_gt s3) (Nat.ne_of_gt s4) (Nat.ne_of_gt s5) hS) (by omega) ⟨hG.rise, hG.above, fun j a hj => ?_⟩ hacc)
    obtain ⟨x, y, e1, e2, e3⟩ := hG.pairs j a hj
    obtain ⟨b1, b2, b3, b4⟩ := ab (hG.above a (List.mem_of_getElem? hj))
    exact ⟨x, y, e1, e2, he a _ b1 b2 b3 b4 e3⟩
  | succ k ih =>
    intro i h tk c acc as hk hi hst hkeep hS hacc hal hG
    have hlt : i < xs.size := by omega
    have hlt2 : i < ys.size := by omega
    have hx : xs[i]? = some xs[i] := Array.getElem?_eq_getElem hlt
    have hy : ys[i]? = some ys[i] := Array.getElem?_eq_getElem hlt2
    generalize xs[i] = x at hx
    generalize ys[i] = y at hy
    have hsz : acc.size = i := by rw [← Array.length_toList, hacc, List.length_map, hal]
    refine codeAny_builtin PySem.F.entry_extend_loop ?_
    rw [Around.under_plainId PySem.F.plain_extend_loop _]
    show wpAny _ A.in1 (pyNext (.ref z) >>= _) _ _ _
    refine wpAny_bind (zs_item (s := { s with heap := h, toks := tk }) (S := S) D hst (Heap.lt_size hS) hx hy fun h' hst' ht hz hkp => ?_)
    dsimp only at ht hz hkp ⊢
    have hS' := hkp S _ (Nat.ne_of_gt s1) (Nat.ne_of_gt s3) (Nat.ne_of_gt s4) (Nat.ne_of_gt s5) hS
    have up : ∀ b o, b ≠ S → h'.get? b = some o → (h'.update S (Obj.mapSeq (·.push (Value.ref h.objs.size)))).get? b = some o := fun b o hb e => (Heap.get?_update_other _ _ (Ne.symm hb)).trans e
    have hSl : S < h.objs.size := Heap.lt_size hS
    show wpAny _ A.in1 (updateSeq S (·.push (Value.ref h.objs.size)) >>= _) _ _ _
    refine wpAny_bind ?_
    refine wpAny_updateSeq hS' rfl (wpAny_pure ⟨plainId_quiet PySem.F.plain_extend_loop _, ih (i + 1) _ tk _ (acc.push (Value.ref h.objs.size)) (as ++ [h.objs.size]) (by omega) hlt (hst'.keep up ⟨Nat.ne_of_lt s1, Nat.ne_of_lt s2, Nat.ne_of_lt s3, Nat.ne_of_lt s4, Nat.ne_of_lt s5, Nat.ne_of_lt s6, Nat.ne_of_lt s7⟩)
      (fun b o h0 h1 h2 h3 h4 e => up b o h0 (hkp b o h1 h2 h3 h4 (hkeep b o h0 h1 h2 h3 h4 e))) (Heap.get?_update_self _ hS' rfl) (by rw [Array.toList_push, hacc, List.map_append]; rfl) (by rw [List.length_append, hal]; rfl) ⟨?_, ?_, ?_⟩⟩) (by rw [hsz]; omega) (by show (acc.push (Value.ref h.objs.size)).size ≤ sizeLine + 1; rw [Array.size_push, hsz]; omega)
    · refine List.pairwise_append.mpr ⟨hG.rise, List.pairwise_singleton _ _, fun a ha b hb => ?_⟩
      rw [List.mem_singleton.mp hb]
      exact hG.there ha
    · intro a ha
      rcases List.mem_append.mp ha with ha | ha
      · exact hG.above a ha
      · rw [List.mem_singleton.mp ha]; exact hSl
    · intro j b hj
      rcases Nat.lt_trichotomy j as.length with h1 | h1 | h1
      · rw [List.getElem?_append_left h1] at hj
        obtain ⟨x', y', e1, e2, e3⟩ := hG.pairs j b hj
        have hb := hG.above b (List.mem_of_getElem? hj)
        obtain ⟨b1, b2, b3, b4⟩ := ab hb
        exact ⟨x', y', e1, e2, up b _ (Nat.ne_of_gt hb) (hkp b _ b1 b2 b3 b4 e3)⟩
      · subst h1
        have hb : h.objs.size = b := by simpa using hj
        subst hb
        exact ⟨x, y, by rw [hal]; exact hx, by rw [hal]; exact hy, up _ _ (Nat.ne_of_gt hSl) ht⟩
      · have hnone : (as ++ [h.objs.size])[j]? = none := List.getElem?_eq_none (by rw [List.length_append, List.length_singleton]; omega)
        rw [hnone] at hj; cases hj
end
section
variable {prog : Program} {w : World} {A : Around} {E : Value → Shared → Prop} {s : Shared} {z TI TO i1 i2 l1 l2 S : Addr} {xs ys : Array Value}
theorem zs_hint (hT : s.TypeIs (.ref z) "zip") {Q : Bool → Shared → Prop} (h : Q true s) : wpAny (model prog w) A (Builtin.List.listLengthHint (.ref z)) Q E s := by
  unfold Builtin.List.listLengthHint
  refine wpAny_bind (wpAny_specialOf hT zip_no_len ?_)
  show wpAny _ A (specialOf (Value.ref z) (Str.ofString "__length_hint__") >>= _) _ _ _
  refine wpAny_bind (wpAny_specialOf hT zip_no_hint ?_)
  exact wpAny_pure h
theorem zs_extend {R : Result → Shared → Prop} (hh : A.handled = none) (D : ZipApart z TI TO i1 i2 l1 l2) (SL : z < S ∧ TI < S ∧ TO < S ∧ i1 < S ∧ i2 < S ∧ l1 < S ∧ l2 < S) (hxy : xs.size = ys.size) (hn : xs.size ≤ sizeLine)
    (hz : IsZip s.heap z TI TO .none) (hTO : ∃ a b, IsPair s.heap TO a b) (hTI : IsPair s.heap TI (.ref i1) (.ref i2)) (h1 : s.heap.IsListIter i1 l1 0) (h2 : s.heap.IsListIter i2 l2 0) (hl1 : s.heap.IsList l1 xs) (hl2 : s.heap.IsList l2 ys)
    (res : Value) (c₀ : Nat) (hS : s.heap.get? S = some { cls := .type "list", data := .seq #[] c₀ })
    (hR : ∀ h' tk acc c as, (∀ b o, b ≠ S → b ≠ z → b ≠ TO → b ≠ i1 → b ≠ i2 → s.heap.get? b = some o → h'.get? b = some o) → h'.get? S = some { cls := .type "list", dict := none, data := .seq acc c, slots := #[] } → as.length = xs.size → ZG xs ys S h' as →
      acc.toList = as.map Value.ref → R (.ok (.ret res)) { s with heap := h', toks := tk }) :
    wpAny (model prog w) A.in1 (Builtin.List.listExtendWith (.ref S) (.ref z) res)
      (fun fin s' => match fin with | .done f => R (.ok f) s' | .again c' => c'.quiet = true ∧ codeAny (model prog w) A c' R s') (fun e s' => R (.error e) s') s := by
  have key : ∀ (h : Heap) (c₁ tk : Nat), (∀ b o, b ≠ S → s.heap.get? b = some o → h.get? b = some o) →
      h.get? S = some { cls := .type "list", data := .seq #[] c₁ } → codeAny (model prog w) A (.builtin "list.extend.loop" ⟨[.ref S, .ref z, res], []⟩) R { s with heap := h, toks := tk } := by
    intro h c₁ tk hk hS₁
    have st : ZSt s.heap z TI TO i1 i2 l1 l2 S xs ys 0 := ⟨hTI, h1, h2, hl1, hl2, .inl ⟨hz, hTO⟩⟩
    obtain ⟨s1, s2, s3, s4, s5, s6, s7⟩ := id SL
    refine zs_loop (s := s) (h₁ := s.heap) hh D SL hxy hn res hR xs.size 0 h tk c₁ #[] [] (Nat.sub_zero _) (Nat.zero_le _) (st.keep hk ⟨Nat.ne_of_lt s1, Nat.ne_of_lt s2, Nat.ne_of_lt s3, Nat.ne_of_lt s4, Nat.ne_of_lt s5, Nat.ne_of_lt s6, Nat.ne_of_lt s7⟩) (fun b o hb _ _ _ _ e => hk b o hb e) hS₁ rfl rfl
      ⟨List.Pairwise.nil, (fun _ ha => nomatch ha), (fun j a hj => by simp at hj)⟩
  have hT : s.TypeIs (.ref z) "zip" := ⟨_, hz, rfl⟩
  unfold Builtin.List.listExtendWith
  refine wpAny_bind (wpAny_typeOf (T := "zip") hT ?_)
  have h1 : Builtin.List.listSameRef (.ref S) (.ref z) = false := by simp [Builtin.List.listSameRef, Nat.ne_of_gt SL.1]
  have h2 : (Value.type "zip" == Value.type "list") = false := by decide
  have h3 : (Value.type "zip" == Value.type "tuple") = false := by decide
  simp only [h1, h2, h3, Bool.or_false, Bool.false_eq_true, if_false]
  refine wpAny_bind (wpAny_pyIter_zip hz ?_)
  refine wpAny_bind (wpAny_holding (zs_hint hT ?_))
  refine wpAny_ite_split (fun _ => ?_) (fun _ => wpAny_pure ⟨plainId_quiet PySem.F.plain_extend_loop _, key _ c₀ _ (fun b o _ e => e) hS⟩)
  refine wpAny_bind (wpAny_rule ?_)
  refine wpAny_bind ?_
  show wpAny _ _ (updateSeq S (·.push .none) >>= fun _ => updateSeq S (·.pop)) _ _ _
  refine wpAny_bind (wpAny_updateSeq hS rfl ?_)
  have hS₂ := Heap.get?_update_self (Obj.mapSeq (·.push Value.none)) hS rfl
  refine wpAny_updateSeq (hz := by seq_fits) hS₂ rfl ?_
  have hS₃ := Heap.get?_update_self (Obj.mapSeq (·.pop)) hS₂ rfl
  refine wpAny_pure ⟨plainId_quiet PySem.F.plain_extend_loop _, key _ _ _ (fun b o hb e => ?_) hS₃⟩
  exact (Heap.get?_update_other _ _ (Ne.symm hb)).trans ((Heap.get?_update_other _ _ (Ne.symm hb)).trans e)
theorem zs_call {Q : Value → Shared → Prop} (hh : A.handled = none) (D : ZipApart z TI TO i1 i2 l1 l2) (hxy : xs.size = ys.size) (hn : xs.size ≤ sizeLine)
    (hz : IsZip s.heap z TI TO .none) (hTO : ∃ a b, IsPair s.heap TO a b) (hTI : IsPair s.heap TI (.ref i1) (.ref i2)) (h1 : s.heap.IsListIter i1 l1 0) (h2 : s.heap.IsListIter i2 l2 0) (hl1 : s.heap.IsList l1 xs) (hl2 : s.heap.IsList l2 ys)
    (hQ : ∀ h' tk acc c as, (∀ b o, b ≠ z → b ≠ TO → b ≠ i1 → b ≠ i2 → s.heap.get? b = some o → h'.get? b = some o) → h'.get? s.heap.objs.size = some { cls := .type "list", dict := none, data := .seq acc c, slots := #[] } → as.length = xs.size → ZG xs ys s.heap.objs.size h' as →
      acc.toList = as.map Value.ref → Q (.ref s.heap.objs.size) { s with heap := h', toks := tk }) :
    wpAny (model prog w) A (call (.type "list") [.ref z]) Q E s := by
  refine callType_codes (Q₁ := fun obj s₁ => obj = .ref s.heap.objs.size ∧ s₁ = { s with heap := s.heap.push { cls := .type "list", data := .seq #[] } }) PySem.F.called_list (PySem.F.typeCall_list_1 _) PySem.F.entry_list_init
    (code_list_new _ ⟨rfl, rfl⟩) fun obj s₁ h₁ => ?_
  obtain ⟨rfl, rfl⟩ := h₁
  have hS : (s.heap.push { cls := .type "list", data := .seq #[] }).get? s.heap.objs.size = some { cls := .type "list", data := .seq #[] } := Heap.get?_push_size _ rfl
  obtain ⟨a, b, hTO⟩ := hTO
  have lt : ∀ {c o}, s.heap.get? c = some o → c < s.heap.objs.size := fun e => Heap.lt_size e
  have SL : z < s.heap.objs.size ∧ TI < s.heap.objs.size ∧ TO < s.heap.objs.size ∧ i1 < s.heap.objs.size ∧ i2 < s.heap.objs.size ∧ l1 < s.heap.objs.size ∧ l2 < s.heap.objs.size :=
    ⟨lt hz, lt hTI, lt hTO, (let ⟨_, e, _⟩ := h1; lt e), (let ⟨_, e, _⟩ := h2; lt e), (let ⟨_, e, _⟩ := hl1; lt e), (let ⟨_, e, _⟩ := hl2; lt e)⟩
  refine ⟨⟨_, hS, rfl⟩, PySem.F.args_list_init_2 _ _, ?_⟩
  generalize hS0 : s.heap.objs.size = S at hS SL hQ
  have pu : ∀ b o, s.heap.get? b = some o → (s.heap.push { cls := .type "list", data := .seq #[] }).get? b = some o := fun b o e => Heap.get?_push_of_some _ e
  show wpAny _ _ (do let old ← Builtin.List.listItems (.ref S); Builtin.List.listUpdate (.ref S) (fun _ => #[]); letGo old.toList.reverse; Builtin.List.listExtendWith (.ref S) (.ref z) .none) _ _ _
  refine wpAny_bind ?_
  unfold Builtin.List.listItems
  refine wpAny_bind (wpAny_seqItems hS rfl (wpAny_pure ?_))
  show wpAny _ _ (updateSeq S (fun _ => #[]) >>= fun _ => letGo (#[] : Array Value).toList.reverse >>= fun _ => Builtin.List.listExtendWith (.ref S) (.ref z) .none) _ _ _
  refine wpAny_bind (wpAny_updateSeq hS rfl ?_)
  have hS₂ := Heap.get?_update_self (Obj.mapSeq (fun _ => (#[] : Array Value))) hS rfl
  have oth : ∀ b o, b ≠ S → (s.heap.push { cls := .type "list", data := .seq #[] }).get? b = some o → ((s.heap.push { cls := .type "list", data := .seq #[] }).update S (Obj.mapSeq (fun _ => (#[] : Array Value)))).get? b = some o :=
    fun b o hb e => (Heap.get?_update_other _ _ (Ne.symm hb)).trans e
  have ot : ∀ b o, b ≠ S → s.heap.get? b = some o → ((s.heap.push { cls := .type "list", data := .seq #[] }).update S (Obj.mapSeq (fun _ => (#[] : Array Value)))).get? b = some o := fun b o hb e => oth b o hb (pu b o e)
  refine wpAny_bind (wpAny_letGo ?_)
  obtain ⟨s1, s2, s3, s4, s5, s6, s7⟩ := id SL
  refine zs_extend (A := A.in1) (S := S) (xs := xs) (ys := ys) hh D SL hxy hn (ot _ _ (Nat.ne_of_lt s1) hz) ⟨a, b, ot _ _ (Nat.ne_of_lt s3) hTO⟩ (ot _ _ (Nat.ne_of_lt s2) hTI) (h1.at fun o e => ot _ o (Nat.ne_of_lt s4) e) (h2.at fun o e => ot _ o (Nat.ne_of_lt s5) e) (hl1.at fun o e => ot _ o (Nat.ne_of_lt s6) e) (hl2.at fun o e => ot _ o (Nat.ne_of_lt s7) e) .none _ hS₂ (fun h' tk acc c as hk hS' hl hG hacc => ?_)
  exact ⟨rfl, hQ h' tk acc c as (fun b o b1 b2 b3 b4 e => hk b o (by rw [← hS0]; exact Nat.ne_of_lt (Heap.lt_size e)) b1 b2 b3 b4 (ot b o (by rw [← hS0]; exact Nat.ne_of_lt (Heap.lt_size e)) e)) hS' hl hG hacc⟩
end
/-- the tuples tracked at their addresses -/
def putZ : Hp → List Addr → List (V × V) → Hp
  | H, a :: as, p :: ps => putZ (upd H a (.tup [p.1, p.2])) as ps
  | H, _, _ => H
theorem putZ_off {b : Addr} : ∀ (as : List Addr) (ps : List (V × V)) (H : Hp), b ∉ as → putZ H as ps b = H b
  | [], _, _, _ => rfl
  | _ :: _, [], _, _ => rfl
  | a :: as, p :: ps, H, h => by
    show putZ (upd H a (.tup [p.1, p.2])) as ps b = H b
    rw [putZ_off as ps _ (fun z => h (List.mem_cons_of_mem _ z)), upd_ne (fun z => h (by rw [z]; exact List.mem_cons_self))]
theorem putZ_at : ∀ (as : List Addr) (ps : List (V × V)) (H : Hp), as.length = ps.length → as.Nodup → Paired (fun (t : Addr) (p : V × V) => putZ H as ps t = some (.tup [p.1, p.2])) as ps
  | [], [], _, _, _ => .nil
  | [], _ :: _, _, h, _ => by cases h
  | _ :: _, [], _, h, _ => by cases h
  | a :: as, p :: ps, H, h, hn => by
    have hn' := List.nodup_cons.mp hn
    have ih := putZ_at as ps (upd H a (.tup [p.1, p.2])) (Nat.succ.inj h) hn'.2
    refine .cons ?_ ih
    show putZ (upd H a (.tup [p.1, p.2])) as ps a = some (.tup [p.1, p.2])
    rw [putZ_off as ps _ hn'.1, upd_same]
def tListZip (K : PySem.W.Frag) (tA : TA) : TE := fun σ H Q => tA σ H fun vs H2 => ∃ (a b : Addr) (xs ys : List V), vs = [.ref a, .ref b] ∧ SqL K H2 a xs ∧ SqL K H2 b ys ∧ xs.length = ys.length ∧
  ∀ (H' : Hp) (p : Addr) (ts : List Addr), (∀ c o, H2 c = some o → H' c = some o) → H2 p = none → H' p = some (.lst (ts.map V.ref)) → ts.length = xs.length →
    (∀ (i : Nat) (t : Addr) (x y : V), ts[i]? = some t → xs[i]? = some x → ys[i]? = some y → H' t = some (.tup [x, y])) → Q (.ref p) H'
section
variable {X : Cx} {e e2 : Expr} {tA : TA} {p p2 pos pos2 : Pos}
theorem laid {pins : List (Addr × Obj)} {σ : L2.St} {H : Hp} {s : Shared} {h' : Heap} {tk : Nat} {xs ys : List V} {us vs : List Value} {acc : Array Value} {c : Nat} {as : List Addr} (I : Inv X pins σ H s) (rx : Vals xs us) (ry : Vals ys vs) (hxy : xs.length = ys.length) (hz : xs.length ≤ sizeLine)
    (hk : ∀ b o, s.heap.get? b = some o → h'.get? b = some o) (S : Addr) (hSz : s.heap.objs.size ≤ S) (hS : h'.get? S = some { cls := .type "list", dict := none, data := .seq acc c, slots := #[] }) (hl : as.length = xs.length) (hG : ZG us.toArray vs.toArray S h' as) (hacc : acc.toList = as.map Value.ref) :
    ∃ H' : Hp, (∀ b o, H b = some o → H' b = some o) ∧ H S = none ∧ H' S = some (.lst (as.map V.ref)) ∧ (∀ (i : Nat) (t : Addr) (x y : V), as[i]? = some t → xs[i]? = some x → ys[i]? = some y → H' t = some (.tup [x, y])) ∧ Inv X pins σ H' { s with heap := h', toks := tk } := by
  have hSn : S ∉ as := fun z => Nat.lt_irrefl _ (hG.above _ z)
  have nd : as.Nodup := List.Pairwise.imp (fun {a b} (h : a < b) => Nat.ne_of_lt h) hG.rise
  have new : ∀ t ∈ as, H t = none := fun t ht => I.hok.fresh (Nat.le_trans hSz (Nat.le_of_lt (hG.above t ht)))
  have newS : H S = none := I.hok.fresh hSz
  have lz : (xs.zip ys).length = xs.length := by rw [List.length_zip, ← hxy, Nat.min_self]
  have atP := putZ_at as (xs.zip ys) (upd H S (.lst (as.map V.ref))) (by omega) nd
  have off : ∀ b, b ∉ as → b ≠ S → putZ (upd H S (.lst (as.map V.ref))) as (xs.zip ys) b = H b := fun b h1 h2 => by rw [putZ_off as (xs.zip ys) _ h1, upd_ne h2]
  have low : ∀ b o, s.heap.get? b = some o → b ∉ as ∧ b ≠ S := fun b o e => ⟨fun z => absurd (Nat.lt_of_lt_of_le (Heap.lt_size e) hSz) (Nat.not_lt.mpr (Nat.le_of_lt (hG.above b z))), Nat.ne_of_lt (Nat.lt_of_lt_of_le (Heap.lt_size e) hSz)⟩
  have kp : ∀ b u, H b = some u → (putZ (upd H S (.lst (as.map V.ref))) as (xs.zip ys)) b = some u := fun b u e => by
    rw [off b (fun z => by rw [new b z] at e; cases e) (fun z => by rw [z, newS] at e; cases e)]
    exact e
  have eS : putZ (upd H S (.lst (as.map V.ref))) as (xs.zip ys) S = some (.lst (as.map V.ref)) := by rw [putZ_off as (xs.zip ys) _ hSn, upd_same]
  have zg : ∀ {i : Nat} {q : V × V}, (xs.zip ys)[i]? = some q → xs[i]? = some q.1 ∧ ys[i]? = some q.2 := fun {i q} h => List.getElem?_zip_eq_some.mp h
  refine ⟨putZ (upd H S (.lst (as.map V.ref))) as (xs.zip ys), kp, newS, eS, fun i t x y h1 h2 h3 => ?_, ?_⟩
  · obtain ⟨q, hq, ht⟩ := LiI.paired_get atP h1
    obtain ⟨e1, e2⟩ := zg hq
    rw [h2] at e1
    rw [h3] at e2
    rw [ht, Option.some.inj e1, Option.some.inj e2]
  refine I.call' (ch := []) rfl ⟨fun b o q _ _ _ => hk b o q, fun b o q _ _ _ => ⟨o.slots, hk b o q⟩, fun b o q n _ => ?_, fun b o q _ => ⟨o, hk b o q⟩, fun b xs q => kp b _ q, fun b o u q => kp b _ q, fun b ps q => ⟨#[], by rw [kp b _ q]; simp⟩⟩ (fun b u q => ?_) I.bare fun b z => by simp at z
  · obtain ⟨z1, z2⟩ := low b o q
    rw [off b z1 z2]
    exact n
  · by_cases hb : b ∈ as
    · obtain ⟨j, pk, e1, e2, e3⟩ := LiI.paired_ix atP hb
      rw [e3] at q
      cases q
      obtain ⟨x, y, f1, f2, f3⟩ := hG.pairs j b e1
      obtain ⟨g1, g2⟩ := zg e2
      obtain ⟨u1, v1, r1⟩ := rx.get g1
      obtain ⟨u2, v2, r2⟩ := ry.get g2
      have d1 : x = u1 := by
        rw [List.getElem?_toArray, v1] at f1
        exact (Option.some.inj f1).symm
      have d2 : y = u2 := by
        rw [List.getElem?_toArray, v2] at f2
        exact (Option.some.inj f2).symm
      rw [d1, d2] at f3
      exact ⟨by show 2 ≤ sizeLine; decide, [u1, u2], .cons r1 (.cons r2 .nil), ⟨_, f3, rfl, _, rfl⟩⟩
    · by_cases hb2 : b = S
      · rw [hb2] at q ⊢
        rw [eS] at q
        cases q
        refine ⟨by rw [List.length_map]; omega, acc.toList, c, by rw [hacc]; exact LiI.vals_refs as, ?_⟩
        rw [Array.toArray_toList]
        exact hS
      · rw [off b hb hb2] at q
        exact (I.hok b u q).stay (fun d v _ y => hk d v y) (fun d y => kp d _ y) fun d xs y => kp d _ y
/-- list(zip(e, e2)) -/
theorem pe_listZip (hc : X.calm = true) (hg : Gl X "list") (hm : X.mg "list" = none) (hgz : Gl X "zip") (hmz : X.mg "zip" = none) (hA : PA X [e, e2] tA) (hv : bootBuiltins "list" = some (.type "list") := by decide +kernel)
    (hs : starEach [.Call (.Name "zip" p2) [e, e2] [] pos2] X.env = (false, eval (.Call (.Name "zip" p2) [e, e2] [] pos2) X.env) :: starEach [] X.env := by rfl)
    (hs2 : starEach [e, e2] X.env = (false, eval e X.env) :: starEach [e2] X.env := by rfl) (hpl : (backTo pos2 (starEach [e2] X.env)).any (·.1) = false := by rfl) :
    PE X (.Call (.Name "list" p) [.Call (.Name "zip" p2) [e, e2] [] pos2] [] pos) (tListZip X.K tA) := by
  refine ⟨fun pins s σ H Q I hq => ?_⟩
  refine wpAny_Call_Name_kw (ld_blt I hg hm hv ?_)
  refine PyProof.Rows.callWith_type1 ?_ hs rfl
  rw [hs]
  show wpAny _ _ (spliced ((false, eval (.Call (.Name "zip" p2) [e, e2] [] pos2) X.env) :: backTo pos (starEach [] X.env))) _ _ s
  refine Calls.spliced_cons ?_
  refine Call_ (ld_blt I hgz hmz PyProof.Rows.boot_zip (PyProof.Rows.callWith_type1 (thn (hA.run pos2 pins s σ H _ I hq) fun us s1 ⟨vs, H1, I1, r1, q1⟩ => ?_) hs2 hpl))
  obtain ⟨a, b, xs, ys, ex, hx, hy, hxy, q⟩ := q1
  subst ex
  cases r1 with
  | cons r rr =>
    cases rr with
    | cons r' rr =>
      cases rr
      cases r
      cases r'
      obtain ⟨its, rv, q1, hz1⟩ := I1.list hx
      obtain ⟨its2, rv2, q2, _⟩ := I1.list hy
      have n1 := rv.length
      have n2 := rv2.length
      refine call_zip_2 q1.isList q2.isList fun h' hz hTI hTO h1 h2 hsz hk => ?_
      refine Calls.spliced_nil ?_
      refine zs_call (s := { s1 with heap := h' }) (I1.ok.hd hc) (PySem.W.ktu_apart s1.heap.objs.size a b q1.lt q2.lt) (xs := its.toArray) (ys := its2.toArray) (by simp; omega) (by simp; omega) hz ⟨_, _, hTO⟩ hTI h1 h2 (q1.isList.at fun o e => hk _ o e) (q2.isList.at fun o e => hk _ o e) fun h'' tk acc c as hk2 hS hl hG hacc => ?_
      dsimp only at hk2 hS hG hsz ⊢
      have lw : ∀ {c : Addr} {o : Obj}, s1.heap.get? c = some o → c < s1.heap.objs.size := fun e => Heap.lt_size e
      obtain ⟨H', k1, k2, k3, k4, J⟩ := laid (tk := tk) I1 rv rv2 hxy (by omega) (fun c o e => hk2 c o (Nat.ne_of_lt (Nat.lt_of_lt_of_le (lw e) (Nat.le_add_right _ _))) (Nat.ne_of_lt (Nat.lt_of_lt_of_le (lw e) (Nat.le_add_right _ _))) (Nat.ne_of_lt (lw e)) (Nat.ne_of_lt (Nat.lt_of_lt_of_le (lw e) (Nat.le_add_right _ _))) (hk c o e)) h'.objs.size (by rw [hsz]; omega) hS (by rw [hl]; simp; omega) hG hacc
      exact ⟨.ref _, H', J, rfl, q H' _ as k1 k2 k3 (by rw [hl]; simp; omega) k4⟩
end
end RkZ

namespace Rk
open PySem PySem.Spec PyProof.Rows L2 Evl
/-! ## Words that the laws share -/
/-! ### comparing, the written part told (within an except clause) -/
theorem op_eqDK {X : Cx} {K : PySem.W.Frag} (hu : X.A.units + 64 < cLine) (hK : X.K = K := by rfl) : OpR X (compareOp .Eq) (rEqD K) := by
  subst hK
  exact op_eqD hu
theorem call_lenK {X : Cx} {K : PySem.W.Frag} (hK : X.K = K := by rfl) : CallR X (.builtin "len") (rLenS K) := by
  subst hK
  exact call_len_seq
theorem op_neDK {X : Cx} {K : PySem.W.Frag} (hu : X.A.units + 64 < cLine) (hK : X.K = K := by rfl) : OpR X (compareOp .NotEq) (rNeD K) := by
  subst hK
  exact op_neD hu
section
variable {K : PySem.W.Frag} {σ : L2.St} {H H' : Hp} {ta tb tc te tx : TE} {t u : TT} {x y z v : V} {r r' : R2} {D : Ends} {tz tu tw : TS}
/-! ### lists of lists of numbers -/
/-- ps are the places of the lists ds -/
inductive Rows (H : Hp) : List V → List (List Int) → Prop
  | nil : Rows H [] []
  | cons {a : Addr} {xs : List Int} {ps : List V} {ds : List (List Int)} : H a = some (.lst (xs.map V.int)) → Rows H ps ds → Rows H (.ref a :: ps) (xs :: ds)
theorem Rows.mono {ps : List V} {ds : List (List Int)} (h : Rows H ps ds) (e : Ex H H') : Rows H' ps ds := by
  induction h with
  | nil => exact .nil
  | cons h1 _ ih => exact .cons (e _ _ h1) ih
theorem Rows.dp {ps : List V} {ds : List (List Int)} (h : Rows H ps ds) : DpAll K H ps (ds.map fun xs => PyData.list (xs.map PyData.int)) := by
  induction h with
  | nil => exact .nil
  | cons h1 _ ih => exact .cons (dp_ints (sq_of h1)) ih
theorem lay_rows : ∀ ds : List (List Int), PyData.canLayAll0 (ds.map fun xs => PyData.list (xs.map PyData.int)) = true
  | [] => rfl
  | d :: ds => by
    show (PyData.canLayAll0 (d.map PyData.int) && PyData.canLayAll0 (ds.map fun xs => PyData.list (xs.map PyData.int))) = true
    rw [lay_ints, lay_rows ds]
    rfl
theorem dep_rows : ∀ ds : List (List Int), PyData.depthAll (ds.map fun xs => PyData.list (xs.map PyData.int)) ≤ 1
  | [] => by decide
  | d :: ds => by
    show max (PyData.depthAll (d.map PyData.int) + 1) (PyData.depthAll (ds.map fun xs => PyData.list (xs.map PyData.int))) ≤ 1
    rw [dep_ints]
    have := dep_rows ds
    omega
theorem shp_rows (ds : List (List Int)) : SeqAt.shaped (.list (ds.map fun xs => PyData.list (xs.map PyData.int))) = true := by
  show (PyData.canLayAll0 (ds.map fun xs => PyData.list (xs.map PyData.int)) && decide (PyData.depthAll (ds.map fun xs => PyData.list (xs.map PyData.int)) + 1 ≤ 64)) = true
  rw [lay_rows]
  have := dep_rows ds
  rw [decide_eq_true (show PyData.depthAll (ds.map fun xs => PyData.list (xs.map PyData.int)) + 1 ≤ 64 by omega)]
  rfl
theorem eqvA_rows : ∀ ds es : List (List Int), PyData.eqvAll (ds.map fun xs => PyData.list (xs.map PyData.int)) (es.map fun xs => PyData.list (xs.map PyData.int)) = decide (ds = es)
  | [], [] => by simp [PyData.eqvAll]
  | [], _ :: _ => by simp [PyData.eqvAll]
  | _ :: _, [] => by simp [PyData.eqvAll]
  | x :: xs, y :: ys => by
    show (PyData.eqvAll (x.map PyData.int) (y.map PyData.int) && PyData.eqvAll (xs.map fun xs => PyData.list (xs.map PyData.int)) (ys.map fun xs => PyData.list (xs.map PyData.int))) = decide (x :: xs = y :: ys)
    rw [eqvA_rows xs ys, eqvA_ints, Bool.eq_iff_iff]
    simp
theorem rv_neRows {p q : Addr} {ps qs : List V} {ds es : List (List Int)} (h1 : H p = some (.lst ps)) (h2 : Rows H ps ds) (h3 : H q = some (.lst qs)) (h4 : Rows H qs es) : RV (rNeD K) (.ref p) (.ref q) H (.bl (!decide (ds = es))) := fun H1 e _ k =>
  ⟨_, _, .lst (sq_of (e _ _ h1)) (h2.mono e).dp, .lst (sq_of (e _ _ h3)) (h4.mono e).dp, shp_rows _, shp_rows _, by
    show _
    rw [show PyData.eqv (.list (ds.map fun xs => PyData.list (xs.map PyData.int))) (.list (es.map fun xs => PyData.list (xs.map PyData.int))) = decide (ds = es) from eqvA_rows ds es]
    exact k H1 (Ex.refl H1)⟩
/-- handed != [left, right] -/
theorem ev_neRows {ps qs : List V} {ds es : List (List Int)} (ha : EvH ta σ H ps) (h2 : Rows H ps ds) (hb : EvH tb σ H qs) (h4 : Rows H qs es) : Ev (tOp (rNeD K) ta tb) σ H (.bl (!decide (ds = es))) :=
  ev_opHH ha hb fun p q H1 hp hq e => rv_neRows hp (h2.mono e) hq (h4.mono e)
/-- [list, list], both new: the three places -/
theorem eg_two {xs ys : List V} (h1 : EvL ta σ H xs) (h2 : EvL tb σ H ys) : EvG (tLst (tCons ta (tCons tb tNil))) σ H (fun H1 w H2 => ∃ p a b, w = .ref p ∧ H1 p = none ∧ H1 a = none ∧ H1 b = none ∧ H2 p = some (.lst [.ref a, .ref b]) ∧ H2 a = some (.lst xs) ∧ H2 b = some (.lst ys)) := fun H1 e Q q =>
  h1 H1 e _ fun a H2 ha e2 ha2 => h2 H2 (e.trans e2) _ fun b H3 hb e3 hb3 => ⟨sz_of (by show 2 ≤ 100000; decide), fun p hp =>
    q _ _ ((e2.trans e3).trans (Ex.new hp)) ⟨p, a, b, rfl, fresh_back (e2.trans e3) hp, ha, fresh_back e2 hb, upd_same, Ex.new hp _ _ (e3 _ _ ha2), Ex.new hp _ _ hb3⟩⟩
/-- a display of lists of numbers, each new or old -/
def EvR (ta : TA) (σ : L2.St) (H : Hp) (ds : List (List Int)) : Prop := ∀ H1, Ex H H1 → ∀ Q : List V → Hp → Prop, (∀ ps H2, Ex H1 H2 → Rows H2 ps ds → ps.length = ds.length → Q ps H2) → ta σ H1 Q
theorem er_nil : EvR tNil σ H [] := fun H1 _ _ q => q [] H1 (Ex.refl H1) .nil rfl
theorem er_cons {tA : TA} {d : List Int} {ds : List (List Int)} (h : EvH te σ H (d.map V.int)) (hr : EvR tA σ H ds) : EvR (tCons te tA) σ H (d :: ds) := fun H1 e Q q =>
  h H1 e _ fun a H2 e2 h2 => hr H2 (e.trans e2) _ fun ps H3 e3 h3 hl => q _ H3 (e2.trans e3) (.cons (e3 _ _ h2) h3) (by rw [List.length_cons, List.length_cons, hl])
theorem eg_rows {tA : TA} {ds : List (List Int)} (h : EvR tA σ H ds) (hl : ds.length ≤ 1000) : EvG (tLst tA) σ H (fun H1 w H2 => ∃ p ps, w = .ref p ∧ H1 p = none ∧ H2 p = some (.lst ps) ∧ Rows H2 ps ds) := fun H1 e Q q =>
  h H1 e _ fun ps H2 e2 h2 hpl => ⟨sz_of (by rw [hpl]; omega), fun p hp => q _ _ (e2.trans (Ex.new hp)) ⟨p, ps, rfl, fresh_back e2 hp, upd_same, h2.mono (Ex.new hp)⟩⟩
theorem Rows.get {ps : List V} {ds : List (List Int)} (h : Rows H ps ds) : ∀ {i : Nat} {x : V}, ps[i]? = some x → ∃ a d, x = .ref a ∧ d ∈ ds ∧ H a = some (.lst (d.map V.int)) := by
  induction h with
  | nil => intro i x hx; simp at hx
  | @cons a xs ps ds h1 _ ih =>
    intro i x hx
    cases i with
    | zero =>
      have e : V.ref a = x := by simpa using hx
      exact ⟨a, xs, e.symm, List.mem_cons_self, h1⟩
    | succ i =>
      obtain ⟨a', d', e, hd, hh⟩ := ih (i := i) (x := x) (by simpa using hx)
      exact ⟨a', d', e, List.mem_cons_of_mem _ hd, hh⟩
/-- for x in [list, ..]: a look at each that changes nothing -/
theorem q_forChk {tA : TA} {ds : List (List Int)} {j : Nat} {o0 : Option V} (h : EvR tA σ H ds) (hl : ds.length ≤ 1000) (hj : σ[j]? = some o0)
    (hb : ∀ (d : List Int) (a : Addr) H' (N : L2.St → Hp → Prop), d ∈ ds → Ex H H' → H' a = some (.lst (d.map V.int)) → (∀ H2, Ex H' H2 → N (σ.set j (some (.ref a))) H2) → tu { D with nx := N, ct := N, bk := tz D } (σ.set j (some (.ref a))) H')
    (hd : ∀ o H', Ex H H' → tz D (σ.set j o) H') : tSeq (tFor (iList K (tLst tA)) (gName j) tu) tz D σ H := by
  have key : ∀ (p : Addr) (ps : List V) H1, Ex H H1 → H1 p = some (.lst ps) → Rows H1 ps ds → ∃ W : Nat → Nat → L2.St → Hp → Prop, (∃ m, W 0 m σ H1) ∧ ∀ i m σ H, W i m σ H →
      ((Itl K p).stop i H ∧ tz D σ H) ∨ ((Itl K p).go i H ∧ ∃ N : L2.St → Hp → Prop, (∀ σ' H', N σ' H' → ∃ m', m' < m ∧ W (i + 1) m' σ' H') ∧ ∀ x H', (Itl K p).yld i H x H' → gName j x σ H' fun σ2 H2 => tu { { D with nx := tz D } with nx := N, ct := N, bk := tz D } σ2 H2) := by
    intro p ps H1 e1 hps hR
    refine for_list (K := K) (a := p) (xs := ps) (D := { D with nx := tz D }) (fun i σ' H' => (∃ o, σ' = σ.set j o) ∧ Ex H1 H') ⟨⟨o0, (set_same hj).symm⟩, Ex.refl H1⟩ (fun i σ' H' _ ⟨_, e⟩ => sq_of (e _ _ hps)) ?_ ?_
    · rintro i x σ' H' hi ⟨⟨o, rfl⟩, e⟩
      obtain ⟨a, d, rfl, hd', ha⟩ := hR.get hi
      show tu _ ((σ.set j o).set j (some (.ref a))) H'
      rw [List.set_set]
      exact hb d a H' (fun σ' H' => (∃ o, σ' = σ.set j o) ∧ Ex H1 H') hd' (e1.trans e) (e _ _ ha) fun H2 e2 => ⟨⟨_, rfl⟩, e.trans e2⟩
    · rintro σ' H' ⟨⟨o, rfl⟩, e⟩
      exact hd o H' (e1.trans e)
  unfold tSeq tFor iList
  refine (eg_rows h hl) H (Ex.refl H) _ fun v H1 e1 hh => ?_
  obtain ⟨p, ps, ev, hp, hps, hR⟩ := hh
  subst ev
  exact ⟨p, rfl, ⟨ps, sq_of hps⟩, key p ps H1 e1 hps hR⟩
/-! ### lists of numbers and None, compared -/
def NI (v : V) : Prop := v = .non ∨ ∃ i, v = .int i
def fd : V → PyData
  | .int i => .int i
  | _ => .none
theorem dpA_ni : ∀ xs : List V, (∀ v ∈ xs, NI v) → DpAll K H xs (xs.map fd)
  | [], _ => .nil
  | x :: xs, h => by
    refine .cons ?_ (dpA_ni xs fun v hv => h v (List.mem_cons_of_mem _ hv))
    rcases h x List.mem_cons_self with e | ⟨i, e⟩ <;> subst e
    · exact .non
    · exact .int i
theorem shp_ni (xs : List V) : SeqAt.shaped (.list (xs.map fd)) = true := by
  have h1 : ∀ xs : List V, PyData.canLayAll0 (xs.map fd) = true := fun xs => by
    induction xs with
    | nil => rfl
    | cons x xs ih =>
      show (PyData.canLay0 (fd x) && PyData.canLayAll0 (xs.map fd)) = true
      rw [ih]
      cases x <;> rfl
  have h2 : ∀ xs : List V, PyData.depthAll (xs.map fd) = 0 := fun xs => by
    induction xs with
    | nil => rfl
    | cons x xs ih =>
      show max (PyData.depth (fd x)) (PyData.depthAll (xs.map fd)) = 0
      rw [ih]
      cases x <;> rfl
  show (PyData.canLayAll0 (xs.map fd) && decide (PyData.depthAll (xs.map fd) + 1 ≤ 64)) = true
  rw [h1, h2]
  rfl
theorem rv_neNI {p q : Addr} {xs : List V} (hx : ∀ v ∈ xs, NI v) (h1 : SqL K H p xs) (h2 : SqL K H q xs) : RV (rNeD K) (.ref p) (.ref q) H (.bl false) := fun H1 e _ k =>
  ⟨_, _, .lst (ex_l e h1) (dpA_ni xs hx), .lst (ex_l e h2) (dpA_ni xs hx), shp_ni xs, shp_ni xs, by
    show _
    rw [show PyData.eqv (.list (xs.map fd)) (.list (xs.map fd)) = true from SeqAt.eqv_refl _ (SeqAt.canLay_of_shaped (shp_ni xs))]
    exact k H1 (Ex.refl H1)⟩
/-- return f(..) in a try -/
theorem s_retCallS {sp : Sp} {E : L2.St → XK} {tA : TA} {vs : List V} (h : EvA tA σ H vs) (k : ∀ H1, Ex H H1 → sp vs H1 D.rt (E σ)) : tRet (tCallS sp E tA) D σ H := h H (Ex.refl H) _ k
theorem s_asgCallS {sp : Sp} {E : L2.St → XK} {tA : TA} {vs : List V} {i : Nat} (h : EvA tA σ H vs) (k : ∀ H1, Ex H H1 → sp vs H1 (fun v H2 => D.nx (σ.set i (some v)) H2) (E σ)) : tAsg (tCallS sp E tA) (gName i) D σ H := h H (Ex.refl H) _ k
/-! ### texts in a list, compared -/
theorem dpA_strs : ∀ ns : List Str, DpAll K H (ns.map V.str) (ns.map PyData.str)
  | [] => .nil
  | n :: ns => .cons (.str n) (dpA_strs ns)
theorem dp_strs {p : Addr} {ns : List Str} (h : SqL K H p (ns.map V.str)) : Dp K H (.ref p) (.list (ns.map PyData.str)) := .lst h (dpA_strs ns)
theorem rv_eqS {p q : Addr} {xs : List Str} (hs : SeqAt.shaped (.list (xs.map PyData.str)) = true) (h1 : SqL K H p (xs.map V.str)) (h2 : SqL K H q (xs.map V.str)) : RV (rEqD K) (.ref p) (.ref q) H (.bl true) := fun H1 e _ k =>
  ⟨_, _, dp_strs (ex_l e h1), dp_strs (ex_l e h2), hs, hs, by
    show _
    rw [show PyData.eqv (.list (xs.map PyData.str)) (.list (xs.map PyData.str)) = true from SeqAt.eqv_refl _ (SeqAt.canLay_of_shaped hs)]
    exact k H1 (Ex.refl H1)⟩
theorem rv_neS {p q : Addr} {xs : List Str} (hs : SeqAt.shaped (.list (xs.map PyData.str)) = true) (h1 : SqL K H p (xs.map V.str)) (h2 : SqL K H q (xs.map V.str)) : RV (rNeD K) (.ref p) (.ref q) H (.bl false) := fun H1 e _ k =>
  ⟨_, _, dp_strs (ex_l e h1), dp_strs (ex_l e h2), hs, hs, by
    show _
    rw [show PyData.eqv (.list (xs.map PyData.str)) (.list (xs.map PyData.str)) = true from SeqAt.eqv_refl _ (SeqAt.canLay_of_shaped hs)]
    exact k H1 (Ex.refl H1)⟩
theorem ev_eqS {xs : List Str} (hs : SeqAt.shaped (.list (xs.map PyData.str)) = true) (ha : EvH ta σ H (xs.map V.str)) (hb : EvH tb σ H (xs.map V.str)) : Ev (tOp (rEqD K) ta tb) σ H (.bl true) := ev_opHH ha hb fun p q H1 hp hq _ => rv_eqS hs (sq_of hp) (sq_of hq)
theorem ev_neS {xs : List Str} (hs : SeqAt.shaped (.list (xs.map PyData.str)) = true) (ha : EvH ta σ H (xs.map V.str)) (hb : EvH tb σ H (xs.map V.str)) : Ev (tOp (rNeD K) ta tb) σ H (.bl false) := ev_opHH ha hb fun p q H1 hp hq _ => rv_neS hs (sq_of hp) (sq_of hq)
theorem ev_callVHV {sp : Sp} {E : XK} {t1 t2 t3 : TE} {x1 z1 w : V} {xs : List V} (h1 : Ev t1 σ H x1) (h2 : EvH t2 σ H xs) (h3 : Ev t3 σ H z1) (hs : ∀ p H1, Ex H H1 → H1 p = some (.lst xs) → SpV sp [x1, .ref p, z1] H1 w) :
    Ev (tCall sp [] E (tCons t1 (tCons t2 (tCons t3 tNil)))) σ H w := fun H1 e Q q => by
  show t1 σ H1 fun _ H2 => t2 σ H2 fun _ H3 => t3 σ H3 fun _ H4 => sp _ H4 Q E
  exact h1 H1 e _ fun H2 e2 => h2 H2 (e.trans e2) _ fun p H3 e3 hp => h3 H3 ((e.trans e2).trans e3) _ fun H4 e4 =>
    hs p H4 (((e.trans e2).trans e3).trans e4) (e4 _ _ hp) H4 (Ex.refl H4) Q (fun H5 e5 => q H5 (((e2.trans e3).trans e4).trans e5)) E
theorem strs_eq {a b : Str} : decide (V.str a = V.str b) = decide (a = b) := by simp
/-! ### taking a row apart -/
theorem cut_set (us : List Int) (p : Nat) (v : Int) (hp : p < us.length) : cutV (us.map V.int) none (some (p : Int)) ++ [V.int v] ++ cutV (us.map V.int) (some ((p : Int) + 1)) none = (us.set p v).map V.int := by
  rw [cut_to, show ((p : Int) + 1) = ((p + 1 : Nat) : Int) by omega, cut_from, List.set_eq_take_append_cons_drop, if_pos hp]
  simp
theorem cut_del (us : List Int) (p : Nat) : cutV (us.map V.int) none (some (p : Int)) ++ cutV (us.map V.int) (some ((p : Int) + 1)) none = (us.eraseIdx p).map V.int := by
  rw [cut_to, show ((p : Int) + 1) = ((p + 1 : Nat) : Int) by omega, cut_from, List.eraseIdx_eq_take_drop_succ]
  simp
end
/-! ### rows that tell a number, and others -/
def Tells' (bs rs : List Int) : Prop := Rw.IsRow bs rs ∧ Rw.num bs rs < Rw.room bs
theorem set_ne_row {bs : List Int} (g : Rw.Good bs) {x v m : Int} {p : Nat} (x0 : 0 ≤ x) (x1 : x < Rw.room bs) (hm : bs[p]? = some m) (v0 : 0 ≤ v) (v1 : v < m) (hv : v ≠ x % m) :
    Rw.IsRow bs ((Rw.rowOf bs x).set p v) ∧ ¬ Rw.num bs ((Rw.rowOf bs x).set p v) < Rw.room bs := by
  have hp : p < bs.length := (List.getElem?_eq_some_iff.mp hm).1
  have hl : ((Rw.rowOf bs x).set p v).length = bs.length := by rw [List.length_set, Rw.rowOf_length]
  have r : Rw.IsRow bs ((Rw.rowOf bs x).set p v) := by
    refine ⟨hl, fun k r b hr hb => ?_⟩
    by_cases e : k = p
    · subst e
      rw [hm] at hb
      have := Option.some.inj hb
      rw [List.getElem?_set_self (by rw [Rw.rowOf_length]; exact hp)] at hr
      have := Option.some.inj hr
      omega
    · rw [List.getElem?_set_ne (fun z => e z.symm)] at hr
      exact (Rw.isRow_rowOf g x).rng k r b hr hb
  refine ⟨r, fun h => ?_⟩
  obtain ⟨n0, n1, hn⟩ := Rw.num_spec g hl
  have same : Rw.num bs ((Rw.rowOf bs x).set p v) = x := g.uniq1 n0 h x0 x1 hp fun k b hb hk => by
    have hr : ((Rw.rowOf bs x).set p v)[k]? = some (x % b) := by rw [List.getElem?_set_ne (fun z => hk z.symm), Rw.rowOf_get hb]
    rw [hn k b _ hb hr, Int.emod_emod]
  have hr : ((Rw.rowOf bs x).set p v)[p]? = some v := List.getElem?_set_self (by rw [Rw.rowOf_length]; exact hp)
  have := hn p m v hm hr
  rw [same, Int.emod_eq_of_lt v0 v1] at this
  exact hv this.symm
theorem far_row {bs : List Int} (g : Rw.Good bs) {x : Int} (x0 : 0 ≤ x) (x1 : x < Rw.room bs) : Rw.IsRow bs (Rw.rowOf bs (x + Rw.room bs)) ∧ ¬ Rw.num bs (Rw.rowOf bs (x + Rw.room bs)) < Rw.room bs := by
  have := g.room9
  have := g.room_pos
  refine ⟨Rw.isRow_rowOf g _, ?_⟩
  rw [Rw.num_row g (by omega) (by omega)]
  omega
theorem spoil_ne {x m d : Int} (h3 : 3 ≤ m) (d1 : 1 ≤ d) (d2 : d < m) : (x % m + d) % m ≠ x % m ∧ 0 ≤ (x % m + d) % m ∧ (x % m + d) % m < m := by
  have h0 := Int.emod_nonneg x (show m ≠ 0 by omega)
  have h1 := Int.emod_lt_of_pos x (show 0 < m by omega)
  refine ⟨fun h => ?_, Int.emod_nonneg _ (by omega), Int.emod_lt_of_pos _ (by omega)⟩
  by_cases c : x % m + d < m
  · rw [Int.emod_eq_of_lt (by omega) c] at h
    omega
  · have e : (x % m + d) % m = x % m + d - m := by
      rw [← Int.sub_emod_right, Int.emod_eq_of_lt (by omega) (by omega)]
    omega
theorem not_row_len {bs us : List Int} (h : us.length ≠ bs.length) : ¬ Rw.IsRow bs us := fun w => h w.len
theorem not_row_at {bs us : List Int} {p : Nat} {v m : Int} (hu : us[p]? = some v) (hm : bs[p]? = some m) (h : v < 0 ∨ m ≤ v) : ¬ Rw.IsRow bs us := fun w => by
  have := w.rng p v m hu hm
  omega
/-! ### one place lost -/
theorem isRow_set {bs rs : List Int} {p : Nat} {m v : Int} (w : Rw.IsRow bs rs) (hm : bs[p]? = some m) (v0 : 0 ≤ v) (v1 : v < m) : Rw.IsRow bs (rs.set p v) := by
  refine ⟨by rw [List.length_set]; exact w.len, fun k r b hr hb => ?_⟩
  by_cases e : k = p
  · subst e
    rw [hm] at hb
    have := Option.some.inj hb
    have hp := (List.getElem?_eq_some_iff.mp hm).1
    rw [List.getElem?_set_self (by rw [w.len]; exact hp)] at hr
    have := Option.some.inj hr
    omega
  · rw [List.getElem?_set_ne (fun z => e z.symm)] at hr
    exact w.rng k r b hr hb
theorem onum_is {bs rs : List Int} {p : Nat} {x : Int} (g : Rw.Good bs) (hl : rs.length = bs.length) (hp : p < bs.length) (x0 : 0 ≤ x) (x1 : x < Rw.room bs) (h : ∀ (k : Nat) (b r : Int), k ≠ p → bs[k]? = some b → rs[k]? = some r → x % b = r % b) : Rw.onum bs rs p = x :=
  (Rw.onum_spec g hl hp).is g (by omega) hp x0 x1 h
theorem onum_row {bs : List Int} {p : Nat} {x v : Int} (g : Rw.Good bs) (hp : p < bs.length) (x0 : 0 ≤ x) (x1 : x < Rw.room bs) : Rw.onum bs ((Rw.rowOf bs x).set p v) p = x :=
  onum_is g (by rw [List.length_set, Rw.rowOf_length]) hp x0 x1 fun k b r hk hb hr => by
    rw [List.getElem?_set_ne (fun z => hk z.symm), Rw.rowOf_get hb] at hr
    rw [← Option.some.inj hr, Int.emod_emod]
/-- two places differ from a number's row: what the others of the one tell is beyond the room -/
theorem onum_two {bs rs : List Int} {p q : Nat} {x mq rq : Int} (g : Rw.Good bs) (hl : rs.length = bs.length) (hp : p < bs.length) (hq : bs[q]? = some mq) (hpq : q ≠ p) (x0 : 0 ≤ x) (x1 : x < Rw.room bs)
    (h : ∀ (k : Nat) (b r : Int), k ≠ p → k ≠ q → bs[k]? = some b → rs[k]? = some r → x % b = r % b) (hr : rs[q]? = some rq) (hne : x % mq ≠ rq % mq) : ¬ Rw.onum bs rs p < Rw.room bs := by
  intro y1
  have o := Rw.onum_spec g hl hp
  have hq' := (List.getElem?_eq_some_iff.mp hq).1
  have e : Rw.onum bs rs p = x := by
    have ag : ∀ (k : Nat) (b : Int), bs[k]? = some b → k ≠ p → k ≠ q → Rw.onum bs rs p % b = x % b := fun k b hb h1 h2 => by
      have hk := (List.getElem?_eq_some_iff.mp hb).1
      have hrk : rs[k]? = some (rs[k]'(by omega)) := List.getElem?_eq_getElem (by omega)
      rw [o.has k b _ h1 hb hrk, h k b _ h1 h2 hb hrk]
    rcases Nat.lt_or_gt_of_ne hpq with c | c
    · exact g.uniq2 o.lo y1 x0 x1 c hp fun k b hb h1 h2 => ag k b hb h2 h1
    · exact g.uniq2 o.lo y1 x0 x1 c hq' fun k b hb h1 h2 => ag k b hb h1 h2
  have := o.has q mq rq hpq hq hr
  rw [e] at this
  exact hne this
theorem set_back {bs : List Int} {p : Nat} {x v m : Int} (hm : bs[p]? = some m) : ((Rw.rowOf bs x).set p v).set p (x % m) = Rw.rowOf bs x := by
  rw [List.set_set]
  apply List.ext_getElem?
  intro k
  by_cases e : k = p
  · subst e
    rw [List.getElem?_set_self (by rw [Rw.rowOf_length]; exact (List.getElem?_eq_some_iff.mp hm).1), Rw.rowOf_get hm]
  · rw [List.getElem?_set_ne (fun z => e z.symm)]
/-! ### calls with a list that may be new among the arguments -/
section
variable {σ : L2.St} {H : Hp} {t1 t2 t3 : TE} {sp : Sp} {E : XK} {x1 z1 w : V} {xs zs : List V}
theorem el_callVHV (h1 : Ev t1 σ H x1) (h2 : EvH t2 σ H xs) (h3 : Ev t3 σ H z1) (hs : ∀ p H1, Ex H H1 → H1 p = some (.lst xs) → SpL sp [x1, .ref p, z1] H1 zs) :
    EvL (tCall sp [] E (tCons t1 (tCons t2 (tCons t3 tNil)))) σ H zs := fun H1 e Q q => by
  show t1 σ H1 fun _ H2 => t2 σ H2 fun _ H3 => t3 σ H3 fun _ H4 => sp _ H4 Q E
  exact h1 H1 e _ fun H2 e2 => h2 H2 (e.trans e2) _ fun p H3 e3 hp => h3 H3 ((e.trans e2).trans e3) _ fun H4 e4 =>
    hs p H4 (((e.trans e2).trans e3).trans e4) (e4 _ _ hp) H4 (Ex.refl H4) Q (fun l H5 hl e5 h5 => q l H5 (fresh_back ((e2.trans e3).trans e4) hl) (((e2.trans e3).trans e4).trans e5) h5) E
theorem el_callVH (h1 : Ev t1 σ H x1) (h2 : EvH t2 σ H xs) (hs : ∀ p H1, Ex H H1 → H1 p = some (.lst xs) → SpL sp [x1, .ref p] H1 zs) :
    EvL (tCall sp [] E (tCons t1 (tCons t2 tNil))) σ H zs := fun H1 e Q q => by
  show t1 σ H1 fun _ H2 => t2 σ H2 fun _ H3 => sp _ H3 Q E
  exact h1 H1 e _ fun H2 e2 => h2 H2 (e.trans e2) _ fun p H3 e3 hp =>
    hs p H3 ((e.trans e2).trans e3) hp H3 (Ex.refl H3) Q (fun l H5 hl e5 h5 => q l H5 (fresh_back (e2.trans e3) hl) ((e2.trans e3).trans e5) h5) E
end
/-! ### the places where two rows differ -/
def apartL (xs ys : List Int) (f : Nat → Bool) : List Int := ((List.range xs.length).filter fun k => decide (xs.getD k 0 ≠ ys.getD k 0) && f k).map fun k : Nat => (k : Int)
theorem apart_nil {xs ys : List Int} {f : Nat → Bool} (h : apartL xs ys f = []) {k : Nat} (hk : k < xs.length) (hf : f k = true) : xs.getD k 0 = ys.getD k 0 := by
  unfold apartL at h
  rw [List.map_eq_nil_iff, List.filter_eq_nil_iff] at h
  have z := h k (List.mem_range.mpr hk)
  rw [hf, Bool.and_true, decide_eq_true_eq] at z
  exact Decidable.of_not_not z
theorem apart_nil_of {xs ys : List Int} {f : Nat → Bool} (h : ∀ k, k < xs.length → f k = true → xs.getD k 0 = ys.getD k 0) : apartL xs ys f = [] := by
  unfold apartL
  rw [List.map_eq_nil_iff, List.filter_eq_nil_iff]
  intro k hk hc
  rw [Bool.and_eq_true, decide_eq_true_eq] at hc
  exact hc.1 (h k (List.mem_range.mp hk) hc.2)
theorem one_of {l : List Nat} {p : Nat} (hn : l.Nodup) (h : ∀ x, x ∈ l ↔ x = p) : l = [p] := by
  cases l with
  | nil => exact absurd ((h p).mpr rfl) List.not_mem_nil
  | cons a l =>
    have ea : a = p := (h a).mp List.mem_cons_self
    cases l with
    | nil => rw [ea]
    | cons b l =>
      have eb : b = p := (h b).mp (List.mem_cons_of_mem _ List.mem_cons_self)
      subst ea eb
      exact absurd List.mem_cons_self (List.nodup_cons.mp hn).1
theorem apart_one {xs ys : List Int} {p : Nat} (hp : p < xs.length) (hn : xs.getD p 0 ≠ ys.getD p 0) (h : ∀ k, k < xs.length → k ≠ p → xs.getD k 0 = ys.getD k 0) : apartL xs ys (fun _ => true) = [(p : Int)] := by
  unfold apartL
  rw [one_of (p := p) (List.Nodup.sublist List.filter_sublist List.nodup_range) (fun x => ?_)]
  · rfl
  · rw [List.mem_filter, List.mem_range, Bool.and_true, decide_eq_true_eq]
    constructor
    · intro z
      by_cases e : x = p
      · exact e
      · exact absurd (h x z.1 e) z.2
    · intro e
      subst e
      exact ⟨hp, hn⟩
theorem apart_few {xs ys : List Int} (hx : 0 < xs.length) (h : ¬ 1 < (apartL xs ys fun _ => true).length) : ∃ q, q < xs.length ∧ ∀ k, k < xs.length → k ≠ q → xs.getD k 0 = ys.getD k 0 := by
  unfold apartL at h
  rw [List.length_map] at h
  generalize hl : (List.range xs.length).filter (fun k => decide (xs.getD k 0 ≠ ys.getD k 0) && true) = l at h
  have hm : ∀ k, k < xs.length → k ∉ l → xs.getD k 0 = ys.getD k 0 := fun k hk hn => by
    rw [← hl, List.mem_filter, List.mem_range, Bool.and_true, decide_eq_true_eq] at hn
    by_cases e : xs.getD k 0 = ys.getD k 0
    · exact e
    · exact absurd ⟨hk, e⟩ hn
  match l, h with
  | [], _ => exact ⟨0, hx, fun k hk _ => hm k hk List.not_mem_nil⟩
  | [q], _ =>
    have hq : q < xs.length := by
      have : q ∈ (List.range xs.length).filter (fun k => decide (xs.getD k 0 ≠ ys.getD k 0) && true) := by rw [hl]; exact List.mem_cons_self
      exact List.mem_range.mp (List.mem_filter.mp this).1
    exact ⟨q, hq, fun k hk hne => hm k hk (by rw [List.mem_singleton]; exact hne)⟩
  | _ :: _ :: _, h => exact absurd (by simp) h
theorem agree_at {bs rs : List Int} {m : Int} {k : Nat} {b r : Int} (h : rs.getD k 0 = (Rw.rowOf bs m).getD k 0) (hb : bs[k]? = some b) (hr : rs[k]? = some r) : m % b = r % b := by
  rw [Rw.getD_of hr, Rw.getD_of (Rw.rowOf_get hb)] at h
  rw [h, Int.emod_emod]
/-- where all others agree with a number of the room, they tell it -/
theorem far_onum {bs rs : List Int} {p : Nat} {m v : Int} (g : Rw.Good bs) (hl : rs.length = bs.length) (hp : p < bs.length) (m0 : 0 ≤ m) (m1 : m < Rw.room bs) (h : ∀ k, k < rs.length → k ≠ p → rs.getD k 0 = (Rw.rowOf bs m).getD k 0) : Rw.onum bs (rs.set p v) p = m :=
  onum_is g (by rw [List.length_set]; exact hl) hp m0 m1 fun k b r hk hb hr => by
    rw [List.getElem?_set_ne (fun z => hk z.symm)] at hr
    exact agree_at (h k (List.getElem?_eq_some_iff.mp hr).1 hk) hb hr
theorem far_onum' {bs rs : List Int} {p : Nat} {m : Int} (g : Rw.Good bs) (hl : rs.length = bs.length) (hp : p < bs.length) (m0 : 0 ≤ m) (m1 : m < Rw.room bs) (h : ∀ k, k < rs.length → k ≠ p → rs.getD k 0 = (Rw.rowOf bs m).getD k 0) : Rw.onum bs rs p = m :=
  onum_is g hl hp m0 m1 fun k b r hk hb hr => agree_at (h k (List.getElem?_eq_some_iff.mp hr).1 hk) hb hr
/-- the row with what the others tell is that number's -/
theorem refill_row {bs rs : List Int} {p : Nat} {mp : Int} (g : Rw.Good bs) (w : Rw.IsRow bs rs) (hm : bs[p]? = some mp) : rs.set p (Rw.onum bs rs p % mp) = Rw.rowOf bs (Rw.onum bs rs p) := by
  have hp := (List.getElem?_eq_some_iff.mp hm).1
  have m3 := g.get3 hm
  have ot := Rw.onum_spec g w.len hp
  have hw := ot.whole g hm
  have w2 : Rw.IsRow bs (rs.set p (Rw.onum bs rs p % mp)) := isRow_set w hm (Int.emod_nonneg _ (by omega)) (Int.emod_lt_of_pos _ (by omega))
  exact Rw.is_row_of g w2 (Rw.num_eq g w2.len ot.lo hw.1 hw.2)
theorem getD_set_ne {xs : List Int} {p k : Nat} {v : Int} (h : k ≠ p) : (xs.set p v).getD k 0 = xs.getD k 0 := by
  rw [List.getD_eq_getElem?_getD, List.getD_eq_getElem?_getD, List.getElem?_set_ne (fun z => h z.symm)]
theorem isRow_range {bs : List Int} (g : Rw.Good bs) (f : Nat → Int) : Rw.IsRow bs ((List.range bs.length).map fun k => f k % bs.getD k 0) := by
  refine ⟨by rw [List.length_map, List.length_range], fun k r b hr hb => ?_⟩
  have hk := (List.getElem?_eq_some_iff.mp hb).1
  rw [List.getElem?_map, List.getElem?_range hk] at hr
  have e : f k % bs.getD k 0 = r := Option.some.inj hr
  rw [Rw.getD_of hb] at e
  have b3 := g.get3 hb
  rw [← e]
  exact ⟨Int.emod_nonneg _ (by omega), Int.emod_lt_of_pos _ (by omega)⟩
theorem range_get {bs : List Int} {f : Nat → Int} {i : Nat} {y : Int} (h : ((List.range bs.length).map fun k => f k % bs.getD k 0)[i]? = some y) (hi : i < bs.length) : y = f i % bs.getD i 0 := by
  rw [List.getElem?_map, List.getElem?_range hi] at h
  exact (Option.some.inj h).symm
theorem getD_le {bs : List Int} {i : Nat} (hi : i < bs.length) : bs[i]? = some (bs.getD i 0) := by
  rw [List.getD_eq_getElem?_getD, List.getElem?_eq_getElem hi]
  rfl
/-- one place apart at most from another number's row -/
theorem few_num {bs rs : List Int} {m : Int} {q : Nat} (g : Rw.Good bs) (w : Rw.IsRow bs rs) (hq : q < bs.length) (m0 : 0 ≤ m) (m1 : m < Rw.room bs) (h : ∀ k, k < rs.length → k ≠ q → rs.getD k 0 = (Rw.rowOf bs m).getD k 0) (hn : Rw.num bs rs < Rw.room bs) : Rw.num bs rs = m := by
  obtain ⟨x0, x1, hx⟩ := Rw.num_spec g w.len
  refine g.uniq1 x0 hn m0 m1 hq fun k b hb hk => ?_
  have hkl := (List.getElem?_eq_some_iff.mp hb).1
  have hr : rs[k]? = some (rs[k]'(by rw [w.len]; exact hkl)) := List.getElem?_eq_getElem (by rw [w.len]; exact hkl)
  rw [agree_at (h k (by rw [w.len]; exact hkl) hk) hb hr]
  exact hx k b _ hb hr
theorem few_onum {bs rs : List Int} {m : Int} {q p : Nat} (g : Rw.Good bs) (w : Rw.IsRow bs rs) (hq : q < bs.length) (hp : p < bs.length) (m0 : 0 ≤ m) (m1 : m < Rw.room bs) (h : ∀ k, k < rs.length → k ≠ q → rs.getD k 0 = (Rw.rowOf bs m).getD k 0) (hn : Rw.onum bs rs p < Rw.room bs) : Rw.onum bs rs p = m := by
  have o := Rw.onum_spec g w.len hp
  have ag : ∀ (k : Nat) (b : Int), bs[k]? = some b → k ≠ p → k ≠ q → Rw.onum bs rs p % b = m % b := fun k b hb h1 h2 => by
    have hkl := (List.getElem?_eq_some_iff.mp hb).1
    have hr : rs[k]? = some (rs[k]'(by rw [w.len]; exact hkl)) := List.getElem?_eq_getElem (by rw [w.len]; exact hkl)
    rw [o.has k b _ h1 hb hr, agree_at (h k (by rw [w.len]; exact hkl) h2) hb hr]
  rcases Nat.lt_trichotomy p q with c | c | c
  · exact g.uniq2 o.lo hn m0 m1 c hq fun k b hb h1 h2 => ag k b hb h1 h2
  · subst c
    exact g.uniq1 o.lo hn m0 m1 hp fun k b hb h1 => ag k b hb h1 h1
  · exact g.uniq2 o.lo hn m0 m1 c hp fun k b hb h1 h2 => ag k b hb h2 h1
/-! ### C(..) whose exceptions are wished for at the slots -/
def tMakeS (C : Addr) (sp : Sp) (E : L2.St → XK) (t : TA) : TE := fun σ H Q => t σ H fun vs H1 => ∀ x dx, H1 x = none → H1 dx = none → dx ≠ x →
  sp (.ref x :: vs) (upd (upd H1 dx (.own x)) x (.ins C dx [])) (fun v H2 => v = .non ∧ Q (.ref x) H2) (E σ)
section
variable {X : Cx} {CX : CXT} {k : Nat} {f C : Addr} {fd : FuncData} {ps : List Str} {sp : Sp} {E : L2.St → XK} {x : Str} {p pos : Pos} {e : Expr} {es : List Expr} {t : TA}
theorem run_makeS {pins : List (Addr × Obj)} {σ : L2.St} {H : Hp} {s : Shared} {Q : VK} {us : List Value} {vs : List V} (M : Mk X.K C f) (F : FnOk X.prog X.w X.K X.mg X.base CX k f fd ps sp) (hr : Room (k + 1) X.A) (hb : Binds X.K fd ps [])
    (hx : PassesAt CX X σ (E σ)) (I : Inv X pins σ H s) (r : Vals vs us)
    (h : ∀ x dx, H x = none → H dx = none → dx ≠ x → sp (.ref x :: vs) (upd (upd H dx (.own x)) x (.ins C dx [])) (fun v H2 => v = .non ∧ Q (.ref x) H2) (E σ)) :
    wpAny (model X.prog X.w) X.A (call (.ref C) us) (EP X pins σ Q) X.xe s := by
  have hq := h (s.heap.objs.size + 1) s.heap.objs.size (I.hok.fresh (Nat.le_succ _)) (I.hok.fresh (Nat.le_refl _)) (Nat.ne_of_lt (Nat.lt_succ_self _))
  have I2 := Inv.made (C := C) I
  have r2 : Vals (V.ref (s.heap.objs.size + 1) :: vs) (Value.ref (s.heap.objs.size + 1) :: us) := .cons rfl r
  have hl : (Value.ref (s.heap.objs.size + 1) :: us).length = ps.length := by
    have e := r2.length
    rw [F.len _ _ _ _ hq] at e
    exact e.symm
  have b := hb _ (Value.ref (s.heap.objs.size + 1) :: us) I2.kIn (by rw [List.append_nil]; exact hl)
  rw [List.append_nil] at b
  refine wpAny_call (make_map (f := f) I.kIn M.makes M.init (beq_iff_eq.mp M.fn) (codeAny_mono (F.run _ X.stack _ _ ⟨Value.ref (s.heap.objs.size + 1) :: us, []⟩ (Value.ref (s.heap.objs.size + 1) :: us) _ _ (E σ) (hr.make C us [])
    (I2.env0.make C us []) b r2 hq) fun r s' hq' => ?_))
  cases r with
  | error e => exact hx pins _ _ e s' I2 hq'
  | ok fl =>
    cases fl with
    | ret u =>
      obtain ⟨v, H', I3, rv, ev, q3⟩ := I2.after hq'
      subst ev
      exact ⟨rv, ⟨V.ref (s.heap.objs.size + 1), H', I3, rfl, q3⟩⟩
    | next => exact False.elim hq'
    | brk => exact False.elim hq'
    | cont => exact False.elim hq'
theorem pe_makeS (M : Mk X.K C f) (F : FnOk X.prog X.w X.K X.mg X.base CX k f fd ps sp) (hr : Room (k + 1) X.A) (hg : Gl X x) (hm : X.mg x = some (.ref C)) (hb : Binds X.K fd ps []) (hx : ∀ σ, PassesAt CX X σ (E σ))
    (ha : PA X (e :: es) t) (hdb : (x == ("__debug__" : Str)) = false := by decide) (he : starEach (e :: es) X.env = (false, eval e X.env) :: starEach es X.env := by rfl) (hpl : (backTo pos (starEach es X.env)).any (·.1) = false := by rfl) :
    PE X (.Call (.Name x p) (e :: es) [] pos) (tMakeS C sp E t) := by
  refine ⟨fun pins s σ H Q I h => ?_⟩
  refine wpAny_Call_Name_kw (ld_glob I hg hm ?_ hdb)
  refine PySem.W.callWith_K (h₀ := X.base) I.ok.mod.kin M.kp (thn (ha.run pos pins s σ H _ I h) fun us s1 ⟨vs, H1, I1, r, q⟩ => ⟨I1.kIn, ?_⟩) he hpl
  exact run_makeS M F hr hb (hx σ) I1 r q
end
theorem cut_int (us : List Int) (lo hi : Option Int) : ∃ vs : List Int, cutV (us.map V.int) lo hi = vs.map V.int ∧ vs.length ≤ us.length := by
  refine ⟨(us.drop (HT.sIx us.length 0 lo)).take (HT.sIx us.length us.length hi - HT.sIx us.length 0 lo), ?_, ?_⟩
  · unfold cutV
    rw [List.length_map, List.map_take, List.map_drop]
  · rw [List.length_take, List.length_drop]
    omega
theorem cut_first (us : List Int) {n : Nat} (hn : n ≤ us.length) : cutV (us.map V.int) none (some (n : Int)) = (us.take n).map V.int ∧ (us.take n).length = n := by
  refine ⟨by rw [cut_to, List.map_take], by rw [List.length_take]; omega⟩
end Rk

namespace Rk
open PySem PySem.Spec PyProof.Rows L2 Evl
/-! ## Law k12: comprehensions whose values are made, lists in a list that change, calls with a new list -/
/-- R tells but of what is new -/
def Loc (R : Hp → V → Hp → Prop) : Prop := ∀ H1 v H2 H3, R H1 v H2 → (∀ a o, H1 a = none → H2 a = some o → H3 a = some o) → R H1 v H3
/-- a new list -/
def NewL (xs : List V) : Hp → V → Hp → Prop := fun H1 v H2 => ∃ p, v = .ref p ∧ H1 p = none ∧ H2 p = some (.lst xs)
theorem NewL.loc (xs : List V) : Loc (NewL xs) := fun _ _ _ _ ⟨p, e, h1, h2⟩ k => ⟨p, e, h1, k _ _ h1 h2⟩
theorem NewL.back {xs : List V} (H0 H1 : Hp) (v : V) (H2 : Hp) (e : Ex H0 H1) (h : NewL xs H1 v H2) : NewL xs H0 v H2 := by
  obtain ⟨p, ev, h1, h2⟩ := h
  exact ⟨p, ev, fresh_back e h1, h2⟩
/-- a new list of n values that are made one behind the other; hs i is the heap ahead of the i-th -/
def Made (R : Nat → Hp → V → Hp → Prop) (n : Nat) : Hp → V → Hp → Prop := fun H1 v H2 => ∃ (p : Addr) (ys : List V) (hs : Nat → Hp), v = .ref p ∧ H1 p = none ∧ H2 p = some (.lst ys) ∧ ys.length = n ∧
  ∀ i y, ys[i]? = some y → Ex H1 (hs i) ∧ hs i p ≠ none ∧ R i (hs i) y H2 ∧ ∀ j, i < j → j < n → R i (hs i) y (hs j)
theorem Made.back {R : Nat → Hp → V → Hp → Prop} {n : Nat} (H0 H1 : Hp) (v : V) (H2 : Hp) (e : Ex H0 H1) (h : Made R n H1 v H2) : Made R n H0 v H2 := by
  obtain ⟨p, ys, hs, ev, hp, h2, hl, k⟩ := h
  exact ⟨p, ys, hs, ev, fresh_back e hp, h2, hl, fun i y hi => ⟨e.trans (k i y hi).1, (k i y hi).2⟩⟩
def Mw (R : Nat → Hp → V → Hp → Prop) (H1 : Hp) (Dl : Addr) (i : Nat) (H' : Hp) : Prop := H1 Dl = none ∧ Ex H1 H' ∧ ∃ (ys : List V) (hs : Nat → Hp), H' Dl = some (.lst ys) ∧ ys.length = i ∧
  ∀ k y, ys[k]? = some y → Ex H1 (hs k) ∧ hs k Dl ≠ none ∧ R k (hs k) y H' ∧ ∀ j, k < j → j < i → R k (hs k) y (hs j)
section
variable {K : PySem.W.Frag} {σ : L2.St} {H H' : Hp} {ta tb tc te tx : TE} {t u : TT} {x y z v : V} {r r' : R2} {D : Ends} {tz tu tw : TS}
theorem EvG.mono {R : Hp → V → Hp → Prop} (e : Ex H H') (h : EvG te σ H R) : EvG te σ H' R := fun H1 a Q q => h H1 (e.trans a) Q q
theorem eg_ofL {xs : List V} (h : EvL te σ H xs) : EvG te σ H (NewL xs) := fun H1 e Q q => h H1 e Q fun p H2 hp e2 h2 => q _ H2 e2 ⟨p, rfl, hp, h2⟩
theorem el_ofG {xs : List V} (h : EvG te σ H (NewL xs)) : EvL te σ H xs := fun H1 e Q q => h H1 e Q fun v H2 e2 ⟨p, ev, hp, h2⟩ => by
  subst ev
  exact q p H2 hp e2 h2
theorem mw_step {R : Nat → Hp → V → Hp → Prop} (hR : ∀ i, Loc (R i)) {H1 H2 H4 : Hp} {Dl : Addr} {i : Nat} {y : V} (p : Mw R H1 Dl i H2) (e4 : Ex H2 H4) (rr : R i H2 y H4) :
    ∃ ys : List V, H4 Dl = some (.lst ys) ∧ ys.length = i ∧ Mw R H1 Dl (i + 1) (upd H4 Dl (.lst (ys ++ [y]))) := by
  obtain ⟨p1, p2, ys, hs, h2, hl, k⟩ := p
  refine ⟨ys, e4 _ _ h2, hl, p1, Ex.mut (p2.trans e4) p1, ys ++ [y], fun k => if k = i then H2 else hs k, upd_same, by rw [List.length_append, hl]; rfl, ?_⟩
  intro j y' hj
  have ne : ∀ {a : Addr} {G : Hp}, G Dl ≠ none → G a = none → a ≠ Dl := fun {a G} h1 h2 e => h1 (by rw [← e]; exact h2)
  by_cases ej : j = i
  · subst ej
    rw [List.getElem?_append_right (by omega), hl, Nat.sub_self] at hj
    have ey : y = y' := Option.some.inj hj
    subst ey
    have hD : H2 Dl ≠ none := by rw [h2]; exact fun z => nomatch z
    dsimp only
    rw [if_pos rfl]
    refine ⟨p2, hD, hR j _ _ _ _ rr fun a o ha ho => ?_, fun j' h1 h3 => absurd h3 (by omega)⟩
    rw [upd_ne (ne hD ha)]
    exact ho
  · have hj' : j < ys.length := by
      have := (List.getElem?_eq_some_iff.mp hj).1
      rw [List.length_append, List.length_singleton] at this
      omega
    rw [List.getElem?_append_left hj'] at hj
    obtain ⟨k1, k2, k3, k4⟩ := k j y' hj
    dsimp only
    rw [if_neg ej]
    refine ⟨k1, k2, hR j _ _ _ _ k3 fun a o ha ho => ?_, fun j' h1 h3 => ?_⟩
    · rw [upd_ne (ne k2 ha)]
      exact e4 _ _ ho
    · by_cases e' : j' = i
      · subst e'
        show R j (hs j) y' (if j' = j' then H2 else hs j')
        rw [if_pos rfl]
        exact k3
      · show R j (hs j) y' (if j' = i then H2 else hs j')
        rw [if_neg e']
        exact k4 j' h1 (by omega)
theorem mw_turn {R : Nat → Hp → V → Hp → Prop} (hR : ∀ i, Loc (R i)) {H1 H2 : Hp} {Dl : Addr} {i : Nat} {σ2 : L2.St} (p : Mw R H1 Dl i H2) (hi : i < 50000) (he : EvG te σ2 H1 (R i)) :
    te σ2 H2 fun y H4 => ∃ acc, H4 Dl = some (.lst acc) ∧ acc.length < sizeLine ∧ Mw R H1 Dl (i + 1) (upd H4 Dl (.lst (acc ++ [y]))) := he H2 p.2.1 _ fun y H4 e4 rr => by
  obtain ⟨ys, h1, h2, h3⟩ := mw_step hR p e4 rr
  exact ⟨ys, h1, sz_lt (by omega), h3⟩
/-- [e for x in xs], e a thing made -/
theorem eg_lc {a : Addr} {xs : List V} {tl : TE} {j : Nat} {vs : List Nat} {R : Nat → Hp → V → Hp → Prop} (hR : ∀ i, Loc (R i)) (h : Ev tl σ H (.ref a)) (hx : SqL K H a xs) (hz : xs.length ≤ 40000) (hw : ∀ x, wipe ((wipe σ vs).set j (some x)) vs = wipe σ vs)
    (he : ∀ i x, xs[i]? = some x → EvG te ((wipe σ vs).set j (some x)) H (R i)) : EvG (tLc (iList K tl) (gName j) tYes te vs) σ H (Made R xs.length) := fun H0 e Q q => h H0 e _ fun H1 e1 => ⟨a, rfl, ⟨xs, ex_l (e.trans e1) hx⟩, fun Dl hD =>
  lc_list (xs := xs) (Mw R H1 Dl) ⟨hD, Ex.new hD, [], fun _ => H1, upd_same, rfl, fun k y hk => by simp at hk⟩ (fun i H' _ p => ex_l ((e.trans e1).trans p.2.1) hx)
    (fun i x H' hi p => ⟨hw x, mw_turn hR p (by have := (List.getElem?_eq_some_iff.mp hi).1; omega) ((he i x hi).mono (e.trans e1))⟩)
    (fun H' ⟨p1, p2, ys, hs, p3, p4, p5⟩ => q _ H' (e1.trans p2) ⟨Dl, ys, hs, rfl, fresh_back e1 p1, p3, p4, fun i y hi => ⟨e1.trans (p5 i y hi).1, (p5 i y hi).2⟩⟩)⟩
/-- xs.append(e), e a thing made -/
theorem s_appG {l : Addr} {xs : List V} {R : Hp → V → Hp → Prop} (hR : ∀ H0 H1 v H2, Ex H0 H1 → R H1 v H2 → R H0 v H2) (hl : H l = some (.lst xs)) (ha : Ev ta σ H (.ref l)) (h : EvG te σ H R) (hz : xs.length < 100000) (k : ∀ v H1, Ex H H1 → R H v H1 → D.nx σ (upd H1 l (.lst (xs ++ [v])))) :
    tDrop (tBM K "list" rAppend ta (tCons te tNil)) D σ H := ha H (Ex.refl H) _ fun H1 e1 =>
  ⟨Or.inl ⟨rfl, xs, sq_of (e1 l _ hl)⟩, h H1 e1 _ fun v H2 e2 rr => ⟨l, xs, v, rfl, rfl, e2 l _ (e1 l _ hl), sz_lt hz, k v H2 (e1.trans e2) (hR _ _ _ _ e1 rr)⟩⟩
/-- xs[i] = e, e a new list -/
theorem s_setLL {l : Addr} {xs ys : List V} {j : Nat} (hl : H l = some (.lst xs)) (h : EvL te σ H ys) (ho : Ev ta σ H (.ref l)) (hi : Ev tb σ H (.int (j : Int))) (hj : j < xs.length) (k : ∀ p H1, H p = none → Ex H H1 → H1 p = some (.lst ys) → D.nx σ (upd H1 l (.lst (xs.set j (.ref p))))) :
    tAsg te (gSub ta tb rSetL) D σ H := h H (Ex.refl H) _ fun p H1 hp e1 h1 => ho H1 e1 _ fun H2 e2 => hi H2 (e1.trans e2) _ fun H3 e3 =>
  ⟨l, xs, (j : Int), j, rfl, rfl, ((e1.trans e2).trans e3) l _ hl, ixN_nat hj, k p H3 hp ((e1.trans e2).trans e3) ((e2.trans e3) _ _ h1)⟩
theorem q_setLL {l : Addr} {xs ys : List V} {j : Nat} (hl : H l = some (.lst xs)) (h : EvL te σ H ys) (ho : Ev ta σ H (.ref l)) (hi : Ev tb σ H (.int (j : Int))) (hj : j < xs.length) (k : ∀ p H1, H p = none → Ex H H1 → H1 p = some (.lst ys) → tz D σ (upd H1 l (.lst (xs.set j (.ref p))))) :
    tSeq (tAsg te (gSub ta tb rSetL)) tz D σ H := s_setLL (D := { D with nx := tz D }) hl h ho hi hj k
/-- return f(.., .., e), e a new list -/
theorem s_retVVL {sp : Sp} {E : XK} {t1 t2 t3 : TE} {x1 x2 : V} {xs : List V} (h1 : Ev t1 σ H x1) (h2 : Ev t2 σ H x2) (h3 : EvL t3 σ H xs) (k : ∀ p H1, H p = none → Ex H H1 → H1 p = some (.lst xs) → sp [x1, x2, .ref p] H1 D.rt E) :
    tRet (tCall sp [] E (tCons t1 (tCons t2 (tCons t3 tNil)))) D σ H := by
  show t1 σ H fun _ H2 => t2 σ H2 fun _ H3 => t3 σ H3 fun _ H4 => sp _ H4 D.rt E
  exact h1 H (Ex.refl H) _ fun H2 e2 => h2 H2 e2 _ fun H3 e3 => h3 H3 (e2.trans e3) _ fun p H4 hp e4 h4 => k p H4 (fresh_back (e2.trans e3) hp) ((e2.trans e3).trans e4) h4
/-- return f(.., e, ..), e a new list -/
theorem s_retVLV {sp : Sp} {E : XK} {t1 t2 t3 : TE} {x1 x3 : V} {xs : List V} (h1 : Ev t1 σ H x1) (h2 : EvL t2 σ H xs) (h3 : Ev t3 σ H x3) (k : ∀ p H1, H p = none → Ex H H1 → H1 p = some (.lst xs) → sp [x1, .ref p, x3] H1 D.rt E) :
    tRet (tCall sp [] E (tCons t1 (tCons t2 (tCons t3 tNil)))) D σ H := by
  show t1 σ H fun _ H2 => t2 σ H2 fun _ H3 => t3 σ H3 fun _ H4 => sp _ H4 D.rt E
  exact h1 H (Ex.refl H) _ fun H2 e2 => h2 H2 e2 _ fun p H3 hp e3 hh => h3 H3 (e2.trans e3) _ fun H4 e4 => k p H4 (fresh_back e2 hp) ((e2.trans e3).trans e4) (e4 _ _ hh)
/-- return f(..) -/
theorem s_retC {sp : Sp} {E : XK} {tA : TA} {vs : List V} (h : EvA tA σ H vs) (k : ∀ H1, Ex H H1 → sp vs H1 D.rt E) : tRet (tCall sp [] E tA) D σ H := h H (Ex.refl H) _ fun H1 e1 => by
  show sp (vs ++ []) H1 D.rt E
  rw [List.append_nil]
  exact k H1 e1
/-- return o.f(..) -/
theorem s_retM {C a dx : Addr} {m : Str} {fs : List (Str × V)} {sp : Sp} {vs : List V} {E : XK} {tA : TA} (ho : Ev ta σ H (.ref a)) (hi : H a = some (.ins C dx fs)) (hl : fs.lookup m = none) (h : EvA tA σ H vs) (k : ∀ H1, Ex H H1 → sp (.ref a :: vs) H1 D.rt E) :
    tRet (tMeth C m sp [] E ta tA) D σ H := ho H (Ex.refl H) _ fun H2 e2 => ⟨a, dx, fs, rfl, e2 _ _ hi, hl, h H2 e2 _ fun H3 e3 => by
    show sp (.ref a :: (vs ++ [])) H3 D.rt E
    rw [List.append_nil]
    exact k H3 (e2.trans e3)⟩
/-- return e[0], e a new pair -/
theorem s_retPick {R : Hp → V → Hp → Prop} {xs : List V} (ha : EvG ta σ H R) (hR : ∀ H1 v H2, R H1 v H2 → ∃ p h o, v = .ref p ∧ H1 h = none ∧ H2 h = some (.lst xs) ∧ H2 p = some (.tup [.ref h, o])) (k : ∀ h H1, Ex H H1 → H h = none → H1 h = some (.lst xs) → D.rt (.ref h) H1) : tRet (tOp (rIxT K) ta (tC (.int 0))) D σ H :=
  ha H (Ex.refl H) _ fun v H2 e2 rr => by
    obtain ⟨p, h, o, ev, h0, h1, h2⟩ := hR _ _ _ rr
    subst ev
    exact ⟨p, [.ref h, o], 0, .ref h, rfl, rfl, st_of h2, atI_nat (j := 0) rfl, k h H2 e2 h0 h1⟩
/-- f(.., e), e a new list -/
theorem eg_callVL {sp : Sp} {E : XK} {t1 t2 : TE} {x1 : V} {xs : List V} {R : Hp → V → Hp → Prop} (hR : ∀ H0 H1 v H2, Ex H0 H1 → R H1 v H2 → R H0 v H2) (h1 : Ev t1 σ H x1) (h2 : EvL t2 σ H xs) (hs : ∀ p H1, Ex H H1 → H1 p = some (.lst xs) → SpG sp [x1, .ref p] H1 R) :
    EvG (tCall sp [] E (tCons t1 (tCons t2 tNil))) σ H R := fun H1 e Q q => by
  show t1 σ H1 fun _ H2 => t2 σ H2 fun _ H3 => sp _ H3 Q E
  exact h1 H1 e _ fun H2 e2 => h2 H2 (e.trans e2) _ fun p H3 hp e3 hh => hs p H3 ((e.trans e2).trans e3) hh H3 (Ex.refl H3) Q (fun v H4 e4 rr => q v H4 ((e2.trans e3).trans e4) (hR _ _ _ _ (e2.trans e3) rr)) E
theorem cut_setV (xs : List V) (p : Nat) (v : V) (hp : p < xs.length) : cutV xs none (some (p : Int)) ++ [v] ++ cutV xs (some ((p : Int) + 1)) none = xs.set p v := by
  rw [cut_to, show ((p : Int) + 1) = ((p + 1 : Nat) : Int) by omega, cut_from, List.set_eq_take_append_cons_drop, if_pos hp]
  simp
/-- int(a < b) -/
theorem rc_intB {b : Bool} : RC (fun xs H Q => (∃ i, xs = [V.int i] ∧ Q (.int i) H) ∨ ∃ k, xs = [V.bl k] ∧ Q (.int (if k then 1 else 0)) H) [.bl b] H (.int (if b then 1 else 0)) := fun H1 _ _ q => .inr ⟨b, rfl, q H1 (Ex.refl H1)⟩
end
/-! ### what plain numbers come to -/
def least50 (rm : Int) : Int := if rm < 50 then rm else 50
def dueK (kd n m more rm : Int) : Int :=
  if kd = 0 then n + m else if kd = 1 then n - m else if kd = 2 then n * (more % least50 rm) else if kd = 3 then n / 2 else if kd = 4 then (if m > n then m else n) else if kd = 7 then more % rm else n
theorem least50_b {rm : Int} (h : 0 < rm) : 0 < least50 rm ∧ least50 rm ≤ 50 ∧ least50 rm ≤ rm := by
  unfold least50
  split <;> omega
theorem Made.loc {R : Nat → Hp → V → Hp → Prop} (hR : ∀ i, Loc (R i)) (n : Nat) : Loc (Made R n) := by
  rintro H1 v H2 H3 ⟨p, ys, hs, ev, hp, h2, hl, k⟩ hk
  refine ⟨p, ys, hs, ev, hp, hk _ _ hp h2, hl, fun i y hi => ?_⟩
  obtain ⟨k1, k2, k3, k4⟩ := k i y hi
  exact ⟨k1, k2, hR i _ _ _ _ k3 fun a o ha ho => hk a o (fresh_back k1 ha) ho, k4⟩
theorem Mw.mono {R : Nat → Hp → V → Hp → Prop} (hR : ∀ i, Loc (R i)) {H1 H2 H3 : Hp} {Dl : Addr} {i : Nat} (p : Mw R H1 Dl i H2) (e : Ex H2 H3) : Mw R H1 Dl i H3 := by
  obtain ⟨p1, p2, ys, hs, h2, hl, k⟩ := p
  refine ⟨p1, p2.trans e, ys, hs, e _ _ h2, hl, fun j y hj => ?_⟩
  obtain ⟨k1, k2, k3, k4⟩ := k j y hj
  exact ⟨k1, k2, hR j _ _ _ _ k3 fun a o _ ho => e _ _ ho, k4⟩
/-- xs.append(e), e the next thing made -/
theorem s_appM {K : PySem.W.Frag} {σ : L2.St} {ta te : TE} {D : Ends} {R : Nat → Hp → V → Hp → Prop} (hR : ∀ i, Loc (R i)) {H1 H2 : Hp} {Dl : Addr} {i : Nat} (p : Mw R H1 Dl i H2) (hi : i < 50000) (ha : Ev ta σ H2 (.ref Dl)) (he : EvG te σ H1 (R i)) (k : ∀ H3, Mw R H1 Dl (i + 1) H3 → D.nx σ H3) :
    tDrop (tBM K "list" rAppend ta (tCons te tNil)) D σ H2 := ha H2 (Ex.refl H2) _ fun H3 e3 => by
  have p3 := p.mono hR e3
  obtain ⟨_, _, ys, hs, h3, hl, _⟩ := id p3
  refine ⟨Or.inl ⟨rfl, ys, sq_of h3⟩, he H3 p3.2.1 _ fun y H4 e4 rr => ?_⟩
  obtain ⟨zs, h1, h2, m⟩ := mw_step hR p3 e4 rr
  exact ⟨Dl, zs, y, rfl, rfl, h1, sz_lt (by omega), k _ m⟩
/-! ### rows that stand in lists -/
theorem Rows.len {H : Hp} {ps : List V} {ds : List (List Int)} (h : Rows H ps ds) : ps.length = ds.length := by
  induction h with
  | nil => rfl
  | cons _ _ ih => rw [List.length_cons, List.length_cons, ih]
theorem Rows.at_ {H : Hp} {ps : List V} {ds : List (List Int)} (h : Rows H ps ds) : ∀ {i : Nat} {d : List Int}, ds[i]? = some d → ∃ a, ps[i]? = some (.ref a) ∧ H a = some (.lst (d.map V.int)) := by
  induction h with
  | nil => intro i d hd; simp at hd
  | @cons a xs ps ds h1 _ ih =>
    intro i d hd
    cases i with
    | zero =>
      have e : xs = d := by simpa using hd
      subst e
      exact ⟨a, rfl, h1⟩
    | succ i => exact ih (i := i) (d := d) (by simpa using hd)
theorem Rows.put {H : Hp} {ps : List V} {ds : List (List Int)} {p : Addr} {d : List Int} (h : Rows H ps ds) (hp : H p = some (.lst (d.map V.int))) : ∀ i, Rows H (ps.set i (.ref p)) (ds.set i d) := by
  induction h with
  | nil => intro i; exact .nil
  | @cons a xs ps ds h1 h2 ih =>
    intro i
    cases i with
    | zero => exact .cons hp h2
    | succ i => exact .cons h1 (ih i)
theorem rows_of {H : Hp} : ∀ {ps : List V} {ds : List (List Int)}, ps.length = ds.length → (∀ (i : Nat) (y : V) (d : List Int), ps[i]? = some y → ds[i]? = some d → ∃ a, y = .ref a ∧ H a = some (.lst (d.map V.int))) → Rows H ps ds
  | [], [], _, _ => .nil
  | [], _ :: _, h, _ => by simp at h
  | _ :: _, [], h, _ => by simp at h
  | p :: ps, d :: ds, h, k => by
    obtain ⟨a, e, ha⟩ := k 0 p d rfl rfl
    subst e
    exact .cons ha (rows_of (by simpa using h) fun i y d hy hd => k (i + 1) y d (by simpa using hy) (by simpa using hd))
/-! ### two sides -/
theorem two_fn {α : Type} {P : Nat → α → Prop} (h : ∀ i, i < 2 → ∃ x, P i x) : ∃ f : Nat → α, ∀ i, i < 2 → P i (f i) := by
  obtain ⟨x, hx⟩ := h 0 (by decide)
  obtain ⟨y, hy⟩ := h 1 (by decide)
  refine ⟨fun i => if i = 0 then x else y, fun i hi => ?_⟩
  rcases (show i = 0 ∨ i = 1 by omega) with e | e <;> subst e
  · exact hx
  · exact hy
theorem two_get {f : Nat → V} {i : Nat} {x : V} (h : ([f 0, f 1] : List V)[i]? = some x) : i < 2 ∧ x = f i := by
  rcases i with _ | _ | i
  · exact ⟨by decide, (Option.some.inj h).symm⟩
  · exact ⟨by decide, (Option.some.inj h).symm⟩
  · cases h
theorem two_at {f : Nat → V} {i : Nat} (h : i < 2) : atI ([f 0, f 1] : List V) (i : Int) = some (f i) := by
  rcases (show i = 0 ∨ i = 1 by omega) with e | e <;> subst e
  · exact atI_nat (j := 0) rfl
  · exact atI_nat (j := 1) rfl
theorem two_list {ys : List V} {f : Nat → V} (hl : ys.length = 2) (h : ∀ (i : Nat) (y : V), i < 2 → ys[i]? = some y → y = f i) : ys = [f 0, f 1] := by
  match ys, hl with
  | [a, b], _ =>
    rw [h 0 a (by decide) rfl, h 1 b (by decide) rfl]
theorem two_some {ys : List V} (hl : ys.length = 2) {i : Nat} (hi : i < 2) : ∃ y, ys[i]? = some y := ⟨_, List.getElem?_eq_getElem (by omega)⟩
/-- what the law k12 has: the script, the lists of bases, of boards, of rooms, of values and of rows; on each side the bases, the board, the values and the rows -/
structure T12 where
  a : Addr
  ap : Addr
  xp : Addr
  mp : Addr
  Vp : Addr
  Rp : Addr
  q : Nat → Addr
  x : Nat → Addr
  v : Nat → Addr
  r : Nat → Addr
  bs : Nat → List Int
  ns : List Int
/-- the heap without the lists that change -/
def T12.hid (T : T12) (H : Hp) : Hp := fun a => if a = T.v 0 ∨ a = T.v 1 ∨ a = T.r 0 ∨ a = T.r 1 then none else H a
structure T12.Ok (T : T12) : Prop where
  good : ∀ i, i < 2 → Rw.Good (T.bs i)
  vv : ∀ i j, i < 2 → j < 2 → T.v i = T.v j → i = j
  rr : ∀ i j, i < 2 → j < 2 → T.r i = T.r j → i = j
  vr : ∀ i j, i < 2 → j < 2 → T.v i ≠ T.r j
section
variable {T : T12} {H H' : Hp} {a : Addr} {o : HO} {i : Nat}
theorem hid_ex (T : T12) (H : Hp) : Ex (T.hid H) H := fun a o h => by
  unfold T12.hid at h
  split at h
  · cases h
  · exact h
theorem hid_at (h : H a = some o) (hn : ∀ i, i < 2 → a ≠ T.v i ∧ a ≠ T.r i) : T.hid H a = some o := by
  unfold T12.hid
  rw [if_neg, h]
  rintro (e | e | e | e)
  · exact (hn 0 (by decide)).1 e
  · exact (hn 1 (by decide)).1 e
  · exact (hn 0 (by decide)).2 e
  · exact (hn 1 (by decide)).2 e
theorem hid_ne (h : T.hid H a = some o) : ∀ i, i < 2 → a ≠ T.v i ∧ a ≠ T.r i := fun i hi => by
  unfold T12.hid at h
  split at h
  · cases h
  · rename_i hn
    rcases (show i = 0 ∨ i = 1 by omega) with e | e <;> subst e
    · exact ⟨fun e => hn (.inl e), fun e => hn (.inr (.inr (.inl e)))⟩
    · exact ⟨fun e => hn (.inr (.inl e)), fun e => hn (.inr (.inr (.inr e)))⟩
theorem hid_mono (e : Ex H H') : Ex (T.hid H) (T.hid H') := fun a o h => hid_at (e _ _ (hid_ex T H a o h)) (hid_ne h)
theorem hid_of (e : Ex H H') (h : ∀ i, i < 2 → H (T.v i) = none ∧ H (T.r i) = none) : Ex H (T.hid H') := fun a o ha => hid_at (e _ _ ha) fun i hi => ⟨(fun z => by rw [z, (h i hi).1] at ha; cases ha), (fun z => by rw [z, (h i hi).2] at ha; cases ha)⟩
theorem hid_updV (hi : i < 2) : T.hid (upd H (T.v i) o) = T.hid H := by
  funext a
  unfold T12.hid
  split
  · rfl
  · rename_i hn
    refine upd_ne fun z => hn ?_
    rcases (show i = 0 ∨ i = 1 by omega) with e | e <;> subst e
    · exact .inl z
    · exact .inr (.inl z)
theorem hid_updR (hi : i < 2) : T.hid (upd H (T.r i) o) = T.hid H := by
  funext a
  unfold T12.hid
  split
  · rfl
  · rename_i hn
    refine upd_ne fun z => hn ?_
    rcases (show i = 0 ∨ i = 1 by omega) with e | e <;> subst e
    · exact .inr (.inr (.inl z))
    · exact .inr (.inr (.inr z))
end
/-- what holds between two deeds -/
structure St12 (K : PySem.W.Frag) (C : Addr) (T : T12) (H : Hp) (vals : Nat → List Int) (qs : Nat → List V) : Prop where
  scr : SqL K (T.hid H) T.a (T.ns.map V.int)
  ap : T.hid H T.ap = some (.lst [.ref (T.q 0), .ref (T.q 1)])
  q : ∀ i, i < 2 → T.hid H (T.q i) = some (.lst ((T.bs i).map V.int))
  xp : T.hid H T.xp = some (.lst [.ref (T.x 0), .ref (T.x 1)])
  x : ∀ i, i < 2 → BoardAt C (T.hid H) (T.x i) (T.bs i)
  mp : T.hid H T.mp = some (.lst [.int (Rw.room (T.bs 0)), .int (Rw.room (T.bs 1))])
  Vp : T.hid H T.Vp = some (.lst [.ref (T.v 0), .ref (T.v 1)])
  Rp : T.hid H T.Rp = some (.lst [.ref (T.r 0), .ref (T.r 1)])
  v : ∀ i, i < 2 → H (T.v i) = some (.lst ((vals i).map V.int))
  r : ∀ i, i < 2 → H (T.r i) = some (.lst (qs i))
  rows : ∀ i, i < 2 → Rows (T.hid H) (qs i) ((vals i).map (Rw.rowOf (T.bs i)))
  len : ∀ i, i < 2 → (vals i).length = 4
  rng : ∀ i, i < 2 → ∀ n ∈ vals i, 0 ≤ n ∧ n < Rw.room (T.bs i)
section
variable {K : PySem.W.Frag} {C : Addr} {T : T12} {H H1 H2 : Hp} {vals : Nat → List Int} {qs : Nat → List V} {i k : Nat} {d : Int} {p : Addr}
theorem St12.mono (s : St12 K C T H vals qs) (e : Ex H H1) : St12 K C T H1 vals qs :=
  have x := hid_mono (T := T) e
  { scr := ex_l x s.scr, ap := x _ _ s.ap, q := fun i hi => x _ _ (s.q i hi), xp := x _ _ s.xp, x := fun i hi => (s.x i hi).mono x, mp := x _ _ s.mp, Vp := x _ _ s.Vp, Rp := x _ _ s.Rp,
    v := fun i hi => e _ _ (s.v i hi), r := fun i hi => e _ _ (s.r i hi), rows := fun i hi => (s.rows i hi).mono x, len := s.len, rng := s.rng }
theorem St12.qlen (s : St12 K C T H vals qs) (hi : i < 2) : (qs i).length = 4 := by rw [(s.rows i hi).len, List.length_map, s.len i hi]
/-- a value and its row in another one's place -/
theorem St12.put (ok : T.Ok) (s : St12 K C T H vals qs) (hi : i < 2) (e1 : Ex H H1) (hp : upd H1 (T.v i) (.lst (((vals i).set k d).map V.int)) p = none) (e2 : Ex (upd H1 (T.v i) (.lst (((vals i).set k d).map V.int))) H2)
    (h2 : H2 p = some (.lst ((Rw.rowOf (T.bs i) d).map V.int))) (d0 : 0 ≤ d) (d1 : d < Rw.room (T.bs i)) :
    St12 K C T (upd H2 (T.r i) (.lst ((qs i).set k (.ref p)))) (fun j => if j = i then (vals j).set k d else vals j) (fun j => if j = i then (qs j).set k (.ref p) else qs j) := by
  have x : Ex (T.hid H) (T.hid (upd H2 (T.r i) (.lst ((qs i).set k (.ref p))))) := by
    rw [hid_updR hi]
    refine (hid_mono e1).trans ?_
    rw [← hid_updV (H := H1) hi]
    exact hid_mono e2
  have nv : ∀ j, j < 2 → ∃ o, upd H1 (T.v i) (.lst (((vals i).set k d).map V.int)) (T.v j) = some o := fun j hj => by
    by_cases e : T.v j = T.v i
    · rw [e]
      exact ⟨_, upd_same⟩
    · exact ⟨_, by rw [upd_ne e]; exact e1 _ _ (s.v j hj)⟩
  have nr : ∀ j, j < 2 → upd H1 (T.v i) (.lst (((vals i).set k d).map V.int)) (T.r j) = some (.lst (qs j)) := fun j hj => by
    rw [upd_ne (ok.vr i j hi hj).symm]
    exact e1 _ _ (s.r j hj)
  have hp' : T.hid (upd H2 (T.r i) (.lst ((qs i).set k (.ref p)))) p = some (.lst ((Rw.rowOf (T.bs i) d).map V.int)) := by
    rw [hid_updR hi]
    refine hid_at h2 fun j hj => ⟨fun z => ?_, fun z => ?_⟩
    · obtain ⟨o, ho⟩ := nv j hj
      rw [z, ho] at hp
      cases hp
    · rw [z, nr j hj] at hp
      cases hp
  refine { scr := ex_l x s.scr, ap := x _ _ s.ap, q := fun i hi => x _ _ (s.q i hi), xp := x _ _ s.xp, x := fun i hi => (s.x i hi).mono x, mp := x _ _ s.mp, Vp := x _ _ s.Vp, Rp := x _ _ s.Rp, v := fun j hj => ?_, r := fun j hj => ?_, rows := fun j hj => ?_, len := fun j hj => ?_, rng := fun j hj => ?_ }
  · rw [upd_ne (ok.vr j i hj hi)]
    by_cases e : j = i
    · subst e
      rw [if_pos rfl]
      exact e2 _ _ upd_same
    · rw [if_neg e]
      refine e2 _ _ ?_
      rw [upd_ne fun z => e (ok.vv j i hj hi z)]
      exact e1 _ _ (s.v j hj)
  · by_cases e : j = i
    · subst e
      rw [if_pos rfl]
      exact upd_same
    · rw [if_neg e, upd_ne fun z => e (ok.rr j i hj hi z)]
      exact e2 _ _ (nr j hj)
  · by_cases e : j = i
    · subst e
      rw [if_pos rfl, if_pos rfl, List.map_set]
      exact ((s.rows j hj).mono x).put hp' k
    · rw [if_neg e, if_neg e]
      exact (s.rows j hj).mono x
  · by_cases e : j = i
    · rw [if_pos e, List.length_set]
      exact s.len j hj
    · rw [if_neg e]
      exact s.len j hj
  · by_cases e : j = i
    · subst e
      rw [if_pos rfl]
      intro n hn
      rcases List.mem_or_eq_of_mem_set hn with h | h
      · exact s.rng j hj n h
      · subst h
        exact ⟨d0, d1⟩
    · rw [if_neg e]
      exact s.rng j hj
end
theorem good4 : Rw.Good [3, 5, 7, 11] := ⟨by decide, by decide, by decide, by decide, by decide, by decide⟩
theorem room3r {bs : List Int} (g : Rw.Good bs) : 3 ≤ Rw.room bs := by
  have h3 := g.len3
  have hb : bs[0]? = some (bs[0]'(by omega)) := List.getElem?_eq_getElem (by omega)
  have hm : bs[0]'(by omega) ∈ bs.take (bs.length - 2) := by
    refine List.mem_of_getElem? (i := 0) ?_
    rw [List.getElem?_take_of_lt (by omega)]
    exact hb
  have h1 := Int.le_of_dvd g.room_pos (Rw.dvd_prod hm)
  have := (g.get3 hb).1
  omega
/-- [e for x in xs], numbers -/
theorem el_over {K : PySem.W.Frag} {σ : L2.St} {H : Hp} {a : Addr} {xs : List V} {ys : List Int} {tl te : TE} {j : Nat} {vs : List Nat} (hl : ys.length = xs.length) (h : Ev tl σ H (.ref a)) (hx : SqL K H a xs) (hz : xs.length ≤ 40000) (hw : ∀ x, wipe ((wipe σ vs).set j (some x)) vs = wipe σ vs)
    (he : ∀ (i : Nat) (x : V) (y : Int) H1, Ex H H1 → xs[i]? = some x → ys[i]? = some y → Ev te ((wipe σ vs).set j (some x)) H1 (.int y)) : EvL (tLc (iList K tl) (gName j) tYes te vs) σ H (ys.map V.int) := by
  have z := el_lcL (K := K) (t := tYes) (te := te) (fun _ => true) (fun i => .int (ys.getD i 0)) h hx hz hw (fun _ _ _ _ _ H1 _ Q q => q H1 (Ex.refl H1)) (fun i x H1 e hi _ => by
    have hi' : i < ys.length := by rw [hl]; exact (List.getElem?_eq_some_iff.mp hi).1
    have hg : ys[i]? = some ys[i] := List.getElem?_eq_getElem hi'
    rw [Rw.getD_of hg]
    exact he i x _ H1 e hi hg)
  rw [given_map (ys := ys.map V.int) (fun _ => rfl) (by rw [List.length_map, hl]) (fun i hi => by
    have hg : ys[i]? = some (ys[i]'(by omega)) := List.getElem?_eq_getElem (by omega)
    rw [Rw.getD_of hg, List.getElem?_map, hg]
    rfl)] at z
  exact z
/-- a comprehension in a comprehension -/
theorem blk_nest {N : List Str} {sc0 scope0 scope : Scope} {own : List (Str × Nat)} {cl : List (Str × Addr)} {C : Addr} {env : Env} (hs : env.scope = sc0)
    (h : blkC N { scope0 with names := scope0.names.map fun (n, k) => if (k == .free && sc0.kind == .function && sc0.names.lookup n == some .cell) then (n, .cell) else (n, k) } scope own = true) : BlkOk N (compEnvC scope0 cl C env).scope scope own := by
  subst hs
  exact blkOk_by h
end Rk

namespace Rk
open PySem PySem.Spec PyProof.Rows L2 Evl
def topS (i : Nat) : Stmt := PySem.Challenge.pw_restrow_k12_whole_deeds.main.body.getD i (.Pass ⟨0, 0, 0, 0⟩)
abbrev s_common : Stmt := topS 14
theorem sc_common : FnScope ["one", "other", "rest"] ["one", "other"] (defScope s_common) := ⟨rfl, rfl, rfl, by decide +kernel, rfl, by decide +kernel, by decide +kernel⟩
abbrev s_turned : Stmt := topS 15
theorem sc_turned : FnScope ["number", "base", "high", "low", "ahead", "behind", "many", "rest", "step"] ["number", "base"] (defScope s_turned) := ⟨rfl, rfl, rfl, by decide +kernel, rfl, by decide +kernel, by decide +kernel⟩
abbrev s_need_bases : Stmt := topS 16
theorem sc_need_bases : FnScope ["bases", "base", "k", "ahead"] ["bases"] (defScope s_need_bases) := ⟨rfl, rfl, rfl, by decide +kernel, rfl, by decide +kernel, by decide +kernel⟩
abbrev s_need_both : Stmt := topS 18
theorem sc_need_both : FnScope ["board", "one", "other"] ["board", "one", "other"] (defScope s_need_both) := ⟨rfl, rfl, rfl, by decide +kernel, rfl, by decide +kernel, by decide +kernel⟩
abbrev s_within : Stmt := topS 19
theorem sc_within : FnScope ["board", "row"] ["board", "row"] (defScope s_within) := ⟨rfl, rfl, rfl, by decide +kernel, rfl, by decide +kernel, by decide +kernel⟩
abbrev s_summed : Stmt := topS 20
theorem sc_summed : FnScope ["board", "one", "other", "pairs", "k"] ["board", "one", "other"] (defScope s_summed) := ⟨rfl, rfl, rfl, by decide +kernel, rfl, by decide +kernel, by decide +kernel⟩
abbrev s_added : Stmt := topS 21
theorem sc_added : FnScope ["board", "one", "other"] ["board", "one", "other"] (defScope s_added) := ⟨rfl, rfl, rfl, by decide +kernel, rfl, by decide +kernel, by decide +kernel⟩
abbrev s_taken : Stmt := topS 22
theorem sc_taken : FnScope ["board", "one", "other", "k"] ["board", "one", "other"] (defScope s_taken) := ⟨rfl, rfl, rfl, by decide +kernel, rfl, by decide +kernel, by decide +kernel⟩
abbrev s_parted : Stmt := topS 23
theorem sc_parted : FnScope ["board", "row", "left", "half", "k"] ["board", "row"] (defScope s_parted) := ⟨rfl, rfl, rfl, by decide +kernel, rfl, by decide +kernel, by decide +kernel⟩
abbrev s_halved : Stmt := topS 24
theorem sc_halved : FnScope ["board", "row"] ["board", "row"] (defScope s_halved) := ⟨rfl, rfl, rfl, by decide +kernel, rfl, by decide +kernel, by decide +kernel⟩
abbrev s_times : Stmt := topS 25
theorem sc_times : FnScope ["board", "one", "other", "nought", "found", "twice", "left", "pair", "base"] ["board", "one", "other"] (defScope s_times) := ⟨rfl, rfl, rfl, by decide +kernel, rfl, by decide +kernel, by decide +kernel⟩
abbrev s___init__ : Stmt := inClass (topS 27) 0
theorem sc___init__ : FnScope ["self", "bases", "k", "weight", "ahead"] ["self", "bases"] (defScope s___init__) := ⟨rfl, rfl, rfl, by decide +kernel, rfl, by decide +kernel, by decide +kernel⟩
abbrev s_room : Stmt := inClass (topS 27) 1
theorem sc_room : FnScope ["self", "found", "base"] ["self"] (defScope s_room) := ⟨rfl, rfl, rfl, by decide +kernel, rfl, by decide +kernel, by decide +kernel⟩
abbrev s_need_row : Stmt := inClass (topS 27) 2
theorem sc_need_row : FnScope ["self", "row", "rest", "base"] ["self", "row"] (defScope s_need_row) := ⟨rfl, rfl, rfl, by decide +kernel, rfl, by decide +kernel, by decide +kernel⟩
abbrev s_need_number : Stmt := inClass (topS 27) 3
theorem sc_need_number : FnScope ["self", "row"] ["self", "row"] (defScope s_need_number) := ⟨rfl, rfl, rfl, by decide +kernel, rfl, by decide +kernel, by decide +kernel⟩
abbrev s_rests : Stmt := inClass (topS 27) 4
theorem sc_rests : FnScope ["self", "number", "base"] ["self", "number"] (defScope s_rests) := ⟨rfl, rfl, rfl, by decide +kernel, rfl, by decide +kernel, by decide +kernel⟩
abbrev s_led : Stmt := inClass (topS 27) 5
theorem sc_led : FnScope ["self", "row", "found", "k", "base", "value", "j"] ["self", "row"] (defScope s_led) := ⟨rfl, rfl, rfl, by decide +kernel, rfl, by decide +kernel, by decide +kernel⟩
abbrev s_figures : Stmt := inClass (topS 27) 6
theorem sc_figures : FnScope ["self", "row"] ["self", "row"] (defScope s_figures) := ⟨rfl, rfl, rfl, by decide +kernel, rfl, by decide +kernel, by decide +kernel⟩
abbrev s_tells : Stmt := inClass (topS 27) 7
theorem sc_tells : FnScope ["self", "row"] ["self", "row"] (defScope s_tells) := ⟨rfl, rfl, rfl, by decide +kernel, rfl, by decide +kernel, by decide +kernel⟩
abbrev s_number : Stmt := inClass (topS 27) 8
theorem sc_number : FnScope ["self", "row", "value", "figures", "k"] ["self", "row"] (defScope s_number) := ⟨rfl, rfl, rfl, by decide +kernel, rfl, by decide +kernel, by decide +kernel⟩
abbrev s_compared : Stmt := inClass (topS 27) 9
theorem sc_compared : FnScope ["self", "one", "other", "left", "right", "k"] ["self", "one", "other"] (defScope s_compared) := ⟨rfl, rfl, rfl, by decide +kernel, rfl, by decide +kernel, by decide +kernel⟩
abbrev s_told_by_others : Stmt := topS 29
theorem sc_told_by_others : FnScope ["board", "row", "place", "k", "places", "figures", "at", "base", "value", "j", "turn"] ["board", "row", "place"] (defScope s_told_by_others) := ⟨rfl, rfl, rfl, by decide +kernel, rfl, by decide +kernel, by decide +kernel⟩
abbrev s_without : Stmt := topS 30
theorem sc_without : FnScope ["board", "row", "place", "whole"] ["board", "row", "place"] (defScope s_without) := ⟨rfl, rfl, rfl, by decide +kernel, rfl, by decide +kernel, by decide +kernel⟩
abbrev s_refilled : Stmt := topS 31
theorem sc_refilled : FnScope ["board", "row", "place", "known", "whole"] ["board", "row", "place"] (defScope s_refilled) := ⟨rfl, rfl, rfl, by decide +kernel, rfl, by decide +kernel, by decide +kernel⟩
abbrev s_mended : Stmt := topS 32
theorem sc_mended : FnScope ["board", "row", "place", "whole"] ["board", "row"] (defScope s_mended) := ⟨rfl, rfl, rfl, by decide +kernel, rfl, by decide +kernel, by decide +kernel⟩
abbrev s__law_cell_at : Stmt := topS 34
theorem sc__law_cell_at : FnScope ["_law_script", "_law_k"] ["_law_script", "_law_k"] (defScope s__law_cell_at) := ⟨rfl, rfl, rfl, by decide +kernel, rfl, by decide +kernel, by decide +kernel⟩
abbrev s__law_bases : Stmt := topS 35
theorem sc__law_bases : FnScope ["_law_one", "_law_other", "_law_some", "_law_primes", "_law_ends", "_law_far", "_law_picks", "_law_prime", "_law_k"] ["_law_one", "_law_other"] (defScope s__law_bases) := ⟨rfl, rfl, rfl, by decide +kernel, rfl, by decide +kernel, by decide +kernel⟩
abbrev s__law_row : Stmt := topS 36
theorem sc__law_row : FnScope ["_law_made", "_law_due_here", "_law_rest"] ["_law_made", "_law_due_here"] (defScope s__law_row) := ⟨rfl, rfl, rfl, by decide +kernel, rfl, by decide +kernel, by decide +kernel⟩
abbrev s__law_room : Stmt := topS 37
theorem sc__law_room : FnScope ["_law_bases_here", "_law_product", "_law_base"] ["_law_bases_here"] (defScope s__law_room) := ⟨rfl, rfl, rfl, by decide +kernel, rfl, by decide +kernel, by decide +kernel⟩
abbrev s__law_done : Stmt := topS 38
theorem sc__law_done : FnScope ["_law_board", "_law_kind", "_law_rows", "_law_more", "_law_one", "_law_place", "_law_spoiled"] ["_law_board", "_law_kind", "_law_rows", "_law_more"] (defScope s__law_done) := ⟨rfl, rfl, rfl, by decide +kernel, rfl, by decide +kernel, by decide +kernel⟩
abbrev s__law_due : Stmt := topS 39
theorem sc__law_due : FnScope ["_law_kind", "_law_one", "_law_other", "_law_more", "_law_room_here"] ["_law_kind", "_law_one", "_law_other", "_law_more", "_law_room_here"] (defScope s__law_due) := ⟨rfl, rfl, rfl, by decide +kernel, rfl, by decide +kernel, by decide +kernel⟩
abbrev s_law : Stmt := topS 40
theorem sc_law : FnScope ["_law_script", "_law_some", "_law_all_bases", "_law_boards", "_law_rooms", "_law_values", "_law_rows", "_law_k", "_law_cell", "_law_here", "_law_kind", "_law_one", "_law_other", "_law_pair", "_law_due_here", "_law_handed", "_law_made", "_law_bases_here", "_law_room_here", "_law_value", "_law_row_here", "_law_base"] ["_law_script"] (defScope s_law) := ⟨rfl, rfl, rfl, by decide +kernel, rfl, by decide +kernel, by decide +kernel⟩
/-- what the top has written -/
structure Lk (K : PySem.W.Frag) (mg : Str → Option Value) where
  f_common : Addr
  d_common : FuncData
  F_common : Fun K "common" "common" s_common f_common d_common
  b_common : Binds K d_common ["one", "other"] []
  f_turned : Addr
  d_turned : FuncData
  F_turned : Fun K "turned" "turned" s_turned f_turned d_turned
  b_turned : Binds K d_turned ["number", "base"] []
  f_need_bases : Addr
  d_need_bases : FuncData
  F_need_bases : Fun K "need_bases" "need_bases" s_need_bases f_need_bases d_need_bases
  b_need_bases : Binds K d_need_bases ["bases"] []
  f_need_both : Addr
  d_need_both : FuncData
  F_need_both : Fun K "need_both" "need_both" s_need_both f_need_both d_need_both
  b_need_both : Binds K d_need_both ["board", "one", "other"] []
  f_within : Addr
  d_within : FuncData
  F_within : Fun K "within" "within" s_within f_within d_within
  b_within : Binds K d_within ["board", "row"] []
  f_summed : Addr
  d_summed : FuncData
  F_summed : Fun K "summed" "summed" s_summed f_summed d_summed
  b_summed : Binds K d_summed ["board", "one", "other"] []
  f_added : Addr
  d_added : FuncData
  F_added : Fun K "added" "added" s_added f_added d_added
  b_added : Binds K d_added ["board", "one", "other"] []
  f_taken : Addr
  d_taken : FuncData
  F_taken : Fun K "taken" "taken" s_taken f_taken d_taken
  b_taken : Binds K d_taken ["board", "one", "other"] []
  f_parted : Addr
  d_parted : FuncData
  F_parted : Fun K "parted" "parted" s_parted f_parted d_parted
  b_parted : Binds K d_parted ["board", "row"] []
  f_halved : Addr
  d_halved : FuncData
  F_halved : Fun K "halved" "halved" s_halved f_halved d_halved
  b_halved : Binds K d_halved ["board", "row"] []
  f_times : Addr
  d_times : FuncData
  F_times : Fun K "times" "times" s_times f_times d_times
  b_times : Binds K d_times ["board", "one", "other"] []
  f___init__ : Addr
  d___init__ : FuncData
  F___init__ : Fun K "__init__" "Board.__init__" s___init__ f___init__ d___init__
  b___init__ : Binds K d___init__ ["self", "bases"] []
  f_room : Addr
  d_room : FuncData
  F_room : Fun K "room" "Board.room" s_room f_room d_room
  b_room : Binds K d_room ["self"] []
  f_need_row : Addr
  d_need_row : FuncData
  F_need_row : Fun K "need_row" "Board.need_row" s_need_row f_need_row d_need_row
  b_need_row : Binds K d_need_row ["self", "row"] []
  f_need_number : Addr
  d_need_number : FuncData
  F_need_number : Fun K "need_number" "Board.need_number" s_need_number f_need_number d_need_number
  b_need_number : Binds K d_need_number ["self", "row"] []
  f_rests : Addr
  d_rests : FuncData
  F_rests : Fun K "rests" "Board.rests" s_rests f_rests d_rests
  b_rests : Binds K d_rests ["self", "number"] []
  f_led : Addr
  d_led : FuncData
  F_led : Fun K "led" "Board.led" s_led f_led d_led
  b_led : Binds K d_led ["self", "row"] []
  f_figures : Addr
  d_figures : FuncData
  F_figures : Fun K "figures" "Board.figures" s_figures f_figures d_figures
  b_figures : Binds K d_figures ["self", "row"] []
  f_tells : Addr
  d_tells : FuncData
  F_tells : Fun K "tells" "Board.tells" s_tells f_tells d_tells
  b_tells : Binds K d_tells ["self", "row"] []
  f_number : Addr
  d_number : FuncData
  F_number : Fun K "number" "Board.number" s_number f_number d_number
  b_number : Binds K d_number ["self", "row"] []
  f_compared : Addr
  d_compared : FuncData
  F_compared : Fun K "compared" "Board.compared" s_compared f_compared d_compared
  b_compared : Binds K d_compared ["self", "one", "other"] []
  f_told_by_others : Addr
  d_told_by_others : FuncData
  F_told_by_others : Fun K "told_by_others" "told_by_others" s_told_by_others f_told_by_others d_told_by_others
  b_told_by_others : Binds K d_told_by_others ["board", "row", "place"] []
  f_without : Addr
  d_without : FuncData
  F_without : Fun K "without" "without" s_without f_without d_without
  b_without : Binds K d_without ["board", "row", "place"] []
  f_refilled : Addr
  d_refilled : FuncData
  F_refilled : Fun K "refilled" "refilled" s_refilled f_refilled d_refilled
  b_refilled : Binds K d_refilled ["board", "row", "place"] []
  f_mended : Addr
  d_mended : FuncData
  F_mended : Fun K "mended" "mended" s_mended f_mended d_mended
  b_mended : Binds K d_mended ["board", "row"] []
  f__law_cell_at : Addr
  d__law_cell_at : FuncData
  F__law_cell_at : Fun K "_law_cell_at" "_law_cell_at" s__law_cell_at f__law_cell_at d__law_cell_at
  b__law_cell_at : Binds K d__law_cell_at ["_law_script", "_law_k"] []
  f__law_bases : Addr
  d__law_bases : FuncData
  F__law_bases : Fun K "_law_bases" "_law_bases" s__law_bases f__law_bases d__law_bases
  b__law_bases : Binds K d__law_bases ["_law_one", "_law_other"] []
  f__law_row : Addr
  d__law_row : FuncData
  F__law_row : Fun K "_law_row" "_law_row" s__law_row f__law_row d__law_row
  b__law_row : Binds K d__law_row ["_law_made", "_law_due_here"] []
  f__law_room : Addr
  d__law_room : FuncData
  F__law_room : Fun K "_law_room" "_law_room" s__law_room f__law_room d__law_room
  b__law_room : Binds K d__law_room ["_law_bases_here"] []
  f__law_done : Addr
  d__law_done : FuncData
  F__law_done : Fun K "_law_done" "_law_done" s__law_done f__law_done d__law_done
  b__law_done : Binds K d__law_done ["_law_board", "_law_kind", "_law_rows", "_law_more"] []
  f__law_due : Addr
  d__law_due : FuncData
  F__law_due : Fun K "_law_due" "_law_due" s__law_due f__law_due d__law_due
  b__law_due : Binds K d__law_due ["_law_kind", "_law_one", "_law_other", "_law_more", "_law_room_here"] []
  f_law : Addr
  d_law : FuncData
  F_law : Fun K "law" "law" s_law f_law d_law
  b_law : Binds K d_law ["_law_script"] []
  C : Addr
  cl : Cls K C
  nB : NoAttr K C "bases"
  nT : NoAttr K C "turns"
  gC : mg "Board" = some (.ref C)
  mkC : Mk K C f___init__
  g_common : mg "common" = some (.ref f_common)
  k_common : PySem.W.keepIn K (.ref f_common) = true
  g_turned : mg "turned" = some (.ref f_turned)
  k_turned : PySem.W.keepIn K (.ref f_turned) = true
  g_need_bases : mg "need_bases" = some (.ref f_need_bases)
  k_need_bases : PySem.W.keepIn K (.ref f_need_bases) = true
  g_need_both : mg "need_both" = some (.ref f_need_both)
  k_need_both : PySem.W.keepIn K (.ref f_need_both) = true
  g_within : mg "within" = some (.ref f_within)
  k_within : PySem.W.keepIn K (.ref f_within) = true
  g_summed : mg "summed" = some (.ref f_summed)
  k_summed : PySem.W.keepIn K (.ref f_summed) = true
  g_added : mg "added" = some (.ref f_added)
  k_added : PySem.W.keepIn K (.ref f_added) = true
  g_taken : mg "taken" = some (.ref f_taken)
  k_taken : PySem.W.keepIn K (.ref f_taken) = true
  g_parted : mg "parted" = some (.ref f_parted)
  k_parted : PySem.W.keepIn K (.ref f_parted) = true
  g_halved : mg "halved" = some (.ref f_halved)
  k_halved : PySem.W.keepIn K (.ref f_halved) = true
  g_times : mg "times" = some (.ref f_times)
  k_times : PySem.W.keepIn K (.ref f_times) = true
  m_room : Meth K C "room" f_room
  m_need_row : Meth K C "need_row" f_need_row
  m_need_number : Meth K C "need_number" f_need_number
  m_rests : Meth K C "rests" f_rests
  m_led : Meth K C "led" f_led
  m_figures : Meth K C "figures" f_figures
  m_tells : Meth K C "tells" f_tells
  m_number : Meth K C "number" f_number
  m_compared : Meth K C "compared" f_compared
  g_told_by_others : mg "told_by_others" = some (.ref f_told_by_others)
  k_told_by_others : PySem.W.keepIn K (.ref f_told_by_others) = true
  g_without : mg "without" = some (.ref f_without)
  k_without : PySem.W.keepIn K (.ref f_without) = true
  g_refilled : mg "refilled" = some (.ref f_refilled)
  k_refilled : PySem.W.keepIn K (.ref f_refilled) = true
  g_mended : mg "mended" = some (.ref f_mended)
  k_mended : PySem.W.keepIn K (.ref f_mended) = true
  g__law_cell_at : mg "_law_cell_at" = some (.ref f__law_cell_at)
  k__law_cell_at : PySem.W.keepIn K (.ref f__law_cell_at) = true
  g__law_bases : mg "_law_bases" = some (.ref f__law_bases)
  k__law_bases : PySem.W.keepIn K (.ref f__law_bases) = true
  g__law_row : mg "_law_row" = some (.ref f__law_row)
  k__law_row : PySem.W.keepIn K (.ref f__law_row) = true
  g__law_room : mg "_law_room" = some (.ref f__law_room)
  k__law_room : PySem.W.keepIn K (.ref f__law_room) = true
  g__law_done : mg "_law_done" = some (.ref f__law_done)
  k__law_done : PySem.W.keepIn K (.ref f__law_done) = true
  g__law_due : mg "_law_due" = some (.ref f__law_due)
  k__law_due : PySem.W.keepIn K (.ref f__law_due) = true
  g_law : mg "law" = some (.ref f_law)
  k_law : PySem.W.keepIn K (.ref f_law) = true
  c_RestError : Addr
  g_RestError : mg "RestError" = some (.ref c_RestError)
  x_RestError : PySem.W.excIn K c_RestError [.type "ValueError", .type "Exception", .type "BaseException", .type "object"] "ValueError.__new__" = true
  e_RestError : PySem.W.keepIn K (.ref c_RestError) = true
  s_RestError : PySem.W.subIn K (.ref c_RestError) (.type "BaseException") = some true
  t_RestError : PySem.W.typeIn K (.ref c_RestError) = some (.type "type")
  h_RestError : PySem.W.hasDictIn K c_RestError = true
  c_NoBases : Addr
  g_NoBases : mg "NoBases" = some (.ref c_NoBases)
  x_NoBases : PySem.W.excIn K c_NoBases [.type "ValueError", .type "Exception", .type "BaseException", .type "object"] "ValueError.__new__" = true
  e_NoBases : PySem.W.keepIn K (.ref c_NoBases) = true
  s_NoBases : PySem.W.subIn K (.ref c_NoBases) (.type "BaseException") = some true
  t_NoBases : PySem.W.typeIn K (.ref c_NoBases) = some (.type "type")
  h_NoBases : PySem.W.hasDictIn K c_NoBases = true
  c_NoRow : Addr
  g_NoRow : mg "NoRow" = some (.ref c_NoRow)
  x_NoRow : PySem.W.excIn K c_NoRow [.type "ValueError", .type "Exception", .type "BaseException", .type "object"] "ValueError.__new__" = true
  e_NoRow : PySem.W.keepIn K (.ref c_NoRow) = true
  s_NoRow : PySem.W.subIn K (.ref c_NoRow) (.type "BaseException") = some true
  t_NoRow : PySem.W.typeIn K (.ref c_NoRow) = some (.type "type")
  h_NoRow : PySem.W.hasDictIn K c_NoRow = true
  c_NoNumber : Addr
  g_NoNumber : mg "NoNumber" = some (.ref c_NoNumber)
  x_NoNumber : PySem.W.excIn K c_NoNumber [.type "ValueError", .type "Exception", .type "BaseException", .type "object"] "ValueError.__new__" = true
  e_NoNumber : PySem.W.keepIn K (.ref c_NoNumber) = true
  s_NoNumber : PySem.W.subIn K (.ref c_NoNumber) (.type "BaseException") = some true
  t_NoNumber : PySem.W.typeIn K (.ref c_NoNumber) = some (.type "type")
  h_NoNumber : PySem.W.hasDictIn K c_NoNumber = true
  c_NoPlace : Addr
  g_NoPlace : mg "NoPlace" = some (.ref c_NoPlace)
  x_NoPlace : PySem.W.excIn K c_NoPlace [.type "ValueError", .type "Exception", .type "BaseException", .type "object"] "ValueError.__new__" = true
  e_NoPlace : PySem.W.keepIn K (.ref c_NoPlace) = true
  s_NoPlace : PySem.W.subIn K (.ref c_NoPlace) (.type "BaseException") = some true
  t_NoPlace : PySem.W.typeIn K (.ref c_NoPlace) = some (.type "type")
  h_NoPlace : PySem.W.hasDictIn K c_NoPlace = true
  c_NoTurn : Addr
  g_NoTurn : mg "NoTurn" = some (.ref c_NoTurn)
  x_NoTurn : PySem.W.excIn K c_NoTurn [.type "ValueError", .type "Exception", .type "BaseException", .type "object"] "ValueError.__new__" = true
  e_NoTurn : PySem.W.keepIn K (.ref c_NoTurn) = true
  s_NoTurn : PySem.W.subIn K (.ref c_NoTurn) (.type "BaseException") = some true
  t_NoTurn : PySem.W.typeIn K (.ref c_NoTurn) = some (.type "type")
  h_NoTurn : PySem.W.hasDictIn K c_NoTurn = true
  c_OutOfRoom : Addr
  g_OutOfRoom : mg "OutOfRoom" = some (.ref c_OutOfRoom)
  x_OutOfRoom : PySem.W.excIn K c_OutOfRoom [.type "ValueError", .type "Exception", .type "BaseException", .type "object"] "ValueError.__new__" = true
  e_OutOfRoom : PySem.W.keepIn K (.ref c_OutOfRoom) = true
  s_OutOfRoom : PySem.W.subIn K (.ref c_OutOfRoom) (.type "BaseException") = some true
  t_OutOfRoom : PySem.W.typeIn K (.ref c_OutOfRoom) = some (.type "type")
  h_OutOfRoom : PySem.W.hasDictIn K c_OutOfRoom = true
  c_Lost : Addr
  g_Lost : mg "Lost" = some (.ref c_Lost)
  x_Lost : PySem.W.excIn K c_Lost [.type "ValueError", .type "Exception", .type "BaseException", .type "object"] "ValueError.__new__" = true
  e_Lost : PySem.W.keepIn K (.ref c_Lost) = true
  s_Lost : PySem.W.subIn K (.ref c_Lost) (.type "BaseException") = some true
  t_Lost : PySem.W.typeIn K (.ref c_Lost) = some (.type "type")
  h_Lost : PySem.W.hasDictIn K c_Lost = true
  u_Lost_OutOfRoom : PySem.W.subIn K (.ref c_Lost) (.ref c_OutOfRoom) = some false
  u_NoBases_OutOfRoom : PySem.W.subIn K (.ref c_NoBases) (.ref c_OutOfRoom) = some false
  u_NoNumber_OutOfRoom : PySem.W.subIn K (.ref c_NoNumber) (.ref c_OutOfRoom) = some false
  u_NoPlace_OutOfRoom : PySem.W.subIn K (.ref c_NoPlace) (.ref c_OutOfRoom) = some false
  u_NoRow_OutOfRoom : PySem.W.subIn K (.ref c_NoRow) (.ref c_OutOfRoom) = some false
  u_NoTurn_OutOfRoom : PySem.W.subIn K (.ref c_NoTurn) (.ref c_OutOfRoom) = some false
  u_OutOfRoom_OutOfRoom : PySem.W.subIn K (.ref c_OutOfRoom) (.ref c_OutOfRoom) = some true
  t_LEAST : Tok
  k_LEAST : mg "LEAST" = some (.int 3 t_LEAST)
  t_MOST : Tok
  k_MOST : mg "MOST" = some (.int 999999 t_MOST)
  t_FEWEST : Tok
  k_FEWEST : mg "FEWEST" = some (.int 3 t_FEWEST)
  t_SO_MANY : Tok
  k_SO_MANY : mg "SO_MANY" = some (.int 14 t_SO_MANY)
  z_ValueError : mg "ValueError" = none
  z_abs : mg "abs" = none
  z_bool : mg "bool" = none
  z_int : mg "int" = none
  z_isinstance : mg "isinstance" = none
  z_len : mg "len" = none
  z_list : mg "list" = none
  z_max : mg "max" = none
  z_min : mg "min" = none
  z_range : mg "range" = none
  z_sorted : mg "sorted" = none
  z_sum : mg "sum" = none
  z_zip : mg "zip" = none
end Rk
namespace Rk
open PySem PySem.Spec PyProof.Rows L2 Evl
section
variable {P : Program} {w : World} {K : PySem.W.Frag} {mg : Str → Option Value} {base : Heap}
/-! ### common -/
def sp_common : Sp := fun vs H Q _ => ∃ one other : Int, vs = [.int one, .int other] ∧ 0 ≤ one ∧ 0 ≤ other ∧ ∀ H', Ex H H' → Q (.int (Int.gcd one other)) H'
theorem ok_common (L : Lk K mg) : FnOk P w K mg base (L2.CX P w) 1 L.f_common L.d_common ["one", "other"] sp_common := by
  refine L.F_common.okX sc_common (fun vs H Q E h => ?_) (fun cdv A outer s H vs Q E hr h => ?_)
  · obtain ⟨_, _, rfl, _⟩ := h; rfl
  · obtain ⟨one, other, rfl, h1, h2, q⟩ := h
    refine ⟨_, (pss_cons (ps_while (passes_of rfl) (pt_cmpR op_gt (pv 1) pe_int (nomark _)) (pss_cons (ps_set (i := 2) sc_common.nd rfl (Or.inl rfl) (pe_op op_mod (pv 0) (pv 1)))
      (pss_cons (ps_set (i := 0) sc_common.nd rfl (Or.inl rfl) (pv 1))
      (pss_one (ps_set (i := 1) sc_common.nd rfl (Or.inl rfl) (pv 2))))))
      (pss_one (ps_ret (pv 0)))), ?_⟩
    refine q_while (fun m σ' H' => ∃ (a b : Int) (r : Option V), σ' = [some (.int a), some (.int b), r] ∧ 0 ≤ a ∧ 0 ≤ b ∧ b.toNat = m ∧ Int.gcd a b = Int.gcd one other ∧ Ex H H') other.toNat ⟨one, other, none, rfl, h1, h2, rfl, rfl, Ex.refl H⟩ ?_
    rintro m σ' H' ⟨a, b, r, rfl, a0, b0, hm, hg, e⟩
    refine ⟨_, et_test (ev_op (ev_var rfl) ev_c rv_I0), fun hb H1 e1 => ?_, fun hb H1 e1 => ?_⟩
    · have hb' : 0 < b := of_decide_eq_true hb
      refine ⟨fun σ' H' => ∃ r, σ' = [some (.int b), some (.int (a % b)), r] ∧ Ex H H', ?_, ?_⟩
      · rintro σ2 H2 ⟨r, rfl, e2⟩
        have l1 := Int.emod_nonneg a (show b ≠ 0 by omega)
        have l2 := Int.emod_lt_of_pos a hb'
        exact ⟨(a % b).toNat, by omega, b, a % b, r, rfl, b0, l1, rfl, by rw [← Rw.gcd_emod]; exact hg, e2⟩
      · refine q_asg (ev_op (ev_var rfl) (ev_var rfl) (rv_I hb')) fun H2 e2 => ?_
        refine q_asg (ev_var rfl) fun H3 e3 => ?_
        refine s_asg (ev_var rfl) fun H4 e4 => ?_
        exact ⟨_, rfl, (((e.trans e1).trans e2).trans e3).trans e4⟩
    · have hb' : ¬ 0 < b := of_decide_eq_false hb
      have : b = 0 := by omega
      subst this
      refine s_ret (ev_var rfl) fun H2 e2 => ?_
      have : (Int.gcd one other : Int) = a := by rw [← hg]; exact Rw.gcd_zero a a0
      rw [← this]
      exact q H2 ((e.trans e1).trans e2)
theorem sv_common {H : Hp} {a b : Int} (h1 : 0 ≤ a) (h2 : 0 ≤ b) : SpV sp_common [.int a, .int b] H (.int (Int.gcd a b)) := fun H1 e Q q _ => ⟨a, b, rfl, h1, h2, q⟩
end
end Rk
namespace Rk
open PySem PySem.Spec PyProof.Rows L2 Evl
section
variable {P : Program} {w : World} {K : PySem.W.Frag} {mg : Str → Option Value} {base : Heap}
/-! ### need_bases -/
def sp_need_bases (K : PySem.W.Frag) (cN : Addr) : Sp := fun vs H Q E => ∃ (a : Addr) (bs : List Int), vs = [.ref a] ∧ SqL K H a (bs.map V.int) ∧ (Rw.Good bs → ∀ H', Ex H H' → Q .non H') ∧ (¬ Rw.Good bs → ∀ H', Ex H H' → E (.ref cN) none H')
theorem ok_need_bases (L : Lk K mg) : FnOk P w K mg base (L2.CX P w) 2 L.f_need_bases L.d_need_bases ["bases"] (sp_need_bases K L.c_NoBases) := by
  refine L.F_need_bases.okX sc_need_bases (fun vs H Q E h => ?_) (fun cdv A outer s H vs Q E hr h => ?_)
  · obtain ⟨_, _, rfl, _⟩ := h; rfl
  · obtain ⟨a, bs, rfl, hS, q, kE⟩ := h
    refine ⟨_, (pss_cons (ps_if (PW.pt (pw_or (pt_cmpR op_lt (pe_callB call_len_seq (by rfl) L.z_len PySem.boot_len (pa_cons (pv 0) pa_nil)) (pe_glob (v := .int 3) rfl L.k_FEWEST ⟨_, rfl⟩) (nomark _)) (pw_or1 (pt_cmpR op_gt (pe_callB call_len_seq (by rfl) L.z_len PySem.boot_len (pa_cons (pv 0) pa_nil)) (pe_glob (v := .int 14) rfl L.k_SO_MANY ⟨_, rfl⟩) (nomark _))))) (pss_one (ps_raise rfl hk (pmk_own PySem.F.excBase_ValueError L.x_NoBases L.g_NoBases L.e_NoBases (raises_own L.s_NoBases L.t_NoBases) (by rfl)))) pss_nil)
      (pss_cons (ps_for (passes_of rfl) rfl (pi_list (pv 0)) (pg_name (i := 1) sc_need_bases.nd rfl (Or.inl rfl)) (pss_one (ps_if (PW.pt (pw_or (pt_cmpR op_lt (pv 1) (pe_glob (v := .int 3) rfl L.k_LEAST ⟨_, rfl⟩) (nomark _)) (pw_or (pt_cmpR op_gt (pv 1) (pe_glob (v := .int 999999) rfl L.k_MOST ⟨_, rfl⟩) (nomark _)) (pw_or1 (pt_cmpR op_eq (pe_op op_mod (pv 1) pe_int) pe_int (nomark _)))))) (pss_one (ps_raise rfl hk (pmk_own PySem.F.excBase_ValueError L.x_NoBases L.g_NoBases L.e_NoBases (raises_own L.s_NoBases L.t_NoBases) (by rfl)))) pss_nil)))
      (pss_one (ps_for (passes_of rfl) rfl (pi_range2 (by rfl) L.z_range (pa_cons pe_int (pa_cons (pe_callB call_len_seq (by rfl) L.z_len PySem.boot_len (pa_cons (pv 0) pa_nil)) pa_nil))) (pg_name (i := 2) sc_need_bases.nd rfl (Or.inl rfl)) (pss_cons (ps_if (pt_cmpR op_le (pe_ix ix_list (pv 0) (pv 2) (fun _ _ => rfl)) (pe_ix ix_list (pv 0) (pe_op op_sub (pv 2) pe_int) (fun _ _ => rfl)) (nomark _)) (pss_one (ps_raise rfl hk (pmk_own PySem.F.excBase_ValueError L.x_NoBases L.g_NoBases L.e_NoBases (raises_own L.s_NoBases L.t_NoBases) (by rfl)))) pss_nil)
      (pss_one (ps_for (passes_of rfl) rfl (pi_list (pe_slice sl_list (pv 0) po_none (po_some (pv 2)))) (pg_name (i := 3) sc_need_bases.nd rfl (Or.inl rfl)) (pss_one (ps_if (pt_cmpR op_gt (pe_call (E := E) (ok_common L) (hr.mono (by decide)) (by rfl) L.g_common L.k_common L.b_common .nil hx (pa_cons (pe_ix ix_list (pv 0) (pv 2) (fun _ _ => rfl)) (pa_cons (pv 3) pa_nil))) pe_int (nomark _)) (pss_one (ps_raise rfl hk (pmk_own PySem.F.excBase_ValueError L.x_NoBases L.g_NoBases L.e_NoBases (raises_own L.s_NoBases L.t_NoBases) (by rfl)))) pss_nil))))))))), ?_⟩
    have hlm : (bs.map V.int).length = bs.length := List.length_map _
    refine q_when (et_or (et_test (ev_op (ev_len (ev_var rfl) hS) ev_c rv_I0)) (fun _ => et_test (ev_op (ev_len (ev_var rfl) hS) ev_c rv_I0))) (fun hb H1 e1 => ?_) (fun hb H1 e1 => ?_)
    · rw [hlm, Bool.or_eq_true, decide_eq_true_eq, decide_eq_true_eq] at hb
      exact kE (fun g => by have := g.len3; have := g.len14; omega) H1 e1
    rw [hlm, Bool.or_eq_false_iff, decide_eq_false_iff_not, decide_eq_false_iff_not] at hb
    refine q_forLn (ev_var rfl) (ex_l e1 hS) (fun i σ' H' => ∃ v1 v2 v3, σ' = [some (.ref a), v1, v2, v3] ∧ Ex H H' ∧ ∀ (k : Nat) (b : Int), k < i → bs[k]? = some b → 3 ≤ b ∧ b ≤ 999999 ∧ b % 2 = 1)
      (fun H2 e2 => ⟨none, none, none, rfl, e1.trans e2, fun k b h => absurd h (Nat.not_lt_zero k)⟩) (fun i σ' H' _ ⟨_, _, _, _, e, _⟩ => ex_l e hS) ?_ ?_
    · rintro i x σ' H' hi ⟨v1, v2, v3, rfl, e, inv⟩
      obtain ⟨b, hb', rfl⟩ := map_get hi
      refine s_when (et_or (et_test (ev_op (ev_var rfl) ev_c rv_I0)) (fun _ => et_or (et_test (ev_op (ev_var rfl) ev_c rv_I0)) (fun _ => et_test (ev_op (ev_op (ev_var rfl) ev_c (rv_I (show (0 : Int) < 2 by decide))) ev_c (rv_eq rfl))))) (fun hc H2 e2 => ?_) (fun hc H2 e2 => ?_)
      · rw [Bool.or_eq_true, Bool.or_eq_true, decide_eq_true_eq, decide_eq_true_eq, decide_eq_true_eq] at hc
        refine kE (fun g => ?_) H2 (e.trans e2)
        obtain ⟨g1, g2, g3⟩ := g.get3 hb'
        rcases hc with hc | hc | hc
        · omega
        · omega
        · have := V.int.inj hc
          omega
      · rw [Bool.or_eq_false_iff, Bool.or_eq_false_iff, decide_eq_false_iff_not, decide_eq_false_iff_not, decide_eq_false_iff_not] at hc
        refine ⟨_, _, _, rfl, e.trans e2, fun k c hk hk' => ?_⟩
        by_cases e3 : k = i
        · subst e3
          rw [hb'] at hk'
          have := Option.some.inj hk'
          subst this
          have h2 : ¬ b % 2 = 0 := fun z => hc.2.2 (by rw [z])
          omega
        · exact inv k c (by omega) hk'
    · rintro σ' H2 ⟨v1, v2, v3, rfl, e, inv⟩
      rw [hlm] at inv
      have inv1 : ∀ (k : Nat) (b : Int), bs[k]? = some b → 3 ≤ b ∧ b ≤ 999999 ∧ b % 2 = 1 := fun k b hk => inv k b (List.getElem?_eq_some_iff.mp hk).1 hk
      refine s_forR2 (lo := 1) (n := (bs.length : Int)) (ea_cons ev_c (ea_cons (ev_is (ev_len (ev_var rfl) (ex_l e hS)) (by rw [hlm])) ea_nil)) (by omega)
        (fun i σ' H' => ∃ v1 v2 v3, σ' = [some (.ref a), v1, v2, v3] ∧ Ex H H' ∧ (∀ (k : Nat) (x y : Int), k < i → bs[k]? = some x → bs[k + 1]? = some y → x < y) ∧ ∀ (j k : Nat) (x y : Int), j < k → k < 1 + i → bs[j]? = some x → bs[k]? = some y → Rw.Cop x y)
        (fun H3 e3 => ⟨_, _, _, rfl, e.trans e3, fun k x y h => absurd h (Nat.not_lt_zero k), fun j k x y h1 h2 => by omega⟩) ?_ ?_
      · rintro i σ' H3 hi ⟨v1, v2, v3, rfl, e3, i1, i2⟩
        have hk : 1 + i < bs.length := by omega
        have hB : bs[1 + i]? = some bs[1 + i] := List.getElem?_eq_getElem hk
        have hA : bs[i]? = some (bs[i]'(by omega)) := List.getElem?_eq_getElem (by omega)
        have hB' : bs[i + 1]? = some bs[1 + i] := by rw [Nat.add_comm i 1]; exact hB
        generalize bs[1 + i] = y at hB hB'
        generalize bs[i]'(by omega) = x at hA
        have y3 := inv1 _ _ hB
        refine q_when (et_test (ev_op (ev_op (ev_var rfl) (ev_var rfl) (rv_ixL (ex_l e3 hS) (at_mapI (k := 1 + i) (by omega) hB))) (ev_op (ev_var rfl) (ev_op (ev_var rfl) ev_c rv_I0) (rv_ixL (ex_l e3 hS) (at_mapI (k := i) (by omega) hA))) rv_I0)) (fun hc H4 e4 => ?_) (fun hc H4 e4 => ?_)
        · have hc' : y ≤ x := of_decide_eq_true hc
          exact kE (fun g => by have := g.next hA hB'; omega) H4 (e3.trans e4)
        have hc' : ¬ y ≤ x := of_decide_eq_false hc
        have e04 := e3.trans e4
        refine s_forNLn (el_sl (ev_var rfl) eo_none (eo_some (ev_var rfl)) (ex_l e04 hS)) (fun p j σ' H' => ∃ v3, σ' = [some (.ref a), v1, some (.int (1 + (i : Int))), v3] ∧ Ex H H' ∧ H' p = some (.lst ((bs.take (1 + i)).map V.int)) ∧ ∀ (jj : Nat) (x : Int), jj < j → bs[jj]? = some x → Rw.Cop x y)
          (fun p H5 hp e5 h5 => ⟨_, rfl, e04.trans e5, by rw [h5, show (1 + (i : Int)) = ((1 + i : Nat) : Int) by omega, cut_to, List.map_take], fun jj x h => absurd h (Nat.not_lt_zero jj)⟩)
          (fun p j σ' H' _ ⟨_, _, _, h, _⟩ => by rw [show (1 + (i : Int)) = ((1 + i : Nat) : Int) by omega, cut_to, ← List.map_take]; exact sq_of h) ?_ ?_
        · rintro p j z σ' H5 hj ⟨v3, rfl, e5, h5, i3⟩
          rw [show (1 + (i : Int)) = ((1 + i : Nat) : Int) by omega, cut_to, ← List.map_take] at hj
          obtain ⟨c, hc2, rfl⟩ := map_get hj
          have hjl : j < 1 + i := by
            have := (List.getElem?_eq_some_iff.mp hc2).1
            simp at this
            omega
          rw [List.getElem?_take_of_lt hjl] at hc2
          have c3 := inv1 _ _ hc2
          refine s_when (et_test (ev_op (ev_call0 (ea_cons (ev_op (ev_var rfl) (ev_var rfl) (rv_ixL (ex_l e5 hS) (at_mapI (k := 1 + i) (by omega) hB))) (ea_cons (ev_var rfl) ea_nil)) (sv_common (by omega) (by omega))) ev_c rv_I0)) (fun hd H6 e6 => ?_) (fun hd H6 e6 => ?_)
          · have hd' : (1 : Int) < (Int.gcd y c : Int) := of_decide_eq_true hd
            refine kE (fun g => ?_) H6 (e5.trans e6)
            have := (g.cop2 hjl hc2 hB).symm
            rw [show Int.gcd y c = 1 from this] at hd'
            exact absurd hd' (by decide)
          · have hd' : ¬ (1 : Int) < (Int.gcd y c : Int) := of_decide_eq_false hd
            refine ⟨_, rfl, e5.trans e6, e6 _ _ h5, fun jj x hjj hx => ?_⟩
            by_cases e7 : jj = j
            · subst e7
              rw [hc2] at hx
              have := Option.some.inj hx
              subst this
              refine Rw.Cop.symm ?_
              have g0 : Int.gcd y c ≠ 0 := fun z => by have := (Int.gcd_eq_zero_iff.mp z).1; omega
              show Int.gcd y c = 1
              omega
            · exact i3 jj x (by omega) hx
        · rintro p σ' H5 ⟨v3, rfl, e5, h5, i3⟩
          rw [show (1 + (i : Int)) = ((1 + i : Nat) : Int) by omega, cut_to, ← List.map_take, List.length_map, List.length_take, Nat.min_eq_left (by omega)] at i3
          refine ⟨_, _, _, rfl, e5, fun k u v hk hu hv => ?_, fun j k u v hjk hk hu hv => ?_⟩
          · by_cases e7 : k = i
            · subst e7
              rw [hA] at hu
              rw [hB'] at hv
              have := Option.some.inj hu
              have := Option.some.inj hv
              omega
            · exact i1 k u v (by omega) hu hv
          · by_cases e7 : k = 1 + i
            · subst e7
              rw [hB] at hv
              have := Option.some.inj hv
              subst this
              exact i3 j u (by omega) hu
            · exact i2 j k u v hjk (by omega) hu hv
      · rintro σ' H3 ⟨v1, v2, v3, rfl, e3, i1, i2⟩
        refine q (Rw.good_of (by omega) (by omega) inv1 (fun k x y hx hy => i1 k x y ?_ hx hy) (fun j k x y hjk hx hy => i2 j k x y hjk ?_ hx hy)) H3 e3
        · have := (List.getElem?_eq_some_iff.mp hy).1
          omega
        · have := (List.getElem?_eq_some_iff.mp hy).1
          omega
theorem sv_need_bases {cN a : Addr} {H : Hp} {bs : List Int} (hS : SqL K H a (bs.map V.int)) (g : Rw.Good bs) : SpV (sp_need_bases K cN) [.ref a] H .non := fun H1 e Q q E => ⟨a, bs, rfl, ex_l e hS, fun _ => q, fun n => absurd g n⟩
theorem sd_need_bases {cN a : Addr} {H : Hp} {E : XK} {bs : List Int} (hS : SqL K H a (bs.map V.int)) (g : ¬ Rw.Good bs) (k : ∀ H', Ex H H' → E (.ref cN) none H') : SpD (sp_need_bases K cN) [.ref a] H E := fun H1 e Q => ⟨a, bs, rfl, ex_l e hS, fun y => absurd y g, fun _ H' e' => k H' (e.trans e')⟩
end
end Rk
namespace Rk
open PySem PySem.Spec PyProof.Rows L2 Evl
section
variable {P : Program} {w : World} {K : PySem.W.Frag} {mg : Str → Option Value} {base : Heap}
/-! ### turned -/
def sp_turned (cN : Addr) : Sp := fun vs H Q E => ∃ number base : Int, vs = [.int number, .int base] ∧ 2 ≤ base ∧ base < 2 ^ 300 ∧
  (Rw.Cop number base → ∀ H', Ex H H' → Q (.int (Rw.inv number base)) H') ∧ (¬ Rw.Cop number base → ∀ H', Ex H H' → E (.ref cN) none H')
theorem ok_turned (L : Lk K mg) : FnOk P w K mg base (L2.CX P w) 1 L.f_turned L.d_turned ["number", "base"] (sp_turned L.c_NoTurn) := by
  refine L.F_turned.okX sc_turned (fun vs H Q E h => ?_) (fun cdv A outer s H vs Q E hr h => ?_)
  · obtain ⟨_, _, rfl, _⟩ := h; rfl
  · obtain ⟨number, base, rfl, hb, hw, q, kE⟩ := h
    refine ⟨_, (pss_cons (ps_set (i := 2) sc_turned.nd rfl (Or.inl rfl) (pv 1))
      (pss_cons (ps_set (i := 3) sc_turned.nd rfl (Or.inl rfl) (pe_op op_mod (pv 0) (pv 1)))
      (pss_cons (ps_set (i := 4) sc_turned.nd rfl (Or.inl rfl) pe_int)
      (pss_cons (ps_set (i := 5) sc_turned.nd rfl (Or.inl rfl) pe_int)
      (pss_cons (ps_while (passes_of rfl) (pt_cmpR op_gt (pv 3) pe_int (nomark _)) (pss_cons (ps_set (i := 6) sc_turned.nd rfl (Or.inl rfl) (pe_op op_fdivW (pv 2) (pv 3)))
      (pss_cons (ps_set (i := 7) sc_turned.nd rfl (Or.inl rfl) (pe_op op_sub (pv 2) (pe_op op_mulW (pv 6) (pv 3))))
      (pss_cons (ps_set (i := 2) sc_turned.nd rfl (Or.inl rfl) (pv 3))
      (pss_cons (ps_set (i := 3) sc_turned.nd rfl (Or.inl rfl) (pv 7))
      (pss_cons (ps_set (i := 8) sc_turned.nd rfl (Or.inl rfl) (pe_op op_sub (pv 4) (pe_op op_mulW (pv 6) (pv 5))))
      (pss_cons (ps_set (i := 4) sc_turned.nd rfl (Or.inl rfl) (pv 5))
      (pss_one (ps_set (i := 5) sc_turned.nd rfl (Or.inl rfl) (pv 8))))))))))
      (pss_cons (ps_if (pt_cmpR op_ne (pv 2) pe_int (nomark _)) (pss_one (ps_raise rfl hk (pmk_own PySem.F.excBase_ValueError L.x_NoTurn L.g_NoTurn L.e_NoTurn (raises_own L.s_NoTurn L.t_NoTurn) (by rfl)))) pss_nil)
      (pss_one (ps_ret (pe_op op_mod (pv 4) (pv 1)))))))))), ?_⟩
    refine q_asg (ev_var rfl) fun H1 e1 => ?_
    refine q_asg (ev_op (ev_var rfl) (ev_var rfl) (rv_I (show 0 < base by omega))) fun H2 e2 => ?_
    refine q_asg ev_c fun H3 e3 => ?_
    refine q_asg ev_c fun H4 e4 => ?_
    have eA : Ex H H4 := ((e1.trans e2).trans e3).trans e4
    refine q_while (fun m σ' H' => ∃ (high low ahead behind : Int) (r1 r2 r3 : Option V), σ' = [some (.int number), some (.int base), some (.int high), some (.int low), some (.int ahead), some (.int behind), r1, r2, r3] ∧
      Rw.EG number base high low ahead behind ∧ low.toNat = m ∧ Ex H H') (number % base).toNat ⟨base, number % base, 0, 1, none, none, none, rfl, Rw.EG.start hb, rfl, eA⟩ ?_
    rintro m σ' H' ⟨high, low, ahead, behind, r1, r2, r3, rfl, G, hm, e⟩
    refine ⟨_, et_test (ev_op (ev_var rfl) ev_c rv_I0), fun hc H1 e1 => ?_, fun hc H1 e1 => ?_⟩
    · have hl : 0 < low := of_decide_eq_true hc
      obtain ⟨b1, b2, b3, b4, b5⟩ := G.bound hl
      have hB : base.natAbs < 2 ^ 300 := by have := Rw.natAbs_lt300 (show 0 ≤ base by omega) hw; exact this
      have wm : ∀ {i j : Int}, i.natAbs ≤ base.natAbs → j.natAbs ≤ base.natAbs → CMulW i j := fun hi hj => wide_mul (a := 300) (b := 300) (Nat.lt_of_le_of_lt hi hB) (Nat.lt_of_le_of_lt hj hB) (by decide) (by decide) (by decide)
      have wd : CDivW high low := wide_div (b := 300) hl (Nat.lt_of_le_of_lt b4 hB) (by decide) (by decide)
      refine ⟨fun σ' H' => ∃ r1 r2 r3, σ' = [some (.int number), some (.int base), some (.int low), some (.int (high - high / low * low)), some (.int behind), some (.int (ahead - high / low * behind)), r1, r2, r3] ∧ Ex H H', ?_, ?_⟩
      · rintro σ2 H2 ⟨r1, r2, r3, rfl, e2⟩
        have G2 := G.step hl
        have := G2.l0
        have := G2.lh
        exact ⟨_, by omega, low, _, behind, _, r1, r2, r3, rfl, G2, rfl, e2⟩
      · refine q_asg (ev_op (ev_var rfl) (ev_var rfl) (rv_I wd)) fun H2 e2 => ?_
        refine q_asg (ev_op (ev_var rfl) (ev_op (ev_var rfl) (ev_var rfl) (rv_I (wm b5 b4))) rv_I0) fun H3 e3 => ?_
        refine q_asg (ev_var rfl) fun H4 e4 => ?_
        refine q_asg (ev_var rfl) fun H5 e5 => ?_
        refine q_asg (ev_op (ev_var rfl) (ev_op (ev_var rfl) (ev_var rfl) (rv_I (wm b5 b2))) rv_I0) fun H6 e6 => ?_
        refine q_asg (ev_var rfl) fun H7 e7 => ?_
        refine s_asg (ev_var rfl) fun H8 e8 => ?_
        exact ⟨_, _, _, rfl, (((((((e.trans e1).trans e2).trans e3).trans e4).trans e5).trans e6).trans e7).trans e8⟩
    · have hl : ¬ 0 < low := of_decide_eq_false hc
      have h0 := G.l0
      have : low = 0 := by omega
      subst this
      refine q_when (et_test (ev_op (ev_var rfl) ev_c (rv_ne rfl))) (fun hn H2 e2 => ?_) (fun hn H2 e2 => ?_)
      · have hn' : ¬ high = 1 := by simpa using hn
        exact kE (fun c => hn' (G.end_.mpr c)) H2 ((e.trans e1).trans e2)
      · have hn' : high = 1 := by simpa using hn
        subst hn'
        refine s_ret (ev_op (ev_var rfl) (ev_var rfl) (rv_I (show 0 < base by omega))) fun H3 e3 => ?_
        have c := G.end_.mp rfl
        rw [← Rw.inv_eq c (show 0 < base by omega) (G.turns hb)]
        exact q c H3 (((e.trans e1).trans e2).trans e3)
theorem sv_turned {cN : Addr} {H : Hp} {a b : Int} (hb : 2 ≤ b) (hw : b < 2 ^ 300) (c : Rw.Cop a b) : SpV (sp_turned cN) [.int a, .int b] H (.int (Rw.inv a b)) := fun H1 e Q q E => ⟨a, b, rfl, hb, hw, fun _ => q, fun n => absurd c n⟩
theorem sd_turned {cN : Addr} {H : Hp} {E : XK} {a b : Int} (hb : 2 ≤ b) (hw : b < 2 ^ 300) (c : ¬ Rw.Cop a b) (k : ∀ H', Ex H H' → E (.ref cN) none H') : SpD (sp_turned cN) [.int a, .int b] H E :=
  fun H1 e Q => ⟨a, b, rfl, hb, hw, fun y => absurd y c, fun _ H' e' => k H' (e.trans e')⟩
end
end Rk
namespace Rk
open PySem PySem.Spec PyProof.Rows L2 Evl
section
variable {P : Program} {w : World} {K : PySem.W.Frag} {mg : Str → Option Value} {base : Heap}
/-! ### Board(bases) -/
def sp___init__ (K : PySem.W.Frag) (C cN : Addr) : Sp := fun vs H Q E => ∃ (H0 : Hp) (x dx a : Addr) (bs : List Int), vs = [.ref x, .ref a] ∧ Ex H0 H ∧ H0 x = none ∧ H x = some (.ins C dx []) ∧ SqL K H0 a (bs.map V.int) ∧
  (Rw.Good bs → ∀ H' l t, Ex H0 H' → H0 l = none → H0 t = none → BoardIs C H' x bs dx l t → Q .non H') ∧ (¬ Rw.Good bs → ∀ H', Ex H0 H' → E (.ref cN) none H')
theorem bases_turns : ¬ (("bases" : Str) = "turns") := by decide +kernel
theorem putF2 (l t : Addr) : putF "turns" (.ref t) (putF "bases" (.ref l) []) = bf l t := by
  show (if ("bases" : Str) = "turns" then [(("bases" : Str), V.ref t)] else (("bases" : Str), V.ref l) :: putF "turns" (V.ref t) []) = bf l t
  rw [if_neg bases_turns]
  rfl
theorem ok___init__ (L : Lk K mg) : FnOk P w K mg base (L2.CX P w) 3 L.f___init__ L.d___init__ ["self", "bases"] (sp___init__ K L.C L.c_NoBases) := by
  refine L.F___init__.okX sc___init__ (fun vs H Q E h => ?_) (fun cdv A outer s H vs Q E hr h => ?_)
  · obtain ⟨_, _, _, _, _, rfl, _⟩ := h; rfl
  · obtain ⟨H0, x, dx, a, bs, rfl, e0, x0, hX, hS, q, kE⟩ := h
    refine ⟨_, (pss_cons (ps_expr (pe_call (E := E) (ok_need_bases L) (hr.mono (by decide)) (by rfl) L.g_need_bases L.k_need_bases L.b_need_bases .nil hx (pa_cons (pv 1) pa_nil)))
      (pss_cons (ps_fld (pv 0) (pe_callTy call_list_of (by rfl) L.z_list (by decide +kernel) (pa_cons (pv 1) pa_nil)) rfl)
      (pss_cons (ps_fld (pv 0) (pe_lst pa_nil) rfl)
      (pss_one (ps_for (passes_of rfl) rfl (pi_range1 (by rfl) L.z_range (pa_cons (pe_callB call_len_seq (by rfl) L.z_len PySem.boot_len (pa_cons (pv 1) pa_nil)) pa_nil)) (pg_name (i := 2) sc___init__.nd rfl (Or.inl rfl)) (pss_cons (ps_set (i := 3) sc___init__.nd rfl (Or.inl rfl) pe_int)
      (pss_cons (ps_for (passes_of rfl) rfl (pi_list (pe_slice sl_list (pv 1) po_none (po_some (pv 2)))) (pg_name (i := 4) sc___init__.nd rfl (Or.inl rfl)) (pss_one (ps_set (i := 3) sc___init__.nd rfl (Or.inl rfl) (pe_op op_mod (pe_op op_mul (pv 3) (pv 4)) (pe_ix ix_list (pv 1) (pv 2) (fun _ _ => rfl))))))
      (pss_one (ps_expr (pe_bm PySem.F.plainAttrs_list PySem.F.slot_list_append PySem.F.type_list_append mt_append (pe_fld (pv 0) (by rfl)) (pa_cons (pe_call (E := E) (ok_turned L) (hr.mono (by decide)) (by rfl) L.g_turned L.k_turned L.b_turned .nil hx (pa_cons (pv 3) (pa_cons (pe_ix ix_list (pv 1) (pv 2) (fun _ _ => rfl)) pa_nil))) pa_nil))))))))))), ?_⟩
    by_cases g : Rw.Good bs
    case neg => exact q_dv (dv_call (ea_cons (ev_var rfl) ea_nil) (sd_need_bases (ex_l e0 hS) g fun H' e' => kE g H' (e0.trans e')))
    have hlm : (bs.map V.int).length = bs.length := List.length_map _
    refine q_drop (ev_call0 (ea_cons (ev_var rfl) ea_nil) (sv_need_bases (ex_l e0 hS) g)) fun H1 e1 => ?_
    -- self.bases = list(bases)
    have E1 := e0.trans e1
    refine q_fldL (el_list (ev_var rfl) (ex_l E1 hS)) (ev_var rfl) (e1 _ _ hX) L.cl L.nB (by decide) fun l H2 hl e2 hL => ?_
    have E2 := E1.trans e2
    have nlx : l ≠ x := fun z => by rw [z, e1 _ _ hX] at hl; cases hl
    have E3 : Ex H0 (upd H2 x (.ins L.C dx (putF "bases" (.ref l) []))) := E2.mut x0
    generalize h3 : upd H2 x (.ins L.C dx (putF "bases" (.ref l) [])) = H3 at E3 ⊢
    have hX3 : H3 x = some (.ins L.C dx (putF "bases" (.ref l) [])) := by rw [← h3]; exact upd_same
    have hL3 : H3 l = some (.lst (bs.map V.int)) := by rw [← h3, upd_ne nlx]; exact hL
    -- self.turns = []
    refine q_fldL (el_lst ea_nil (by decide)) (ev_var rfl) hX3 L.cl L.nT (by show 1 < 1000; decide) fun t H4 ht e4 hT => ?_
    rw [putF2]
    have ntx : t ≠ x := fun z => by rw [z, hX3] at ht; cases ht
    have nlt : l ≠ t := fun z => by rw [← z, hL3] at ht; cases ht
    have E4 : Ex H0 (upd H4 x (.ins L.C dx (bf l t))) := (E3.trans e4).mut x0
    have t0 : H0 t = none := fresh_back E3 ht
    have l0 : H0 l = none := fresh_back E1 hl
    generalize h5 : upd H4 x (.ins L.C dx (bf l t)) = H5 at E4 ⊢
    have hX5 : H5 x = some (.ins L.C dx (bf l t)) := by rw [← h5]; exact upd_same
    have hL5 : H5 l = some (.lst (bs.map V.int)) := by rw [← h5, upd_ne nlx]; exact e4 _ _ hL3
    have hT5 : H5 t = some (.lst []) := by rw [← h5, upd_ne ntx]; exact hT
    -- for k in range(len(bases))
    refine s_forR1 (n := (bs.length : Int)) (ea_cons (ev_is (ev_len (ev_var rfl) (ex_l E4 hS)) (by rw [hlm])) ea_nil) (by have := g.len14; omega)
      (fun i σ' H' => ∃ v1 v2 v3, σ' = [some (.ref x), some (.ref a), v1, v2, v3] ∧ Ex H0 H' ∧ H' x = some (.ins L.C dx (bf l t)) ∧ H' l = some (.lst (bs.map V.int)) ∧ H' t = some (.lst (((Rw.turnsOf bs).take i).map V.int)))
      (fun H6 e6 => ⟨none, none, none, rfl, E4.trans e6, e6 _ _ hX5, e6 _ _ hL5, e6 _ _ hT5⟩) ?_ ?_
    · rintro k σ' H6 hk ⟨v1, v2, v3, rfl, E6, hX6, hL6, hT6⟩
      have hk' : k < bs.length := by omega
      have hB : bs[k]? = some bs[k] := List.getElem?_eq_getElem hk'
      generalize bs[k] = b at hB
      have hb := g.get3 hB
      have b0 : 0 < b := by omega
      refine q_asg ev_c fun H7 e7 => ?_
      have E7 := E6.trans e7
      -- for ahead in bases[:k]
      refine q_forNLn (el_sl (ev_var rfl) eo_none (eo_some (ev_var rfl)) (ex_l E7 hS))
        (fun p i σ' H' => ∃ v3, σ' = [some (.ref x), some (.ref a), some (.int (k : Int)), some (.int (Rw.prod (bs.take i) % b)), v3] ∧ Ex H6 H' ∧ H' p = some (.lst ((bs.take k).map V.int)))
        (fun p H8 hp e8 h8 => ⟨v3, by simp [Rw.prod, Int.emod_eq_of_lt (a := 1) (b := b) (by decide) (by omega)], e7.trans e8, by rw [h8, cut_to, List.map_take]⟩)
        (fun p i σ' H' _ ⟨_, _, _, h⟩ => by rw [cut_to, ← List.map_take]; exact sq_of h) ?_ ?_
      · rintro p i z σ' H8 hi ⟨v3, rfl, e8, h8⟩
        rw [cut_to, ← List.map_take] at hi
        obtain ⟨c, hc, rfl⟩ := map_get hi
        have hik : i < k := by
          have := (List.getElem?_eq_some_iff.mp hc).1
          simp at this
          omega
        rw [List.getElem?_take_of_lt hik] at hc
        have c3 := g.get3 hc
        refine s_asg (ev_op (ev_op (ev_var rfl) (ev_var rfl) (rv_I (cmulR (by omega)))) (ev_op (ev_var rfl) (ev_var rfl) (rv_ixL (ex_l (E6.trans e8) hS) (at_map hB))) (rv_I b0)) fun H9 e9 => ?_
        refine ⟨some (.int c), ?_, e8.trans e9, e9 _ _ h8⟩
        have e10 : Rw.prod (bs.take i) % b * c % b = Rw.prod (bs.take (i + 1)) % b := by
          rw [Rw.prod_take_succ hc, Int.mul_emod, Int.emod_emod, ← Int.mul_emod]
        show [some (V.ref x), some (V.ref a), some (V.int (k : Int)), some (V.int (Rw.prod (bs.take i) % b * c % b)), some (V.int c)] = _
        rw [e10]
      · rintro p σ' H8 ⟨v3, rfl, e8, h8⟩
        rw [cut_to, ← List.map_take, List.length_map, List.length_take, Nat.min_eq_left (by omega)]
        have E8 := E6.trans e8
        have cw := Rw.inv_mod (g.copTake hB) b0
        have hT8 := e8 _ _ hT6
        have hw : b < 2 ^ 300 := Int.lt_of_le_of_lt hb.2.1 (by decide +kernel)
        refine s_app hT8 (ev_fld (ev_var rfl) (e8 _ _ hX6) L.cl L.nT (bf_turns l t)) (ev_call0 (ea_cons (ev_var rfl) (ea_cons (ev_op (ev_var rfl) (ev_var rfl) (rv_ixL (ex_l E8 hS) (at_map hB))) ea_nil)) (sv_turned (by omega) hw cw.1)) (by rw [List.length_map, List.length_take, Rw.turnsOf_length]; have := g.len14; omega) fun H9 e9 => ?_
        refine ⟨_, _, _, rfl, (E8.trans e9).mut t0, ?_, ?_, ?_⟩
        · rw [upd_ne ntx.symm]; exact e9 _ _ (e8 _ _ hX6)
        · rw [upd_ne nlt]; exact e9 _ _ (e8 _ _ hL6)
        · rw [upd_same, cw.2, take_next (Rw.turnsOf_get hB)]
    · rintro σ' H6 ⟨v1, v2, v3, rfl, E6, hX6, hL6, hT6⟩
      refine q g H6 l t E6 l0 t0 ⟨hX6, hL6, ?_⟩
      rw [Int.toNat_natCast, List.take_of_length_le (by rw [Rw.turnsOf_length]; exact Nat.le_refl _)] at hT6
      exact hT6
/-- a new board -/
def NewBoard (C : Addr) (bs : List Int) : Hp → V → Hp → Prop := fun H1 v H2 => ∃ x dx l t, v = .ref x ∧ H1 x = none ∧ H1 l = none ∧ H1 t = none ∧ BoardIs C H2 x bs dx l t
theorem NewBoard.back {C : Addr} {bs : List Int} (H0 H1 : Hp) (v : V) (H2 : Hp) (e : Ex H0 H1) (h : NewBoard C bs H1 v H2) : NewBoard C bs H0 v H2 := by
  obtain ⟨x, dx, l, t, e1, e2, e3, e4, e5⟩ := h
  exact ⟨x, dx, l, t, e1, fresh_back e e2, fresh_back e e3, fresh_back e e4, e5⟩
theorem eg_make {C cN a : Addr} {σ : L2.St} {H : Hp} {E : XK} {tA : TA} {bs : List Int} (hA : EvA tA σ H [.ref a]) (hS : SqL K H a (bs.map V.int)) (g : Rw.Good bs) : EvG (tMake C (sp___init__ K C cN) [] E tA) σ H (NewBoard C bs) := fun H1 e Q q =>
  hA H1 e _ fun H2 e2 => fun x dx nx ndx ne => ⟨H2, x, dx, a, bs, rfl, (Ex.new ndx).mut nx, nx, upd_same, ex_l (e.trans e2) hS, fun _ H3 l t e3 hl ht hB => ⟨rfl, q _ H3 (e2.trans e3) ⟨x, dx, l, t, rfl, fresh_back e2 nx, fresh_back e2 hl, fresh_back e2 ht, hB⟩⟩, fun n => absurd g n⟩
end
end Rk
namespace Rk
open PySem PySem.Spec PyProof.Rows L2 Evl
section
variable {P : Program} {w : World} {K : PySem.W.Frag} {mg : Str → Option Value} {base : Heap}
/-! ### the law's bases -/
def sp__law_bases : Sp := fun vs H Q _ => ∃ one other : Int, vs = [.int one, .int other] ∧ ∀ bs, Rw.Good bs → RetL (bs.map V.int) H Q
theorem pick {p r : Int} (h : 0 < r) (h4 : r < 4) : ∃ m, atI ([V.int 1, V.int 1, V.int p, V.int (p * p)] : List V) r = some (V.int m) ∧ (m = 1 ∨ m = p ∨ m = p * p) := by
  rcases (show r = ((1 : Nat) : Int) ∨ r = ((2 : Nat) : Int) ∨ r = ((3 : Nat) : Int) by omega) with e | e | e <;> subst e
  · exact ⟨1, atI_nat rfl, .inl rfl⟩
  · exact ⟨p, atI_nat rfl, .inr (.inl rfl)⟩
  · exact ⟨p * p, atI_nat rfl, .inr (.inr rfl)⟩
theorem ok__law_bases (L : Lk K mg) : FnOk P w K mg base (L2.CX P w) 1 L.f__law_bases L.d__law_bases ["_law_one", "_law_other"] sp__law_bases := by
  refine L.F__law_bases.okX sc__law_bases (fun vs H Q E h => ?_) (fun cdv A outer s H vs Q E hr h => ?_)
  · obtain ⟨_, _, rfl, _⟩ := h; rfl
  · obtain ⟨one, other, rfl, q⟩ := h
    refine ⟨_, (pss_cons (ps_set (i := 2) sc__law_bases.nd rfl (Or.inl rfl) (pe_lst pa_nil))
      (pss_cons (ps_set (i := 3) sc__law_bases.nd rfl (Or.inl rfl) (pe_lst (pa_cons pe_int (pa_cons pe_int (pa_cons pe_int (pa_cons pe_int (pa_cons pe_int pa_nil)))))))
      (pss_cons (ps_set (i := 4) sc__law_bases.nd rfl (Or.inl rfl) (pe_lst (pa_cons pe_int (pa_cons pe_int (pa_cons pe_int (pa_cons pe_int (pa_cons pe_int (pa_cons pe_int (pa_cons pe_int (pa_cons pe_int (pa_cons pe_int pa_nil)))))))))))
      (pss_cons (ps_set (i := 5) sc__law_bases.nd rfl (Or.inl rfl) (pe_op op_mul pe_int (pe_op op_mod (pv 1) pe_int)))
      (pss_cons (ps_set (i := 6) sc__law_bases.nd rfl (Or.inl rfl) (pe_op op_fdiv (pv 1) pe_int))
      (pss_cut (ps_if (pt_cmpR op_eq (pe_op op_mod (pv 0) pe_int) pe_int (nomark _)) (pss_cons (ps_set (i := 3) sc__law_bases.nd rfl (Or.inl rfl) (pe_lst (pa_cons pe_int (pa_cons pe_int (pa_cons pe_int (pa_cons pe_int pa_nil))))))
      (pss_cons (ps_set (i := 4) sc__law_bases.nd rfl (Or.inl rfl) (pe_lst (pa_cons pe_int (pa_cons pe_int (pa_cons pe_int (pa_cons pe_int (pa_cons pe_int (pa_cons pe_int pa_nil))))))))
      (pss_cons (ps_set (i := 5) sc__law_bases.nd rfl (Or.inl rfl) (pe_op op_mul pe_int (pe_op op_mod (pv 1) pe_int)))
      (pss_one (ps_set (i := 6) sc__law_bases.nd rfl (Or.inl rfl) (pe_op op_fdiv (pv 1) pe_int)))))) pss_nil)
      (pss_cons (ps_for (passes_of rfl) rfl (pi_list (pv 3)) (pg_name (i := 7) sc__law_bases.nd rfl (Or.inl rfl)) (pss_cut (ps_if (pt_cmpR op_gt (pe_op op_mod (pv 0) pe_int) pe_int (nomark _)) (pss_one (ps_expr (pe_bm PySem.F.plainAttrs_list PySem.F.slot_list_append PySem.F.type_list_append mt_append (pv 2) (pa_cons (pe_op op_mul (pv 7) (pe_ix ix_list (pe_lst (pa_cons pe_int (pa_cons pe_int (pa_cons (pv 7) (pa_cons (pe_op op_mul (pv 7) (pv 7)) pa_nil))))) (pe_op op_mod (pv 0) pe_int) (fun _ _ => rfl))) pa_nil)))) pss_nil)
      (pss_one (ps_set (i := 0) sc__law_bases.nd rfl (Or.inl rfl) (pe_op op_fdiv (pv 0) pe_int)))))
      (pss_cut (ps_if (PW.pt (pw_and (pt_cmpR op_eq (pe_op op_mod (pv 0) pe_int) pe_int (nomark _)) (pw_and (pt_cmpR op_gt (pe_callB call_len_seq (by rfl) L.z_len PySem.boot_len (pa_cons (pv 2) pa_nil)) pe_int (nomark _)) (pw_and1 (pt_cmpR op_lt (pe_op op_mul (pe_ix ix_list (pv 2) pe_int (fun _ _ => rfl)) (pe_ix ix_list (pv 2) pe_int (fun _ _ => rfl))) pe_int (nomark _)))))) (pss_one (ps_set (i := 2) sc__law_bases.nd rfl (Or.inl rfl) (pe_op op_cat (pe_lst (pa_cons (pe_op op_mul (pe_ix ix_list (pv 2) pe_int (fun _ _ => rfl)) (pe_ix ix_list (pv 2) pe_int (fun _ _ => rfl))) pa_nil)) (pe_slice sl_list (pv 2) (po_some pe_int) po_none)))) pss_nil)
      (pss_cons (ps_for (passes_of rfl) rfl (pi_range1 (by rfl) L.z_range (pa_cons (pe_callB call_len_seq (by rfl) L.z_len PySem.boot_len (pa_cons (pv 4) pa_nil)) pa_nil)) (pg_name (i := 8) sc__law_bases.nd rfl (Or.inl rfl)) (pss_cut (ps_if (PW.pt (pw_or (pt_cmpR op_eq (pe_op op_mod (pv 6) pe_int) pe_int (nomark _)) (pw_or1 (pt_cmpR op_le (pe_op op_sub (pe_op op_add (pe_callB call_len_seq (by rfl) L.z_len PySem.boot_len (pa_cons (pv 2) pa_nil)) (pe_callB call_len_seq (by rfl) L.z_len PySem.boot_len (pa_cons (pv 4) pa_nil))) (pv 8)) pe_int (nomark _))))) (pss_one (ps_expr (pe_bm PySem.F.plainAttrs_list PySem.F.slot_list_append PySem.F.type_list_append mt_append (pv 2) (pa_cons (pe_op op_add (pv 5) (pe_ix ix_list (pv 4) (pv 8) (fun _ _ => rfl))) pa_nil)))) pss_nil)
      (pss_one (ps_set (i := 6) sc__law_bases.nd rfl (Or.inl rfl) (pe_op op_fdiv (pv 6) pe_int)))))
      (pss_one (ps_ret (pe_callB cr_sorted (by rfl) L.z_sorted (by decide +kernel) (pa_cons (pv 2) pa_nil))))))))))))), ?_⟩
    refine q_asgL (el_lst ea_nil (by decide)) fun sl H1 hsl e1 h1 => ?_
    refine q_asgL (el_lst (vs := ([3, 5, 7, 11, 13] : List Int).map V.int) (ea_cons ev_c (ea_cons ev_c (ea_cons ev_c (ea_cons ev_c (ea_cons ev_c ea_nil))))) (by decide)) fun pl H2 hpl e2 h2 => ?_
    refine q_asgL (el_lst (vs := ([17, 19, 23, 29, 31, 37, 41, 43, 47] : List Int).map V.int) (ea_cons ev_c (ea_cons ev_c (ea_cons ev_c (ea_cons ev_c (ea_cons ev_c (ea_cons ev_c (ea_cons ev_c (ea_cons ev_c (ea_cons ev_c ea_nil))))))))) (by decide)) fun el H3 hel e3 h3 => ?_
    have spl : sl ≠ pl := fun z => by rw [← z, h1] at hpl; cases hpl
    have sel : sl ≠ el := fun z => by rw [← z, e2 _ _ h1] at hel; cases hel
    have o0 := Int.emod_nonneg other (show (34 : Int) ≠ 0 by decide)
    have o1 := Int.emod_lt_of_pos other (show (0 : Int) < 34 by decide)
    refine q_asg (ev_op ev_c (ev_op (ev_var rfl) ev_c (rv_I (show (0 : Int) < 34 by decide))) (rv_I (cmulL (by decide)))) fun H4 e4 => ?_
    refine q_asg (ev_op (ev_var rfl) ev_c (rv_I ⟨by decide, by decide⟩)) fun H5 e5 => ?_
    have E5 := (((e1.trans e2).trans e3).trans e4).trans e5
    have e45 := e4.trans e5
    have h15 := e45 _ _ (e3 _ _ (e2 _ _ h1))
    have h25 := e45 _ _ (e3 _ _ h2)
    have h35 := e45 _ _ h3
    refine q_cut (M := fun σ' H' => ∃ (N : Int) (ps es : List Int) (far picks : Int) (pl el : Addr), σ' = [some (.int one), some (.int other), some (.ref sl), some (.ref pl), some (.ref el), some (.int far), some (.int picks), none, none] ∧
      Rw.Cfg N ps es ∧ Rw.Far N far ∧ Ex H H' ∧ sl ≠ pl ∧ sl ≠ el ∧ H' sl = some (.lst []) ∧ H' pl = some (.lst (ps.map V.int)) ∧ H' el = some (.lst (es.map V.int))) ?_ ?_
    · refine s_when (et_test (ev_op (ev_op (ev_var rfl) ev_c (rv_I (show (0 : Int) < 7 by decide))) ev_c (rv_eq rfl))) (fun _ H6 e6 => ?_) (fun _ H6 e6 => ?_)
      · refine q_asgL (el_lst (vs := ([3, 5, 7, 11] : List Int).map V.int) (ea_cons ev_c (ea_cons ev_c (ea_cons ev_c (ea_cons ev_c ea_nil)))) (by decide)) fun pl H7 hpl e7 h7 => ?_
        refine q_asgL (el_lst (vs := ([13, 17, 19, 23, 29, 31] : List Int).map V.int) (ea_cons ev_c (ea_cons ev_c (ea_cons ev_c (ea_cons ev_c (ea_cons ev_c (ea_cons ev_c ea_nil)))))) (by decide)) fun el H8 hel e8 h8 => ?_
        have o2 := Int.emod_nonneg other (show (429 : Int) ≠ 0 by decide)
        have o3 := Int.emod_lt_of_pos other (show (0 : Int) < 429 by decide)
        refine q_asg (ev_op ev_c (ev_op (ev_var rfl) ev_c (rv_I (show (0 : Int) < 429 by decide))) (rv_I (cmulL (by decide)))) fun H9 e9 => ?_
        refine s_asg (ev_op (ev_var rfl) ev_c (rv_I ⟨by decide, by decide⟩)) fun H10 e10 => ?_
        have e78 := (e7.trans e8).trans (e9.trans e10)
        refine ⟨2310, _, _, _, _, pl, el, rfl, Rw.cfg2, ⟨Int.dvd_mul_right _ _, by omega, by omega⟩, (E5.trans e6).trans e78, fun z => ?_, fun z => ?_, e78 _ _ (e6 _ _ h15), (e9.trans e10) _ _ (e8 _ _ h7), (e9.trans e10) _ _ h8⟩
        · rw [← z, e6 _ _ h15] at hpl; cases hpl
        · rw [← z, e7 _ _ (e6 _ _ h15)] at hel; cases hel
      · exact ⟨30030, _, _, _, _, pl, el, rfl, Rw.cfg1, ⟨Int.dvd_mul_right _ _, by omega, by omega⟩, E5.trans e6, spl, sel, e6 _ _ h15, e6 _ _ h25, e6 _ _ h35⟩
    clear h15 h25 h35 h1 h2 h3 spl sel hpl hel E5 e45 e1 e2 e3 e4 e5
    rintro σ' H6 ⟨N, ps, es, far, picks, pl, el, rfl, c, hf, e6, spl, sel, h1, h2, h3⟩
    have plen := c.plen
    have elen := c.elen
    refine q_forLn (ev_var rfl) (sq_of h2) (fun i σ' H' => ∃ (one' : Int) (sm : List Int) (v7 : Option V), σ' = [some (.int one'), some (.int other), some (.ref sl), some (.ref pl), some (.ref el), some (.int far), some (.int picks), v7, none] ∧
      Rw.InvA N ps i sm ∧ Ex H H' ∧ H' sl = some (.lst (sm.map V.int)) ∧ H' pl = some (.lst (ps.map V.int)) ∧ H' el = some (.lst (es.map V.int)))
      (fun H7 e7 => ⟨one, [], none, rfl, Rw.InvA.start _ _, e6.trans e7, e7 _ _ h1, e7 _ _ h2, e7 _ _ h3⟩) (fun i σ' H' _ ⟨_, _, _, _, _, _, _, h, _⟩ => sq_of h) ?_ ?_
    · rintro i x σ' H7 hi ⟨one', sm, v7, rfl, inv, e7, h1, h2, h3⟩
      obtain ⟨p, hp, rfl⟩ := map_get hi
      obtain ⟨po, p3, p13, pd⟩ := c.podd p (List.mem_of_getElem? hp)
      have r0 := Int.emod_nonneg one' (show (4 : Int) ≠ 0 by decide)
      have r1 := Int.emod_lt_of_pos one' (show (0 : Int) < 4 by decide)
      refine q_cut (M := fun σ' H' => ∃ (sm : List Int), σ' = [some (.int one'), some (.int other), some (.ref sl), some (.ref pl), some (.ref el), some (.int far), some (.int picks), some (.int p), none] ∧
        Rw.InvA N ps (i + 1) sm ∧ Ex H H' ∧ H' sl = some (.lst (sm.map V.int)) ∧ H' pl = some (.lst (ps.map V.int)) ∧ H' el = some (.lst (es.map V.int))) ?_ ?_
      · refine s_when (et_test (ev_op (ev_op (ev_var rfl) ev_c (rv_I (show (0 : Int) < 4 by decide))) ev_c rv_I0)) (fun hc H8 e8 => ?_) (fun hc H8 e8 => ?_)
        · have hc' : 0 < one' % 4 := of_decide_eq_true hc
          obtain ⟨m, hm, hm3⟩ := pick (p := p) hc' r1
          refine s_app (e8 _ _ h1) (ev_var rfl) (ev_op (ev_var rfl) (ev_ixH (eh_new (el_lst (ea_cons ev_c (ea_cons ev_c (ea_cons (ev_var rfl) (ea_cons (ev_op (ev_var rfl) (ev_var rfl) (rv_I (cmulL (by omega)))) ea_nil)))) (by show 4 ≤ 100000; decide))) (ev_op (ev_var rfl) ev_c (rv_I (show (0 : Int) < 4 by decide))) hm) (rv_I (cmulL (by omega))))
            (by rw [List.length_map]; have := inv.len; have := (List.getElem?_eq_some_iff.mp hp).1; omega) fun H9 e9 => ?_
          refine ⟨sm ++ [p * m], rfl, inv.add c hp hm3, ((e7.trans e8).trans e9).mut hsl, ?_, ?_, ?_⟩
          · rw [upd_same, List.map_append]; rfl
          · rw [upd_ne spl.symm]; exact e9 _ _ (e8 _ _ h2)
          · rw [upd_ne sel.symm]; exact e9 _ _ (e8 _ _ h3)
        · exact ⟨sm, rfl, inv.skip, e7.trans e8, e8 _ _ h1, e8 _ _ h2, e8 _ _ h3⟩
      · rintro σ' H8 ⟨sm, rfl, inv, e8, h1, h2, h3⟩
        refine s_asg (ev_op (ev_var rfl) ev_c (rv_I ⟨by decide, by decide⟩)) fun H9 e9 => ?_
        exact ⟨_, sm, _, rfl, inv, e8.trans e9, e9 _ _ h1, e9 _ _ h2, e9 _ _ h3⟩
    rintro σ' H7 ⟨one', sm, v7, rfl, inv, e7, h1, h2, h3⟩
    rw [List.length_map] at inv
    have inv := inv.toB
    refine q_cut (M := fun σ' H' => ∃ (sm : List Int) (sl : Addr), σ' = [some (.int one'), some (.int other), some (.ref sl), some (.ref pl), some (.ref el), some (.int far), some (.int picks), v7, none] ∧ H sl = none ∧ sl ≠ el ∧
      Rw.InvB N ps.length sm ∧ Ex H H' ∧ H' sl = some (.lst (sm.map V.int)) ∧ H' el = some (.lst (es.map V.int))) ?_ ?_
    · have at0 : ∀ {a b : Int} {r : List Int}, atI ((a :: b :: r).map V.int) 0 = some (.int a) := fun {a b r} => at_mapI (k := 0) rfl rfl
      have at1 : ∀ {a b : Int} {r : List Int}, atI ((a :: b :: r).map V.int) 1 = some (.int b) := fun {a b r} => at_mapI (k := 1) rfl rfl
      rcases sm with _ | ⟨a, _ | ⟨b, r⟩⟩
      · refine s_when (b := false) (et_is (et_and (et_test (ev_op (ev_op (ev_var rfl) ev_c (rv_I (show (0 : Int) < 2 by decide))) ev_c (rv_eq rfl))) (fun _ => et_and (b := false) (a := false) (et_test (ev_op (ev_len (ev_var rfl) (sq_of h1)) ev_c rv_I0)) (fun z => nomatch z))) (by simp)) (fun z => nomatch z) (fun _ H8 e8 => ?_)
        exact ⟨_, sl, rfl, hsl, sel, inv, e7.trans e8, e8 _ _ h1, e8 _ _ h3⟩
      · refine s_when (b := false) (et_is (et_and (et_test (ev_op (ev_op (ev_var rfl) ev_c (rv_I (show (0 : Int) < 2 by decide))) ev_c (rv_eq rfl))) (fun _ => et_and (b := false) (a := false) (et_test (ev_op (ev_len (ev_var rfl) (sq_of h1)) ev_c rv_I0)) (fun z => nomatch z))) (by simp)) (fun z => nomatch z) (fun _ H8 e8 => ?_)
        exact ⟨_, sl, rfl, hsl, sel, inv, e7.trans e8, e8 _ _ h1, e8 _ _ h3⟩
      · have ax := inv.el a List.mem_cons_self
        have ev2 : ∀ {H8}, Ex H7 H8 → Ev (tOp (rI CMul fun i j => .int (i * j)) (tOp (rIxL K) (tVar 2) (tC (.int 0))) (tOp (rIxL K) (tVar 2) (tC (.int 1)))) [some (.int one'), some (.int other), some (.ref sl), some (.ref pl), some (.ref el), some (.int far), some (.int picks), v7, none] H8 (.int (a * b)) := fun {H8} e8 =>
          ev_op (ev_op (ev_var rfl) ev_c (rv_ixL (sq_of (e8 _ _ h1)) at0)) (ev_op (ev_var rfl) ev_c (rv_ixL (sq_of (e8 _ _ h1)) at1)) (rv_I (cmulL (by omega)))
        refine s_when (et_and (et_test (ev_op (ev_op (ev_var rfl) ev_c (rv_I (show (0 : Int) < 2 by decide))) ev_c (rv_eq rfl))) (fun _ => et_and (et_test (ev_op (ev_len (ev_var rfl) (sq_of h1)) ev_c rv_I0)) (fun _ => et_test (ev_op (ev2 (Ex.refl H7)) ev_c rv_I0)))) (fun hc H8 e8 => ?_) (fun hc H8 e8 => ?_)
        · rw [Bool.and_eq_true, Bool.and_eq_true, decide_eq_true_eq, decide_eq_true_eq, decide_eq_true_eq] at hc
          refine s_asgL (el_cat (eh_new (el_lst (ea_cons (ev2 e8) ea_nil) (by show 1 ≤ 100000; decide))) (eh_new (el_slH (eh_old (ev_var rfl) (e8 _ _ h1)) (eo_some ev_c) eo_none)) (Nat.le_trans (Nat.add_le_add_left (cutV_length _ _ _) _) (by have := inv.len; simp at this ⊢; omega))) fun l H9 hl e9 h9 => ?_
          refine ⟨a * b :: r, l, rfl, fresh_back (e7.trans e8) hl, (fun z => by rw [z, e8 _ _ h3] at hl; cases hl), inv.merge hc.2.2, (e7.trans e8).trans e9, ?_, e9 _ _ (e8 _ _ h3)⟩
          rw [h9, show (2 : Int) = ((2 : Nat) : Int) from rfl, cut_from]
          rfl
        · exact ⟨_, sl, rfl, hsl, sel, inv, e7.trans e8, e8 _ _ h1, e8 _ _ h3⟩
    clear h1 h2 h3 hsl spl sel inv
    rintro σ' H8 ⟨sm, sl, rfl, hsl, sel, inv, e8, h1, h3⟩
    have hle : (es.map V.int).length = es.length := List.length_map _
    refine q_forR1 (n := (es.length : Int)) (ea_cons (ev_is (ev_len (ev_var rfl) (sq_of h3)) (by rw [hle])) ea_nil) (by omega)
      (fun k σ' H' => ∃ (pk : Int) (sm : List Int) (v8 : Option V), σ' = [some (.int one'), some (.int other), some (.ref sl), some (.ref pl), some (.ref el), some (.int far), some (.int pk), v7, v8] ∧
        Rw.InvC far es ps.length k sm ∧ Ex H H' ∧ H' sl = some (.lst (sm.map V.int)) ∧ H' el = some (.lst (es.map V.int)))
      (fun H9 e9 => ⟨_, sm, none, rfl, inv.toC c hf, e8.trans e9, e9 _ _ h1, e9 _ _ h3⟩) ?_ ?_
    · rintro k σ' H9 hk ⟨pk, sm, v8, rfl, inv, e9, h1, h3⟩
      have hk' : k < es.length := by omega
      have hE : es[k]? = some es[k] := List.getElem?_eq_getElem hk'
      generalize es[k] = ek at hE
      have hls : (sm.map V.int).length = sm.length := List.length_map _
      refine q_cut (M := fun σ' H' => ∃ (sm : List Int), σ' = [some (.int one'), some (.int other), some (.ref sl), some (.ref pl), some (.ref el), some (.int far), some (.int pk), v7, some (.int (k : Int))] ∧
        Rw.InvC far es ps.length (k + 1) sm ∧ Ex H H' ∧ H' sl = some (.lst (sm.map V.int)) ∧ H' el = some (.lst (es.map V.int))) ?_ ?_
      · refine s_when (et_or (et_test (ev_op (ev_op (ev_var rfl) ev_c (rv_I (show (0 : Int) < 2 by decide))) ev_c (rv_eq rfl))) (fun _ => et_test (ev_op (ev_op (ev_op (ev_len (ev_var rfl) (sq_of h1)) (ev_len (ev_var rfl) (sq_of h3)) rv_I0) (ev_var rfl) rv_I0) ev_c rv_I0))) (fun hc H10 e10 => ?_) (fun hc H10 e10 => ?_)
        · refine s_app (e10 _ _ h1) (ev_var rfl) (ev_op (ev_var rfl) (ev_op (ev_var rfl) (ev_var rfl) (rv_ixL (sq_of (e10 _ _ h3)) (at_map hE))) rv_I0) (by rw [hls]; have := inv.len; omega) fun H11 e11 => ?_
          refine ⟨sm ++ [far + ek], rfl, inv.add c hf hE, ((e9.trans e10).trans e11).mut hsl, ?_, ?_⟩
          · rw [upd_same, List.map_append]; rfl
          · rw [upd_ne sel.symm]; exact e11 _ _ (e10 _ _ h3)
        · rw [Bool.or_eq_false_iff, decide_eq_false_iff_not, decide_eq_false_iff_not, hls, hle] at hc
          exact ⟨sm, rfl, inv.skip hk' hc.2, e9.trans e10, e10 _ _ h1, e10 _ _ h3⟩
      · rintro σ' H10 ⟨sm, rfl, inv, e10, h1, h3⟩
        refine s_asg (ev_op (ev_var rfl) ev_c (rv_I ⟨by decide, by decide⟩)) fun H11 e11 => ?_
        exact ⟨_, sm, _, rfl, inv, e10.trans e11, e11 _ _ h1, e11 _ _ h3⟩
    · rintro σ' H9 ⟨pk, sm, v8, rfl, inv, e9, h1, h3⟩
      rw [Int.toNat_natCast] at inv
      refine s_retSorted (ev_var rfl) (sq_of h1) (by have := inv.len; have := c.len; omega) fun ns' p H10 hp hs hn e10 h10 => ?_
      exact q ns' (inv.good c hp hs) p H10 (fresh_back e9 hn) (e9.trans e10) h10
/-- the law's bases: good ones, a new list -/
theorem q_bases {σ : L2.St} {H : Hp} {E : XK} {D : Ends} {tz : TS} {tA : TA} {i : Nat} {a b : Int} (h : EvA tA σ H [.int a, .int b]) (k : ∀ bs p H1, Rw.Good bs → H p = none → Ex H H1 → H1 p = some (.lst (bs.map V.int)) → tz D (σ.set i (some (.ref p))) H1) :
    tSeq (tAsg (tCall sp__law_bases [] E tA) (gName i)) tz D σ H := h H (Ex.refl H) _ fun H1 e1 => ⟨a, b, rfl, fun bs g p H2 hp e2 h2 => k bs p H2 g (fresh_back e1 hp) (e1.trans e2) h2⟩
end
end Rk
namespace Rk
open PySem PySem.Spec PyProof.Rows L2 Evl
section
variable {P : Program} {w : World} {K : PySem.W.Frag} {mg : Str → Option Value} {base : Heap}
/-! ### a cell of the script -/
def sp__law_cell_at (K : PySem.W.Frag) : Sp := fun vs H Q _ => ∃ (a : Addr) (ns : List Int) (i : Int), vs = [.ref a, .int i] ∧ SqL K H a (ns.map V.int) ∧ 0 ≤ i ∧ ∀ H', Ex H H' → Q (.int (cell ns i)) H'
theorem ok__law_cell_at (L : Lk K mg) : FnOk P w K mg base (L2.CX P w) 1 L.f__law_cell_at L.d__law_cell_at ["_law_script", "_law_k"] (sp__law_cell_at K) := by
  refine L.F__law_cell_at.okX sc__law_cell_at (fun vs H Q E h => ?_) (fun cdv A outer s H vs Q E hr h => ?_)
  · obtain ⟨_, _, _, rfl, _⟩ := h; rfl
  · obtain ⟨a, ns, i, rfl, hS, h0, q⟩ := h
    refine ⟨_, (pss_cons (ps_if (pt_cmpR op_lt (pv 1) (pe_callB call_len_seq (by rfl) L.z_len PySem.boot_len (pa_cons (pv 0) pa_nil)) (nomark _)) (pss_one (ps_ret (pe_ix ix_list (pv 0) (pv 1) (fun _ _ => rfl)))) pss_nil)
      (pss_one (ps_ret pe_int))), ?_⟩
    refine q_when (et_test (ev_op (ev_var rfl) (ev_len (ev_var rfl) hS) rv_I0)) (fun hc H1 e1 => ?_) (fun hc H1 e1 => ?_)
    · have hc' : i < ((ns.map V.int).length : Int) := of_decide_eq_true hc
      rw [List.length_map] at hc'
      have hg : ns[i.toNat]? = some (cell ns i) := by
        unfold cell
        rw [List.getD_eq_getElem?_getD, List.getElem?_eq_getElem (show i.toNat < ns.length by omega)]
        rfl
      have ei : i = ((i.toNat : Nat) : Int) := by omega
      refine s_ret (ev_op (ev_var rfl) (ev_var rfl) (rv_ixL (ex_l e1 hS) (by rw [ei]; exact at_map hg))) fun H2 e2 => ?_
      exact q H2 (e1.trans e2)
    · have hc' : ¬ i < ((ns.map V.int).length : Int) := of_decide_eq_false hc
      rw [List.length_map] at hc'
      have hg : cell ns i = 0 := by
        unfold cell
        rw [List.getD_eq_getElem?_getD, List.getElem?_eq_none (by omega)]
        rfl
      refine s_ret ev_c fun H2 e2 => ?_
      have := q H2 (e1.trans e2)
      rw [hg] at this
      exact this
theorem sv_cell {H : Hp} {a : Addr} {ns : List Int} {i : Int} (hS : SqL K H a (ns.map V.int)) (h0 : 0 ≤ i := by decide) : SpV (sp__law_cell_at K) [.ref a, .int i] H (.int (cell ns i)) :=
  fun H1 e Q q _ => ⟨a, ns, i, rfl, ex_l e hS, h0, q⟩
/-- the k-th cell, written -/
theorem ev_cell {σ : L2.St} {H : Hp} {a : Addr} {ns : List Int} {i : Int} {E : XK} {j : Nat} (hv : σ[j]? = some (some (.ref a))) (hS : SqL K H a (ns.map V.int)) (h0 : 0 ≤ i := by decide) :
    Ev (tCall (sp__law_cell_at K) [] E (tCons (tVar j) (tCons (tC (.int i)) tNil))) σ H (.int (cell ns i)) := ev_call0 (ea_cons (ev_var hv) (ea_cons ev_c ea_nil)) (sv_cell hS h0)
end
end Rk
namespace Rk
open PySem PySem.Spec PyProof.Rows L2 Evl
section
variable {P : Program} {w : World} {K : PySem.W.Frag} {mg : Str → Option Value} {base : Heap}
/-! ### the figures of a row -/
def sp_led (K : PySem.W.Frag) (C : Addr) : Sp := fun vs H Q _ => ∃ (b r : Addr) (bs rs : List Int), vs = [.ref b, .ref r] ∧ BoardAt C H b bs ∧ Rw.Good bs ∧ SqL K H r (rs.map V.int) ∧ rs.length = bs.length ∧ RetL ((Rw.digits bs (Rw.num bs rs)).map V.int) H Q
theorem ok_led (L : Lk K mg) : FnOk P w K mg base (L2.CX P w) 1 L.f_led L.d_led ["self", "row"] (sp_led K L.C) := by
  refine L.F_led.okX sc_led (fun vs H Q E h => ?_) (fun cdv A outer s H vs Q E hr h => ?_)
  · obtain ⟨_, _, _, _, rfl, _⟩ := h; rfl
  · obtain ⟨b, r, bs, rs, rfl, ⟨dx, l, t, hb, hl, ht⟩, g, hS, hlen, q⟩ := h
    refine ⟨_, (pss_cons (ps_set (i := 2) sc_led.nd rfl (Or.inl rfl) (pe_lst pa_nil))
      (pss_cons (ps_for (passes_of rfl) rfl (pi_range1 (by rfl) L.z_range (pa_cons (pe_callB call_len_seq (by rfl) L.z_len PySem.boot_len (pa_cons (pv 1) pa_nil)) pa_nil)) (pg_name (i := 3) sc_led.nd rfl (Or.inl rfl)) (pss_cons (ps_set (i := 4) sc_led.nd rfl (Or.inl rfl) (pe_ix ix_list (pe_fld (pv 0) (by rfl)) (pv 3) (fun _ _ => rfl)))
      (pss_cons (ps_set (i := 5) sc_led.nd rfl (Or.inl rfl) pe_int)
      (pss_cons (ps_for (passes_of rfl) rfl (pi_range3 (by rfl) L.z_range (pa_cons (pe_op op_sub (pv 3) pe_int) (pa_cons (pe_un un_neg pe_int) (pa_cons (pe_un un_neg pe_int) pa_nil)))) (pg_name (i := 6) sc_led.nd rfl (Or.inl rfl)) (pss_one (ps_set (i := 5) sc_led.nd rfl (Or.inl rfl) (pe_op op_mod (pe_op op_add (pe_op op_mul (pv 5) (pe_ix ix_list (pe_fld (pv 0) (by rfl)) (pv 6) (fun _ _ => rfl))) (pe_ix ix_list (pv 2) (pv 6) (fun _ _ => rfl))) (pv 4)))))
      (pss_one (ps_expr (pe_bm PySem.F.plainAttrs_list PySem.F.slot_list_append PySem.F.type_list_append mt_append (pv 2) (pa_cons (pe_op op_mod (pe_op op_mul (pe_op op_sub (pe_ix ix_list (pv 1) (pv 3) (fun _ _ => rfl)) (pv 5)) (pe_ix ix_list (pe_fld (pv 0) (by rfl)) (pv 3) (fun _ _ => rfl))) (pv 4)) pa_nil))))))))
      (pss_one (ps_ret (pv 2))))), ?_⟩
    obtain ⟨x0, x1, hx⟩ := Rw.num_spec g hlen
    generalize Rw.num bs rs = x at x0 x1 hx q
    have h14 := g.len14
    refine q_asgL (el_lst ea_nil (by decide)) fun f H1 hf e1 h1 => ?_
    refine q_forR1 (n := (bs.length : Int)) (ea_cons (ev_is (ev_len (ev_var rfl) (ex_l e1 hS)) (by rw [List.length_map, hlen])) ea_nil) (by omega)
      (fun i σ' H' => ∃ v1 v2 v3 v4, σ' = [some (.ref b), some (.ref r), some (.ref f), v1, v2, v3, v4] ∧ Ex H H' ∧ H' f = some (.lst (((Rw.digits bs x).take i).map V.int)))
      (fun H2 e2 => ⟨none, none, none, none, rfl, e1.trans e2, e2 _ _ h1⟩) ?_ ?_
    · rintro k σ' H2 hk ⟨v1, v2, v3, v4, rfl, e2, h2⟩
      have hk' : k < bs.length := by omega
      have hB : bs[k]? = some bs[k] := List.getElem?_eq_getElem hk'
      generalize bs[k] = m at hB
      have hR : rs[k]? = some (rs[k]'(by omega)) := List.getElem?_eq_getElem (by omega)
      generalize rs[k]'(by omega) = rk at hR
      have m3 := g.get3 hB
      have m0 : 0 < m := by omega
      refine q_asg (ev_op (ev_fld (ev_var rfl) (e2 _ _ hb) L.cl L.nB (bf_bases l t)) (ev_var rfl) (rv_ixL (sq_of (e2 _ _ hl)) (at_map hB))) fun H3 e3 => ?_
      refine q_asg ev_c fun H4 e4 => ?_
      have E4 := (e2.trans e3).trans e4
      have h4 := e4 _ _ (e3 _ _ h2)
      refine q_forD (n := k) (ea_cons (ev_op (ev_var rfl) ev_c rv_I0) (ea_cons (ev_un ev_c ru_i) (ea_cons (ev_un ev_c ru_i) ea_nil))) (by omega) (by omega)
        (fun i σ' H' => ∃ v4, σ' = [some (.ref b), some (.ref r), some (.ref f), some (.int (k : Int)), some (.int m), some (.int (x % Rw.prod (bs.take k) / Rw.prod (bs.take (k - i)) % m)), v4] ∧ i ≤ k ∧ Ex H H' ∧ H' f = some (.lst (((Rw.digits bs x).take k).map V.int)))
        (fun H5 e5 => ⟨_, by rw [Nat.sub_zero, Rw.horner0 g.pos]; rfl, Nat.zero_le _, E4.trans e5, e5 _ _ h4⟩) ?_ ?_
      · rintro i σ' H5 hi ⟨v4, rfl, _, e5, h5⟩
        obtain ⟨j, hj⟩ : ∃ j, j = k - (i + 1) := ⟨_, rfl⟩
        have ej : (k : Int) - 1 - (i : Int) = (j : Int) := by omega
        have hjl : j < bs.length := by omega
        have hJ : bs[j]? = some bs[j] := List.getElem?_eq_getElem hjl
        generalize bs[j] = c at hJ
        have c3 := g.get3 hJ
        have hD : ((Rw.digits bs x).take k)[j]? = some (x / Rw.prod (bs.take j) % c) := by rw [List.getElem?_take_of_lt (by omega)]; exact Rw.digits_get g.pos hJ
        rw [ej]
        refine s_asg (ev_op (ev_op (ev_op (ev_var rfl) (ev_op (ev_fld (ev_var rfl) (e5 _ _ hb) L.cl L.nB (bf_bases l t)) (ev_var rfl) (rv_ixL (sq_of (e5 _ _ hl)) (at_map hJ))) (rv_I (cmulR (by omega))))
          (ev_op (ev_var rfl) (ev_var rfl) (rv_ixL (sq_of h5) (at_map hD))) rv_I0) (ev_var rfl) (rv_I m0)) fun H6 e6 => ?_
        have hh := Rw.horner (m := m) (x := x) (k := k) g.pos hJ (by omega)
        have e7 : k - i = j + 1 := by omega
        refine ⟨some (.int (j : Int)), ?_, by omega, e5.trans e6, e6 _ _ h5⟩
        rw [e7, ← hj, ← hh]
        rfl
      · rintro σ' H5 ⟨v4, rfl, _, e5, h5⟩
        rw [Nat.sub_self, Rw.horner_top]
        refine s_app h5 (ev_var rfl) (ev_op (ev_op (ev_op (ev_op (ev_var rfl) (ev_var rfl) (rv_ixL (ex_l e5 hS) (at_map hR))) (ev_var rfl) rv_I0) (ev_op (ev_fld (ev_var rfl) (e5 _ _ hb) L.cl L.nT (bf_turns l t)) (ev_var rfl) (rv_ixL (sq_of (e5 _ _ ht)) (at_map (Rw.turnsOf_get hB)))) (rv_I (cmulR ?_))) (ev_var rfl) (rv_I m0))
          (by rw [List.length_map, List.length_take, Rw.digits_length]; omega) fun H6 e6 => ?_
        · have tt := g.turns hB
          have := tt.lo
          have := tt.hi
          omega
        · refine ⟨_, _, _, _, rfl, (e5.trans e6).mut hf, ?_⟩
          have tt := g.turns hB
          rw [upd_same, take_next (Rw.digits_get g.pos hB), Rw.fig_step (Rw.prod_pos (Rw.pos_take g.pos k)) m0 tt.eq (hx k m rk hB hR)]
    · rintro σ' H2 ⟨v1, v2, v3, v4, rfl, e2, h2⟩
      rw [Int.toNat_natCast, List.take_of_length_le (by rw [Rw.digits_length]; exact Nat.le_refl _)] at h2
      exact s_ret (ev_var rfl) fun H3 e3 => q f H3 hf (e2.trans e3) (e3 _ _ h2)
theorem sl_led {C b r : Addr} {H : Hp} {bs rs : List Int} (hB : BoardAt C H b bs) (g : Rw.Good bs) (hS : SqL K H r (rs.map V.int)) (hl : rs.length = bs.length) : SpL (sp_led K C) [.ref b, .ref r] H ((Rw.digits bs (Rw.num bs rs)).map V.int) := fun H1 e Q q _ => ⟨b, r, bs, rs, rfl, hB.mono e, g, ex_l e hS, hl, q⟩
end
end Rk
namespace Rk
open PySem PySem.Spec PyProof.Rows L2 Evl
section
variable {P : Program} {w : World} {K : PySem.W.Frag} {mg : Str → Option Value} {base : Heap}
/-! ### what is no row -/
def sp_need_row (K : PySem.W.Frag) (C cR : Addr) : Sp := fun vs H Q E => ∃ (b r : Addr) (bs rs : List Int), vs = [.ref b, .ref r] ∧ BoardAt C H b bs ∧ bs.length ≤ 14 ∧ SqL K H r (rs.map V.int) ∧
  (Rw.IsRow bs rs → ∀ H', Ex H H' → Q .non H') ∧ (¬ Rw.IsRow bs rs → ∀ H', Ex H H' → E (.ref cR) none H')
theorem ok_need_row (L : Lk K mg) : FnOk P w K mg base (L2.CX P w) 1 L.f_need_row L.d_need_row ["self", "row"] (sp_need_row K L.C L.c_NoRow) := by
  refine L.F_need_row.okX sc_need_row (fun vs H Q E h => ?_) (fun cdv A outer s H vs Q E hr h => ?_)
  · obtain ⟨_, _, _, _, rfl, _⟩ := h; rfl
  · obtain ⟨b, r, bs, rs, rfl, ⟨dx, l, t, hb, hl, ht⟩, h14, hS, q, kE⟩ := h
    refine ⟨_, (pss_cons (ps_if (pt_cmpR op_ne (pe_callB call_len_seq (by rfl) L.z_len PySem.boot_len (pa_cons (pv 1) pa_nil)) (pe_callB call_len_seq (by rfl) L.z_len PySem.boot_len (pa_cons (pe_fld (pv 0) (by rfl)) pa_nil)) (nomark _)) (pss_one (ps_raise rfl hk (pmk_own PySem.F.excBase_ValueError L.x_NoRow L.g_NoRow L.e_NoRow (raises_own L.s_NoRow L.t_NoRow) (by rfl)))) pss_nil)
      (pss_one (ps_for (passes_of rfl) rfl (pi_zip (by rfl) L.z_zip (pa_cons (pv 1) (pa_cons (pe_fld (pv 0) (by rfl)) pa_nil))) (pg_tup rfl (pgs_cons (pg_name (i := 2) sc_need_row.nd rfl (Or.inl rfl)) (pgs_cons (pg_name (i := 3) sc_need_row.nd rfl (Or.inl rfl)) pgs_nil))) (pss_one (ps_if (PW.pt (pw_or (pt_cmpR op_lt (pv 2) pe_int (nomark _)) (pw_or1 (pt_cmpR op_ge (pv 2) (pv 3) (nomark _))))) (pss_one (ps_raise rfl hk (pmk_own PySem.F.excBase_ValueError L.x_NoRow L.g_NoRow L.e_NoRow (raises_own L.s_NoRow L.t_NoRow) (by rfl)))) pss_nil))))), ?_⟩
    have hlm : (rs.map V.int).length = rs.length := List.length_map _
    have hln : (bs.map V.int).length = bs.length := List.length_map _
    refine q_when (et_test (ev_op (ev_len (ev_var rfl) hS) (ev_len (ev_fld (ev_var rfl) hb L.cl L.nB (bf_bases l t)) (sq_of hl)) (rv_ne rfl))) (fun hc H1 e1 => ?_) (fun hc H1 e1 => ?_)
    · refine kE (fun w => ?_) H1 e1
      rw [hlm, hln, w.len] at hc
      simp at hc
    have hle : rs.length = bs.length := by
      rw [hlm, hln] at hc
      have hc' : decide (V.int (rs.length : Int) = V.int (bs.length : Int)) = true := by simpa using hc
      have := V.int.inj (of_decide_eq_true hc')
      omega
    refine s_forZip (ev_var rfl) (ex_l e1 hS) (ev_fld (ev_var rfl) (e1 _ _ hb) L.cl L.nB (bf_bases l t)) (sq_of (e1 _ _ hl)) (by rw [hlm, hln, hle])
      (fun i σ' H' => ∃ v1 v2, σ' = [some (.ref b), some (.ref r), v1, v2] ∧ Ex H H' ∧ ∀ (k : Nat) (x m : Int), k < i → rs[k]? = some x → bs[k]? = some m → 0 ≤ x ∧ x < m)
      (fun H2 e2 => ⟨none, none, rfl, e1.trans e2, fun k x m h => absurd h (Nat.not_lt_zero k)⟩) (fun i σ' H' ⟨_, _, _, e, _⟩ => ⟨ex_l e hS, sq_of (e _ _ hl)⟩) ?_ ?_
    · rintro i x y T σ' H2 hx hy ⟨v1, v2, rfl, e2, inv⟩ hT
      obtain ⟨u, hu, rfl⟩ := map_get hx
      obtain ⟨m, hm, rfl⟩ := map_get hy
      have e3 : Ex H (upd H2 T (.tup [.int u, .int m])) := e2.trans (Ex.new hT)
      refine ⟨T, _, rfl, st_of upd_same, rfl, _, _, rfl, _, _, rfl, rfl, ?_⟩
      refine s_when (et_or (et_test (ev_op (ev_var rfl) ev_c rv_I0)) (fun _ => et_test (ev_op (ev_var rfl) (ev_var rfl) rv_I0))) (fun hd H4 e4 => ?_) (fun hd H4 e4 => ?_)
      · rw [Bool.or_eq_true, decide_eq_true_eq, decide_eq_true_eq] at hd
        exact kE (fun w => by have := w.rng i u m hu hm; omega) H4 (e3.trans e4)
      · rw [Bool.or_eq_false_iff, decide_eq_false_iff_not, decide_eq_false_iff_not] at hd
        refine ⟨_, _, rfl, e3.trans e4, fun k x' m' hk hx' hm' => ?_⟩
        by_cases e5 : k = i
        · subst e5
          rw [hu] at hx'
          rw [hm] at hm'
          have := Option.some.inj hx'
          have := Option.some.inj hm'
          omega
        · exact inv k x' m' (by omega) hx' hm'
    · rintro σ' H2 ⟨v1, v2, rfl, e2, inv⟩
      rw [hlm] at inv
      exact q ⟨hle, fun k x m hx hm => inv k x m (List.getElem?_eq_some_iff.mp hx).1 hx hm⟩ H2 e2
theorem sv_need_row {C cR b r : Addr} {H : Hp} {bs rs : List Int} (hB : BoardAt C H b bs) (g : Rw.Good bs) (hS : SqL K H r (rs.map V.int)) (w : Rw.IsRow bs rs) : SpV (sp_need_row K C cR) [.ref b, .ref r] H .non := fun H1 e Q q E => ⟨b, r, bs, rs, rfl, hB.mono e, g.len14, ex_l e hS, fun _ => q, fun n => absurd w n⟩
theorem sd_need_row {C cR b r : Addr} {H : Hp} {E : XK} {bs rs : List Int} (hB : BoardAt C H b bs) (g : Rw.Good bs) (hS : SqL K H r (rs.map V.int)) (w : ¬ Rw.IsRow bs rs) (k : ∀ H', Ex H H' → E (.ref cR) none H') : SpD (sp_need_row K C cR) [.ref b, .ref r] H E :=
  fun H1 e Q => ⟨b, r, bs, rs, rfl, hB.mono e, g.len14, ex_l e hS, fun y => absurd y w, fun _ H' e' => k H' (e.trans e')⟩
end
end Rk
namespace Rk
open PySem PySem.Spec PyProof.Rows L2 Evl
section
variable {P : Program} {w : World} {K : PySem.W.Frag} {mg : Str → Option Value} {base : Heap}
def sp_figures (K : PySem.W.Frag) (C cR : Addr) : Sp := fun vs H Q E => ∃ (b r : Addr) (bs rs : List Int), vs = [.ref b, .ref r] ∧ BoardAt C H b bs ∧ Rw.Good bs ∧ SqL K H r (rs.map V.int) ∧
  (Rw.IsRow bs rs → RetL ((Rw.digits bs (Rw.num bs rs)).map V.int) H Q) ∧ (¬ Rw.IsRow bs rs → ∀ H', Ex H H' → E (.ref cR) none H')
theorem ok_figures (L : Lk K mg) : FnOk P w K mg base (L2.CX P w) 2 L.f_figures L.d_figures ["self", "row"] (sp_figures K L.C L.c_NoRow) := by
  refine L.F_figures.okX sc_figures (fun vs H Q E h => ?_) (fun cdv A outer s H vs Q E hr h => ?_)
  · obtain ⟨_, _, _, _, rfl, _⟩ := h; rfl
  · obtain ⟨b, r, bs, rs, rfl, hB, g, hS, q, kE⟩ := h
    refine ⟨_, (pss_cons (ps_expr (pe_meth (E := E) (pv 0) L.cl L.m_need_row (ok_need_row L) (hr.mono (by decide)) L.b_need_row .nil hx (pa_cons (pv 1) pa_nil)))
      (pss_one (ps_ret (pe_meth (E := E) (pv 0) L.cl L.m_led (ok_led L) (hr.mono (by decide)) L.b_led .nil hx (pa_cons (pv 1) pa_nil))))), ?_⟩
    obtain ⟨dx, l, t, hb, hl, ht⟩ := id hB
    by_cases w : Rw.IsRow bs rs
    case neg => exact q_dv (dv_meth (ev_var rfl) hb (bf_none l t (by decide +kernel) (by decide +kernel)) (ea_cons (ev_var rfl) ea_nil) (sd_need_row hB g hS w (kE w)))
    refine q_drop (ev_meth (ev_var rfl) hb (bf_none l t (by decide +kernel) (by decide +kernel)) (ea_cons (ev_var rfl) ea_nil) (sv_need_row hB g hS w)) fun H1 e1 => ?_
    refine s_retL (el_meth (ev_var rfl) (e1 _ _ hb) (bf_none l t (by decide +kernel) (by decide +kernel)) (ea_cons (ev_var rfl) ea_nil) (sl_led (hB.mono e1) g (ex_l e1 hS) w.len)) fun p H2 hp e2 h2 => ?_
    exact q w p H2 (fresh_back e1 hp) (e1.trans e2) h2
theorem sl_figures {C cR b r : Addr} {H : Hp} {bs rs : List Int} (hB : BoardAt C H b bs) (g : Rw.Good bs) (hS : SqL K H r (rs.map V.int)) (w : Rw.IsRow bs rs) : SpL (sp_figures K C cR) [.ref b, .ref r] H ((Rw.digits bs (Rw.num bs rs)).map V.int) := fun H1 e Q q E => ⟨b, r, bs, rs, rfl, hB.mono e, g, ex_l e hS, fun _ => q, fun n => absurd w n⟩
theorem sd_figures {C cR b r : Addr} {H : Hp} {E : XK} {bs rs : List Int} (hB : BoardAt C H b bs) (g : Rw.Good bs) (hS : SqL K H r (rs.map V.int)) (w : ¬ Rw.IsRow bs rs) (k : ∀ H', Ex H H' → E (.ref cR) none H') : SpD (sp_figures K C cR) [.ref b, .ref r] H E :=
  fun H1 e Q => ⟨b, r, bs, rs, rfl, hB.mono e, g, ex_l e hS, fun y => absurd y w, fun _ H' e' => k H' (e.trans e')⟩
end
end Rk
namespace Rk
open PySem PySem.Spec PyProof.Rows L2 Evl
section
variable {P : Program} {w : World} {K : PySem.W.Frag} {mg : Str → Option Value} {base : Heap}
def sp_tells (K : PySem.W.Frag) (C cR : Addr) : Sp := fun vs H Q E => ∃ (b r : Addr) (bs rs : List Int), vs = [.ref b, .ref r] ∧ BoardAt C H b bs ∧ Rw.Good bs ∧ SqL K H r (rs.map V.int) ∧
  (Rw.IsRow bs rs → ∀ H', Ex H H' → Q (.bl (decide (Rw.num bs rs < Rw.room bs))) H') ∧ (¬ Rw.IsRow bs rs → ∀ H', Ex H H' → E (.ref cR) none H')
theorem ok_tells (L : Lk K mg) : FnOk P w K mg base (L2.CX P w) 3 L.f_tells L.d_tells ["self", "row"] (sp_tells K L.C L.c_NoRow) := by
  refine L.F_tells.okX sc_tells (fun vs H Q E h => ?_) (fun cdv A outer s H vs Q E hr h => ?_)
  · obtain ⟨_, _, _, _, rfl, _⟩ := h; rfl
  · obtain ⟨b, r, bs, rs, rfl, hB, g, hS, q, kE⟩ := h
    refine ⟨_, (pss_one (ps_ret (pe_cmpR (op_eqD hr.units) (pe_slice sl_list (pe_meth (E := E) (pv 0) L.cl L.m_figures (ok_figures L) (hr.mono (by decide)) L.b_figures .nil hx (pa_cons (pv 1) pa_nil)) (po_some (pe_un un_neg pe_int)) po_none) (pe_lst (pa_cons pe_int (pa_cons pe_int pa_nil))) (nomark _)))), ?_⟩
    obtain ⟨dx, l, t, hb, hl, ht⟩ := id hB
    by_cases w : Rw.IsRow bs rs
    case neg => exact s_dvR (dv_op1 (dv_sl (dv_meth (ev_var rfl) hb (bf_none l t (by decide +kernel) (by decide +kernel)) (ea_cons (ev_var rfl) ea_nil) (sd_figures hB g hS w (kE w)))))
    refine s_ret (ev_last2 (bs := bs) g w.len (el_meth (ev_var rfl) hb (bf_none l t (by decide +kernel) (by decide +kernel)) (ea_cons (ev_var rfl) ea_nil) (sl_figures hB g hS w))) fun H1 e1 => q w H1 e1
theorem sv_tells {C cR b r : Addr} {H : Hp} {bs rs : List Int} (hB : BoardAt C H b bs) (g : Rw.Good bs) (hS : SqL K H r (rs.map V.int)) (w : Rw.IsRow bs rs) : SpV (sp_tells K C cR) [.ref b, .ref r] H (.bl (decide (Rw.num bs rs < Rw.room bs))) := fun H1 e Q q E => ⟨b, r, bs, rs, rfl, hB.mono e, g, ex_l e hS, fun _ => q, fun n => absurd w n⟩
theorem sd_tells {C cR b r : Addr} {H : Hp} {E : XK} {bs rs : List Int} (hB : BoardAt C H b bs) (g : Rw.Good bs) (hS : SqL K H r (rs.map V.int)) (w : ¬ Rw.IsRow bs rs) (k : ∀ H', Ex H H' → E (.ref cR) none H') : SpD (sp_tells K C cR) [.ref b, .ref r] H E :=
  fun H1 e Q => ⟨b, r, bs, rs, rfl, hB.mono e, g, ex_l e hS, fun y => absurd y w, fun _ H' e' => k H' (e.trans e')⟩
end
end Rk
namespace Rk
open PySem PySem.Spec PyProof.Rows L2 Evl
section
variable {P : Program} {w : World} {K : PySem.W.Frag} {mg : Str → Option Value} {base : Heap}
/-- a row that tells a number -/
def Tells (bs rs : List Int) : Prop := Rw.IsRow bs rs ∧ Rw.num bs rs < Rw.room bs
theorem tells_row {bs : List Int} {x : Int} (g : Rw.Good bs) (x0 : 0 ≤ x) (x1 : x < Rw.room bs) : Tells bs (Rw.rowOf bs x) := ⟨Rw.isRow_rowOf g x, by rw [Rw.num_rowR g x0 x1]; exact x1⟩
def sp_need_number (K : PySem.W.Frag) (C cR cN : Addr) : Sp := fun vs H Q E => ∃ (b r : Addr) (bs rs : List Int), vs = [.ref b, .ref r] ∧ BoardAt C H b bs ∧ Rw.Good bs ∧ SqL K H r (rs.map V.int) ∧
  (Tells bs rs → ∀ H', Ex H H' → Q .non H') ∧ (¬ Rw.IsRow bs rs → ∀ H', Ex H H' → E (.ref cR) none H') ∧ (Rw.IsRow bs rs → ¬ Tells bs rs → ∀ H', Ex H H' → E (.ref cN) none H')
theorem ok_need_number (L : Lk K mg) : FnOk P w K mg base (L2.CX P w) 4 L.f_need_number L.d_need_number ["self", "row"] (sp_need_number K L.C L.c_NoRow L.c_NoNumber) := by
  refine L.F_need_number.okX sc_need_number (fun vs H Q E h => ?_) (fun cdv A outer s H vs Q E hr h => ?_)
  · obtain ⟨_, _, _, _, rfl, _⟩ := h; rfl
  · obtain ⟨b, r, bs, rs, rfl, hB, g, hS, q, kE, kN⟩ := h
    refine ⟨_, (pss_one (ps_if (pt_not (pt_val (pe_meth (E := E) (pv 0) L.cl L.m_tells (ok_tells L) (hr.mono (by decide)) L.b_tells .nil hx (pa_cons (pv 1) pa_nil)))) (pss_one (ps_raise rfl hk (pmk_own PySem.F.excBase_ValueError L.x_NoNumber L.g_NoNumber L.e_NoNumber (raises_own L.s_NoNumber L.t_NoNumber) (by rfl)))) pss_nil)), ?_⟩
    obtain ⟨dx, l, t, hb, hl, ht⟩ := id hB
    by_cases w : Rw.IsRow bs rs
    case neg => exact s_dvI (dt_not (dt_B (dv_meth (ev_var rfl) hb (bf_none l t (by decide +kernel) (by decide +kernel)) (ea_cons (ev_var rfl) ea_nil) (sd_tells hB g hS w (kE w)))))
    refine s_when (et_not (et_B (ev_meth (ev_var rfl) hb (bf_none l t (by decide +kernel) (by decide +kernel)) (ea_cons (ev_var rfl) ea_nil) (sv_tells hB g hS w)))) (fun hc H1 e1 => ?_) (fun hc H1 e1 => ?_)
    · have hc' : ¬ Rw.num bs rs < Rw.room bs := by simpa using hc
      exact kN w (fun z => hc' z.2) H1 e1
    · have hc' : Rw.num bs rs < Rw.room bs := by simpa using hc
      exact q ⟨w, hc'⟩ H1 e1
theorem sv_need_number {C cR cN b r : Addr} {H : Hp} {bs rs : List Int} (hB : BoardAt C H b bs) (g : Rw.Good bs) (hS : SqL K H r (rs.map V.int)) (w : Tells bs rs) : SpV (sp_need_number K C cR cN) [.ref b, .ref r] H .non :=
  fun H1 e Q q E => ⟨b, r, bs, rs, rfl, hB.mono e, g, ex_l e hS, fun _ => q, fun n => absurd w.1 n, fun _ n => absurd w n⟩
/-- what a row that tells none is refused with -/
def Ref (E : XK) (cR cN : Addr) (bs rs : List Int) (H : Hp) : Prop := (¬ Rw.IsRow bs rs → ∀ H', Ex H H' → E (.ref cR) none H') ∧ (Rw.IsRow bs rs → ∀ H', Ex H H' → E (.ref cN) none H')
theorem Ref.mono {E : XK} {cR cN : Addr} {bs rs : List Int} {H H1 : Hp} (h : Ref E cR cN bs rs H) (e : Ex H H1) : Ref E cR cN bs rs H1 := ⟨fun w H' e' => h.1 w H' (e.trans e'), fun w H' e' => h.2 w H' (e.trans e')⟩
theorem sd_need_number {C cR cN b r : Addr} {H : Hp} {E : XK} {bs rs : List Int} (hB : BoardAt C H b bs) (g : Rw.Good bs) (hS : SqL K H r (rs.map V.int)) (w : ¬ Tells bs rs) (k : Ref E cR cN bs rs H) : SpD (sp_need_number K C cR cN) [.ref b, .ref r] H E :=
  fun H1 e Q => ⟨b, r, bs, rs, rfl, hB.mono e, g, ex_l e hS, fun y => absurd y w, fun n H' e' => k.1 n H' (e.trans e'), fun y _ H' e' => k.2 y H' (e.trans e')⟩
end
end Rk
namespace Rk
open PySem PySem.Spec PyProof.Rows L2 Evl
section
variable {P : Program} {w : World} {K : PySem.W.Frag} {mg : Str → Option Value} {base : Heap}
/-! ### two rows that tell numbers -/
theorem bn {l t : Addr} {m : Str} (h : ((m == ("bases" : Str)) || (m == ("turns" : Str))) = false := by decide +kernel) : (bf l t).lookup m = none := by
  rw [Bool.or_eq_false_iff] at h
  exact bf_none l t h.1 h.2
/-- two rows: what refuses them, the first ahead -/
def RefB (E : XK) (cR cN : Addr) (bs rs us : List Int) (H : Hp) : Prop := (¬ Tells bs rs → Ref E cR cN bs rs H) ∧ (Tells bs rs → ¬ Tells bs us → Ref E cR cN bs us H)
theorem RefB.mono {E : XK} {cR cN : Addr} {bs rs us : List Int} {H H1 : Hp} (h : RefB E cR cN bs rs us H) (e : Ex H H1) : RefB E cR cN bs rs us H1 := ⟨fun w => (h.1 w).mono e, fun w w' => (h.2 w w').mono e⟩
def sp_need_both (K : PySem.W.Frag) (C cR cN : Addr) : Sp := fun vs H Q E => ∃ (b r u : Addr) (bs rs us : List Int), vs = [.ref b, .ref r, .ref u] ∧ BoardAt C H b bs ∧ Rw.Good bs ∧ SqL K H r (rs.map V.int) ∧ SqL K H u (us.map V.int) ∧
  (Tells bs rs → Tells bs us → ∀ H', Ex H H' → Q .non H') ∧ (¬ (Tells bs rs ∧ Tells bs us) → RefB E cR cN bs rs us H)
theorem ok_need_both (L : Lk K mg) : FnOk P w K mg base (L2.CX P w) 5 L.f_need_both L.d_need_both ["board", "one", "other"] (sp_need_both K L.C L.c_NoRow L.c_NoNumber) := by
  refine L.F_need_both.okX sc_need_both (fun vs H Q E h => ?_) (fun cdv A outer s H vs Q E hr h => ?_)
  · obtain ⟨_, _, _, _, _, _, rfl, _⟩ := h; rfl
  · obtain ⟨b, r, u, bs, rs, us, rfl, hB, g, hS, hU, q, kE⟩ := h
    refine ⟨_, (pss_cons (ps_expr (pe_meth (E := E) (pv 0) L.cl L.m_need_number (ok_need_number L) (hr.mono (by decide)) L.b_need_number .nil hx (pa_cons (pv 1) pa_nil)))
      (pss_one (ps_expr (pe_meth (E := E) (pv 0) L.cl L.m_need_number (ok_need_number L) (hr.mono (by decide)) L.b_need_number .nil hx (pa_cons (pv 2) pa_nil))))), ?_⟩
    obtain ⟨dx, l, t, hb, hl, ht⟩ := id hB
    by_cases w : Tells bs rs
    case neg => exact q_dv (dv_meth (ev_var rfl) hb bn (ea_cons (ev_var rfl) ea_nil) (sd_need_number hB g hS w ((kE fun z => w z.1).1 w)))
    refine q_drop (ev_meth (ev_var rfl) hb bn (ea_cons (ev_var rfl) ea_nil) (sv_need_number hB g hS w)) fun H1 e1 => ?_
    by_cases w2 : Tells bs us
    case neg => exact s_dv (dv_meth (ev_var rfl) (e1 _ _ hb) bn (ea_cons (ev_var rfl) ea_nil) (sd_need_number (hB.mono e1) g (ex_l e1 hU) w2 (((kE fun z => w2 z.2).2 w w2).mono e1)))
    refine s_drop (ev_meth (ev_var rfl) (e1 _ _ hb) bn (ea_cons (ev_var rfl) ea_nil) (sv_need_number (hB.mono e1) g (ex_l e1 hU) w2)) fun H2 e2 => ?_
    exact q w w2 H2 (e1.trans e2)
theorem sv_need_both {C cR cN b r u : Addr} {H : Hp} {bs rs us : List Int} (hB : BoardAt C H b bs) (g : Rw.Good bs) (hS : SqL K H r (rs.map V.int)) (hU : SqL K H u (us.map V.int)) (w : Tells bs rs) (w2 : Tells bs us) :
    SpV (sp_need_both K C cR cN) [.ref b, .ref r, .ref u] H .non := fun H1 e Q q E => ⟨b, r, u, bs, rs, us, rfl, hB.mono e, g, ex_l e hS, ex_l e hU, fun _ _ => q, fun n => absurd ⟨w, w2⟩ n⟩
theorem sd_need_both {C cR cN b r u : Addr} {H : Hp} {E : XK} {bs rs us : List Int} (hB : BoardAt C H b bs) (g : Rw.Good bs) (hS : SqL K H r (rs.map V.int)) (hU : SqL K H u (us.map V.int)) (w : ¬ (Tells bs rs ∧ Tells bs us)) (k : RefB E cR cN bs rs us H) :
    SpD (sp_need_both K C cR cN) [.ref b, .ref r, .ref u] H E := fun H1 e Q => ⟨b, r, u, bs, rs, us, rfl, hB.mono e, g, ex_l e hS, ex_l e hU, fun y y2 => absurd ⟨y, y2⟩ w, fun _ => k.mono e⟩
end
end Rk
namespace Rk
open PySem PySem.Spec PyProof.Rows L2 Evl
section
variable {P : Program} {w : World} {K : PySem.W.Frag} {mg : Str → Option Value} {base : Heap}
/-! ### within: the row, if it tells a number -/
def sp_within (K : PySem.W.Frag) (C cO : Addr) : Sp := fun vs H Q E => ∃ (b r : Addr) (bs rs : List Int), vs = [.ref b, .ref r] ∧ BoardAt C H b bs ∧ Rw.Good bs ∧ SqL K H r (rs.map V.int) ∧ rs.length = bs.length ∧
  (Rw.num bs rs < Rw.room bs → ∀ H', Ex H H' → Q (.ref r) H') ∧ (¬ Rw.num bs rs < Rw.room bs → ∀ H', Ex H H' → E (.ref cO) none H')
theorem ok_within (L : Lk K mg) : FnOk P w K mg base (L2.CX P w) 2 L.f_within L.d_within ["board", "row"] (sp_within K L.C L.c_OutOfRoom) := by
  refine L.F_within.okX sc_within (fun vs H Q E h => ?_) (fun cdv A outer s H vs Q E hr h => ?_)
  · obtain ⟨_, _, _, _, rfl, _⟩ := h; rfl
  · obtain ⟨b, r, bs, rs, rfl, hB, g, hS, hlen, q, kE⟩ := h
    refine ⟨_, (pss_cons (ps_if (pt_cmpR (op_neD hr.units) (pe_slice sl_list (pe_meth (E := E) (pv 0) L.cl L.m_led (ok_led L) (hr.mono (by decide)) L.b_led .nil hx (pa_cons (pv 1) pa_nil)) (po_some (pe_un un_neg pe_int)) po_none) (pe_lst (pa_cons pe_int (pa_cons pe_int pa_nil))) (nomark _)) (pss_one (ps_raise rfl hk (pmk_own PySem.F.excBase_ValueError L.x_OutOfRoom L.g_OutOfRoom L.e_OutOfRoom (raises_own L.s_OutOfRoom L.t_OutOfRoom) (by rfl)))) pss_nil)
      (pss_one (ps_ret (pv 1)))), ?_⟩
    obtain ⟨dx, l, t, hb, hl, ht⟩ := id hB
    refine q_when (et_test (ev_last2N (bs := bs) g hlen (el_meth (ev_var rfl) hb (bf_none l t (by decide +kernel) (by decide +kernel)) (ea_cons (ev_var rfl) ea_nil) (sl_led hB g hS hlen)))) (fun hc H1 e1 => ?_) (fun hc H1 e1 => ?_)
    · exact kE (by simpa using hc) H1 e1
    · exact s_ret (ev_var rfl) fun H2 e2 => q (by simpa using hc) H2 (e1.trans e2)
section
variable {σ : L2.St} {H : Hp} {ta tl : TE} {E : XK}
theorem el_within {C cO b : Addr} {bs rs : List Int} (hb : Ev ta σ H (.ref b)) (hB : BoardAt C H b bs) (g : Rw.Good bs) (hl : EvL tl σ H (rs.map V.int)) (hlen : rs.length = bs.length) (h : Rw.num bs rs < Rw.room bs) :
    EvL (tCall (sp_within K C cO) [] E (tCons ta (tCons tl tNil))) σ H (rs.map V.int) := fun H1 e1 Q q =>
  hb H1 e1 _ fun H2 e2 => hl H2 (e1.trans e2) _ fun p H3 hp e3 h3 => ⟨b, p, bs, rs, rfl, hB.mono ((e1.trans e2).trans e3), g, sq_of h3, hlen, fun _ H' e' => q p H' (fresh_back e2 hp) ((e2.trans e3).trans e') (e' _ _ h3), fun n => absurd h n⟩
theorem dv_within {C cO b : Addr} {bs rs : List Int} (hb : Ev ta σ H (.ref b)) (hB : BoardAt C H b bs) (g : Rw.Good bs) (hl : EvL tl σ H (rs.map V.int)) (hlen : rs.length = bs.length) (h : ¬ Rw.num bs rs < Rw.room bs) (k : ∀ H', Ex H H' → E (.ref cO) none H') :
    Dv (tCall (sp_within K C cO) [] E (tCons ta (tCons tl tNil))) σ H := fun H1 e1 Q =>
  hb H1 e1 _ fun H2 e2 => hl H2 (e1.trans e2) _ fun p H3 hp e3 h3 => ⟨b, p, bs, rs, rfl, hB.mono ((e1.trans e2).trans e3), g, sq_of h3, hlen, fun y => absurd y h, fun _ H' e' => k H' (((e1.trans e2).trans e3).trans e')⟩
end
end
end Rk
namespace Rk
open PySem PySem.Spec PyProof.Rows L2 Evl
section
variable {P : Program} {w : World} {K : PySem.W.Frag} {mg : Str → Option Value} {base : Heap}
/-! ### summed -/
def sp_summed (K : PySem.W.Frag) (C cO : Addr) : Sp := fun vs H Q E => ∃ (b r u : Addr) (bs rs us : List Int), vs = [.ref b, .ref r, .ref u] ∧ BoardAt C H b bs ∧ Rw.Good bs ∧ SqL K H r (rs.map V.int) ∧ SqL K H u (us.map V.int) ∧ (Rw.IsRow bs rs ∧ Rw.num bs rs < Rw.room bs) ∧ (Rw.IsRow bs us ∧ Rw.num bs us < Rw.room bs) ∧
  (Rw.num bs rs + Rw.num bs us < Rw.room bs → RetL ((Rw.rowOf bs (Rw.num bs rs + Rw.num bs us)).map V.int) H Q) ∧ (¬ Rw.num bs rs + Rw.num bs us < Rw.room bs → ∀ H', Ex H H' → E (.ref cO) none H')
theorem q_zip {σ : L2.St} {H : Hp} {D : Ends} {tz : TS} {tA : TA} {i : Nat} {a b : Addr} {xs ys : List V} (h : EvA tA σ H [.ref a, .ref b]) (hx : SqL K H a xs) (hy : SqL K H b ys) (hl : xs.length = ys.length)
    (k : ∀ p (ts : List Addr) H1, H p = none → Ex H H1 → H1 p = some (.lst (ts.map V.ref)) → ts.length = xs.length → (∀ (i : Nat) (t : Addr) (x y : V), ts[i]? = some t → xs[i]? = some x → ys[i]? = some y → H1 t = some (.tup [x, y])) → tz D (σ.set i (some (.ref p))) H1) :
    tSeq (tAsg (RkZ.tListZip K tA) (gName i)) tz D σ H :=
  h H (Ex.refl H) _ fun H1 e1 => ⟨a, b, xs, ys, rfl, ex_l e1 hx, ex_l e1 hy, hl, fun H' p ts e' hp hh hlen hat => k p ts H' (fresh_back e1 hp) (e1.trans e') hh hlen hat⟩
theorem ok_summed (L : Lk K mg) : FnOk P w K mg base (L2.CX P w) 3 L.f_summed L.d_summed ["board", "one", "other"] (sp_summed K L.C L.c_OutOfRoom) := by
  refine L.F_summed.okX sc_summed (fun vs H Q E h => ?_) (fun cdv A outer s H vs Q E hr h => ?_)
  · obtain ⟨_, _, _, _, _, _, rfl, _⟩ := h; rfl
  · obtain ⟨b, r, u, bs, rs, us, rfl, hB, g, hS, hU, w1, w2, q, kO⟩ := h
    refine ⟨_, (pss_cons (ps_set (i := 3) sc_summed.nd rfl (Or.inr rfl) (RkZ.pe_listZip rfl (by rfl) L.z_list (by rfl) L.z_zip (pa_cons (pv 1) (pa_cons (pv 2) pa_nil))))
      (pss_one (ps_ret (pe_call (E := E) (ok_within L) (hr.mono (by decide)) (by rfl) L.g_within L.k_within L.b_within .nil hx (pa_cons (pv 0) (pa_cons (pe_lc (own := [("k", 4)]) (g := gName 4) (tt := tYes) rfl sc_summed.nd (pi_range1 (by rfl) L.z_range (pa_cons (pe_callB call_len_seq (by rfl) L.z_len PySem.boot_len (pa_cons (pv 1) pa_nil)) pa_nil)) (blkOk_by (own := [("k", 4)]) (N := ["board", "one", "other", "pairs", "k"]) (sc := defScope s_summed) (by decide +kernel)) (fun _ _ _ _ _ => pg_name (i := 4) sc_summed.nd rfl (Or.inl rfl)) (fun _ _ _ _ _ => by exact pts_nil) (fun _ _ _ _ _ => by exact (pe_op op_mod (pe_op op_add (pe_ix (ix_tupK (K := K)) (pe_ix (ix_listK (K := K)) (pv 3) (pv 4) (fun _ _ => rfl)) pe_int (fun _ _ => rfl)) (pe_ix (ix_tupK (K := K)) (pe_ix (ix_listK (K := K)) (pv 3) (pv 4) (fun _ _ => rfl)) pe_int (fun _ _ => rfl))) (pe_ix (ix_listK (K := K)) (pe_fldK (K := K) (pv 0) (by rfl)) (pv 4) (fun _ _ => rfl))))) pa_nil)))))), ?_⟩
    obtain ⟨dx, l, t, hb, hl, ht⟩ := id hB
    have h14 := g.len14
    obtain ⟨x0, _, _⟩ := Rw.num_spec g w1.1.len
    obtain ⟨y0, _, _⟩ := Rw.num_spec g w2.1.len
    have x1 := w1.2
    have y1 := w2.2
    have hx : ∀ {k : Nat} {m z : Int}, bs[k]? = some m → rs[k]? = some z → Rw.num bs rs % m = z := fun hm hz => by
      have := w1.1.rng _ _ _ hz hm
      rw [Rw.num_get g w1.1.len hm hz, Int.emod_eq_of_lt this.1 this.2]
    have hy : ∀ {k : Nat} {m z : Int}, bs[k]? = some m → us[k]? = some z → Rw.num bs us % m = z := fun hm hz => by
      have := w2.1.rng _ _ _ hz hm
      rw [Rw.num_get g w2.1.len hm hz, Int.emod_eq_of_lt this.1 this.2]
    have hlr := w1.1.len
    have hlu := w2.1.len
    refine q_zip (ea_cons (ev_var rfl) (ea_cons (ev_var rfl) ea_nil)) hS hU (by rw [List.length_map, List.length_map, hlr, hlu]) fun zp ts H1 hzp e1 hz1 hzl hat => ?_
    rw [List.length_map, hlr] at hzl
    generalize Rw.num bs rs = x at *
    generalize Rw.num bs us = y at *
    have row : EvL (tLc (iRng1 (tCons (tCB (rLenS K) (tCons (tVar 1) tNil)) tNil)) (gName 4) tYes
        (tOp (rI (fun _ j => 0 < j) fun i j => .int (i % j)) (tOp (rI0 fun i j => .int (i + j)) (tOp (rIxT K) (tOp (rIxL K) (tVar 3) (tVar 4)) (tC (.int 0))) (tOp (rIxT K) (tOp (rIxL K) (tVar 3) (tVar 4)) (tC (.int 1)))) (tOp (rIxL K) (tFld K (tVar 0) "bases") (tVar 4))) [4])
        [some (V.ref b), some (V.ref r), some (V.ref u), some (V.ref zp), none] H1 ((Rw.rowOf bs (x + y)).map V.int) := by
      refine el_mapR (n := bs.length) (ea_cons (ev_is (ev_len (ev_var rfl) (ex_l e1 hS)) (by rw [List.length_map, hlr])) ea_nil) (by omega) (Rw.rowOf_length _ _) (fun _ => rfl) fun k z H3 e3 hk hz => ?_
      have E3 := e1.trans e3
      have hB' : bs[k]? = some bs[k] := List.getElem?_eq_getElem hk
      generalize bs[k] = m at hB'
      have m3 := g.get3 hB'
      have hR : rs[k]? = some (rs[k]'(by omega)) := List.getElem?_eq_getElem (by omega)
      have hUk : us[k]? = some (us[k]'(by omega)) := List.getElem?_eq_getElem (by omega)
      generalize rs[k]'(by omega) = xk at hR
      generalize us[k]'(by omega) = yk at hUk
      have hT : ts[k]? = some (ts[k]'(by omega)) := List.getElem?_eq_getElem (by omega)
      generalize ts[k]'(by omega) = tk at hT
      have htk := e3 _ _ (hat k tk (.int xk) (.int yk) hT (by rw [List.getElem?_map, hR]; rfl) (by rw [List.getElem?_map, hUk]; rfl))
      have i0 : atI ([V.int xk, V.int yk] : List V) 0 = some (V.int xk) := atI_nat (j := 0) rfl
      have i1 : atI ([V.int xk, V.int yk] : List V) 1 = some (V.int yk) := atI_nat (j := 1) rfl
      have ik : atI (ts.map V.ref) (k : Int) = some (V.ref tk) := atI_nat (by rw [List.getElem?_map, hT]; rfl)
      rw [Rw.rowOf_get hB'] at hz
      refine ev_is (ev_op (ev_op (ev_op (ev_op (ev_var rfl) (ev_var rfl) (rv_ixL (sq_of (e3 _ _ hz1)) ik)) ev_c (rv_ixT (st_of htk) i0)) (ev_op (ev_op (ev_var rfl) (ev_var rfl) (rv_ixL (sq_of (e3 _ _ hz1)) ik)) ev_c (rv_ixT (st_of htk) i1)) rv_I0)
        (ev_op (ev_fld (ev_var rfl) (E3 _ _ hb) L.cl L.nB (bf_bases l t)) (ev_var rfl) (rv_ixL (sq_of (E3 _ _ hl)) (at_map hB'))) (rv_I (show 0 < m by omega))) ?_
      rw [← Option.some.inj hz, ← hx hB' hR, ← hy hB' hUk, ← Int.add_emod]
    have nm := Rw.num_sum g x0 x1 y0 y1
    by_cases hd : x + y < Rw.room bs
    · refine s_retL (el_within (ev_var rfl) (hB.mono e1) g row (Rw.rowOf_length _ _) (by rw [nm]; exact hd)) fun p H2 hp e2 h2 => ?_
      exact q hd p H2 (fresh_back e1 hp) (e1.trans e2) h2
    · exact s_dvR (dv_within (ev_var rfl) (hB.mono e1) g row (Rw.rowOf_length _ _) (by rw [nm]; exact hd) fun H' e' => kO hd H' (e1.trans e'))
theorem sl_summed {C cO b r u : Addr} {H : Hp} {bs rs us : List Int} (hB : BoardAt C H b bs) (g : Rw.Good bs) (hS : SqL K H r (rs.map V.int)) (hU : SqL K H u (us.map V.int)) (w : (Rw.IsRow bs rs ∧ Rw.num bs rs < Rw.room bs)) (w2 : (Rw.IsRow bs us ∧ Rw.num bs us < Rw.room bs)) (h : Rw.num bs rs + Rw.num bs us < Rw.room bs) :
    SpL (sp_summed K C cO) [.ref b, .ref r, .ref u] H ((Rw.rowOf bs (Rw.num bs rs + Rw.num bs us)).map V.int) := fun H1 e Q q E => ⟨b, r, u, bs, rs, us, rfl, hB.mono e, g, ex_l e hS, ex_l e hU, w, w2, fun _ => q, fun n => absurd h n⟩
theorem sd_summed {C cO b r u : Addr} {H : Hp} {E : XK} {bs rs us : List Int} (hB : BoardAt C H b bs) (g : Rw.Good bs) (hS : SqL K H r (rs.map V.int)) (hU : SqL K H u (us.map V.int)) (w : (Rw.IsRow bs rs ∧ Rw.num bs rs < Rw.room bs)) (w2 : (Rw.IsRow bs us ∧ Rw.num bs us < Rw.room bs)) (h : ¬ Rw.num bs rs + Rw.num bs us < Rw.room bs) (k : ∀ H', Ex H H' → E (.ref cO) none H') :
    SpD (sp_summed K C cO) [.ref b, .ref r, .ref u] H E := fun H1 e Q => ⟨b, r, u, bs, rs, us, rfl, hB.mono e, g, ex_l e hS, ex_l e hU, w, w2, fun y => absurd y h, fun _ H' e' => k H' (e.trans e')⟩
end
end Rk
namespace Rk
open PySem PySem.Spec PyProof.Rows L2 Evl
section
variable {P : Program} {w : World} {K : PySem.W.Frag} {mg : Str → Option Value} {base : Heap}
/-! ### added -/
def sp_added (K : PySem.W.Frag) (C cR cN cO : Addr) : Sp := fun vs H Q E => ∃ (b r u : Addr) (bs rs us : List Int), vs = [.ref b, .ref r, .ref u] ∧ BoardAt C H b bs ∧ Rw.Good bs ∧ SqL K H r (rs.map V.int) ∧ SqL K H u (us.map V.int) ∧
  (Tells bs rs → Tells bs us → Rw.num bs rs + Rw.num bs us < Rw.room bs → RetL ((Rw.rowOf bs (Rw.num bs rs + Rw.num bs us)).map V.int) H Q) ∧
  (Tells bs rs → Tells bs us → ¬ Rw.num bs rs + Rw.num bs us < Rw.room bs → ∀ H', Ex H H' → E (.ref cO) none H') ∧ (¬ (Tells bs rs ∧ Tells bs us) → RefB E cR cN bs rs us H)
theorem ok_added (L : Lk K mg) : FnOk P w K mg base (L2.CX P w) 6 L.f_added L.d_added ["board", "one", "other"] (sp_added K L.C L.c_NoRow L.c_NoNumber L.c_OutOfRoom) := by
  refine L.F_added.okX sc_added (fun vs H Q E h => ?_) (fun cdv A outer s H vs Q E hr h => ?_)
  · obtain ⟨_, _, _, _, _, _, rfl, _⟩ := h; rfl
  · obtain ⟨b, r, u, bs, rs, us, rfl, hB, g, hS, hU, q, kO, kE⟩ := h
    refine ⟨_, (pss_cons (ps_expr (pe_call (E := E) (ok_need_both L) (hr.mono (by decide)) (by rfl) L.g_need_both L.k_need_both L.b_need_both .nil hx (pa_cons (pv 0) (pa_cons (pv 1) (pa_cons (pv 2) pa_nil)))))
      (pss_one (ps_ret (pe_call (E := E) (ok_summed L) (hr.mono (by decide)) (by rfl) L.g_summed L.k_summed L.b_summed .nil hx (pa_cons (pv 0) (pa_cons (pv 1) (pa_cons (pv 2) pa_nil))))))), ?_⟩
    by_cases w : Tells bs rs ∧ Tells bs us
    case neg => exact q_dv (dv_call (ea_cons (ev_var rfl) (ea_cons (ev_var rfl) (ea_cons (ev_var rfl) ea_nil))) (sd_need_both hB g hS hU w (kE w)))
    obtain ⟨w1, w2⟩ := w
    refine q_drop (ev_call0 (ea_cons (ev_var rfl) (ea_cons (ev_var rfl) (ea_cons (ev_var rfl) ea_nil))) (sv_need_both hB g hS hU w1 w2)) fun H1 e1 => ?_
    by_cases hd : Rw.num bs rs + Rw.num bs us < Rw.room bs
    · refine s_retL (el_call0 (ea_cons (ev_var rfl) (ea_cons (ev_var rfl) (ea_cons (ev_var rfl) ea_nil))) (sl_summed (hB.mono e1) g (ex_l e1 hS) (ex_l e1 hU) w1 w2 hd)) fun p H2 hp e2 h2 => ?_
      exact q w1 w2 hd p H2 (fresh_back e1 hp) (e1.trans e2) h2
    · exact s_dvR (dv_call (ea_cons (ev_var rfl) (ea_cons (ev_var rfl) (ea_cons (ev_var rfl) ea_nil))) (sd_summed (hB.mono e1) g (ex_l e1 hS) (ex_l e1 hU) w1 w2 hd fun H' e' => kO w1 w2 hd H' (e1.trans e')))
end
end Rk
namespace Rk
open PySem PySem.Spec PyProof.Rows L2 Evl
section
variable {P : Program} {w : World} {K : PySem.W.Frag} {mg : Str → Option Value} {base : Heap}
/-! ### compared -/
/-- two rows: what refuses them, the first ahead -/
def Ref2 (E : XK) (cR cN : Addr) (bs rs us : List Int) (H : Hp) : Prop := (¬ Tells bs rs → Ref E cR cN bs rs H) ∧ (Tells bs rs → ¬ Tells bs us → Ref E cR cN bs us H)
theorem Ref2.mono {E : XK} {cR cN : Addr} {bs rs us : List Int} {H H1 : Hp} (h : Ref2 E cR cN bs rs us H) (e : Ex H H1) : Ref2 E cR cN bs rs us H1 := ⟨fun w => (h.1 w).mono e, fun w w' => (h.2 w w').mono e⟩
def cmp3 (x y : Int) : Int := if x < y then -1 else if y < x then 1 else 0
def sp_compared (K : PySem.W.Frag) (C cR cN : Addr) : Sp := fun vs H Q E => ∃ (b r u : Addr) (bs rs us : List Int), vs = [.ref b, .ref r, .ref u] ∧ BoardAt C H b bs ∧ Rw.Good bs ∧ SqL K H r (rs.map V.int) ∧ SqL K H u (us.map V.int) ∧
  (Tells bs rs → Tells bs us → ∀ H', Ex H H' → Q (.int (cmp3 (Rw.num bs rs) (Rw.num bs us))) H') ∧ (¬ (Tells bs rs ∧ Tells bs us) → Ref2 E cR cN bs rs us H)
theorem ok_compared (L : Lk K mg) : FnOk P w K mg base (L2.CX P w) 5 L.f_compared L.d_compared ["self", "one", "other"] (sp_compared K L.C L.c_NoRow L.c_NoNumber) := by
  refine L.F_compared.okX sc_compared (fun vs H Q E h => ?_) (fun cdv A outer s H vs Q E hr h => ?_)
  · obtain ⟨_, _, _, _, _, _, rfl, _⟩ := h; rfl
  · obtain ⟨b, r, u, bs, rs, us, rfl, hB, g, hS, hU, q, kE⟩ := h
    refine ⟨_, (pss_cons (ps_expr (pe_meth (E := E) (pv 0) L.cl L.m_need_number (ok_need_number L) (hr.mono (by decide)) L.b_need_number .nil hx (pa_cons (pv 1) pa_nil)))
      (pss_cons (ps_expr (pe_meth (E := E) (pv 0) L.cl L.m_need_number (ok_need_number L) (hr.mono (by decide)) L.b_need_number .nil hx (pa_cons (pv 2) pa_nil)))
      (pss_cons (ps_set (i := 3) sc_compared.nd rfl (Or.inl rfl) (pe_meth (E := E) (pv 0) L.cl L.m_led (ok_led L) (hr.mono (by decide)) L.b_led .nil hx (pa_cons (pv 1) pa_nil)))
      (pss_cons (ps_set (i := 4) sc_compared.nd rfl (Or.inl rfl) (pe_meth (E := E) (pv 0) L.cl L.m_led (ok_led L) (hr.mono (by decide)) L.b_led .nil hx (pa_cons (pv 2) pa_nil)))
      (pss_cons (ps_for (passes_of rfl) rfl (pi_range3 (by rfl) L.z_range (pa_cons (pe_op op_sub (pe_callB call_len_seq (by rfl) L.z_len PySem.boot_len (pa_cons (pv 3) pa_nil)) pe_int) (pa_cons (pe_un un_neg pe_int) (pa_cons (pe_un un_neg pe_int) pa_nil)))) (pg_name (i := 5) sc_compared.nd rfl (Or.inl rfl)) (pss_cons (ps_if (pt_cmpR op_lt (pe_ix ix_list (pv 3) (pv 5) (fun _ _ => rfl)) (pe_ix ix_list (pv 4) (pv 5) (fun _ _ => rfl)) (nomark _)) (pss_one (ps_ret (pe_un un_neg pe_int))) pss_nil)
      (pss_one (ps_if (pt_cmpR op_gt (pe_ix ix_list (pv 3) (pv 5) (fun _ _ => rfl)) (pe_ix ix_list (pv 4) (pv 5) (fun _ _ => rfl)) (nomark _)) (pss_one (ps_ret pe_int)) pss_nil))))
      (pss_one (ps_ret pe_int))))))), ?_⟩
    obtain ⟨dx, l, t, hb, hl, ht⟩ := id hB
    have h14 := g.len14
    have nn : ∀ {m : Str}, (m == ("bases" : Str)) = false → (m == ("turns" : Str)) = false → (bf l t).lookup m = none := fun h1 h2 => bf_none l t h1 h2
    by_cases w : Tells bs rs
    case neg => exact q_dv (dv_meth (ev_var rfl) hb (nn (by decide +kernel) (by decide +kernel)) (ea_cons (ev_var rfl) ea_nil) (sd_need_number hB g hS w ((kE fun z => w z.1).1 w)))
    refine q_drop (ev_meth (ev_var rfl) hb (nn (by decide +kernel) (by decide +kernel)) (ea_cons (ev_var rfl) ea_nil) (sv_need_number hB g hS w)) fun H1 e1 => ?_
    by_cases w2 : Tells bs us
    case neg => exact q_dv (dv_meth (ev_var rfl) (e1 _ _ hb) (nn (by decide +kernel) (by decide +kernel)) (ea_cons (ev_var rfl) ea_nil) (sd_need_number (hB.mono e1) g (ex_l e1 hU) w2 (((kE fun z => w2 z.2).2 w w2).mono e1)))
    refine q_drop (ev_meth (ev_var rfl) (e1 _ _ hb) (nn (by decide +kernel) (by decide +kernel)) (ea_cons (ev_var rfl) ea_nil) (sv_need_number (hB.mono e1) g (ex_l e1 hU) w2)) fun H2 e2 => ?_
    have E2 := e1.trans e2
    obtain ⟨x0, x1, _⟩ := Rw.num_spec g w.1.len
    obtain ⟨y0, y1, _⟩ := Rw.num_spec g w2.1.len
    have q' := q w w2
    refine q_asgL (el_meth (ev_var rfl) (E2 _ _ hb) (nn (by decide +kernel) (by decide +kernel)) (ea_cons (ev_var rfl) ea_nil) (sl_led (hB.mono E2) g (ex_l E2 hS) w.1.len)) fun f H3 hf e3 h3 => ?_
    have E3 := E2.trans e3
    refine q_asgL (el_meth (ev_var rfl) (E3 _ _ hb) (nn (by decide +kernel) (by decide +kernel)) (ea_cons (ev_var rfl) ea_nil) (sl_led (hB.mono E3) g (ex_l E3 hU) w2.1.len)) fun f2 H4 hf2 e4 h4 => ?_
    have E4 := E3.trans e4
    have h3 := e4 _ _ h3
    generalize Rw.num bs rs = x at x0 x1 q' h3
    generalize Rw.num bs us = y at y0 y1 q' h4
    have hlm : ((Rw.digits bs x).map V.int).length = bs.length := by rw [List.length_map, Rw.digits_length]
    refine q_forD (n := bs.length) (ea_cons (ev_op (ev_len (ev_var rfl) (sq_of h3)) ev_c rv_I0) (ea_cons (ev_un ev_c ru_i) (ea_cons (ev_un ev_c ru_i) ea_nil))) (by rw [hlm]; omega) (by rw [hlm]; omega)
      (fun i σ' H' => ∃ v4, σ' = [some (.ref b), some (.ref r), some (.ref u), some (.ref f), some (.ref f2), v4] ∧ i ≤ bs.length ∧ Ex H4 H' ∧ x / Rw.prod (bs.take (bs.length - i)) = y / Rw.prod (bs.take (bs.length - i)))
      (fun H5 e5 => ⟨none, rfl, Nat.zero_le _, e5, by rw [Nat.sub_zero, List.take_length, Int.ediv_eq_zero_of_lt x0 x1, Int.ediv_eq_zero_of_lt y0 y1]⟩) ?_ ?_
    · rintro i σ' H5 hi ⟨v4, rfl, _, e5, hxy⟩
      obtain ⟨j, hj⟩ : ∃ j, j = bs.length - (i + 1) := ⟨_, rfl⟩
      have ej : (((Rw.digits bs x).map V.int).length : Int) - 1 - (i : Int) = (j : Int) := by rw [hlm]; omega
      have hjl : j < bs.length := by omega
      have hJ : bs[j]? = some bs[j] := List.getElem?_eq_getElem hjl
      generalize bs[j] = c at hJ
      have c3 := g.get3 hJ
      have e7 : bs.length - i = j + 1 := by omega
      rw [e7] at hxy
      have sx := Rw.numb_step (x := x) g.pos hJ
      have sy := Rw.numb_step (x := y) g.pos hJ
      rw [hxy] at sx
      have pp := Rw.prod_pos (Rw.pos_take g.pos j)
      have lx : ∀ {k : Nat} {H'}, Ex H5 H' → H' f = some (.lst ((Rw.digits bs x).map V.int)) := fun e => e _ _ (e5 _ _ h3)
      have ly : ∀ {k : Nat} {H'}, Ex H5 H' → H' f2 = some (.lst ((Rw.digits bs y).map V.int)) := fun e => e _ _ (e5 _ _ h4)
      rw [ej]
      have dgx := Rw.digits_get (x := x) g.pos hJ
      have dgy := Rw.digits_get (x := y) g.pos hJ
      generalize hdx : x / Rw.prod (bs.take j) % c = ax at dgx sx
      generalize hdy : y / Rw.prod (bs.take j) % c = ay at dgy sy
      refine q_when (et_test (ev_op (ev_op (ev_var rfl) (ev_var rfl) (rv_ixL (sq_of (lx (k := 0) (Ex.refl H5))) (at_map dgx))) (ev_op (ev_var rfl) (ev_var rfl) (rv_ixL (sq_of (ly (k := 0) (Ex.refl H5))) (at_map dgy))) rv_I0)) (fun hc H6 e6 => ?_) (fun hc H6 e6 => ?_)
      · have hc' : ax < ay := of_decide_eq_true hc
        have hlt : x / Rw.prod (bs.take j) < y / Rw.prod (bs.take j) := by omega
        have : x < y := by
          have := Int.lt_of_not_ge (fun hge : y ≤ x => by have := Int.ediv_le_ediv pp hge; omega)
          exact this
        refine s_ret (ev_un ev_c ru_i) fun H7 e7' => ?_
        have z := q' H7 (((E4.trans e5).trans e6).trans e7')
        rw [show cmp3 x y = -1 by unfold cmp3; rw [if_pos this]] at z
        exact z
      have hc' : ¬ ax < ay := of_decide_eq_false hc
      refine s_when (et_test (ev_op (ev_op (ev_var rfl) (ev_var rfl) (rv_ixL (sq_of (lx (k := 0) e6)) (at_map dgx))) (ev_op (ev_var rfl) (ev_var rfl) (rv_ixL (sq_of (ly (k := 0) e6)) (at_map dgy))) rv_I0)) (fun hd H7 e7' => ?_) (fun hd H7 e7' => ?_)
      · have hd' : ay < ax := of_decide_eq_true hd
        have hlt : y / Rw.prod (bs.take j) < x / Rw.prod (bs.take j) := by omega
        have : y < x := Int.lt_of_not_ge (fun hge : x ≤ y => by have := Int.ediv_le_ediv pp hge; omega)
        refine s_ret ev_c fun H8 e8 => ?_
        have z := q' H8 ((((E4.trans e5).trans e6).trans e7').trans e8)
        rw [show cmp3 x y = 1 by unfold cmp3; rw [if_neg (by omega), if_pos this]] at z
        exact z
      · have hd' : ¬ ay < ax := of_decide_eq_false hd
        refine ⟨_, rfl, by omega, (e5.trans e6).trans e7', ?_⟩
        rw [← hj]
        omega
    · rintro σ' H5 ⟨v4, rfl, _, e5, hxy⟩
      rw [Nat.sub_self, show x / Rw.prod (bs.take 0) = x by simp [Rw.prod], show y / Rw.prod (bs.take 0) = y by simp [Rw.prod]] at hxy
      refine s_ret ev_c fun H6 e6 => ?_
      have z := q' H6 ((E4.trans e5).trans e6)
      rw [show cmp3 x y = 0 by unfold cmp3; rw [if_neg (by omega), if_neg (by omega)]] at z
      exact z
theorem sv_compared {C cR cN b r u : Addr} {H : Hp} {bs rs us : List Int} (hB : BoardAt C H b bs) (g : Rw.Good bs) (hS : SqL K H r (rs.map V.int)) (hU : SqL K H u (us.map V.int)) (w : Tells bs rs) (w2 : Tells bs us) :
    SpV (sp_compared K C cR cN) [.ref b, .ref r, .ref u] H (.int (cmp3 (Rw.num bs rs) (Rw.num bs us))) := fun H1 e Q q E => ⟨b, r, u, bs, rs, us, rfl, hB.mono e, g, ex_l e hS, ex_l e hU, fun _ _ => q, fun n => absurd ⟨w, w2⟩ n⟩
theorem sd_compared {C cR cN b r u : Addr} {H : Hp} {E : XK} {bs rs us : List Int} (hB : BoardAt C H b bs) (g : Rw.Good bs) (hS : SqL K H r (rs.map V.int)) (hU : SqL K H u (us.map V.int)) (w : ¬ (Tells bs rs ∧ Tells bs us)) (k : Ref2 E cR cN bs rs us H) :
    SpD (sp_compared K C cR cN) [.ref b, .ref r, .ref u] H E := fun H1 e Q => ⟨b, r, u, bs, rs, us, rfl, hB.mono e, g, ex_l e hS, ex_l e hU, fun y y2 => absurd ⟨y, y2⟩ w, fun _ => k.mono e⟩
end
end Rk
namespace Rk
open PySem PySem.Spec PyProof.Rows L2 Evl
section
variable {P : Program} {w : World} {K : PySem.W.Frag} {mg : Str → Option Value} {base : Heap}
/-! ### parted: the half and what is left -/
def RetP (bs : List Int) (x : Int) (H : Hp) (Q : VK) : Prop := ∀ (p h : Addr) (H' : Hp), Ex H H' → H p = none → H h = none → p ≠ h → H' h = some (.lst ((Rw.rowOf bs (x / 2)).map V.int)) → H' p = some (.tup [.ref h, .int (x % 2)]) → Q (.ref p) H'
def sp_parted (K : PySem.W.Frag) (C : Addr) : Sp := fun vs H Q _ => ∃ (b r : Addr) (bs rs : List Int), vs = [.ref b, .ref r] ∧ BoardAt C H b bs ∧ Rw.Good bs ∧ SqL K H r (rs.map V.int) ∧ rs.length = bs.length ∧ RetP bs (Rw.num bs rs) H Q
theorem ok_parted (L : Lk K mg) : FnOk P w K mg base (L2.CX P w) 2 L.f_parted L.d_parted ["board", "row"] (sp_parted K L.C) := by
  refine L.F_parted.okX sc_parted (fun vs H Q E h => ?_) (fun cdv A outer s H vs Q E hr h => ?_)
  · obtain ⟨_, _, _, _, rfl, _⟩ := h; rfl
  · obtain ⟨b, r, bs, rs, rfl, hB, g, hS, hlen, q⟩ := h
    refine ⟨_, (pss_cons (ps_set (i := 2) sc_parted.nd rfl (Or.inr rfl) (pe_op op_mod (pe_callB (cr_sum rfl) (by rfl) L.z_sum (by decide +kernel) (pa_cons (pe_meth (E := E) (pv 0) L.cl L.m_led (ok_led L) (hr.mono (by decide)) L.b_led .nil hx (pa_cons (pv 1) pa_nil)) pa_nil)) pe_int))
      (pss_cons (ps_setLc (i := 3) (own := [("k", 4)]) (g := gName 4) (tt := tYes) rfl sc_parted.nd rfl rfl (sw_true rfl rfl rfl (by decide +kernel)) (pi_range1 (by rfl) L.z_range (pa_cons (pe_callB call_len_seq (by rfl) L.z_len PySem.boot_len (pa_cons (pv 1) pa_nil)) pa_nil)) (blkOk_by (own := [("k", 4)]) (N := ["board", "row", "left", "half", "k"]) (sc := defScope s_parted) (by decide +kernel)) (fun _ _ _ _ _ => pg_name (i := 4) sc_parted.nd rfl (Or.inl rfl)) (fun _ _ _ _ _ => by exact pts_nil) (fun _ _ _ _ _ => by exact (pe_op op_mod (pe_op op_mul (pe_op op_sub (pe_ix (ix_listK (K := K)) (pv 1) (pv 4) (fun _ _ => rfl)) (pv 2)) (pe_call (E := E0) (ok_turned L) (hr.mono (by decide)) (by rfl) L.g_turned L.k_turned L.b_turned .nil passL (pa_cons pe_int (pa_cons (pe_ix (ix_listK (K := K)) (pe_fldK (K := K) (pv 0) (by rfl)) (pv 4) (fun _ _ => rfl)) pa_nil)))) (pe_ix (ix_listK (K := K)) (pe_fldK (K := K) (pv 0) (by rfl)) (pv 4) (fun _ _ => rfl)))))
      (pss_one (ps_ret (pe_tup (pa_cons (pv 3) (pa_cons (pv 2) pa_nil))))))), ?_⟩
    obtain ⟨dx, l, t, hb, hl, ht⟩ := id hB
    have h14 := g.len14
    obtain ⟨x0, x1, hx⟩ := Rw.num_spec g hlen
    have so := Rw.sum_odd g.oddpos x0 x1
    refine q_asg (ev_op (ev_sumH (eh_new (el_meth (ev_var rfl) hb (bf_none l t (by decide +kernel) (by decide +kernel)) (ea_cons (ev_var rfl) ea_nil) (sl_led hB g hS hlen)))) ev_c (rv_I (show (0 : Int) < 2 by decide))) fun H1 e1 => ?_
    generalize Rw.num bs rs = x at *
    rw [so]
    refine q_asgL (el_mapR (n := bs.length) (ys := Rw.rowOf bs (x / 2)) (ea_cons (ev_is (ev_len (ev_var rfl) (ex_l e1 hS)) (by rw [List.length_map, hlen])) ea_nil) (by omega) (Rw.rowOf_length _ _) (fun _ => rfl) (fun k z H2 e2 hk hz => ?_)) fun h H2 hh e2 h2 => ?_
    · have e2 := e1.trans e2
      have hB' : bs[k]? = some bs[k] := List.getElem?_eq_getElem hk
      generalize bs[k] = m at hB'
      have m3 := g.get3 hB'
      have hR : rs[k]? = some (rs[k]'(by omega)) := List.getElem?_eq_getElem (by omega)
      generalize rs[k]'(by omega) = rk at hR
      rw [Rw.rowOf_get hB'] at hz
      have c2 := Rw.cop_two m3.2.2
      have tt := Rw.inv_spec c2 (show 0 < m by omega)
      have t0 := tt.lo
      have t1 := tt.hi
      refine ev_is (ev_op (ev_op (ev_op (ev_op (ev_var rfl) (ev_var rfl) (rv_ixL (ex_l e2 hS) (at_map hR))) (ev_var rfl) rv_I0)
        (ev_call0 (ea_cons ev_c (ea_cons (ev_op (ev_fld (ev_var rfl) (e2 _ _ hb) L.cl L.nB (bf_bases l t)) (ev_var rfl) (rv_ixL (sq_of (e2 _ _ hl)) (at_map hB'))) ea_nil)) (sv_turned (by omega) (Int.lt_of_le_of_lt m3.2.1 (by decide +kernel)) c2)) (rv_I (cmulR (by omega))))
        (ev_op (ev_fld (ev_var rfl) (e2 _ _ hb) L.cl L.nB (bf_bases l t)) (ev_var rfl) (rv_ixL (sq_of (e2 _ _ hl)) (at_map hB'))) (rv_I (show 0 < m by omega))) ?_
      rw [← Option.some.inj hz, ← Rw.half_step m3.1 m3.2.2 (hx k m rk hB' hR)]
    · refine s_retU (eu_tup (ea_cons (ev_var rfl) (ea_cons (ev_var rfl) ea_nil)) (by show 2 ≤ 100000; decide)) fun p H3 hp e3 h3 => ?_
      exact q p h H3 ((e1.trans e2).trans e3) (fresh_back (e1.trans e2) hp) (fresh_back e1 hh) (fun z => by rw [z, h2] at hp; cases hp) (e3 _ _ h2) h3
/-- a new pair: the half and what is left -/
def NewPair (bs : List Int) (x : Int) : Hp → V → Hp → Prop := fun H1 v H2 => ∃ p h, v = .ref p ∧ H1 p = none ∧ H1 h = none ∧ p ≠ h ∧ H2 h = some (.lst ((Rw.rowOf bs (x / 2)).map V.int)) ∧ H2 p = some (.tup [.ref h, .int (x % 2)])
theorem NewPair.back {bs : List Int} {x : Int} (H0 H1 : Hp) (v : V) (H2 : Hp) (e : Ex H0 H1) (h : NewPair bs x H1 v H2) : NewPair bs x H0 v H2 := by
  obtain ⟨p, q, e1, e2, e3, e4⟩ := h
  exact ⟨p, q, e1, fresh_back e e2, fresh_back e e3, e4⟩
theorem sg_parted {C b r : Addr} {H : Hp} {bs rs : List Int} (hB : BoardAt C H b bs) (g : Rw.Good bs) (hS : SqL K H r (rs.map V.int)) (hl : rs.length = bs.length) : SpG (sp_parted K C) [.ref b, .ref r] H (NewPair bs (Rw.num bs rs)) :=
  fun H1 e Q q _ => ⟨b, r, bs, rs, rfl, hB.mono e, g, ex_l e hS, hl, fun p h H' e' hp hh ne h1 h2 => q _ H' e' ⟨p, h, rfl, hp, hh, ne, h1, h2⟩⟩
end
end Rk
namespace Rk
open PySem PySem.Spec PyProof.Rows L2 Evl
section
variable {P : Program} {w : World} {K : PySem.W.Frag} {mg : Str → Option Value} {base : Heap}
/-! ### halved -/
def sp_halved (K : PySem.W.Frag) (C cR cN : Addr) : Sp := fun vs H Q E => ∃ (b r : Addr) (bs rs : List Int), vs = [.ref b, .ref r] ∧ BoardAt C H b bs ∧ Rw.Good bs ∧ SqL K H r (rs.map V.int) ∧
  (Tells bs rs → RetP bs (Rw.num bs rs) H Q) ∧ (¬ Tells bs rs → Ref E cR cN bs rs H)
theorem ok_halved (L : Lk K mg) : FnOk P w K mg base (L2.CX P w) 5 L.f_halved L.d_halved ["board", "row"] (sp_halved K L.C L.c_NoRow L.c_NoNumber) := by
  refine L.F_halved.okX sc_halved (fun vs H Q E h => ?_) (fun cdv A outer s H vs Q E hr h => ?_)
  · obtain ⟨_, _, _, _, rfl, _⟩ := h; rfl
  · obtain ⟨b, r, bs, rs, rfl, hB, g, hS, q, kE⟩ := h
    refine ⟨_, (pss_cons (ps_expr (pe_meth (E := E) (pv 0) L.cl L.m_need_number (ok_need_number L) (hr.mono (by decide)) L.b_need_number .nil hx (pa_cons (pv 1) pa_nil)))
      (pss_one (ps_ret (pe_call (E := E) (ok_parted L) (hr.mono (by decide)) (by rfl) L.g_parted L.k_parted L.b_parted .nil hx (pa_cons (pv 0) (pa_cons (pv 1) pa_nil)))))), ?_⟩
    obtain ⟨dx, l, t, hb, hl, ht⟩ := id hB
    by_cases w : Tells bs rs
    case neg => exact q_dv (dv_meth (ev_var rfl) hb (bf_none l t (by decide +kernel) (by decide +kernel)) (ea_cons (ev_var rfl) ea_nil) (sd_need_number hB g hS w (kE w)))
    refine q_drop (ev_meth (ev_var rfl) hb (bf_none l t (by decide +kernel) (by decide +kernel)) (ea_cons (ev_var rfl) ea_nil) (sv_need_number hB g hS w)) fun H1 e1 => ?_
    refine s_retG (eg_call NewPair.back (ea_cons (ev_var rfl) (ea_cons (ev_var rfl) ea_nil)) (sg_parted (hB.mono e1) g (ex_l e1 hS) w.1.len)) fun v H2 e2 ⟨p, h, ev, hp, hh, ne, h1, h2⟩ => ?_
    subst ev
    exact q w p h H2 (e1.trans e2) (fresh_back e1 hp) (fresh_back e1 hh) ne h1 h2
theorem sg_halved {C cR cN b r : Addr} {H : Hp} {bs rs : List Int} (hB : BoardAt C H b bs) (g : Rw.Good bs) (hS : SqL K H r (rs.map V.int)) (w : Tells bs rs) : SpG (sp_halved K C cR cN) [.ref b, .ref r] H (NewPair bs (Rw.num bs rs)) :=
  fun H1 e Q q _ => ⟨b, r, bs, rs, rfl, hB.mono e, g, ex_l e hS, fun _ p h H' e' hp hh ne h1 h2 => q _ H' e' ⟨p, h, rfl, hp, hh, ne, h1, h2⟩, fun n => absurd w n⟩
theorem sd_halved {C cR cN b r : Addr} {H : Hp} {E : XK} {bs rs : List Int} (hB : BoardAt C H b bs) (g : Rw.Good bs) (hS : SqL K H r (rs.map V.int)) (w : ¬ Tells bs rs) (k : Ref E cR cN bs rs H) : SpD (sp_halved K C cR cN) [.ref b, .ref r] H E :=
  fun H1 e Q => ⟨b, r, bs, rs, rfl, hB.mono e, g, ex_l e hS, fun y => absurd y w, fun _ => k.mono e⟩
end
end Rk
namespace Rk
open PySem PySem.Spec PyProof.Rows L2 Evl
section
variable {P : Program} {w : World} {K : PySem.W.Frag} {mg : Str → Option Value} {base : Heap}
/-! ### what the others tell -/
def sp_told_by_others (K : PySem.W.Frag) (C : Addr) : Sp := fun vs H Q _ => ∃ (b r : Addr) (bs rs : List Int) (p : Nat) (mp : Int), vs = [.ref b, .ref r, .int (p : Int)] ∧ BoardAt C H b bs ∧ Rw.Good bs ∧ SqL K H r (rs.map V.int) ∧ rs.length = bs.length ∧ bs[p]? = some mp ∧
  ∀ H', Ex H H' → Q (.int (Rw.onum bs rs p % mp)) H'
theorem given_but {n p : Nat} (hp : p < n) : given n (fun i => decide (i ≠ p)) (fun i => V.int (i : Int)) = (((List.range n).eraseIdx p).map fun i : Nat => (i : Int)).map V.int := by
  unfold given
  rw [Rw.range_but hp, List.map_map]
  rfl
theorem places_get {n p a : Nat} (hp : p < n) (ha : a < n - 1) : (((List.range n).eraseIdx p).map fun i : Nat => (i : Int))[a]? = some ((Rw.oth p a : Nat) : Int) := by
  rw [List.getElem?_map, Rw.erase_oth, List.getElem?_range (Rw.oth_lt ha hp)]
  rfl
theorem ok_told_by_others (L : Lk K mg) : FnOk P w K mg base (L2.CX P w) 1 L.f_told_by_others L.d_told_by_others ["board", "row", "place"] (sp_told_by_others K L.C) := by
  refine L.F_told_by_others.okX sc_told_by_others (fun vs H Q E h => ?_) (fun cdv A outer s H vs Q E hr h => ?_)
  · obtain ⟨_, _, _, _, _, _, rfl, _⟩ := h; rfl
  · obtain ⟨b, r, bs, rs, p, mp, rfl, ⟨dx, l, t, hb, hl, ht⟩, g, hS, hlen, hmp, q⟩ := h
    refine ⟨_, (pss_cons (ps_setLc (i := 4) (own := [("k", 3)]) (g := gName 3) rfl sc_told_by_others.nd rfl rfl (sw_true rfl rfl rfl (by decide +kernel)) (pi_range1 (by rfl) L.z_range (pa_cons (pe_callB call_len_seq (by rfl) L.z_len PySem.boot_len (pa_cons (pv 1) pa_nil)) pa_nil)) (blkOk_by (own := [("k", 3)]) (N := ["board", "row", "place", "k", "places", "figures", "at", "base", "value", "j", "turn"]) (sc := defScope s_told_by_others) (by decide +kernel)) (fun _ _ _ _ _ => pg_name (i := 3) sc_told_by_others.nd rfl (Or.inl rfl)) (fun _ _ _ _ _ => by exact (pts_one (pt_cmpR op_ne (pv 3) (pv 2) (nomark _)))) (fun _ _ _ _ _ => by exact (pv 3)))
      (pss_cons (ps_set (i := 5) sc_told_by_others.nd rfl (Or.inl rfl) (pe_lst pa_nil))
      (pss_cons (ps_for (passes_of rfl) rfl (pi_range1 (by rfl) L.z_range (pa_cons (pe_callB call_len_seq (by rfl) L.z_len PySem.boot_len (pa_cons (pv 4) pa_nil)) pa_nil)) (pg_name (i := 6) sc_told_by_others.nd rfl (Or.inl rfl)) (pss_cons (ps_set (i := 3) sc_told_by_others.nd rfl (Or.inl rfl) (pe_ix ix_list (pv 4) (pv 6) (fun _ _ => rfl)))
      (pss_cons (ps_set (i := 7) sc_told_by_others.nd rfl (Or.inl rfl) (pe_ix ix_list (pe_fld (pv 0) (by rfl)) (pv 3) (fun _ _ => rfl)))
      (pss_cons (ps_set (i := 8) sc_told_by_others.nd rfl (Or.inl rfl) pe_int)
      (pss_cons (ps_for (passes_of rfl) rfl (pi_range3 (by rfl) L.z_range (pa_cons (pe_op op_sub (pv 6) pe_int) (pa_cons (pe_un un_neg pe_int) (pa_cons (pe_un un_neg pe_int) pa_nil)))) (pg_name (i := 9) sc_told_by_others.nd rfl (Or.inl rfl)) (pss_one (ps_set (i := 8) sc_told_by_others.nd rfl (Or.inl rfl) (pe_op op_mod (pe_op op_add (pe_op op_mul (pv 8) (pe_ix ix_list (pe_fld (pv 0) (by rfl)) (pe_ix ix_list (pv 4) (pv 9) (fun _ _ => rfl)) (fun _ _ => rfl))) (pe_ix ix_list (pv 5) (pv 9) (fun _ _ => rfl))) (pv 7)))))
      (pss_cons (ps_set (i := 10) sc_told_by_others.nd rfl (Or.inl rfl) (pe_ix ix_list (pe_fld (pv 0) (by rfl)) (pv 3) (fun _ _ => rfl)))
      (pss_cons (ps_if (pt_cmpR op_gt (pv 3) (pv 2) (nomark _)) (pss_one (ps_set (i := 10) sc_told_by_others.nd rfl (Or.inl rfl) (pe_op op_mod (pe_op op_mul (pv 10) (pe_ix ix_list (pe_fld (pv 0) (by rfl)) (pv 2) (fun _ _ => rfl))) (pv 7)))) pss_nil)
      (pss_one (ps_expr (pe_bm PySem.F.plainAttrs_list PySem.F.slot_list_append PySem.F.type_list_append mt_append (pv 5) (pa_cons (pe_op op_mod (pe_op op_mul (pe_op op_sub (pe_ix ix_list (pv 1) (pv 3) (fun _ _ => rfl)) (pv 8)) (pv 10)) (pv 7)) pa_nil)))))))))))
      (pss_cons (ps_set (i := 7) sc_told_by_others.nd rfl (Or.inl rfl) (pe_ix ix_list (pe_fld (pv 0) (by rfl)) (pv 2) (fun _ _ => rfl)))
      (pss_cons (ps_set (i := 8) sc_told_by_others.nd rfl (Or.inl rfl) pe_int)
      (pss_cons (ps_for (passes_of rfl) rfl (pi_range3 (by rfl) L.z_range (pa_cons (pe_op op_sub (pe_callB call_len_seq (by rfl) L.z_len PySem.boot_len (pa_cons (pv 5) pa_nil)) pe_int) (pa_cons (pe_un un_neg pe_int) (pa_cons (pe_un un_neg pe_int) pa_nil)))) (pg_name (i := 9) sc_told_by_others.nd rfl (Or.inl rfl)) (pss_one (ps_set (i := 8) sc_told_by_others.nd rfl (Or.inl rfl) (pe_op op_mod (pe_op op_add (pe_op op_mul (pv 8) (pe_ix ix_list (pe_fld (pv 0) (by rfl)) (pe_ix ix_list (pv 4) (pv 9) (fun _ _ => rfl)) (fun _ _ => rfl))) (pe_ix ix_list (pv 5) (pv 9) (fun _ _ => rfl))) (pv 7)))))
      (pss_one (ps_ret (pv 8))))))))), ?_⟩
    have h14 := g.len14
    have h3 := g.len3
    have hp : p < bs.length := (List.getElem?_eq_some_iff.mp hmp).1
    obtain ⟨y0, y1, hy⟩ := Rw.onum_spec g hlen hp
    generalize Rw.onum bs rs p = y at y0 y1 hy q
    have m3 := g.get3 hmp
    have mp0 : 0 < mp := by omega
    have ps := Rw.pos_erase g.pos p
    have hcl : (bs.eraseIdx p).length = bs.length - 1 := List.length_eraseIdx_of_lt hp
    have hcg : ∀ a, (bs.eraseIdx p)[a]? = bs[Rw.oth p a]? := Rw.erase_oth bs p
    generalize hcs : bs.eraseIdx p = cs at y1 ps hcl hcg
    have hpl : ∀ {a : Nat}, a < bs.length - 1 → (((List.range bs.length).eraseIdx p).map fun i : Nat => (i : Int))[a]? = some ((Rw.oth p a : Nat) : Int) := fun ha => places_get hp ha
    have hpll : (((List.range bs.length).eraseIdx p).map fun i : Nat => (i : Int)).length = bs.length - 1 := by rw [List.length_map, List.length_eraseIdx_of_lt (by simpa using hp), List.length_range]
    have cmp : ∀ i : Nat, (!decide (V.int (i : Int) = V.int (p : Int))) = decide (i ≠ p) := fun i => by
      by_cases e : i = p
      · subst e; simp
      · have : ¬ (V.int (i : Int) = V.int (p : Int)) := fun z => e (by have := V.int.inj z; omega)
        simp [this, e]
    refine q_asgL (el_lcR1 (n := (bs.length : Int)) (fun i => decide (i ≠ p)) (fun i => .int (i : Int)) (ea_cons (ev_is (ev_len (ev_var rfl) hS) (by rw [List.length_map, hlen])) ea_nil) (by omega) (fun _ => rfl)
      (fun i H1 _ _ => et_is (et_test (ev_op (ev_var rfl) (ev_var rfl) (rv_ne rfl))) (cmp i)) (fun i H1 _ _ _ => ev_var rfl)) fun pl H1 hpn e1 h1 => ?_
    rw [Int.toNat_natCast, given_but hp] at h1
    generalize ((List.range bs.length).eraseIdx p).map (fun i : Nat => (i : Int)) = pls at h1 hpl hpll
    refine q_asgL (el_lst ea_nil (by decide)) fun f H2 hf e2 h2 => ?_
    have E2 := e1.trans e2
    have hfH : H f = none := fresh_back e1 hf
    have nfp : pl ≠ f := fun z => by rw [z, hf] at h1; cases h1
    refine q_forR1 (n := ((bs.length - 1 : Nat) : Int)) (ea_cons (ev_is (ev_len (ev_var rfl) (sq_of (e2 _ _ h1))) (by rw [List.length_map, hpll])) ea_nil) (by omega)
      (fun i σ' H' => ∃ v1 v2 v3 v4 v5 v6, σ' = [some (.ref b), some (.ref r), some (.int (p : Int)), v1, some (.ref pl), some (.ref f), v2, v3, v4, v5, v6] ∧ Ex H H' ∧ H' pl = some (.lst (pls.map V.int)) ∧ H' f = some (.lst (((Rw.digits cs y).take i).map V.int)))
      (fun H3 e3 => ⟨none, none, none, none, none, none, rfl, E2.trans e3, e3 _ _ (e2 _ _ h1), e3 _ _ h2⟩) ?_ ?_
    · rintro a σ' H3 ha ⟨v1, v2, v3, v4, v5, v6, rfl, E3, h1, h2⟩
      have ha' : a < bs.length - 1 := by omega
      have hk : Rw.oth p a < bs.length := Rw.oth_lt ha' hp
      have hC : bs[Rw.oth p a]? = some bs[Rw.oth p a] := List.getElem?_eq_getElem hk
      generalize bs[Rw.oth p a] = c at hC
      have c3 := g.get3 hC
      have c0 : 0 < c := by omega
      have hR : rs[Rw.oth p a]? = some (rs[Rw.oth p a]'(by omega)) := List.getElem?_eq_getElem (by omega)
      generalize rs[Rw.oth p a]'(by omega) = rk at hR
      have hCs : cs[a]? = some c := by rw [hcg]; exact hC
      refine q_asg (ev_op (ev_var rfl) (ev_var rfl) (rv_ixL (sq_of h1) (at_map (hpl ha')))) fun H4 e4 => ?_
      refine q_asg (ev_op (ev_fld (ev_var rfl) (e4 _ _ (E3 _ _ hb)) L.cl L.nB (bf_bases l t)) (ev_var rfl) (rv_ixL (sq_of (e4 _ _ (E3 _ _ hl))) (at_map hC))) fun H5 e5 => ?_
      refine q_asg ev_c fun H6 e6 => ?_
      have E46 := (e4.trans e5).trans e6
      refine q_forD (n := a) (ea_cons (ev_op (ev_var rfl) ev_c rv_I0) (ea_cons (ev_un ev_c ru_i) (ea_cons (ev_un ev_c ru_i) ea_nil))) (by omega) (by omega)
        (fun i σ' H' => ∃ v5, σ' = [some (.ref b), some (.ref r), some (.int (p : Int)), some (.int ((Rw.oth p a : Nat) : Int)), some (.ref pl), some (.ref f), some (.int (a : Int)), some (.int c), some (.int (y % Rw.prod (cs.take a) / Rw.prod (cs.take (a - i)) % c)), v5, v6] ∧ i ≤ a ∧ Ex H3 H')
        (fun H7 e7 => ⟨v5, by rw [Nat.sub_zero, Rw.horner0 ps]; rfl, Nat.zero_le _, E46.trans e7⟩) ?_ ?_
      · rintro i σ' H7 hi ⟨v5, rfl, _, e7⟩
        obtain ⟨j, hj⟩ : ∃ j, j = a - (i + 1) := ⟨_, rfl⟩
        have ej : (a : Int) - 1 - (i : Int) = (j : Int) := by omega
        have hjl : j < bs.length - 1 := by omega
        have hJ : bs[Rw.oth p j]? = some (bs[Rw.oth p j]'(Rw.oth_lt hjl hp)) := List.getElem?_eq_getElem (Rw.oth_lt hjl hp)
        generalize bs[Rw.oth p j]'(Rw.oth_lt hjl hp) = d at hJ
        have d3 := g.get3 hJ
        have hJs : cs[j]? = some d := by rw [hcg]; exact hJ
        have hD : ((Rw.digits cs y).take a)[j]? = some (y / Rw.prod (cs.take j) % d) := by rw [List.getElem?_take_of_lt (by omega)]; exact Rw.digits_get ps hJs
        have E7 := E3.trans e7
        rw [ej]
        refine s_asg (ev_op (ev_op (ev_op (ev_var rfl) (ev_op (ev_fld (ev_var rfl) (E7 _ _ hb) L.cl L.nB (bf_bases l t)) (ev_op (ev_var rfl) (ev_var rfl) (rv_ixL (sq_of (e7 _ _ h1)) (at_map (hpl hjl)))) (rv_ixL (sq_of (E7 _ _ hl)) (at_map hJ))) (rv_I (cmulR (by omega))))
          (ev_op (ev_var rfl) (ev_var rfl) (rv_ixL (sq_of (e7 _ _ h2)) (at_map hD))) rv_I0) (ev_var rfl) (rv_I c0)) fun H8 e8 => ?_
        have hh := Rw.horner (m := c) (x := y) (k := a) ps hJs (by omega)
        have e9 : a - i = j + 1 := by omega
        refine ⟨some (.int (j : Int)), ?_, by omega, e7.trans e8⟩
        rw [e9, ← hj, ← hh]
        rfl
      · rintro σ' H7 ⟨v5, rfl, _, e7⟩
        rw [Nat.sub_self, Rw.horner_top]
        have E7 := E3.trans e7
        refine q_asg (ev_op (ev_fld (ev_var rfl) (E7 _ _ hb) L.cl L.nT (bf_turns l t)) (ev_var rfl) (rv_ixL (sq_of (E7 _ _ ht)) (at_map (Rw.turnsOf_get hC)))) fun H8 e8 => ?_
        have E8 := E7.trans e8
        have tt := g.turns hC
        have ot := Rw.oturn g hmp hC
        rw [hcs] at ot
        have t0 := tt.lo
        have t1 := tt.hi
        generalize Rw.inv (Rw.prod (bs.take (Rw.oth p a))) c = tv at ot t0 t1 ⊢
        refine q_ifI (et_test (ev_op (ev_var rfl) (ev_var rfl) rv_I0)) rfl (fun _ => ev_op (ev_op (ev_var rfl) (ev_op (ev_fld (ev_var rfl) (E8 _ _ hb) L.cl L.nB (bf_bases l t)) (ev_var rfl) (rv_ixL (sq_of (E8 _ _ hl)) (at_map hmp))) (rv_I (cmulR (by omega)))) (ev_var rfl) (rv_I c0)) fun H9 e9 => ?_
        have E9 := E8.trans e9
        have eif : (if decide ((p : Int) < ((Rw.oth p a : Nat) : Int)) = true then tv * mp % c else tv) = (if Rw.oth p a > p then tv * mp % c else tv) := by
          by_cases h : Rw.oth p a > p
          · rw [if_pos h, if_pos (decide_eq_true (by omega))]
          · rw [if_neg h, if_neg (by rw [decide_eq_true_eq]; omega)]
        rw [eif]
        have tb : 0 ≤ (if Rw.oth p a > p then tv * mp % c else tv) ∧ (if Rw.oth p a > p then tv * mp % c else tv) < c := by
          split
          · exact ⟨Int.emod_nonneg _ (by omega), Int.emod_lt_of_pos _ c0⟩
          · exact ⟨t0, t1⟩
        generalize (if Rw.oth p a > p then tv * mp % c else tv) = tw at ot tb ⊢
        have h29 := e9 _ _ (e8 _ _ (e7 _ _ h2))
        refine s_app h29 (ev_var rfl) (ev_op (ev_op (ev_op (ev_op (ev_var rfl) (ev_var rfl) (rv_ixL (ex_l E9 hS) (at_map hR))) (ev_var rfl) rv_I0) (ev_var rfl) (rv_I (cmulR (by omega)))) (ev_var rfl) (rv_I c0))
          (by rw [List.length_map, List.length_take, Rw.digits_length]; omega) fun H10 e10 => ?_
        refine ⟨_, _, _, _, _, _, rfl, (E9.trans e10).mut hfH, ?_, ?_⟩
        · rw [upd_ne nfp]; exact e10 _ _ (e9 _ _ (e8 _ _ (e7 _ _ h1)))
        · rw [upd_same, take_next (Rw.digits_get ps hCs), Rw.fig_step (Rw.prod_pos (Rw.pos_take ps a)) c0 ot (hy _ c rk (Rw.oth_ne p a) hC hR)]
    · rintro σ' H3 ⟨v1, v2, v3, v4, v5, v6, rfl, E3, h1, h2⟩
      rw [Int.toNat_natCast, ← hcl, List.take_of_length_le (by rw [Rw.digits_length]; exact Nat.le_refl _)] at h2
      refine q_asg (ev_op (ev_fld (ev_var rfl) (E3 _ _ hb) L.cl L.nB (bf_bases l t)) (ev_var rfl) (rv_ixL (sq_of (E3 _ _ hl)) (at_map hmp))) fun H5 e5 => ?_
      refine q_asg ev_c fun H6 e6 => ?_
      have E56 := e5.trans e6
      have hfl : ((Rw.digits cs y).map V.int).length = cs.length := by rw [List.length_map, Rw.digits_length]
      refine q_forD (n := cs.length) (ea_cons (ev_op (ev_len (ev_var rfl) (sq_of (E56 _ _ h2))) ev_c rv_I0) (ea_cons (ev_un ev_c ru_i) (ea_cons (ev_un ev_c ru_i) ea_nil))) (by rw [hfl]; omega) (by rw [hfl]; omega)
        (fun i σ' H' => ∃ v5, σ' = [some (.ref b), some (.ref r), some (.int (p : Int)), v1, some (.ref pl), some (.ref f), v2, some (.int mp), some (.int (y % Rw.prod (cs.take cs.length) / Rw.prod (cs.take (cs.length - i)) % mp)), v5, v6] ∧ i ≤ cs.length ∧ Ex H3 H')
        (fun H7 e7 => ⟨v5, by rw [Nat.sub_zero, Rw.horner0 ps]; rfl, Nat.zero_le _, E56.trans e7⟩) ?_ ?_
      · rintro i σ' H7 hi ⟨v5, rfl, _, e7⟩
        obtain ⟨j, hj⟩ : ∃ j, j = cs.length - (i + 1) := ⟨_, rfl⟩
        have ej : (((Rw.digits cs y).map V.int).length : Int) - 1 - (i : Int) = (j : Int) := by rw [hfl]; omega
        have hjl : j < bs.length - 1 := by omega
        have hJ : bs[Rw.oth p j]? = some (bs[Rw.oth p j]'(Rw.oth_lt hjl hp)) := List.getElem?_eq_getElem (Rw.oth_lt hjl hp)
        generalize bs[Rw.oth p j]'(Rw.oth_lt hjl hp) = d at hJ
        have d3 := g.get3 hJ
        have hJs : cs[j]? = some d := by rw [hcg]; exact hJ
        have E7 := E3.trans e7
        rw [ej]
        refine s_asg (ev_op (ev_op (ev_op (ev_var rfl) (ev_op (ev_fld (ev_var rfl) (E7 _ _ hb) L.cl L.nB (bf_bases l t)) (ev_op (ev_var rfl) (ev_var rfl) (rv_ixL (sq_of (e7 _ _ h1)) (at_map (hpl hjl)))) (rv_ixL (sq_of (E7 _ _ hl)) (at_map hJ))) (rv_I (cmulR (by omega))))
          (ev_op (ev_var rfl) (ev_var rfl) (rv_ixL (sq_of (e7 _ _ h2)) (at_map (Rw.digits_get ps hJs)))) rv_I0) (ev_var rfl) (rv_I mp0)) fun H8 e8 => ?_
        have hh := Rw.horner (m := mp) (x := y) (k := cs.length) ps hJs (by omega)
        have e9 : cs.length - i = j + 1 := by omega
        refine ⟨some (.int (j : Int)), ?_, by omega, e7.trans e8⟩
        rw [e9, ← hj, ← hh]
        rfl
      · rintro σ' H7 ⟨v5, rfl, _, e7⟩
        rw [Nat.sub_self, Rw.horner_top, List.take_length, Int.emod_eq_of_lt y0 y1]
        exact s_ret (ev_var rfl) fun H8 e8 => q H8 ((E3.trans e7).trans e8)
theorem sv_told {C b r : Addr} {H : Hp} {bs rs : List Int} {p : Nat} {mp : Int} (hB : BoardAt C H b bs) (g : Rw.Good bs) (hS : SqL K H r (rs.map V.int)) (hl : rs.length = bs.length) (hm : bs[p]? = some mp) : SpV (sp_told_by_others K C) [.ref b, .ref r, .int (p : Int)] H (.int (Rw.onum bs rs p % mp)) :=
  fun H1 e Q q _ => ⟨b, r, bs, rs, p, mp, rfl, hB.mono e, g, ex_l e hS, hl, hm, q⟩
end
end Rk
namespace Rk
open PySem PySem.Spec PyProof.Rows L2 Evl
section
variable {P : Program} {w : World} {K : PySem.W.Frag} {mg : Str → Option Value} {base : Heap}
/-! ### the row with what the others tell -/
def sp_without (K : PySem.W.Frag) (C : Addr) : Sp := fun vs H Q _ => ∃ (b r : Addr) (bs rs : List Int) (p : Nat) (mp : Int), vs = [.ref b, .ref r, .int (p : Int)] ∧ BoardAt C H b bs ∧ Rw.Good bs ∧ SqL K H r (rs.map V.int) ∧ rs.length = bs.length ∧ bs[p]? = some mp ∧
  (Rw.onum bs rs p < Rw.room bs → RetL ((rs.set p (Rw.onum bs rs p % mp)).map V.int) H Q) ∧ (¬ Rw.onum bs rs p < Rw.room bs → RetV .non H Q)
theorem ok_without (L : Lk K mg) : FnOk P w K mg base (L2.CX P w) 2 L.f_without L.d_without ["board", "row", "place"] (sp_without K L.C) := by
  refine L.F_without.okX sc_without (fun vs H Q E h => ?_) (fun cdv A outer s H vs Q E hr h => ?_)
  · obtain ⟨_, _, _, _, _, _, rfl, _⟩ := h; rfl
  · obtain ⟨b, r, bs, rs, p, mp, rfl, hB, g, hS, hlen, hmp, q, qN⟩ := h
    refine ⟨_, (pss_cons (ps_set (i := 3) sc_without.nd rfl (Or.inl rfl) (pe_callTy call_list_of (by rfl) L.z_list (by decide +kernel) (pa_cons (pv 1) pa_nil)))
      (pss_cons (ps_asg (pe_call (E := E) (ok_told_by_others L) (hr.mono (by decide)) (by rfl) L.g_told_by_others L.k_told_by_others L.b_told_by_others .nil hx (pa_cons (pv 0) (pa_cons (pv 1) (pa_cons (pv 2) pa_nil)))) (pg_sub (pv 3) (pv 2) set_list))
      (pss_cons (ps_if (pt_cmpR (op_eqD hr.units) (pe_slice sl_list (pe_meth (E := E) (pv 0) L.cl L.m_led (ok_led L) (hr.mono (by decide)) L.b_led .nil hx (pa_cons (pv 3) pa_nil)) (po_some (pe_un un_neg pe_int)) po_none) (pe_lst (pa_cons pe_int (pa_cons pe_int pa_nil))) (nomark _)) (pss_one (ps_ret (pv 3))) pss_nil)
      (pss_one (ps_ret pe_non))))), ?_⟩
    obtain ⟨dx, l, t, hb, hl, ht⟩ := id hB
    have hp : p < bs.length := (List.getElem?_eq_some_iff.mp hmp).1
    have ot := Rw.onum_spec g hlen hp
    have hw := ot.whole g hmp
    refine q_asgL (el_list (ev_var rfl) hS) fun f H1 hf e1 h1 => ?_
    refine q_setL h1 (ev_call0 (ea_cons (ev_var rfl) (ea_cons (ev_var rfl) (ea_cons (ev_var rfl) ea_nil))) (sv_told (hB.mono e1) g (ex_l e1 hS) hlen hmp)) (ev_var rfl) (ev_var rfl) (by rw [List.length_map, hlen]; exact hp) fun H2 e2 => ?_
    have hset : (rs.map V.int).set p (.int (Rw.onum bs rs p % mp)) = (rs.set p (Rw.onum bs rs p % mp)).map V.int := by rw [List.map_set]
    have E2 : Ex H (upd H2 f (.lst ((rs.map V.int).set p (.int (Rw.onum bs rs p % mp))))) := (e1.trans e2).mut hf
    have hls : (rs.set p (Rw.onum bs rs p % mp)).length = bs.length := by rw [List.length_set, hlen]
    have hn : Rw.num bs (rs.set p (Rw.onum bs rs p % mp)) = Rw.onum bs rs p := Rw.num_eq g hls ot.lo hw.1 hw.2
    have h2 : (upd H2 f (.lst ((rs.map V.int).set p (.int (Rw.onum bs rs p % mp))))) f = some (.lst ((rs.set p (Rw.onum bs rs p % mp)).map V.int)) := by rw [upd_same, hset]
    generalize upd H2 f (.lst ((rs.map V.int).set p (.int (Rw.onum bs rs p % mp)))) = H3 at E2 h2 ⊢
    refine q_when (et_test (ev_last2 (bs := bs) g hls (el_meth (ev_var rfl) (E2 _ _ hb) (bf_none l t (by decide +kernel) (by decide +kernel)) (ea_cons (ev_var rfl) ea_nil) (sl_led (hB.mono E2) g (sq_of h2) hls)))) (fun hc H4 e4 => ?_) (fun hc H4 e4 => ?_)
    · rw [hn] at hc
      exact s_ret (ev_var rfl) fun H5 e5 => q (of_decide_eq_true hc) f H5 hf ((E2.trans e4).trans e5) (e5 _ _ (e4 _ _ h2))
    · rw [hn] at hc
      exact s_ret ev_c fun H5 e5 => qN (of_decide_eq_false hc) H5 ((E2.trans e4).trans e5)
theorem sl_without {C b r : Addr} {H : Hp} {bs rs : List Int} {p : Nat} {mp : Int} (hB : BoardAt C H b bs) (g : Rw.Good bs) (hS : SqL K H r (rs.map V.int)) (hl : rs.length = bs.length) (hm : bs[p]? = some mp) (h : Rw.onum bs rs p < Rw.room bs) :
    SpL (sp_without K C) [.ref b, .ref r, .int (p : Int)] H ((rs.set p (Rw.onum bs rs p % mp)).map V.int) := fun H1 e Q q _ => ⟨b, r, bs, rs, p, mp, rfl, hB.mono e, g, ex_l e hS, hl, hm, fun _ => q, fun n => absurd h n⟩
theorem sv_without {C b r : Addr} {H : Hp} {bs rs : List Int} {p : Nat} {mp : Int} (hB : BoardAt C H b bs) (g : Rw.Good bs) (hS : SqL K H r (rs.map V.int)) (hl : rs.length = bs.length) (hm : bs[p]? = some mp) (h : ¬ Rw.onum bs rs p < Rw.room bs) :
    SpV (sp_without K C) [.ref b, .ref r, .int (p : Int)] H .non := fun H1 e Q q _ => ⟨b, r, bs, rs, p, mp, rfl, hB.mono e, g, ex_l e hS, hl, hm, fun y => absurd y h, fun _ => q⟩
end
end Rk
namespace Rk
open PySem PySem.Spec PyProof.Rows L2 Evl
section
variable {P : Program} {w : World} {K : PySem.W.Frag} {mg : Str → Option Value} {base : Heap}
/-! ### mended -/
def RetM (xs : List Int) (o : V) (H : Hp) (Q : VK) : Prop := ∀ (p h : Addr) (H' : Hp), Ex H H' → H p = none → H h = none → p ≠ h → H' h = some (.lst (xs.map V.int)) → H' p = some (.tup [.ref h, o]) → Q (.ref p) H'
def sp_mended (K : PySem.W.Frag) (C cR cL : Addr) : Sp := fun vs H Q E => ∃ (b r : Addr) (bs rs : List Int), vs = [.ref b, .ref r] ∧ BoardAt C H b bs ∧ Rw.Good bs ∧ SqL K H r (rs.map V.int) ∧
  (¬ Rw.IsRow bs rs → ∀ H', Ex H H' → E (.ref cR) none H') ∧
  (Rw.IsRow bs rs → (Rw.num bs rs < Rw.room bs → RetM rs .non H Q) ∧
    (¬ Rw.num bs rs < Rw.room bs → ∀ (p : Nat) (mp : Int), bs[p]? = some mp → Rw.onum bs rs p < Rw.room bs → (∀ q, q < p → ¬ Rw.onum bs rs q < Rw.room bs) → RetM (rs.set p (Rw.onum bs rs p % mp)) (.int (p : Int)) H Q) ∧
    (¬ Rw.num bs rs < Rw.room bs → (∀ q, q < bs.length → ¬ Rw.onum bs rs q < Rw.room bs) → ∀ H', Ex H H' → E (.ref cL) none H'))
theorem ok_mended (L : Lk K mg) : FnOk P w K mg base (L2.CX P w) 4 L.f_mended L.d_mended ["board", "row"] (sp_mended K L.C L.c_NoRow L.c_Lost) := by
  refine L.F_mended.okX sc_mended (fun vs H Q E h => ?_) (fun cdv A outer s H vs Q E hr h => ?_)
  · obtain ⟨_, _, _, _, rfl, _⟩ := h; rfl
  · obtain ⟨b, r, bs, rs, rfl, hB, g, hS, kR, k⟩ := h
    refine ⟨_, (pss_cons (ps_if (pt_val (pe_meth (E := E) (pv 0) L.cl L.m_tells (ok_tells L) (hr.mono (by decide)) L.b_tells .nil hx (pa_cons (pv 1) pa_nil))) (pss_one (ps_ret (pe_tup (pa_cons (pe_callTy call_list_of (by rfl) L.z_list (by decide +kernel) (pa_cons (pv 1) pa_nil)) (pa_cons pe_non pa_nil))))) pss_nil)
      (pss_cons (ps_for (passes_of rfl) rfl (pi_range1 (by rfl) L.z_range (pa_cons (pe_callB call_len_seq (by rfl) L.z_len PySem.boot_len (pa_cons (pv 1) pa_nil)) pa_nil)) (pg_name (i := 2) sc_mended.nd rfl (Or.inl rfl)) (pss_cons (ps_set (i := 3) sc_mended.nd rfl (Or.inl rfl) (pe_call (E := E) (ok_without L) (hr.mono (by decide)) (by rfl) L.g_without L.k_without L.b_without .nil hx (pa_cons (pv 0) (pa_cons (pv 1) (pa_cons (pv 2) pa_nil)))))
      (pss_one (ps_if (pt_cmpR op_notN (pv 3) pe_non (nomark _)) (pss_one (ps_ret (pe_tup (pa_cons (pv 3) (pa_cons (pv 2) pa_nil))))) pss_nil))))
      (pss_one (ps_raise rfl hk (pmk_own PySem.F.excBase_ValueError L.x_Lost L.g_Lost L.e_Lost (raises_own L.s_Lost L.t_Lost) (by rfl)))))), ?_⟩
    obtain ⟨dx, l, t, hb, hl, ht⟩ := id hB
    have h14 := g.len14
    by_cases w : Rw.IsRow bs rs
    case neg => exact q_dvI (dt_B (dv_meth (ev_var rfl) hb (bf_none l t (by decide +kernel) (by decide +kernel)) (ea_cons (ev_var rfl) ea_nil) (sd_tells hB g hS w (kR w))))
    obtain ⟨k1, k2, k3⟩ := k w
    have hlen := w.len
    refine q_when (et_B (ev_meth (ev_var rfl) hb (bf_none l t (by decide +kernel) (by decide +kernel)) (ea_cons (ev_var rfl) ea_nil) (sv_tells hB g hS w))) (fun hc H1 e1 => ?_) (fun hc H1 e1 => ?_)
    · have hc' := of_decide_eq_true hc
      refine s_retG (eg_pairN (el_list (ev_var rfl) (ex_l e1 hS)) (fun _ _ => ev_c)) fun v H2 e2 ⟨p, h, ev, hp, hh, ne, h1, h2⟩ => ?_
      subst ev
      exact k1 hc' p h H2 (e1.trans e2) (fresh_back e1 hp) (fresh_back e1 hh) ne h1 h2
    · have hc' := of_decide_eq_false hc
      refine q_forR1 (n := (bs.length : Int)) (ea_cons (ev_is (ev_len (ev_var rfl) (ex_l e1 hS)) (by rw [List.length_map, hlen])) ea_nil) (by omega)
        (fun i σ' H' => ∃ v1 v2, σ' = [some (.ref b), some (.ref r), v1, v2] ∧ Ex H H' ∧ ∀ q, q < i → ¬ Rw.onum bs rs q < Rw.room bs) (fun H2 e2 => ⟨none, none, rfl, e1.trans e2, fun q h => absurd h (Nat.not_lt_zero q)⟩) ?_ ?_
      · rintro p σ' H2 hp ⟨v1, v2, rfl, e2, inv⟩
        have hp' : p < bs.length := by omega
        have hmp : bs[p]? = some bs[p] := List.getElem?_eq_getElem hp'
        by_cases y : Rw.onum bs rs p < Rw.room bs
        · refine q_asgL (el_call0 (ea_cons (ev_var rfl) (ea_cons (ev_var rfl) (ea_cons (ev_var rfl) ea_nil))) (sl_without (hB.mono e2) g (ex_l e2 hS) hlen hmp y)) fun f2 H5 hf2 e5 h5 => ?_
          refine s_when (b := true) (et_is (et_test (ev_op (ev_var rfl) ev_c (fun H1 _ _ q => ⟨rfl, q H1 (Ex.refl H1)⟩))) (by simp)) (fun _ H6 e6 => ?_) (fun z => nomatch z)
          refine s_retU (eu_tup (ea_cons (ev_var rfl) (ea_cons (ev_var rfl) ea_nil)) (by show 2 ≤ 100000; decide)) fun pp H7 hpp e7 h7 => ?_
          exact k2 hc' p _ hmp y inv pp f2 H7 (((e2.trans e5).trans e6).trans e7) (fresh_back ((e2.trans e5).trans e6) hpp) (fresh_back e2 hf2) (fun z => by rw [z, e6 _ _ h5] at hpp; cases hpp) (e7 _ _ (e6 _ _ h5)) h7
        · refine q_asg (ev_call0 (ea_cons (ev_var rfl) (ea_cons (ev_var rfl) (ea_cons (ev_var rfl) ea_nil))) (sv_without (hB.mono e2) g (ex_l e2 hS) hlen hmp y)) fun H5 e5 => ?_
          refine s_when (b := false) (et_is (et_test (ev_op (ev_var rfl) ev_c (fun H1 _ _ q => ⟨rfl, q H1 (Ex.refl H1)⟩))) (by simp)) (fun z => nomatch z) fun _ H6 e6 => ?_
          refine ⟨_, _, rfl, (e2.trans e5).trans e6, fun q hq => ?_⟩
          by_cases e7 : q = p
          · subst e7; exact y
          · exact inv q (by omega)
      · rintro σ' H2 ⟨v1, v2, rfl, e2, inv⟩
        exact k3 hc' (fun q hq => inv q (by omega)) H2 e2
/-- a new pair: a new list and a value -/
def NewM (xs : List Int) (o : V) : Hp → V → Hp → Prop := fun H1 v H2 => ∃ p h, v = .ref p ∧ H1 p = none ∧ H1 h = none ∧ p ≠ h ∧ H2 h = some (.lst (xs.map V.int)) ∧ H2 p = some (.tup [.ref h, o])
theorem NewM.back {xs : List Int} {o : V} (H0 H1 : Hp) (v : V) (H2 : Hp) (e : Ex H0 H1) (h : NewM xs o H1 v H2) : NewM xs o H0 v H2 := by
  obtain ⟨p, q, e1, e2, e3, e4⟩ := h
  exact ⟨p, q, e1, fresh_back e e2, fresh_back e e3, e4⟩
section
variable {C cR cL b r : Addr} {H : Hp} {E : XK} {bs rs : List Int}
theorem sg_mended0 (hB : BoardAt C H b bs) (g : Rw.Good bs) (hS : SqL K H r (rs.map V.int)) (w : Rw.IsRow bs rs) (w2 : Rw.num bs rs < Rw.room bs) : SpG (sp_mended K C cR cL) [.ref b, .ref r] H (NewM rs .non) :=
  fun H1 e Q q _ => ⟨b, r, bs, rs, rfl, hB.mono e, g, ex_l e hS, fun n => absurd w n, fun _ => ⟨fun _ p h H' e' hp hh ne h1 h2 => q _ H' e' ⟨p, h, rfl, hp, hh, ne, h1, h2⟩, fun n => absurd w2 n, fun n => absurd w2 n⟩⟩
theorem sg_mended1 {p : Nat} {mp : Int} (hB : BoardAt C H b bs) (g : Rw.Good bs) (hS : SqL K H r (rs.map V.int)) (w : Rw.IsRow bs rs) (w2 : ¬ Rw.num bs rs < Rw.room bs) (hp : bs[p]? = some mp) (y : Rw.onum bs rs p < Rw.room bs) (hq : ∀ q, q < p → ¬ Rw.onum bs rs q < Rw.room bs) :
    SpG (sp_mended K C cR cL) [.ref b, .ref r] H (NewM (rs.set p (Rw.onum bs rs p % mp)) (.int (p : Int))) :=
  fun H1 e Q q _ => ⟨b, r, bs, rs, rfl, hB.mono e, g, ex_l e hS, fun n => absurd w n, fun _ => ⟨fun y => absurd y w2, fun _ p' mp' hp' y' hq' => by
    have ep : p' = p := by
      rcases Nat.lt_trichotomy p' p with c | c | c
      · exact absurd y' (hq _ c)
      · exact c
      · exact absurd y (hq' _ c)
    subst ep
    rw [hp] at hp'
    have em := Option.some.inj hp'
    subst em
    exact fun p h H' e' hp hh ne h1 h2 => q _ H' e' ⟨p, h, rfl, hp, hh, ne, h1, h2⟩, fun _ n => absurd y (n p (List.getElem?_eq_some_iff.mp hp).1)⟩⟩
theorem sd_mendedL (hB : BoardAt C H b bs) (g : Rw.Good bs) (hS : SqL K H r (rs.map V.int)) (w : Rw.IsRow bs rs) (w2 : ¬ Rw.num bs rs < Rw.room bs) (hq : ∀ q, q < bs.length → ¬ Rw.onum bs rs q < Rw.room bs) (k : ∀ H', Ex H H' → E (.ref cL) none H') :
    SpD (sp_mended K C cR cL) [.ref b, .ref r] H E :=
  fun H1 e Q => ⟨b, r, bs, rs, rfl, hB.mono e, g, ex_l e hS, fun n => absurd w n, fun _ => ⟨fun y => absurd y w2, fun _ p' mp' hp' y' _ => absurd y' (hq _ (List.getElem?_eq_some_iff.mp hp').1), fun _ _ H' e' => k H' (e.trans e')⟩⟩
theorem sd_mendedR (hB : BoardAt C H b bs) (g : Rw.Good bs) (hS : SqL K H r (rs.map V.int)) (w : ¬ Rw.IsRow bs rs) (k : ∀ H', Ex H H' → E (.ref cR) none H') : SpD (sp_mended K C cR cL) [.ref b, .ref r] H E :=
  fun H1 e Q => ⟨b, r, bs, rs, rfl, hB.mono e, g, ex_l e hS, fun _ H' e' => k H' (e.trans e'), fun n => absurd n w⟩
end
end
end Rk
namespace Rk
open PySem PySem.Spec PyProof.Rows L2 Evl
section
variable {P : Program} {w : World} {K : PySem.W.Frag} {mg : Str → Option Value} {base : Heap}
/-! ### refilled -/
def sp_refilled (K : PySem.W.Frag) (C cP cR cL : Addr) : Sp := fun vs H Q E => ∃ (b r : Addr) (bs : List Int) (xs : List V) (pl : Int), vs = [.ref b, .ref r, .int pl] ∧ BoardAt C H b bs ∧ Rw.Good bs ∧ SqL K H r xs ∧ xs.length ≤ 1000 ∧
  (¬ (0 ≤ pl ∧ pl < bs.length) → ∀ H', Ex H H' → E (.ref cP) none H') ∧
  (0 ≤ pl ∧ pl < bs.length → ∃ rs : List Int, xs.set pl.toNat (.int 0) = rs.map V.int ∧ (¬ Rw.IsRow bs rs → ∀ H', Ex H H' → E (.ref cR) none H') ∧
    (Rw.IsRow bs rs → ∀ mp, bs[pl.toNat]? = some mp → (Rw.onum bs rs pl.toNat < Rw.room bs → RetL ((rs.set pl.toNat (Rw.onum bs rs pl.toNat % mp)).map V.int) H Q) ∧ (¬ Rw.onum bs rs pl.toNat < Rw.room bs → ∀ H', Ex H H' → E (.ref cL) none H')))
theorem ok_refilled (L : Lk K mg) : FnOk P w K mg base (L2.CX P w) 3 L.f_refilled L.d_refilled ["board", "row", "place"] (sp_refilled K L.C L.c_NoPlace L.c_NoRow L.c_Lost) := by
  refine L.F_refilled.okX sc_refilled (fun vs H Q E h => ?_) (fun cdv A outer s H vs Q E hr h => ?_)
  · obtain ⟨_, _, _, _, _, rfl, _⟩ := h; rfl
  · obtain ⟨b, r, bs, xs, pl, rfl, hB, g, hS, hxl, kP, k⟩ := h
    refine ⟨_, (pss_cons (ps_if (PW.pt (pw_or (pt_cmpR op_lt (pv 2) pe_int (nomark _)) (pw_or1 (pt_cmpR op_ge (pv 2) (pe_callB call_len_seq (by rfl) L.z_len PySem.boot_len (pa_cons (pe_fld (pv 0) (by rfl)) pa_nil)) (nomark _))))) (pss_one (ps_raise rfl hk (pmk_own PySem.F.excBase_ValueError L.x_NoPlace L.g_NoPlace L.e_NoPlace (raises_own L.s_NoPlace L.t_NoPlace) (by rfl)))) pss_nil)
      (pss_cons (ps_set (i := 3) sc_refilled.nd rfl (Or.inl rfl) (pe_callTy call_list_of (by rfl) L.z_list (by decide +kernel) (pa_cons (pv 1) pa_nil)))
      (pss_cons (ps_if (pt_cmpR op_lt (pv 2) (pe_callB call_len_seq (by rfl) L.z_len PySem.boot_len (pa_cons (pv 3) pa_nil)) (nomark _)) (pss_one (ps_asg pe_int (pg_sub (pv 3) (pv 2) set_list))) pss_nil)
      (pss_cons (ps_expr (pe_meth (E := E) (pv 0) L.cl L.m_need_row (ok_need_row L) (hr.mono (by decide)) L.b_need_row .nil hx (pa_cons (pv 3) pa_nil)))
      (pss_cons (ps_set (i := 4) sc_refilled.nd rfl (Or.inl rfl) (pe_call (E := E) (ok_without L) (hr.mono (by decide)) (by rfl) L.g_without L.k_without L.b_without .nil hx (pa_cons (pv 0) (pa_cons (pv 3) (pa_cons (pv 2) pa_nil)))))
      (pss_cons (ps_if (pt_cmpR op_isN (pv 4) pe_non (nomark _)) (pss_one (ps_raise rfl hk (pmk_own PySem.F.excBase_ValueError L.x_Lost L.g_Lost L.e_Lost (raises_own L.s_Lost L.t_Lost) (by rfl)))) pss_nil)
      (pss_one (ps_ret (pv 4))))))))), ?_⟩
    obtain ⟨dx, l, t, hb, hl, ht⟩ := id hB
    have hln : (bs.map V.int).length = bs.length := List.length_map _
    refine q_when (et_or (et_test (ev_op (ev_var rfl) ev_c rv_I0)) (fun _ => et_test (ev_op (ev_var rfl) (ev_len (ev_fld (ev_var rfl) hb L.cl L.nB (bf_bases l t)) (sq_of hl)) rv_I0))) (fun hc H1 e1 => ?_) (fun hc H1 e1 => ?_)
    · rw [hln, Bool.or_eq_true, decide_eq_true_eq, decide_eq_true_eq] at hc
      exact kP (by omega) H1 e1
    rw [hln, Bool.or_eq_false_iff, decide_eq_false_iff_not, decide_eq_false_iff_not] at hc
    have hpl : 0 ≤ pl ∧ pl < bs.length := by omega
    obtain ⟨rs, hrs, kR, kk⟩ := k hpl
    obtain ⟨p, rfl⟩ : ∃ p : Nat, pl = (p : Int) := ⟨pl.toNat, by omega⟩
    rw [Int.toNat_natCast] at hrs kk
    have hp : p < bs.length := by omega
    have hmp : bs[p]? = some bs[p] := List.getElem?_eq_getElem hp
    refine q_asgL (el_list (ev_var rfl) (ex_l e1 hS)) fun f H2 hf e2 h2 => ?_
    have hfH : H f = none := fresh_back e1 hf
    refine q_ifSetL (et_test (ev_op (ev_var rfl) (ev_len (ev_var rfl) (sq_of h2)) rv_I0)) (by rw [Bool.eq_iff_iff, decide_eq_true_eq, decide_eq_true_eq]; omega) h2 ev_c (ev_var rfl) (ev_var rfl) fun H3 k3 h3 => ?_
    rw [hrs] at h3
    have E3 : Ex H H3 := fun c o hc => k3 c o (ne_of_none hc hfH) (e2 _ _ (e1 _ _ hc))
    by_cases w : Rw.IsRow bs rs
    case neg => exact q_dv (dv_meth (ev_var rfl) (E3 _ _ hb) (bf_none l t (by decide +kernel) (by decide +kernel)) (ea_cons (ev_var rfl) ea_nil) (sd_need_row (hB.mono E3) g (sq_of h3) w fun H' e' => kR w H' (E3.trans e')))
    refine q_drop (ev_meth (ev_var rfl) (E3 _ _ hb) (bf_none l t (by decide +kernel) (by decide +kernel)) (ea_cons (ev_var rfl) ea_nil) (sv_need_row (hB.mono E3) g (sq_of h3) w)) fun H4 e4 => ?_
    have E4 := E3.trans e4
    obtain ⟨kY, kL⟩ := kk w _ hmp
    by_cases y : Rw.onum bs rs p < Rw.room bs
    · refine q_asgL (el_call0 (ea_cons (ev_var rfl) (ea_cons (ev_var rfl) (ea_cons (ev_var rfl) ea_nil))) (sl_without (hB.mono E4) g (sq_of (e4 _ _ h3)) w.len hmp y)) fun f2 H5 hf2 e5 h5 => ?_
      refine q_when (b := false) (et_is (et_test (ev_op (ev_var rfl) ev_c (fun H1 _ _ q => ⟨rfl, q H1 (Ex.refl H1)⟩))) (by simp)) (fun z => nomatch z) fun _ H6 e6 => ?_
      exact s_ret (ev_var rfl) fun H7 e7 => kY y f2 H7 (fresh_back E4 hf2) (((E4.trans e5).trans e6).trans e7) (e7 _ _ (e6 _ _ h5))
    · refine q_asg (ev_call0 (ea_cons (ev_var rfl) (ea_cons (ev_var rfl) (ea_cons (ev_var rfl) ea_nil))) (sv_without (hB.mono E4) g (sq_of (e4 _ _ h3)) w.len hmp y)) fun H5 e5 => ?_
      refine q_when (b := true) (et_is (et_test (ev_op (ev_var rfl) ev_c (fun H1 _ _ q => ⟨rfl, q H1 (Ex.refl H1)⟩))) (by simp)) (fun _ H6 e6 => ?_) (fun z => nomatch z)
      exact kL y H6 ((E4.trans e5).trans e6)
end
end Rk
namespace Rk
open PySem PySem.Spec PyProof.Rows L2 Evl
section
variable {P : Program} {w : World} {K : PySem.W.Frag} {mg : Str → Option Value} {base : Heap}
def sp_room (C : Addr) : Sp := fun vs H Q _ => ∃ (b : Addr) (bs : List Int), vs = [.ref b] ∧ BoardAt C H b bs ∧ Rw.Good bs ∧ ∀ H', Ex H H' → Q (.int (Rw.room bs)) H'
theorem ok_room (L : Lk K mg) : FnOk P w K mg base (L2.CX P w) 1 L.f_room L.d_room ["self"] (sp_room L.C) := by
  refine L.F_room.okX sc_room (fun vs H Q E h => ?_) (fun cdv A outer s H vs Q E hr h => ?_)
  · obtain ⟨_, _, rfl, _⟩ := h; rfl
  · obtain ⟨b, bs, rfl, ⟨dx, l, t, hb, hl, ht⟩, g, q⟩ := h
    refine ⟨_, (pss_cons (ps_set (i := 1) sc_room.nd rfl (Or.inl rfl) pe_int)
      (pss_cons (ps_for (passes_of rfl) rfl (pi_list (pe_slice sl_list (pe_fld (pv 0) (by rfl)) po_none (po_some (pe_un un_neg pe_int)))) (pg_name (i := 2) sc_room.nd rfl (Or.inl rfl)) (pss_one (ps_set (i := 1) sc_room.nd rfl (Or.inl rfl) (pe_op op_mul (pv 1) (pv 2)))))
      (pss_one (ps_ret (pv 1))))), ?_⟩
    have h3 := g.len3
    have h14 := g.len14
    refine q_asg ev_c fun H1 e1 => ?_
    have ec : cutV (bs.map V.int) none (some (-2)) = (bs.take (bs.length - 2)).map V.int := by rw [cut_but2 _ (by rw [List.length_map]; omega), List.length_map, List.map_take]
    refine q_forNLn (el_sl (ev_fld (ev_var rfl) (e1 _ _ hb) L.cl L.nB (bf_bases l t)) eo_none (eo_some (ev_un ev_c ru_i)) (sq_of (e1 _ _ hl)))
      (fun p i σ' H' => ∃ v3, σ' = [some (.ref b), some (.int (Rw.prod (bs.take i))), v3] ∧ Ex H H' ∧ H' p = some (.lst ((bs.take (bs.length - 2)).map V.int)))
      (fun p H2 hp e2 h2 => ⟨_, rfl, e1.trans e2, by rw [h2, ec]⟩) (fun p i σ' H' _ ⟨_, _, _, h⟩ => by rw [ec]; exact sq_of h) ?_ ?_
    · rintro p i z σ' H2 hi ⟨v3, rfl, e2, h2⟩
      rw [ec] at hi
      obtain ⟨c, hc, rfl⟩ := map_get hi
      have hik : i < bs.length - 2 := by
        have := (List.getElem?_eq_some_iff.mp hc).1
        simp at this
        omega
      rw [List.getElem?_take_of_lt hik] at hc
      have c3 := g.get3 hc
      refine s_asg (ev_op (ev_var rfl) (ev_var rfl) (rv_I (cmulR (by omega)))) fun H3 e3 => ?_
      exact ⟨_, by rw [Rw.prod_take_succ hc]; rfl, e2.trans e3, e3 _ _ h2⟩
    · rintro p σ' H2 ⟨v3, rfl, e2, h2⟩
      rw [ec, List.length_map, List.length_take, Nat.min_eq_left (by omega)]
      exact s_ret (ev_var rfl) fun H3 e3 => q H3 (e2.trans e3)
theorem sv_room {C b : Addr} {H : Hp} {bs : List Int} (hB : BoardAt C H b bs) (g : Rw.Good bs) : SpV (sp_room C) [.ref b] H (.int (Rw.room bs)) := fun H1 e Q q _ => ⟨b, bs, rfl, hB.mono e, g, q⟩
end
end Rk
namespace Rk
open PySem PySem.Spec PyProof.Rows L2 Evl
section
variable {P : Program} {w : World} {K : PySem.W.Frag} {mg : Str → Option Value} {base : Heap}
/-! ### the rests of a number -/
def sp_rests (C cO : Addr) : Sp := fun vs H Q E => ∃ (b : Addr) (bs : List Int) (n : Int), vs = [.ref b, .int n] ∧ BoardAt C H b bs ∧ Rw.Good bs ∧ (0 ≤ n ∧ n < Rw.room bs → RetL ((Rw.rowOf bs n).map V.int) H Q) ∧ (¬ (0 ≤ n ∧ n < Rw.room bs) → ∀ H', Ex H H' → E (.ref cO) none H')
theorem ok_rests (L : Lk K mg) : FnOk P w K mg base (L2.CX P w) 2 L.f_rests L.d_rests ["self", "number"] (sp_rests L.C L.c_OutOfRoom) := by
  refine L.F_rests.okX sc_rests (fun vs H Q E h => ?_) (fun cdv A outer s H vs Q E hr h => ?_)
  · obtain ⟨_, _, _, rfl, _⟩ := h; rfl
  · obtain ⟨b, bs, n, rfl, hB, g, q, kE⟩ := h
    refine ⟨_, (pss_cons (ps_if (PW.pt (pw_or (pt_cmpR op_lt (pv 1) pe_int (nomark _)) (pw_or1 (pt_cmpR op_ge (pv 1) (pe_meth0 (E := E) (pv 0) L.cl L.m_room (ok_room L) (hr.mono (by decide)) L.b_room .nil hx) (nomark _))))) (pss_one (ps_raise rfl hk (pmk_own PySem.F.excBase_ValueError L.x_OutOfRoom L.g_OutOfRoom L.e_OutOfRoom (raises_own L.s_OutOfRoom L.t_OutOfRoom) (by rfl)))) pss_nil)
      (pss_one (ps_ret (pe_lc (own := [("base", 2)]) (g := gName 2) (tt := tYes) rfl sc_rests.nd (pi_list (pe_fld (pv 0) (by rfl))) (blkOk_by (own := [("base", 2)]) (N := ["self", "number", "base"]) (sc := defScope s_rests) (by decide +kernel)) (fun _ _ _ _ _ => pg_name (i := 2) sc_rests.nd rfl (Or.inl rfl)) (fun _ _ _ _ _ => by exact pts_nil) (fun _ _ _ _ _ => by exact (pe_op op_mod (pv 1) (pv 2))))))), ?_⟩
    obtain ⟨dx, l, t, hb, hl, ht⟩ := id hB
    have h14 := g.len14
    refine q_when (et_or (et_test (ev_op (ev_var rfl) ev_c rv_I0)) (fun _ => et_test (ev_op (ev_var rfl) (ev_meth (ev_var rfl) hb (bf_none l t (by decide +kernel) (by decide +kernel)) ea_nil (sv_room hB g)) rv_I0))) (fun hc H1 e1 => ?_) (fun hc H1 e1 => ?_)
    · rw [Bool.or_eq_true, decide_eq_true_eq, decide_eq_true_eq] at hc
      exact kE (by omega) H1 e1
    · rw [Bool.or_eq_false_iff, decide_eq_false_iff_not, decide_eq_false_iff_not] at hc
      have h0 : 0 ≤ n ∧ n < Rw.room bs := by omega
      refine s_retL (el_mapL (K := K) (f := fun m => n % m) (ev_fld (ev_var rfl) (e1 _ _ hb) L.cl L.nB (bf_bases l t)) (sq_of (e1 _ _ hl)) (by omega) (fun _ => rfl) (fun k m H2 e2 hm => ?_)) fun p H2 hp e2 h2 => ?_
      · have m3 := g.get3 hm
        exact ev_op (ev_var rfl) (ev_var rfl) (rv_I (show 0 < m by omega))
      · exact q h0 p H2 (fresh_back e1 hp) (e1.trans e2) h2
theorem sl_rests {C cO b : Addr} {H : Hp} {bs : List Int} {n : Int} (hB : BoardAt C H b bs) (g : Rw.Good bs) (h0 : 0 ≤ n) (h1 : n < Rw.room bs) : SpL (sp_rests C cO) [.ref b, .int n] H ((Rw.rowOf bs n).map V.int) := fun H1 e Q q E => ⟨b, bs, n, rfl, hB.mono e, g, fun _ => q, fun z => absurd ⟨h0, h1⟩ z⟩
theorem sd_rests {C cO b : Addr} {H : Hp} {E : XK} {bs : List Int} {n : Int} (hB : BoardAt C H b bs) (g : Rw.Good bs) (h0 : ¬ (0 ≤ n ∧ n < Rw.room bs)) (k : ∀ H', Ex H H' → E (.ref cO) none H') : SpD (sp_rests C cO) [.ref b, .int n] H E := fun H1 e Q => ⟨b, bs, n, rfl, hB.mono e, g, fun z => absurd z h0, fun _ H' e' => k H' (e.trans e')⟩
end
end Rk
namespace Rk
open PySem PySem.Spec PyProof.Rows L2 Evl
section
variable {P : Program} {w : World} {K : PySem.W.Frag} {mg : Str → Option Value} {base : Heap}
/-! ### taken -/
def sp_taken (K : PySem.W.Frag) (C cR cN cO : Addr) : Sp := fun vs H Q E => ∃ (b r u : Addr) (bs rs us : List Int), vs = [.ref b, .ref r, .ref u] ∧ BoardAt C H b bs ∧ Rw.Good bs ∧ SqL K H r (rs.map V.int) ∧ SqL K H u (us.map V.int) ∧
  (Tells bs rs → Tells bs us → 0 ≤ Rw.num bs rs - Rw.num bs us → RetL ((Rw.rowOf bs (Rw.num bs rs - Rw.num bs us)).map V.int) H Q) ∧
  (Tells bs rs → Tells bs us → ¬ 0 ≤ Rw.num bs rs - Rw.num bs us → ∀ H', Ex H H' → E (.ref cO) none H') ∧ (¬ (Tells bs rs ∧ Tells bs us) → RefB E cR cN bs rs us H)
theorem ok_taken (L : Lk K mg) : FnOk P w K mg base (L2.CX P w) 6 L.f_taken L.d_taken ["board", "one", "other"] (sp_taken K L.C L.c_NoRow L.c_NoNumber L.c_OutOfRoom) := by
  refine L.F_taken.okX sc_taken (fun vs H Q E h => ?_) (fun cdv A outer s H vs Q E hr h => ?_)
  · obtain ⟨_, _, _, _, _, _, rfl, _⟩ := h; rfl
  · obtain ⟨b, r, u, bs, rs, us, rfl, hB, g, hS, hU, q, kO, kE⟩ := h
    refine ⟨_, (pss_cons (ps_expr (pe_call (E := E) (ok_need_both L) (hr.mono (by decide)) (by rfl) L.g_need_both L.k_need_both L.b_need_both .nil hx (pa_cons (pv 0) (pa_cons (pv 1) (pa_cons (pv 2) pa_nil)))))
      (pss_one (ps_ret (pe_call (E := E) (ok_within L) (hr.mono (by decide)) (by rfl) L.g_within L.k_within L.b_within .nil hx (pa_cons (pv 0) (pa_cons (pe_lc (own := [("k", 3)]) (g := gName 3) (tt := tYes) rfl sc_taken.nd (pi_range1 (by rfl) L.z_range (pa_cons (pe_callB call_len_seq (by rfl) L.z_len PySem.boot_len (pa_cons (pv 1) pa_nil)) pa_nil)) (blkOk_by (own := [("k", 3)]) (N := ["board", "one", "other", "k"]) (sc := defScope s_taken) (by decide +kernel)) (fun _ _ _ _ _ => pg_name (i := 3) sc_taken.nd rfl (Or.inl rfl)) (fun _ _ _ _ _ => by exact pts_nil) (fun _ _ _ _ _ => by exact (pe_op op_mod (pe_op op_sub (pe_ix (ix_listK (K := K)) (pv 1) (pv 3) (fun _ _ => rfl)) (pe_ix (ix_listK (K := K)) (pv 2) (pv 3) (fun _ _ => rfl))) (pe_ix (ix_listK (K := K)) (pe_fldK (K := K) (pv 0) (by rfl)) (pv 3) (fun _ _ => rfl))))) pa_nil)))))), ?_⟩
    obtain ⟨dx, l, t, hb, hl, ht⟩ := id hB
    have h14 := g.len14
    by_cases w : Tells bs rs ∧ Tells bs us
    case neg => exact q_dv (dv_call (ea_cons (ev_var rfl) (ea_cons (ev_var rfl) (ea_cons (ev_var rfl) ea_nil))) (sd_need_both hB g hS hU w (kE w)))
    obtain ⟨w1, w2⟩ := w
    refine q_drop (ev_call0 (ea_cons (ev_var rfl) (ea_cons (ev_var rfl) (ea_cons (ev_var rfl) ea_nil))) (sv_need_both hB g hS hU w1 w2)) fun H1 e1 => ?_
    obtain ⟨x0, _, _⟩ := Rw.num_spec g w1.1.len
    obtain ⟨y0, _, _⟩ := Rw.num_spec g w2.1.len
    have x1 := w1.2
    have y1 := w2.2
    have q' := q w1 w2
    have kO' := kO w1 w2
    have hx : ∀ {k : Nat} {m z : Int}, bs[k]? = some m → rs[k]? = some z → Rw.num bs rs % m = z := fun hm hz => by
      have := w1.1.rng _ _ _ hz hm
      rw [Rw.num_get g w1.1.len hm hz, Int.emod_eq_of_lt this.1 this.2]
    have hy : ∀ {k : Nat} {m z : Int}, bs[k]? = some m → us[k]? = some z → Rw.num bs us % m = z := fun hm hz => by
      have := w2.1.rng _ _ _ hz hm
      rw [Rw.num_get g w2.1.len hm hz, Int.emod_eq_of_lt this.1 this.2]
    have hlr := w1.1.len
    have hlu := w2.1.len
    generalize Rw.num bs rs = x at *
    generalize Rw.num bs us = y at *
    have row : ∀ {H2 σ}, Ex H H2 → σ = [some (V.ref b), some (V.ref r), some (V.ref u), none] → EvL (tLc (iRng1 (tCons (tCB (rLenS K) (tCons (tVar 1) tNil)) tNil)) (gName 3) tYes
        (tOp (rI (fun _ j => 0 < j) fun i j => .int (i % j)) (tOp (rI0 fun i j => .int (i - j)) (tOp (rIxL K) (tVar 1) (tVar 3)) (tOp (rIxL K) (tVar 2) (tVar 3))) (tOp (rIxL K) (tFld K (tVar 0) "bases") (tVar 3))) [3]) σ H2 ((Rw.rowOf bs (x - y)).map V.int) := by
      rintro H2 σ e2 rfl
      refine el_mapR (n := bs.length) (ea_cons (ev_is (ev_len (ev_var rfl) (ex_l e2 hS)) (by rw [List.length_map, hlr])) ea_nil) (by omega) (Rw.rowOf_length _ _) (fun _ => rfl) fun k z H3 e3 hk hz => ?_
      have e3 := e2.trans e3
      have hB' : bs[k]? = some bs[k] := List.getElem?_eq_getElem hk
      generalize bs[k] = m at hB'
      have m3 := g.get3 hB'
      have hR : rs[k]? = some (rs[k]'(by omega)) := List.getElem?_eq_getElem (by omega)
      have hUk : us[k]? = some (us[k]'(by omega)) := List.getElem?_eq_getElem (by omega)
      rw [Rw.rowOf_get hB'] at hz
      refine ev_is (ev_op (ev_op (ev_op (ev_var rfl) (ev_var rfl) (rv_ixL (ex_l e3 hS) (at_map hR))) (ev_op (ev_var rfl) (ev_var rfl) (rv_ixL (ex_l e3 hU) (at_map hUk))) rv_I0) (ev_op (ev_fld (ev_var rfl) (e3 _ _ hb) L.cl L.nB (bf_bases l t)) (ev_var rfl) (rv_ixL (sq_of (e3 _ _ hl)) (at_map hB'))) (rv_I (show 0 < m by omega))) ?_
      rw [← Option.some.inj hz, ← hx hB' hR, ← hy hB' hUk, Rw.sub_row]
    have nm := Rw.num_sub g x0 x1 y0 y1
    by_cases hd : 0 ≤ x - y
    · rcases nm with ⟨_, nm⟩ | ⟨nm, _⟩
      · refine s_retL (el_within (ev_var rfl) (hB.mono e1) g (row e1 rfl) (Rw.rowOf_length _ _) (by rw [nm]; omega)) fun p H2 hp e2 h2 => ?_
        exact q' hd p H2 (fresh_back e1 hp) (e1.trans e2) h2
      · omega
    · rcases nm with ⟨nm, _⟩ | ⟨_, nm⟩
      · omega
      · exact s_dvR (dv_within (ev_var rfl) (hB.mono e1) g (row e1 rfl) (Rw.rowOf_length _ _) (by omega) fun H' e' => kO' hd H' (e1.trans e'))
end
end Rk
namespace Rk
open PySem PySem.Spec PyProof.Rows L2 Evl
section
variable {P : Program} {w : World} {K : PySem.W.Frag} {mg : Str → Option Value} {base : Heap}
/-! ### times -/
def sp_times (K : PySem.W.Frag) (C cR cN cO : Addr) : Sp := fun vs H Q E => ∃ (b r u : Addr) (bs rs us : List Int), vs = [.ref b, .ref r, .ref u] ∧ BoardAt C H b bs ∧ Rw.Good bs ∧ SqL K H r (rs.map V.int) ∧ SqL K H u (us.map V.int) ∧
  (Tells bs rs → Tells bs us → Rw.num bs rs * Rw.num bs us < Rw.room bs → RetL ((Rw.rowOf bs (Rw.num bs rs * Rw.num bs us)).map V.int) H Q) ∧
  (Tells bs rs → Tells bs us → ¬ Rw.num bs rs * Rw.num bs us < Rw.room bs → ∀ H', Ex H H' → E (.ref cO) none H') ∧ (¬ (Tells bs rs ∧ Tells bs us) → RefB E cR cN bs rs us H)
theorem row_inj {bs : List Int} (g : Rw.Good bs) {x y : Int} (x0 : 0 ≤ x) (x1 : x < Rw.room bs) (y0 : 0 ≤ y) (y1 : y < Rw.room bs) : decide (Rw.rowOf bs x = Rw.rowOf bs y) = decide (x = y) := by
  rw [Bool.eq_iff_iff, decide_eq_true_eq, decide_eq_true_eq]
  constructor
  · intro h
    have e1 := Rw.num_rowR g x0 x1
    rw [h, Rw.num_rowR g y0 y1] at e1
    exact e1.symm
  · intro h
    rw [h]
theorem ok_times (L : Lk K mg) : FnOk P w K mg base (L2.CX P w) 6 L.f_times L.d_times ["board", "one", "other"] (sp_times K L.C L.c_NoRow L.c_NoNumber L.c_OutOfRoom) := by
  refine L.F_times.okX sc_times (fun vs H Q E h => ?_) (fun cdv A outer s H vs Q E hr h => ?_)
  · obtain ⟨_, _, _, _, _, _, rfl, _⟩ := h; rfl
  · obtain ⟨b, r, u, bs, rs, us, rfl, hB, g, hS, hU, q, kO, kE⟩ := h
    refine ⟨_, (pss_cons (ps_expr (pe_call (E := E) (ok_need_both L) (hr.mono (by decide)) (by rfl) L.g_need_both L.k_need_both L.b_need_both .nil hx (pa_cons (pv 0) (pa_cons (pv 1) (pa_cons (pv 2) pa_nil)))))
      (pss_cons (ps_setLc (i := 3) (own := [("base", 8)]) (g := gName 8) (tt := tYes) rfl sc_times.nd rfl rfl (sw_true rfl rfl rfl (by decide +kernel)) (pi_list (pe_fld (pv 0) (by rfl))) (blkOk_by (own := [("base", 8)]) (N := ["board", "one", "other", "nought", "found", "twice", "left", "pair", "base"]) (sc := defScope s_times) (by decide +kernel)) (fun _ _ _ _ _ => pg_name (i := 8) sc_times.nd rfl (Or.inl rfl)) (fun _ _ _ _ _ => by exact pts_nil) (fun _ _ _ _ _ => by exact pe_int))
      (pss_cons (ps_set (i := 4) sc_times.nd rfl (Or.inl rfl) (pv 3))
      (pss_cons (ps_set (i := 5) sc_times.nd rfl (Or.inl rfl) (pe_callTy call_list_of (by rfl) L.z_list (by decide +kernel) (pa_cons (pv 1) pa_nil)))
      (pss_cons (ps_set (i := 6) sc_times.nd rfl (Or.inl rfl) (pv 2))
      (pss_cons (ps_while (passes_of rfl) (pt_cmpR (op_neD hr.units) (pv 6) (pv 3) (nomark _)) (pss_cons (ps_set (i := 7) sc_times.nd rfl (Or.inl rfl) (pe_call (E := E) (ok_parted L) (hr.mono (by decide)) (by rfl) L.g_parted L.k_parted L.b_parted .nil hx (pa_cons (pv 0) (pa_cons (pv 6) pa_nil))))
      (pss_cons (ps_set (i := 6) sc_times.nd rfl (Or.inl rfl) (pe_ix ix_tup (pv 7) pe_int (fun _ _ => rfl)))
      (pss_cons (ps_if (pt_cmpR op_eq (pe_ix ix_tup (pv 7) pe_int (fun _ _ => rfl)) pe_int (nomark _)) (pss_one (ps_set (i := 4) sc_times.nd rfl (Or.inl rfl) (pe_call (E := E) (ok_summed L) (hr.mono (by decide)) (by rfl) L.g_summed L.k_summed L.b_summed .nil hx (pa_cons (pv 0) (pa_cons (pv 4) (pa_cons (pv 5) pa_nil)))))) pss_nil)
      (pss_one (ps_if (pt_cmpR (op_neD hr.units) (pv 6) (pv 3) (nomark _)) (pss_one (ps_set (i := 5) sc_times.nd rfl (Or.inl rfl) (pe_call (E := E) (ok_summed L) (hr.mono (by decide)) (by rfl) L.g_summed L.k_summed L.b_summed .nil hx (pa_cons (pv 0) (pa_cons (pv 5) (pa_cons (pv 5) pa_nil)))))) pss_nil))))))
      (pss_one (ps_ret (pv 4))))))))), ?_⟩
    obtain ⟨dx, l, t, hb, hl, ht⟩ := id hB
    have h14 := g.len14
    by_cases w : Tells bs rs ∧ Tells bs us
    case neg => exact q_dv (dv_call (ea_cons (ev_var rfl) (ea_cons (ev_var rfl) (ea_cons (ev_var rfl) ea_nil))) (sd_need_both hB g hS hU w (kE w)))
    obtain ⟨w1, w2⟩ := w
    refine q_drop (ev_call0 (ea_cons (ev_var rfl) (ea_cons (ev_var rfl) (ea_cons (ev_var rfl) ea_nil))) (sv_need_both hB g hS hU w1 w2)) fun H1 e1 => ?_
    have x0 := (Rw.num_spec g w1.1.len).1
    have y0 := (Rw.num_spec g w2.1.len).1
    have x1 := w1.2
    have y1 := w2.2
    have er := Rw.row_num g w1.1
    have eu := Rw.row_num g w2.1
    have q' := q w1 w2
    have kO' := kO w1 w2
    clear q kO kE w1 w2
    generalize Rw.num bs rs = x at *
    generalize Rw.num bs us = y at *
    subst er eu
    have rp := g.room_pos
    have tw : ∀ {z : Int}, 0 ≤ z → z < Rw.room bs → Tells bs (Rw.rowOf bs z) := fun h0 h1 => tells_row g h0 h1
    have rowN : ∀ {z : Int}, 0 ≤ z → z < Rw.room bs → Rw.num bs (Rw.rowOf bs z) = z := fun h0 h1 => Rw.num_rowR g h0 h1
    -- nought
    refine q_asgL (el_mapL (f := fun _ => 0) (ns := bs) (ev_fld (ev_var rfl) (e1 _ _ hb) L.cl L.nB (bf_bases l t)) (sq_of (e1 _ _ hl)) (by omega) (fun _ => rfl) (fun k c H2 e2 hc => ev_c)) fun np H2 hnp e2 hn2 => ?_
    have e0 : (bs.map fun _ => (0 : Int)) = Rw.rowOf bs 0 := List.map_congr_left fun b _ => (Int.zero_emod b).symm
    rw [e0] at hn2
    refine q_asg (ev_var rfl) fun H3 e3 => ?_
    refine q_asgL (el_list (ev_var rfl) (ex_l ((e1.trans e2).trans e3) hS)) fun tp H4 htp e4 ht4 => ?_
    refine q_asg (ev_var rfl) fun H5 e5 => ?_
    have E5 := (((e1.trans e2).trans e3).trans e4).trans e5
    have hnpH : H np = none := fresh_back e1 hnp
    have hn5 := ((e3.trans e4).trans e5) _ _ hn2
    have ht5 := e5 _ _ ht4
    refine q_while (fun mm σ' H' => ∃ (f t2 l2 : Addr) (fv tv lv : Int) (v7 : Option V), σ' = [some (.ref b), some (.ref r), some (.ref u), some (.ref np), some (.ref f), some (.ref t2), some (.ref l2), v7, none] ∧ Ex H H' ∧ H f = none ∧ H' np = some (.lst ((Rw.rowOf bs 0).map V.int)) ∧
        H' f = some (.lst ((Rw.rowOf bs fv).map V.int)) ∧ H' t2 = some (.lst ((Rw.rowOf bs tv).map V.int)) ∧ SqL K H' l2 ((Rw.rowOf bs lv).map V.int) ∧ 0 ≤ fv ∧ fv < Rw.room bs ∧ 0 ≤ tv ∧ (0 < lv → tv < Rw.room bs) ∧ 0 ≤ lv ∧ lv < Rw.room bs ∧ mm = lv.toNat ∧ fv + tv * lv = x * y)
      y.toNat ⟨np, tp, u, 0, x, y, none, rfl, E5, hnpH, hn5, hn5, ht5, ex_l E5 hU, Int.le_refl _, rp, x0, fun _ => x1, y0, y1, rfl, by omega⟩ ?_
    rintro mm σ' H6 ⟨f, t2, l2, fv, tv, lv, v7, rfl, E6, hf0, hn6, hf6, ht6, hl6, f0, f1, t0, t1, l0, l1, rfl, inv⟩
    refine ⟨!decide (lv = 0), ?_, fun hc H7 e7 => ?_, fun hc H7 e7 => ?_⟩
    · have z := fun H7 (e7 : Ex H6 H7) => rv_neI (K := K) (p := l2) (q := np) (xs := Rw.rowOf bs lv) (ys := Rw.rowOf bs 0) (ex_l e7 hl6) (sq_of (e7 _ _ hn6))
      rw [← row_inj g l0 l1 (Int.le_refl 0) rp]
      exact et_test (ev_op (ev_var rfl) (ev_var rfl) (z H6 (Ex.refl H6)))
    · have lp : 0 < lv := by
        have : ¬ lv = 0 := by simpa using hc
        omega
      have t1 := t1 lp
      have E7 := E6.trans e7
      refine ⟨_, fun σ2 H2 h => h, ?_⟩
      refine q_asgG (eg_call NewPair.back (ea_cons (ev_var rfl) (ea_cons (ev_var rfl) ea_nil)) (sg_parted (hB.mono E7) g (ex_l e7 hl6) (Rw.rowOf_length _ _))) fun v H8 e8 ⟨pp, ph, ev, hpp, hph, ne, h8h, h8p⟩ => ?_
      subst ev
      rw [rowN l0 l1] at h8h h8p
      have i0 : atI ([V.ref ph, V.int (lv % 2)] : List V) 0 = some (V.ref ph) := atI_nat (j := 0) rfl
      have i1 : atI ([V.ref ph, V.int (lv % 2)] : List V) 1 = some (V.int (lv % 2)) := atI_nat (j := 1) rfl
      have split : tv * lv = (tv + tv) * (lv / 2) + tv * (lv % 2) := by
        have e := Int.emod_add_mul_ediv lv 2
        generalize lv / 2 = hh at *
        generalize lv % 2 = rr at *
        rw [← e, Int.mul_add, Int.add_mul, ← Int.mul_assoc, Int.mul_comm tv 2, Int.mul_assoc]
        omega
      refine q_asg (ev_op (ev_var rfl) ev_c (rv_ixT (st_of h8p) i0)) fun H9 e9 => ?_
      by_cases odd : lv % 2 = 1
      · rw [odd, Int.mul_one] at split
        by_cases h1 : fv + tv < Rw.room bs
        · refine q_when (b := true) (et_is (et_test (ev_op (ev_op (ev_var rfl) ev_c (rv_ixT (st_of (e9 _ _ h8p)) i1)) ev_c (rv_eq rfl))) (by rw [odd]; simp)) (fun _ Ha ea => ?_) (fun z => nomatch z)
          have c8 := e7.trans e8
          have Ea := ((E6.trans c8).trans e9).trans ea
          have fa := ((c8.trans e9).trans ea) _ _ hf6
          have ta := ((c8.trans e9).trans ea) _ _ ht6
          refine s_asgL (el_call0 (ea_cons (ev_var rfl) (ea_cons (ev_var rfl) (ea_cons (ev_var rfl) ea_nil))) (sl_summed (hB.mono Ea) g (sq_of fa) (sq_of ta) (tw f0 f1) (tw t0 t1) (by rw [rowN f0 f1, rowN t0 t1]; exact h1))) fun f3 Hb hf3 eb hb3 => ?_
          rw [rowN f0 f1, rowN t0 t1] at hb3
          have d9 := (e9.trans ea).trans eb
          have E9 := Ea.trans eb
          have hf3H : H f3 = none := fresh_back Ea hf3
          dsimp only
          by_cases hz : lv / 2 = 0
          · refine s_when (b := false) (et_is (et_test (ev_op (ev_var rfl) (ev_var rfl) (rv_neI (K := K) (xs := Rw.rowOf bs (lv / 2)) (ys := Rw.rowOf bs 0) (sq_of (d9 _ _ h8h)) (sq_of (d9 _ _ (c8 _ _ hn6)))))) (by rw [hz]; simp)) (fun z => nomatch z) (fun _ Hn en => ?_)
            exact ⟨(lv / 2).toNat, by omega, f3, t2, ph, fv + tv, tv, lv / 2, _, rfl, E9.trans en, hf3H, (d9.trans en) _ _ (c8 _ _ hn6), en _ _ hb3, (d9.trans en) _ _ (c8 _ _ ht6), sq_of ((d9.trans en) _ _ h8h), by omega, by omega, t0, fun _ => t1, by omega, by omega, rfl, by rw [hz, Int.mul_zero]; rw [hz, Int.mul_zero] at split; omega⟩
          · refine s_when (b := true) (et_is (et_test (ev_op (ev_var rfl) (ev_var rfl) (rv_neI (K := K) (xs := Rw.rowOf bs (lv / 2)) (ys := Rw.rowOf bs 0) (sq_of (d9 _ _ h8h)) (sq_of (d9 _ _ (c8 _ _ hn6)))))) (by rw [row_inj g (by omega) (by omega) (Int.le_refl 0) rp, decide_eq_false hz]; rfl)) (fun _ Hm em => ?_) (fun z => nomatch z)
            have E10 := E9.trans em
            have ht10 := (d9.trans em) _ _ (c8 _ _ ht6)
            by_cases h2 : tv + tv < Rw.room bs
            · refine s_asgL (el_call0 (ea_cons (ev_var rfl) (ea_cons (ev_var rfl) (ea_cons (ev_var rfl) ea_nil))) (sl_summed (hB.mono E10) g (sq_of ht10) (sq_of ht10) (tw t0 t1) (tw t0 t1) (by rw [rowN t0 t1]; exact h2))) fun p2 Hn hp2 en hn2' => ?_
              rw [rowN t0 t1] at hn2'
              exact ⟨(lv / 2).toNat, by omega, f3, p2, ph, fv + tv, tv + tv, lv / 2, _, rfl, E10.trans en, hf3H, ((d9.trans em).trans en) _ _ (c8 _ _ hn6), (em.trans en) _ _ hb3, hn2', sq_of (((d9.trans em).trans en) _ _ h8h), by omega, by omega, by omega, fun _ => h2, by omega, by omega, rfl, by omega⟩
            · have big : (tv + tv) * 1 ≤ (tv + tv) * (lv / 2) := Int.mul_le_mul_of_nonneg_left (by omega) (by omega)
              exact s_dvA (dv_call (ea_cons (ev_var rfl) (ea_cons (ev_var rfl) (ea_cons (ev_var rfl) ea_nil))) (sd_summed (hB.mono E10) g (sq_of ht10) (sq_of ht10) (tw t0 t1) (tw t0 t1) (by rw [rowN t0 t1]; exact h2) fun H' e' => kO' (by omega) H' (E10.trans e')))
        · refine q_when (b := true) (et_is (et_test (ev_op (ev_op (ev_var rfl) ev_c (rv_ixT (st_of (e9 _ _ h8p)) i1)) ev_c (rv_eq rfl))) (by rw [odd]; simp)) (fun _ Ha ea => ?_) (fun z => nomatch z)
          have c8 := e7.trans e8
          have Ea := ((E6.trans c8).trans e9).trans ea
          have fa := ((c8.trans e9).trans ea) _ _ hf6
          have ta := ((c8.trans e9).trans ea) _ _ ht6
          have big : 0 ≤ (tv + tv) * (lv / 2) := Int.mul_nonneg (by omega) (by omega)
          exact s_dvA (dv_call (ea_cons (ev_var rfl) (ea_cons (ev_var rfl) (ea_cons (ev_var rfl) ea_nil))) (sd_summed (hB.mono Ea) g (sq_of fa) (sq_of ta) (tw f0 f1) (tw t0 t1) (by rw [rowN f0 f1, rowN t0 t1]; exact h1) fun H' e' => kO' (by omega) H' (Ea.trans e')))
      · have even : lv % 2 = 0 := by omega
        rw [even, Int.mul_zero] at split
        refine q_when (b := false) (et_is (et_test (ev_op (ev_op (ev_var rfl) ev_c (rv_ixT (st_of (e9 _ _ h8p)) i1)) ev_c (rv_eq rfl))) (by rw [even]; simp)) (fun z => nomatch z) (fun _ Ha ea => ?_)
        have c8 := e7.trans e8
        have d9 := e9.trans ea
        have E9 := (E6.trans c8).trans d9
        have hfa := d9 _ _ (c8 _ _ hf6)
        by_cases hz : lv / 2 = 0
        · refine s_when (b := false) (et_is (et_test (ev_op (ev_var rfl) (ev_var rfl) (rv_neI (K := K) (xs := Rw.rowOf bs (lv / 2)) (ys := Rw.rowOf bs 0) (sq_of (d9 _ _ h8h)) (sq_of (d9 _ _ (c8 _ _ hn6)))))) (by rw [hz]; simp)) (fun z => nomatch z) (fun _ Hn en => ?_)
          exact ⟨(lv / 2).toNat, by omega, f, t2, ph, fv, tv, lv / 2, _, rfl, E9.trans en, hf0, (d9.trans en) _ _ (c8 _ _ hn6), en _ _ hfa, (d9.trans en) _ _ (c8 _ _ ht6), sq_of ((d9.trans en) _ _ h8h), by omega, by omega, t0, fun _ => t1, by omega, by omega, rfl, by rw [hz, Int.mul_zero]; rw [hz, Int.mul_zero] at split; omega⟩
        · refine s_when (b := true) (et_is (et_test (ev_op (ev_var rfl) (ev_var rfl) (rv_neI (K := K) (xs := Rw.rowOf bs (lv / 2)) (ys := Rw.rowOf bs 0) (sq_of (d9 _ _ h8h)) (sq_of (d9 _ _ (c8 _ _ hn6)))))) (by rw [row_inj g (by omega) (by omega) (Int.le_refl 0) rp, decide_eq_false hz]; rfl)) (fun _ Hm em => ?_) (fun z => nomatch z)
          have E10 := E9.trans em
          have ht10 := (d9.trans em) _ _ (c8 _ _ ht6)
          by_cases h2 : tv + tv < Rw.room bs
          · refine s_asgL (el_call0 (ea_cons (ev_var rfl) (ea_cons (ev_var rfl) (ea_cons (ev_var rfl) ea_nil))) (sl_summed (hB.mono E10) g (sq_of ht10) (sq_of ht10) (tw t0 t1) (tw t0 t1) (by rw [rowN t0 t1]; exact h2))) fun p2 Hn hp2 en hn2' => ?_
            rw [rowN t0 t1] at hn2'
            exact ⟨(lv / 2).toNat, by omega, f, p2, ph, fv, tv + tv, lv / 2, _, rfl, E10.trans en, hf0, ((d9.trans em).trans en) _ _ (c8 _ _ hn6), (em.trans en) _ _ hfa, hn2', sq_of (((d9.trans em).trans en) _ _ h8h), by omega, by omega, by omega, fun _ => h2, by omega, by omega, rfl, by omega⟩
          · have big : (tv + tv) * 1 ≤ (tv + tv) * (lv / 2) := Int.mul_le_mul_of_nonneg_left (by omega) (by omega)
            exact s_dvA (dv_call (ea_cons (ev_var rfl) (ea_cons (ev_var rfl) (ea_cons (ev_var rfl) ea_nil))) (sd_summed (hB.mono E10) g (sq_of ht10) (sq_of ht10) (tw t0 t1) (tw t0 t1) (by rw [rowN t0 t1]; exact h2) fun H' e' => kO' (by omega) H' (E10.trans e')))
    · have lz : lv = 0 := by simpa using hc
      subst lz
      rw [Int.mul_zero, Int.add_zero] at inv
      rw [← inv] at q'
      exact s_ret (ev_var rfl) fun H8 e8 => q' f1 f H8 hf0 ((E6.trans e7).trans e8) ((e7.trans e8) _ _ hf6)
end
end Rk
namespace Rk
open PySem PySem.Spec PyProof.Rows L2 Evl
section
variable {P : Program} {w : World} {K : PySem.W.Frag} {mg : Str → Option Value} {base : Heap}
/-! ### a deed with two rows -/
def sp__law_done (C cO : Addr) : Sp := fun vs H Q E => ∃ (b pr r u : Addr) (bs : List Int) (kd n m more : Int), vs = [.ref b, .int kd, .ref pr, .int more] ∧ BoardAt C H b bs ∧ Rw.Good bs ∧ H pr = some (.lst [.ref r, .ref u]) ∧ H r = some (.lst ((Rw.rowOf bs n).map V.int)) ∧ H u = some (.lst ((Rw.rowOf bs m).map V.int)) ∧
  0 ≤ kd ∧ kd < 8 ∧ 0 ≤ n ∧ n < Rw.room bs ∧ 0 ≤ m ∧ m < Rw.room bs ∧
  (0 ≤ dueK kd n m more (Rw.room bs) ∧ dueK kd n m more (Rw.room bs) < Rw.room bs → ∀ p H', Ex H H' → (H p = none ∨ p = r ∨ p = u) → H' p = some (.lst ((Rw.rowOf bs (dueK kd n m more (Rw.room bs))).map V.int)) → Q (.ref p) H') ∧
  (¬ (0 ≤ dueK kd n m more (Rw.room bs) ∧ dueK kd n m more (Rw.room bs) < Rw.room bs) → ∀ H', Ex H H' → E (.ref cO) none H')
theorem ok__law_done (L : Lk K mg) : FnOk P w K mg base (L2.CX P w) 7 L.f__law_done L.d__law_done ["_law_board", "_law_kind", "_law_rows", "_law_more"] (sp__law_done L.C L.c_OutOfRoom) := by
  refine L.F__law_done.okX sc__law_done (fun vs H Q E h => ?_) (fun cdv A outer s H vs Q E hr h => ?_)
  · obtain ⟨_, _, _, _, _, _, _, _, _, rfl, _⟩ := h; rfl
  · obtain ⟨b, pr, r, u, bs, kd, n, m, more, rfl, hB, g, hP, hR, hU, k0, k8, n0, n1, m0, m1, q, qO⟩ := h
    refine ⟨_, (pss_cons (ps_set (i := 4) sc__law_done.nd rfl (Or.inl rfl) (pe_ix ix_list (pv 2) pe_int (fun _ _ => rfl)))
      (pss_cons (ps_set (i := 5) sc__law_done.nd rfl (Or.inl rfl) (pe_op op_mod (pv 3) (pe_callB call_len_seq (by rfl) L.z_len PySem.boot_len (pa_cons (pv 4) pa_nil))))
      (pss_cons (ps_if (pt_cmpR op_eq (pv 1) pe_int (nomark _)) (pss_one (ps_ret (pe_call (E := E) (ok_added L) (hr.mono (by decide)) (by rfl) L.g_added L.k_added L.b_added .nil hx (pa_cons (pv 0) (pa_cons (pv 4) (pa_cons (pe_ix ix_list (pv 2) pe_int (fun _ _ => rfl)) pa_nil)))))) pss_nil)
      (pss_cons (ps_if (pt_cmpR op_eq (pv 1) pe_int (nomark _)) (pss_one (ps_ret (pe_call (E := E) (ok_taken L) (hr.mono (by decide)) (by rfl) L.g_taken L.k_taken L.b_taken .nil hx (pa_cons (pv 0) (pa_cons (pv 4) (pa_cons (pe_ix ix_list (pv 2) pe_int (fun _ _ => rfl)) pa_nil)))))) pss_nil)
      (pss_cons (ps_if (pt_cmpR op_eq (pv 1) pe_int (nomark _)) (pss_one (ps_ret (pe_call (E := E) (ok_times L) (hr.mono (by decide)) (by rfl) L.g_times L.k_times L.b_times .nil hx (pa_cons (pv 0) (pa_cons (pv 4) (pa_cons (pe_meth (E := E) (pv 0) L.cl L.m_rests (ok_rests L) (hr.mono (by decide)) L.b_rests .nil hx (pa_cons (pe_op op_mod (pv 3) (pe_callB (call_min2 rfl) (by rfl) L.z_min (by decide +kernel) (pa_cons pe_int (pa_cons (pe_meth0 (E := E) (pv 0) L.cl L.m_room (ok_room L) (hr.mono (by decide)) L.b_room .nil hx) pa_nil)))) pa_nil)) pa_nil)))))) pss_nil)
      (pss_cons (ps_if (pt_cmpR op_eq (pv 1) pe_int (nomark _)) (pss_one (ps_ret (pe_ix ix_tup (pe_call (E := E) (ok_halved L) (hr.mono (by decide)) (by rfl) L.g_halved L.k_halved L.b_halved .nil hx (pa_cons (pv 0) (pa_cons (pv 4) pa_nil))) pe_int (fun _ _ => rfl)))) pss_nil)
      (pss_cons (ps_if (pt_cmpR op_eq (pv 1) pe_int (nomark _)) (pss_one (ps_ret (pe_ix ix_list (pv 2) (pe_callTy call_int1 (by rfl) L.z_int (by decide +kernel) (pa_cons (pe_cmpR op_lt (pe_meth (E := E) (pv 0) L.cl L.m_compared (ok_compared L) (hr.mono (by decide)) L.b_compared .nil hx (pa_cons (pv 4) (pa_cons (pe_ix ix_list (pv 2) pe_int (fun _ _ => rfl)) pa_nil))) pe_int (nomark _)) pa_nil)) (fun _ _ => rfl)))) pss_nil)
      (pss_cons (ps_if (pt_cmpR op_eq (pv 1) pe_int (nomark _)) (pss_one (ps_ret (pe_call (E := E) (ok_refilled L) (hr.mono (by decide)) (by rfl) L.g_refilled L.k_refilled L.b_refilled .nil hx (pa_cons (pv 0) (pa_cons (pe_op op_cat (pe_op op_cat (pe_slice sl_list (pv 4) po_none (po_some (pv 5))) (pe_lst (pa_cons pe_non pa_nil))) (pe_slice sl_list (pv 4) (po_some (pe_op op_add (pv 5) pe_int)) po_none)) (pa_cons (pv 5) pa_nil)))))) pss_nil)
      (pss_cons (ps_if (pt_cmpR op_eq (pv 1) pe_int (nomark _)) (pss_cons (ps_set (i := 6) sc__law_done.nd rfl (Or.inl rfl) (pe_op op_mod (pe_op op_add (pe_ix ix_list (pv 4) (pv 5) (fun _ _ => rfl)) pe_int) (pe_ix ix_list (pe_fld (pv 0) (by rfl)) (pv 5) (fun _ _ => rfl))))
      (pss_one (ps_ret (pe_ix ix_tup (pe_call (E := E) (ok_mended L) (hr.mono (by decide)) (by rfl) L.g_mended L.k_mended L.b_mended .nil hx (pa_cons (pv 0) (pa_cons (pe_op op_cat (pe_op op_cat (pe_slice sl_list (pv 4) po_none (po_some (pv 5))) (pe_lst (pa_cons (pv 6) pa_nil))) (pe_slice sl_list (pv 4) (po_some (pe_op op_add (pv 5) pe_int)) po_none)) pa_nil))) pe_int (fun _ _ => rfl))))) pss_nil)
      (pss_one (ps_ret (pe_meth (E := E) (pv 0) L.cl L.m_rests (ok_rests L) (hr.mono (by decide)) L.b_rests .nil hx (pa_cons (pe_op op_mod (pv 3) (pe_meth0 (E := E) (pv 0) L.cl L.m_room (ok_room L) (hr.mono (by decide)) L.b_room .nil hx)) pa_nil))))))))))))), ?_⟩
    dsimp only [cxOf]
    walk_at "ns"
    have h3 := g.len3
    have h14 := g.len14
    have rp := g.room_pos
    have wn := tells_row g n0 n1
    have wm := tells_row g m0 m1
    have nn := Rw.num_rowR g n0 n1
    have nm := Rw.num_rowR g m0 m1
    have hlb : (bs.map V.int).length = bs.length := List.length_map _
    have hlr : ((Rw.rowOf bs n).map V.int).length = bs.length := by rw [List.length_map, Rw.rowOf_length]
    have hrl := Rw.rowOf_length bs n
    have i0 : atI ([V.ref r, V.ref u] : List V) 0 = some (V.ref r) := atI_nat (j := 0) rfl
    have i1 : atI ([V.ref r, V.ref u] : List V) 1 = some (V.ref u) := atI_nat (j := 1) rfl
    have p0 := Int.emod_nonneg more (show (bs.length : Int) ≠ 0 by omega)
    have p1 := Int.emod_lt_of_pos more (show 0 < (bs.length : Int) by omega)
    obtain ⟨p, hp'⟩ : ∃ p : Nat, more % (bs.length : Int) = (p : Int) := ⟨(more % (bs.length : Int)).toNat, by omega⟩
    have hpl : p < bs.length := by omega
    have hc : bs[p]? = some bs[p] := List.getElem?_eq_getElem hpl
    generalize bs[p] = c at hc
    have c3 := g.get3 hc
    refine q_asg (ev_op (ev_var rfl) ev_c (rv_ixL (sq_of hP) i0)) fun H1 e1 => ?_
    walk_at "ns"
    refine q_asg (ev_is (ev_op (ev_var rfl) (ev_len (ev_var rfl) (sq_of (e1 _ _ hR))) (rv_I (by rw [hlr]; omega))) (by rw [hlr, hp'])) fun H2 e2 => ?_
    walk_at "ns"
    have E2 := e1.trans e2
    have kis : ∀ {i : Int}, EvT (tTest (tOp rEq (tVar 1) (tC (.int i)))) [some (.ref b), some (.int kd), some (.ref pr), some (.int more), some (.ref r), some (.int (p : Int)), none] H2 (decide (kd = i)) := fun {i} => et_is (et_test (ev_op (ev_var rfl) ev_c (rv_eq rfl))) (by simp)
    -- 0: the sum
    refine q_when kis (fun hk H3 e3 => ?_) (fun hk0 H3 e3 => ?_)
    · obtain rfl := of_decide_eq_true hk
      have E3 := E2.trans e3
      refine s_retC (ea_cons (ev_var rfl) (ea_cons (ev_var rfl) (ea_cons (ev_op (ev_var rfl) ev_c (rv_ixL (sq_of (E3 _ _ hP)) i1)) ea_nil))) fun H4 e4 => ?_
      have E4 := E3.trans e4
      have ed : dueK 0 n m more (Rw.room bs) = n + m := rfl
      rw [ed] at q qO
      refine ⟨b, r, u, bs, _, _, rfl, hB.mono E4, g, sq_of (E4 _ _ hR), sq_of (E4 _ _ hU), fun _ _ hd p' H5 n5 e5 h5 => ?_, fun _ _ hd H5 e5 => ?_, fun nw => absurd ⟨wn, wm⟩ nw⟩
      · rw [nn, nm] at hd h5
        exact q ⟨by omega, hd⟩ p' H5 (E4.trans e5) (.inl (fresh_back E4 n5)) h5
      · rw [nn, nm] at hd
        exact qO (by omega) H5 (E4.trans e5)
    have E3 := E2.trans e3
    -- 1: the difference
    refine q_when (kis.mono e3) (fun hk H4 e4 => ?_) (fun hk1 H4 e4 => ?_)
    · obtain rfl := of_decide_eq_true hk
      have E4 := E3.trans e4
      refine s_retC (ea_cons (ev_var rfl) (ea_cons (ev_var rfl) (ea_cons (ev_op (ev_var rfl) ev_c (rv_ixL (sq_of (E4 _ _ hP)) i1)) ea_nil))) fun H5 e5 => ?_
      have E5 := E4.trans e5
      have ed : dueK 1 n m more (Rw.room bs) = n - m := rfl
      rw [ed] at q qO
      refine ⟨b, r, u, bs, _, _, rfl, hB.mono E5, g, sq_of (E5 _ _ hR), sq_of (E5 _ _ hU), fun _ _ hd p' H6 n6 e6 h6 => ?_, fun _ _ hd H6 e6 => ?_, fun nw => absurd ⟨wn, wm⟩ nw⟩
      · rw [nn, nm] at hd h6
        exact q ⟨hd, by omega⟩ p' H6 (E5.trans e6) (.inl (fresh_back E5 n6)) h6
      · rw [nn, nm] at hd
        exact qO (by omega) H6 (E5.trans e6)
    have E4 := E3.trans e4
    -- 2: the product
    refine q_when (kis.mono (e3.trans e4)) (fun hk H5 e5 => ?_) (fun hk2 H5 e5 => ?_)
    · obtain rfl := of_decide_eq_true hk
      have E5 := E4.trans e5
      have lb := least50_b rp
      have f0 := Int.emod_nonneg more (show least50 (Rw.room bs) ≠ 0 by omega)
      have f1 := Int.emod_lt_of_pos more lb.1
      have ed : dueK 2 n m more (Rw.room bs) = n * (more % least50 (Rw.room bs)) := rfl
      rw [ed] at q qO
      obtain ⟨dx, l, t, hb, hl, ht⟩ := id hB
      have hb5 := E5 _ _ hb
      generalize hf : more % least50 (Rw.room bs) = f at *
      have hfb : f < Rw.room bs := by omega
      have nf := Rw.num_rowR g f0 hfb
      refine s_retVVL (ev_var rfl) (ev_var rfl) (el_meth (ev_var rfl) hb5 (bf_none l t (by decide +kernel) (by decide +kernel)) (ea_cons (ev_is (ev_op (ev_var rfl) (ev_cb (ea_cons ev_c (ea_cons (ev_meth (ev_var rfl) hb5 (bf_none l t (by decide +kernel) (by decide +kernel)) ea_nil (sv_room (hB.mono E5) g)) ea_nil)) rc_min) (rv_I (show 0 < least50 (Rw.room bs) from lb.1))) (by rw [← hf]; rfl)) ea_nil) (sl_rests (hB.mono E5) g f0 hfb)) fun fp H6 hfp e6 h6 => ?_
      have E6 := E5.trans e6
      refine ⟨b, r, fp, bs, _, _, rfl, hB.mono E6, g, sq_of (E6 _ _ hR), sq_of h6, fun _ _ hd p' H7 n7 e7 h7 => ?_, fun _ _ hd H7 e7 => ?_, fun nw => absurd ⟨wn, tells_row g f0 hfb⟩ nw⟩
      · rw [nn, nf] at hd h7
        exact q ⟨Int.mul_nonneg n0 f0, hd⟩ p' H7 (E6.trans e7) (.inl (fresh_back E6 n7)) h7
      · rw [nn, nf] at hd
        exact qO (fun z => hd z.2) H7 (E6.trans e7)
    have E5 := E4.trans e5
    -- 3: the half
    refine q_when (kis.mono ((e3.trans e4).trans e5)) (fun hk H6 e6 => ?_) (fun hk3 H6 e6 => ?_)
    · obtain rfl := of_decide_eq_true hk
      have E6 := E5.trans e6
      have ed : dueK 3 n m more (Rw.room bs) = n / 2 := rfl
      rw [ed] at q qO
      have z := sg_halved (K := K) (cR := L.c_NoRow) (cN := L.c_NoNumber) (hB.mono E6) g (sq_of (E6 _ _ hR)) wn
      rw [nn] at z
      refine s_retPick (xs := (Rw.rowOf bs (n / 2)).map V.int) (eg_call NewPair.back (ea_cons (ev_var rfl) (ea_cons (ev_var rfl) ea_nil)) z) (fun H1 v H2 ⟨pp, ph, ev, _, a0, _, a1, a2⟩ => ⟨pp, ph, _, ev, a0, a1, a2⟩) fun ph H7 e7 n7 h7 => ?_
      exact q ⟨by omega, by omega⟩ ph H7 (E6.trans e7) (.inl (fresh_back E6 n7)) h7
    have E6 := E5.trans e6
    -- 4: the greater one
    refine q_when (kis.mono (((e3.trans e4).trans e5).trans e6)) (fun hk H7 e7 => ?_) (fun hk4 H7 e7 => ?_)
    · obtain rfl := of_decide_eq_true hk
      have E7 := E6.trans e7
      have ed : dueK 4 n m more (Rw.room bs) = if m > n then m else n := rfl
      rw [ed] at q qO
      obtain ⟨dx, l, t, hb, hl, ht⟩ := id hB
      have z := sv_compared (K := K) (cR := L.c_NoRow) (cN := L.c_NoNumber) (hB.mono E7) g (sq_of (E7 _ _ hR)) (sq_of (E7 _ _ hU)) wn wm
      rw [nn, nm] at z
      have ix : atI ([V.ref r, V.ref u] : List V) (if decide (cmp3 n m < 0) then 1 else 0) = some (if m > n then V.ref u else V.ref r) := by
        unfold cmp3
        by_cases h : n < m
        · rw [if_pos h, if_pos h]
          exact i1
        · rw [if_neg h, if_neg h]
          by_cases h' : m < n
          · rw [if_pos h']
            exact i0
          · rw [if_neg h']
            exact i0
      refine s_ret (v := if m > n then V.ref u else V.ref r) (ev_op (ev_var rfl) (ev_cb (ea_cons (ev_op (ev_meth (ev_var rfl) (E7 _ _ hb) (bf_none l t (by decide +kernel) (by decide +kernel)) (ea_cons (ev_var rfl) (ea_cons (ev_op (ev_var rfl) ev_c (rv_ixL (sq_of (E7 _ _ hP)) i1)) ea_nil)) z) ev_c rv_I0) ea_nil) rc_intB) (rv_ixL (sq_of (E7 _ _ hP)) ix)) fun H8 e8 => ?_
      have E8 := E7.trans e8
      by_cases h : m > n
      · rw [if_pos h] at q ⊢
        exact q ⟨m0, m1⟩ u H8 E8 (.inr (.inr rfl)) (E8 _ _ hU)
      · rw [if_neg h] at q ⊢
        exact q ⟨n0, n1⟩ r H8 E8 (.inr (.inl rfl)) (E8 _ _ hR)
    have E7 := E6.trans e7
    have x7 := ((((e3.trans e4).trans e5).trans e6).trans e7)
    -- 5: one lost
    refine q_when (kis.mono x7) (fun hk H8 e8 => ?_) (fun hk5 H8 e8 => ?_)
    · obtain rfl := of_decide_eq_true hk
      have E8 := E7.trans e8
      have ed : dueK 5 n m more (Rw.room bs) = n := rfl
      rw [ed] at q qO
      refine s_retVLV (xs := ((Rw.rowOf bs n).map V.int).set p .non) (ev_var rfl) (by
        rw [← cut_setV _ p .non (by rw [hlr]; exact hpl)]
        refine el_cat (eh_new (el_cat (eh_new (el_slH (eh_old (ev_var rfl) (E8 _ _ hR)) eo_none (eo_some (ev_var rfl)))) (eh_new (el_lst (ea_cons ev_c ea_nil) (by show 1 ≤ 100000; decide))) ?_)) (eh_new (el_slH (eh_old (ev_var rfl) (E8 _ _ hR)) (eo_some (ev_op (ev_var rfl) ev_c rv_I0)) eo_none)) ?_
        · have := cutV_length ((Rw.rowOf bs n).map V.int) none (some (p : Int)); rw [hlr] at this; simp at this ⊢; omega
        · have := cutV_length ((Rw.rowOf bs n).map V.int) none (some (p : Int)); have := cutV_length ((Rw.rowOf bs n).map V.int) (some ((p : Int) + 1)) none; rw [hlr] at *; simp at *; omega) (ev_var rfl) fun lp H9 hlp e9 h9 => ?_
      have E9 := E8.trans e9
      have wz := isRow_set wn.1 hc (Int.le_refl 0) (by omega)
      have o1 : Rw.onum bs ((Rw.rowOf bs n).set p 0) p = n := onum_row g hpl n0 n1
      refine ⟨b, lp, bs, _, (p : Int), rfl, hB.mono E9, g, sq_of h9, by rw [List.length_set, hlr]; omega, fun z => absurd ⟨by omega, by omega⟩ z, fun _ => ⟨(Rw.rowOf bs n).set p 0, ?_, fun z => absurd wz z, fun _ mp hmp => ?_⟩⟩
      · rw [Int.toNat_natCast, List.set_set, List.map_set]
      · rw [Int.toNat_natCast] at hmp ⊢
        rw [hc] at hmp
        obtain rfl := Option.some.inj hmp
        rw [o1, set_back hc]
        exact ⟨fun _ p' H10 n10 e10 h10 => q ⟨n0, n1⟩ p' H10 (E9.trans e10) (.inl (fresh_back E9 n10)) h10, fun z => absurd n1 z⟩
    have E8 := E7.trans e8
    -- 6: one spoiled
    refine q_when (kis.mono (x7.trans e8)) (fun hk H9 e9 => ?_) (fun hk6 H9 e9 => ?_)
    · obtain rfl := of_decide_eq_true hk
      have E9 := E8.trans e9
      have ed : dueK 6 n m more (Rw.room bs) = n := rfl
      rw [ed] at q qO
      obtain ⟨dx, l, t, hb, hl, ht⟩ := id hB
      have spl := spoil_ne (x := n) (m := c) (d := 1) c3.1 (by omega) (by omega)
      refine q_asg (v := .int ((n % c + 1) % c)) (ev_op (ev_op (ev_op (ev_var rfl) (ev_var rfl) (rv_ixL (sq_of (E9 _ _ hR)) (at_map (Rw.rowOf_get hc)))) ev_c rv_I0) (ev_op (ev_fld (ev_var rfl) (E9 _ _ hb) L.cl L.nB (bf_bases l t)) (ev_var rfl) (rv_ixL (sq_of (E9 _ _ hl)) (at_map hc))) (rv_I (show 0 < c by omega))) fun H10 e10 => ?_
      walk_at "ns"
      have E10 := E9.trans e10
      generalize (n % c + 1) % c = v at spl ⊢
      have bad := set_ne_row g n0 n1 hc spl.2.1 spl.2.2 spl.1
      have o1 : Rw.onum bs ((Rw.rowOf bs n).set p v) p = n := onum_row g hpl n0 n1
      have back : ((Rw.rowOf bs n).set p v).set p (Rw.onum bs ((Rw.rowOf bs n).set p v) p % c) = Rw.rowOf bs n := by rw [o1]; exact set_back hc
      have far : ∀ q, q < p → ¬ Rw.onum bs ((Rw.rowOf bs n).set p v) q < Rw.room bs := fun q hq => by
        refine onum_two g bad.1.len (show q < bs.length by omega) hc (by omega) n0 n1 (rq := v) (fun k b r h1 h2 hb hr => ?_) (List.getElem?_set_self (by rw [hrl]; exact hpl)) (fun z => ?_)
        · rw [List.getElem?_set_ne (fun z => h2 z.symm), Rw.rowOf_get hb] at hr
          rw [← Option.some.inj hr, Int.emod_emod]
        · rw [Int.emod_eq_of_lt spl.2.1 spl.2.2] at z
          exact spl.1 z.symm
      have sgm : ∀ (q : Addr) (H' : Hp), Ex H10 H' → H' q = some (.lst (((Rw.rowOf bs n).set p v).map V.int)) → SpG (sp_mended K L.C L.c_NoRow L.c_Lost) [.ref b, .ref q] H' (NewM (Rw.rowOf bs n) (.int (p : Int))) := fun q H' e h => by
        have z := sg_mended1 (K := K) (cR := L.c_NoRow) (cL := L.c_Lost) (hB.mono (E10.trans e)) g (sq_of h) bad.1 bad.2 hc (by rw [o1]; exact n1) far
        rw [back] at z
        exact z
      refine s_retPick (xs := (Rw.rowOf bs n).map V.int) (eg_callVL (xs := ((Rw.rowOf bs n).set p v).map V.int) NewM.back (ev_var rfl) (by
        rw [← cut_set _ p v (by rw [hrl]; exact hpl)]
        refine el_cat (eh_new (el_cat (eh_new (el_slH (eh_old (ev_var rfl) (E10 _ _ hR)) eo_none (eo_some (ev_var rfl)))) (eh_new (el_lst (ea_cons (ev_var rfl) ea_nil) (by show 1 ≤ 100000; decide))) ?_)) (eh_new (el_slH (eh_old (ev_var rfl) (E10 _ _ hR)) (eo_some (ev_op (ev_var rfl) ev_c rv_I0)) eo_none)) ?_
        · have := cutV_length ((Rw.rowOf bs n).map V.int) none (some (p : Int)); rw [hlr] at this; simp at this ⊢; omega
        · have := cutV_length ((Rw.rowOf bs n).map V.int) none (some (p : Int)); have := cutV_length ((Rw.rowOf bs n).map V.int) (some ((p : Int) + 1)) none; rw [hlr] at *; simp at *; omega) sgm) (fun H1 w H2 ⟨pp, ph, ev, _, a0, _, a1, a2⟩ => ⟨pp, ph, _, ev, a0, a1, a2⟩) fun ph H11 e11 n11 h11 => ?_
      exact q ⟨n0, n1⟩ ph H11 (E10.trans e11) (.inl (fresh_back E10 n11)) h11
    have E9 := E8.trans e9
    -- 7: another number's row
    have hk : kd = 7 := by
      have := of_decide_eq_false hk0; have := of_decide_eq_false hk1; have := of_decide_eq_false hk2; have := of_decide_eq_false hk3; have := of_decide_eq_false hk4; have := of_decide_eq_false hk5; have := of_decide_eq_false hk6
      omega
    subst hk
    have ed : dueK 7 n m more (Rw.room bs) = more % Rw.room bs := rfl
    rw [ed] at q qO
    obtain ⟨dx, l, t, hb, hl, ht⟩ := id hB
    have f0 := Int.emod_nonneg more (show Rw.room bs ≠ 0 by omega)
    have f1 := Int.emod_lt_of_pos more rp
    refine s_retL (el_meth (ev_var rfl) (E9 _ _ hb) (bf_none l t (by decide +kernel) (by decide +kernel)) (ea_cons (ev_op (ev_var rfl) (ev_meth (ev_var rfl) (E9 _ _ hb) (bf_none l t (by decide +kernel) (by decide +kernel)) ea_nil (sv_room (hB.mono E9) g)) (rv_I rp)) ea_nil) (sl_rests (hB.mono E9) g f0 f1)) fun fp H10 hfp e10 h10 => ?_
    exact q ⟨f0, f1⟩ fp H10 (E9.trans e10) (.inl (fresh_back E9 hfp)) h10
end
end Rk
namespace Rk
open PySem PySem.Spec PyProof.Rows L2 Evl
section
variable {P : Program} {w : World} {K : PySem.W.Frag} {mg : Str → Option Value} {base : Heap}
/-! ### what plain numbers come to -/
def sp__law_due : Sp := fun vs H Q _ => ∃ kd n m more rm : Int, vs = [.int kd, .int n, .int m, .int more, .int rm] ∧ 0 ≤ kd ∧ kd < 8 ∧ 0 < rm ∧ ∀ H', Ex H H' → Q (.int (dueK kd n m more rm)) H'
theorem ok__law_due (L : Lk K mg) : FnOk P w K mg base (L2.CX P w) 1 L.f__law_due L.d__law_due ["_law_kind", "_law_one", "_law_other", "_law_more", "_law_room_here"] sp__law_due := by
  refine L.F__law_due.okX sc__law_due (fun vs H Q E h => ?_) (fun cdv A outer s H vs Q E hr h => ?_)
  · obtain ⟨_, _, _, _, _, rfl, _⟩ := h; rfl
  · obtain ⟨kd, n, m, more, rm, rfl, k0, k8, rp, q⟩ := h
    refine ⟨_, (pss_cons (ps_if (pt_cmpR op_gt (pv 0) pe_int (nomark _)) (pss_one (ps_ret (pe_ix ix_list (pe_lst (pa_cons (pv 1) (pa_cons (pv 1) (pa_cons (pe_op op_mod (pv 3) (pv 4)) pa_nil)))) (pe_op op_sub (pv 0) pe_int) (fun _ _ => rfl)))) pss_nil)
      (pss_one (ps_ret (pe_ix ix_list (pe_lst (pa_cons (pe_op op_add (pv 1) (pv 2)) (pa_cons (pe_op op_sub (pv 1) (pv 2)) (pa_cons (pe_op op_mul (pv 1) (pe_op op_mod (pv 3) (pe_callB (call_min2 rfl) (by rfl) L.z_min (by decide +kernel) (pa_cons pe_int (pa_cons (pv 4) pa_nil))))) (pa_cons (pe_op op_fdiv (pv 1) pe_int) (pa_cons (pe_callB (call_max2 rfl) (by rfl) L.z_max (by decide +kernel) (pa_cons (pv 1) (pa_cons (pv 2) pa_nil))) pa_nil)))))) (pv 0) (fun _ _ => rfl))))), ?_⟩
    have lb := least50_b rp
    have mb := Int.emod_nonneg more (show least50 rm ≠ 0 by omega)
    have mb' := Int.emod_lt_of_pos more lb.1
    refine q_when (et_test (ev_op (ev_var rfl) ev_c rv_I0)) (fun hc H1 e1 => ?_) (fun hc H1 e1 => ?_)
    · have hc' := of_decide_eq_true hc
      refine s_ret (v := .int (dueK kd n m more rm)) (ev_opL1 (el_lst (vs := ([n, n, more % rm] : List Int).map V.int) (ea_cons (ev_var rfl) (ea_cons (ev_var rfl) (ea_cons (ev_op (ev_var rfl) (ev_var rfl) (rv_I rp)) ea_nil))) (by show 3 ≤ 100000; decide))
        (fun _ _ => ev_op (ev_var rfl) ev_c rv_I0) (fun p H2 h _ => rv_ixL (sq_of h) ?_)) fun H2 e2 => q H2 (e1.trans e2)
      rcases (show kd = 5 ∨ kd = 6 ∨ kd = 7 by omega) with e | e | e <;> subst e
      · exact at_mapI (k := 0) (by decide) rfl
      · exact at_mapI (k := 1) (by decide) rfl
      · exact at_mapI (k := 2) (by decide) rfl
    · have hc' := of_decide_eq_false hc
      refine s_ret (v := .int (dueK kd n m more rm)) (ev_opL1 (el_lst (vs := ([n + m, n - m, n * (more % least50 rm), n / 2, (if m > n then m else n)] : List Int).map V.int)
        (ea_cons (ev_op (ev_var rfl) (ev_var rfl) rv_I0) (ea_cons (ev_op (ev_var rfl) (ev_var rfl) rv_I0) (ea_cons (ev_op (ev_var rfl) (ev_op (ev_var rfl) (ev_cb (ea_cons ev_c (ea_cons (ev_var rfl) ea_nil)) rc_min) (rv_I lb.1)) (rv_I (cmulR (by show _ < more % least50 rm ∧ more % least50 rm < _; omega)))) (ea_cons (ev_op (ev_var rfl) ev_c (rv_I ⟨by decide, by decide⟩)) (ea_cons (ev_cb (ea_cons (ev_var rfl) (ea_cons (ev_var rfl) ea_nil)) rc_max) ea_nil))))) (by show 5 ≤ 100000; decide))
        (fun _ _ => ev_var rfl) (fun p H2 h _ => rv_ixL (sq_of h) ?_)) fun H2 e2 => q H2 (e1.trans e2)
      rcases (show kd = 0 ∨ kd = 1 ∨ kd = 2 ∨ kd = 3 ∨ kd = 4 by omega) with e | e | e | e | e <;> subst e
      · exact at_mapI (k := 0) rfl rfl
      · exact at_mapI (k := 1) rfl rfl
      · exact at_mapI (k := 2) rfl rfl
      · exact at_mapI (k := 3) rfl rfl
      · exact at_mapI (k := 4) rfl rfl
theorem ev_due {σ : L2.St} {H : Hp} {E : XK} {tA : TA} {kd n m more rm : Int} (h : EvA tA σ H [.int kd, .int n, .int m, .int more, .int rm]) (k0 : 0 ≤ kd) (k8 : kd < 8) (rp : 0 < rm) : Ev (tCall sp__law_due [] E tA) σ H (.int (dueK kd n m more rm)) :=
  ev_call0 h fun H1 e1 Q' q' _ => ⟨kd, n, m, more, rm, rfl, k0, k8, rp, q'⟩
end
end Rk
namespace Rk
open PySem PySem.Spec PyProof.Rows L2 Evl
section
variable {P : Program} {w : World} {K : PySem.W.Frag} {mg : Str → Option Value} {base : Heap}
/-! ### the law's room -/
def sp__law_room : Sp := fun vs H Q _ => ∃ (p : Addr) (bs : List Int), vs = [.ref p] ∧ H p = some (.lst (bs.map V.int)) ∧ Rw.Good bs ∧ ∀ H', Ex H H' → Q (.int (Rw.room bs)) H'
theorem ok__law_room (L : Lk K mg) : FnOk P w K mg base (L2.CX P w) 1 L.f__law_room L.d__law_room ["_law_bases_here"] sp__law_room := by
  refine L.F__law_room.okX sc__law_room (fun vs H Q E h => ?_) (fun cdv A outer s H vs Q E hr h => ?_)
  · obtain ⟨_, _, rfl, _⟩ := h; rfl
  · obtain ⟨b, bs, rfl, hb, g, q⟩ := h
    refine ⟨_, (pss_cons (ps_set (i := 1) sc__law_room.nd rfl (Or.inl rfl) pe_int)
      (pss_cons (ps_for (passes_of rfl) rfl (pi_list (pe_slice sl_list (pv 0) po_none (po_some (pe_op op_sub (pe_callB call_len_seq (by rfl) L.z_len PySem.boot_len (pa_cons (pv 0) pa_nil)) pe_int)))) (pg_name (i := 2) sc__law_room.nd rfl (Or.inl rfl)) (pss_one (ps_set (i := 1) sc__law_room.nd rfl (Or.inl rfl) (pe_op op_mul (pv 1) (pv 2)))))
      (pss_one (ps_ret (pv 1))))), ?_⟩
    have h3 := g.len3
    have h14 := g.len14
    refine q_asg ev_c fun H1 e1 => ?_
    have hlb : (bs.map V.int).length = bs.length := List.length_map _
    have ec : cutV (bs.map V.int) none (some ((bs.map V.int).length - 2)) = (bs.take (bs.length - 2)).map V.int := by
      rw [hlb, show ((bs.length : Int) - 2) = ((bs.length - 2 : Nat) : Int) by omega, cut_to, List.map_take]
    refine q_forNLn (el_sl (ev_var rfl) eo_none (eo_some (ev_op (ev_len (ev_var rfl) (sq_of (e1 _ _ hb))) ev_c rv_I0)) (sq_of (e1 _ _ hb)))
      (fun p i σ' H' => ∃ v3, σ' = [some (.ref b), some (.int (Rw.prod (bs.take i))), v3] ∧ Ex H H' ∧ H' p = some (.lst ((bs.take (bs.length - 2)).map V.int)))
      (fun p H2 hp e2 h2 => ⟨_, rfl, e1.trans e2, by rw [h2, ec]⟩) (fun p i σ' H' _ ⟨_, _, _, h⟩ => by rw [ec]; exact sq_of h) ?_ ?_
    · rintro p i z σ' H2 hi ⟨v3, rfl, e2, h2⟩
      rw [ec] at hi
      obtain ⟨c, hc, rfl⟩ := map_get hi
      have hik : i < bs.length - 2 := by
        have := (List.getElem?_eq_some_iff.mp hc).1
        simp at this
        omega
      rw [List.getElem?_take_of_lt hik] at hc
      have c3 := g.get3 hc
      refine s_asg (ev_op (ev_var rfl) (ev_var rfl) (rv_I (cmulR (by omega)))) fun H3 e3 => ?_
      exact ⟨_, by rw [Rw.prod_take_succ hc]; rfl, e2.trans e3, e3 _ _ h2⟩
    · rintro p σ' H2 ⟨v3, rfl, e2, h2⟩
      rw [ec, List.length_map, List.length_take, Nat.min_eq_left (by omega)]
      exact s_ret (ev_var rfl) fun H3 e3 => q H3 (e2.trans e3)
theorem sv__law_room {p : Addr} {H : Hp} {bs : List Int} (hp : H p = some (.lst (bs.map V.int))) (g : Rw.Good bs) : SpV sp__law_room [.ref p] H (.int (Rw.room bs)) := fun H1 e Q q _ => ⟨p, bs, rfl, e _ _ hp, g, q⟩
end
end Rk
namespace Rk
open PySem PySem.Spec PyProof.Rows L2 Evl
section
variable {P : Program} {w : World} {K : PySem.W.Frag} {mg : Str → Option Value} {base : Heap}
/-! ### the law's look at a row -/
def sp__law_row : Sp := fun vs H Q _ => ∃ (p d : Addr) (ms ds : List Int), vs = [.ref p, .ref d] ∧ H p = some (.lst (ms.map V.int)) ∧ H d = some (.lst (ds.map V.int)) ∧ ∀ H', Ex H H' → Q (.bl (decide (ms = ds))) H'
theorem ok__law_row (L : Lk K mg) : FnOk P w K mg base (L2.CX P w) 1 L.f__law_row L.d__law_row ["_law_made", "_law_due_here"] sp__law_row := by
  refine L.F__law_row.okX sc__law_row (fun vs H Q E h => ?_) (fun cdv A outer s H vs Q E hr h => ?_)
  · obtain ⟨_, _, _, _, rfl, _⟩ := h; rfl
  · obtain ⟨p, d, ms, ds, rfl, hp, hd, q⟩ := h
    refine ⟨_, (pss_cons (ps_if (PW.pt (pw_or (pt_not (pt_val (pe_callB call_isi (by rfl) L.z_isinstance (by decide +kernel) (pa_cons (pv 0) (pa_cons (pe_bltn (v := .ty "list") (by rfl) L.z_list (by decide +kernel) rfl) pa_nil))))) (pw_or1 (pt_cmpR op_ne (pe_callB call_len_seq (by rfl) L.z_len PySem.boot_len (pa_cons (pv 0) pa_nil)) (pe_callB call_len_seq (by rfl) L.z_len PySem.boot_len (pa_cons (pv 1) pa_nil)) (nomark _))))) (pss_one (ps_ret pe_bl)) pss_nil)
      (pss_cons (ps_for (passes_of rfl) rfl (pi_list (pv 0)) (pg_name (i := 2) sc__law_row.nd rfl (Or.inl rfl)) (pss_one (ps_if (PW.pt (pw_or (pt_not (pt_val (pe_callB call_isi (by rfl) L.z_isinstance (by decide +kernel) (pa_cons (pv 2) (pa_cons (pe_bltn (v := .ty "int") (by rfl) L.z_int (by decide +kernel) rfl) pa_nil))))) (pw_or1 (pt_val (pe_callB call_isi (by rfl) L.z_isinstance (by decide +kernel) (pa_cons (pv 2) (pa_cons (pe_bltn (v := .ty "bool") (by rfl) L.z_bool (by decide +kernel) rfl) pa_nil))))))) (pss_one (ps_ret pe_bl)) pss_nil)))
      (pss_one (ps_ret (pe_cmpR (op_eqD hr.units) (pv 0) (pv 1) (nomark _)))))), ?_⟩
    have hlm : (ms.map V.int).length = ms.length := List.length_map _
    have hld : (ds.map V.int).length = ds.length := List.length_map _
    refine q_when (b := !decide (ms.length = ds.length)) (et_is (et_or (et_not (a := true) (et_B (ev_cb (ea_cons (ev_var rfl) (ea_cons ev_c ea_nil)) (rc_isi (.ty _) (fun H1 e1 => ty_lst (e1 _ _ hp)) (kit_ty (by decide +kernel))))))
      (fun _ => et_test (ev_op (ev_len (ev_var rfl) (sq_of hp)) (ev_len (ev_var rfl) (sq_of hd)) (rv_ne rfl)))) (by
        rw [hlm, hld]
        by_cases h : ms.length = ds.length
        · simp [h]
        · have : ¬ ((ms.length : Int) = (ds.length : Int)) := by omega
          simp [h, this])) (fun hc H1 e1 => ?_) (fun hc H1 e1 => ?_)
    · refine s_ret ev_c fun H2 e2 => ?_
      have z := q H2 (e1.trans e2)
      rw [decide_eq_false (fun h : ms = ds => by rw [h] at hc; simp at hc)] at z
      exact z
    · refine q_forLn (ev_var rfl) (sq_of (e1 _ _ hp)) (fun i σ' H' => ∃ v2, σ' = [some (.ref p), some (.ref d), v2] ∧ Ex H H') (fun H2 e2 => ⟨none, rfl, e1.trans e2⟩) (fun i σ' H' _ ⟨_, _, e⟩ => sq_of (e _ _ hp)) ?_ ?_
      · rintro i x σ' H2 hi ⟨v2, rfl, e2⟩
        obtain ⟨m, hm, rfl⟩ := map_get hi
        refine s_when (b := false) (et_is (et_or (et_not (a := true) (et_B (ev_cb (ea_cons (ev_var rfl) (ea_cons ev_c ea_nil)) (rc_isi (.ty _) (fun _ _ => ty_int) (kit_ty (by decide +kernel))))))
          (fun _ => et_B (b := false) (ev_cb (ea_cons (ev_var rfl) (ea_cons ev_c ea_nil)) (rc_isi (.ty _) (fun _ _ => ty_int) (kit_ty (by decide +kernel)))))) rfl) (fun z => nomatch z) (fun _ H3 e3 => ?_)
        exact ⟨_, rfl, e2.trans e3⟩
      · rintro σ' H2 ⟨v2, rfl, e2⟩
        exact s_ret (ev_op (ev_var rfl) (ev_var rfl) (rv_eqI (sq_of (e2 _ _ hp)) (sq_of (e2 _ _ hd)))) fun H3 e3 => q H3 (e2.trans e3)
theorem ev_row {σ : L2.St} {H : Hp} {E : XK} {ta tb : TE} {ms ds : List Int} (ha : EvH ta σ H (ms.map V.int)) (hb : EvH tb σ H (ds.map V.int)) : Ev (tCall sp__law_row [] E (tCons ta (tCons tb tNil))) σ H (.bl (decide (ms = ds))) := fun H1 e Q q =>
  ha H1 e _ fun p H2 e2 hp => hb H2 (e.trans e2) _ fun d H3 e3 hd => ⟨p, d, ms, ds, rfl, e3 _ _ hp, hd, fun H4 e4 => q H4 ((e2.trans e3).trans e4)⟩
/-- the same row -/
theorem ev_rowT {σ : L2.St} {H : Hp} {E : XK} {ta tb : TE} {ms : List Int} (ha : EvH ta σ H (ms.map V.int)) (hb : EvH tb σ H (ms.map V.int)) : Ev (tCall sp__law_row [] E (tCons ta (tCons tb tNil))) σ H (.bl true) := ev_is (ev_row ha hb) (by simp)
end
end Rk
namespace Rk
open PySem PySem.Spec PyProof.Rows L2 Evl
section
variable {P : Program} {w : World} {K : PySem.W.Frag} {mg : Str → Option Value} {base : Heap}
/-! ### the number that a row tells -/
def sp_number (K : PySem.W.Frag) (C cR cN : Addr) : Sp := fun vs H Q E => ∃ (b r : Addr) (bs rs : List Int), vs = [.ref b, .ref r] ∧ BoardAt C H b bs ∧ Rw.Good bs ∧ SqL K H r (rs.map V.int) ∧
  (Tells bs rs → ∀ H', Ex H H' → Q (.int (Rw.num bs rs)) H') ∧ (¬ Tells bs rs → Ref E cR cN bs rs H)
theorem ok_number (L : Lk K mg) : FnOk P w K mg base (L2.CX P w) 5 L.f_number L.d_number ["self", "row"] (sp_number K L.C L.c_NoRow L.c_NoNumber) := by
  refine L.F_number.okX sc_number (fun vs H Q E h => ?_) (fun cdv A outer s H vs Q E hr h => ?_)
  · obtain ⟨_, _, _, _, rfl, _⟩ := h; rfl
  · obtain ⟨b, r, bs, rs, rfl, hB, g, hS, q, kE⟩ := h
    refine ⟨_, (pss_cons (ps_expr (pe_meth (E := E) (pv 0) L.cl L.m_need_number (ok_need_number L) (hr.mono (by decide)) L.b_need_number .nil hx (pa_cons (pv 1) pa_nil)))
      (pss_cons (ps_set (i := 2) sc_number.nd rfl (Or.inl rfl) pe_int)
      (pss_cons (ps_set (i := 3) sc_number.nd rfl (Or.inl rfl) (pe_meth (E := E) (pv 0) L.cl L.m_led (ok_led L) (hr.mono (by decide)) L.b_led .nil hx (pa_cons (pv 1) pa_nil)))
      (pss_cons (ps_for (passes_of rfl) rfl (pi_range3 (by rfl) L.z_range (pa_cons (pe_op op_sub (pe_callB call_len_seq (by rfl) L.z_len PySem.boot_len (pa_cons (pv 1) pa_nil)) pe_int) (pa_cons (pe_un un_neg pe_int) (pa_cons (pe_un un_neg pe_int) pa_nil)))) (pg_name (i := 4) sc_number.nd rfl (Or.inl rfl)) (pss_one (ps_set (i := 2) sc_number.nd rfl (Or.inl rfl) (pe_op op_add (pe_op op_mul (pv 2) (pe_ix ix_list (pe_fld (pv 0) (by rfl)) (pv 4) (fun _ _ => rfl))) (pe_ix ix_list (pv 3) (pv 4) (fun _ _ => rfl))))))
      (pss_one (ps_ret (pv 2))))))), ?_⟩
    obtain ⟨dx, l, t, hb, hl, ht⟩ := id hB
    have h14 := g.len14
    by_cases w : Tells bs rs
    case neg => exact q_dv (dv_meth (ev_var rfl) hb (bf_none l t (by decide +kernel) (by decide +kernel)) (ea_cons (ev_var rfl) ea_nil) (sd_need_number hB g hS w (kE w)))
    have hlen := w.1.len
    have hlm : (rs.map V.int).length = rs.length := List.length_map _
    obtain ⟨x0, x1, hx⟩ := Rw.num_spec g hlen
    have q' := q w
    refine q_drop (ev_meth (ev_var rfl) hb (bf_none l t (by decide +kernel) (by decide +kernel)) (ea_cons (ev_var rfl) ea_nil) (sv_need_number hB g hS w)) fun H1 e1 => ?_
    refine q_asg ev_c fun H2 e2 => ?_
    have E2 := e1.trans e2
    refine q_asgL (el_meth (ev_var rfl) (E2 _ _ hb) (bf_none l t (by decide +kernel) (by decide +kernel)) (ea_cons (ev_var rfl) ea_nil) (sl_led (hB.mono E2) g (ex_l E2 hS) hlen)) fun f H3 hf e3 h3 => ?_
    have E3 := E2.trans e3
    generalize Rw.num bs rs = x at x0 x1 q' h3
    refine q_forD (n := bs.length) (ea_cons (ev_op (ev_len (ev_var rfl) (ex_l E3 hS)) ev_c rv_I0) (ea_cons (ev_un ev_c ru_i) (ea_cons (ev_un ev_c ru_i) ea_nil))) (by rw [hlm]; omega) (by rw [hlm]; omega)
      (fun i σ' H' => ∃ v4, σ' = [some (.ref b), some (.ref r), some (.int (x / Rw.prod (bs.take (bs.length - i)))), some (.ref f), v4] ∧ i ≤ bs.length ∧ Ex H H' ∧ H' f = some (.lst ((Rw.digits bs x).map V.int)))
      (fun H5 e5 => ⟨none, by rw [Nat.sub_zero, List.take_length, Int.ediv_eq_zero_of_lt x0 x1]; rfl, Nat.zero_le _, E3.trans e5, e5 _ _ h3⟩) ?_ ?_
    · rintro i σ' H5 hi ⟨v4, rfl, _, e5, h5⟩
      obtain ⟨j, hj⟩ : ∃ j, j = bs.length - (i + 1) := ⟨_, rfl⟩
      have ej : ((rs.map V.int).length : Int) - 1 - (i : Int) = (j : Int) := by rw [hlm]; omega
      have hjl : j < bs.length := by omega
      have hJ : bs[j]? = some bs[j] := List.getElem?_eq_getElem hjl
      generalize bs[j] = c at hJ
      have c3 := g.get3 hJ
      rw [ej]
      refine s_asg (ev_op (ev_op (ev_var rfl) (ev_op (ev_fld (ev_var rfl) (e5 _ _ hb) L.cl L.nB (bf_bases l t)) (ev_var rfl) (rv_ixL (sq_of (e5 _ _ hl)) (at_map hJ))) (rv_I (cmulR (by omega))))
        (ev_op (ev_var rfl) (ev_var rfl) (rv_ixL (sq_of h5) (at_map (Rw.digits_get g.pos hJ)))) rv_I0) fun H6 e6 => ?_
      have e7 : bs.length - i = j + 1 := by omega
      refine ⟨some (.int (j : Int)), ?_, by omega, e5.trans e6, e6 _ _ h5⟩
      rw [e7, ← hj]
      show [some (V.ref b), some (V.ref r), some (V.int (x / Rw.prod (bs.take (j + 1)) * c + x / Rw.prod (bs.take j) % c)), some (V.ref f), some (V.int (j : Int))] = _
      rw [Rw.numb_step g.pos hJ]
    · rintro σ' H5 ⟨v4, rfl, _, e5, h5⟩
      rw [Nat.sub_self]
      refine s_ret (ev_var rfl) fun H6 e6 => ?_
      have z := q' H6 (e5.trans e6)
      rw [show x / Rw.prod (bs.take 0) = x by simp [Rw.prod]]
      exact z
theorem sv_number {C cR cN b r : Addr} {H : Hp} {bs rs : List Int} (hB : BoardAt C H b bs) (g : Rw.Good bs) (hS : SqL K H r (rs.map V.int)) (w : Tells bs rs) : SpV (sp_number K C cR cN) [.ref b, .ref r] H (.int (Rw.num bs rs)) :=
  fun H1 e Q q E => ⟨b, r, bs, rs, rfl, hB.mono e, g, ex_l e hS, fun _ => q, fun n => absurd w n⟩
theorem sd_number {C cR cN b r : Addr} {H : Hp} {E : XK} {bs rs : List Int} (hB : BoardAt C H b bs) (g : Rw.Good bs) (hS : SqL K H r (rs.map V.int)) (w : ¬ Tells bs rs) (k : Ref E cR cN bs rs H) : SpD (sp_number K C cR cN) [.ref b, .ref r] H E :=
  fun H1 e Q => ⟨b, r, bs, rs, rfl, hB.mono e, g, ex_l e hS, fun y => absurd y w, fun _ => k.mono e⟩
end
end Rk
namespace Rk
open PySem PySem.Spec PyProof.Rows L2 Evl
section
variable {P : Program} {w : World} {K : PySem.W.Frag} {mg : Str → Option Value} {base : Heap}
/-! ### the law -/
theorem NewBoard.loc (C : Addr) (bs : List Int) : Loc (NewBoard C bs) := fun _ _ _ _ ⟨x, dx, l, t, e, h1, h2, h3, b1, b2, b3⟩ k => ⟨x, dx, l, t, e, h1, h2, h3, k _ _ h1 b1, k _ _ h2 b2, k _ _ h3 b3⟩
def sp_law (K : PySem.W.Frag) : Sp := fun vs H Q _ => ∃ (a : Addr) (ns : List Int), vs = [.ref a] ∧ SqL K H a (ns.map V.int) ∧ ns.length ≤ 63 ∧ ∀ H', Q (.bl true) H'
theorem ok_law (L : Lk K mg) : FnOk P w K mg base (L2.CX P w) 8 L.f_law L.d_law ["_law_script"] (sp_law K) := by
  refine L.F_law.okX sc_law (fun vs H Q E h => ?_) (fun cdv A outer s H vs Q E hr h => ?_)
  · obtain ⟨_, _, rfl, _⟩ := h; rfl
  · obtain ⟨a, ns, rfl, hS, hlen, qq⟩ := h
    refine ⟨_, (pss_cons (ps_set (i := 1) sc_law.nd rfl (Or.inl rfl) (pe_call (E := E) (ok__law_bases L) (hr.mono (by decide)) (by rfl) L.g__law_bases L.k__law_bases L.b__law_bases .nil hx (pa_cons (pe_call (E := E) (ok__law_cell_at L) (hr.mono (by decide)) (by rfl) L.g__law_cell_at L.k__law_cell_at L.b__law_cell_at .nil hx (pa_cons (pv 0) (pa_cons pe_int pa_nil))) (pa_cons (pe_op op_mod (pe_call (E := E) (ok__law_cell_at L) (hr.mono (by decide)) (by rfl) L.g__law_cell_at L.k__law_cell_at L.b__law_cell_at .nil hx (pa_cons (pv 0) (pa_cons pe_int pa_nil))) pe_int) pa_nil))))
      (pss_cons (ps_set (i := 2) sc_law.nd rfl (Or.inr rfl) (pe_lst (pa_cons (pv 1) (pa_cons (pe_lst (pa_cons pe_int (pa_cons pe_int (pa_cons pe_int (pa_cons pe_int pa_nil))))) pa_nil))))
      (pss_cons (ps_set (i := 3) sc_law.nd rfl (Or.inr rfl) (pe_lc (own := [("_law_bases_here", 17)]) (g := gName 17) (tt := tYes) rfl sc_law.nd (pi_list (pv 2)) (blkOk_by (own := [("_law_bases_here", 17)]) (N := ["_law_script", "_law_some", "_law_all_bases", "_law_boards", "_law_rooms", "_law_values", "_law_rows", "_law_k", "_law_cell", "_law_here", "_law_kind", "_law_one", "_law_other", "_law_pair", "_law_due_here", "_law_handed", "_law_made", "_law_bases_here", "_law_room_here", "_law_value", "_law_row_here", "_law_base"]) (sc := defScope s_law) (by decide +kernel)) (fun _ _ _ _ _ => pg_name (i := 17) sc_law.nd rfl (Or.inl rfl)) (fun _ _ _ _ _ => by exact pts_nil) (fun _ _ _ _ _ => by exact (pe_make (E := E0) L.mkC (ok___init__ L) (hr.mono (by decide)) (by rfl) L.gC L.b___init__ .nil passL (pa_cons (pv 17) pa_nil)))))
      (pss_cons (ps_setLc (i := 4) (own := [("_law_bases_here", 17)]) (g := gName 17) (tt := tYes) rfl sc_law.nd rfl rfl (sw_true rfl rfl rfl (by decide +kernel)) (pi_list (pv 2)) (blkOk_by (own := [("_law_bases_here", 17)]) (N := ["_law_script", "_law_some", "_law_all_bases", "_law_boards", "_law_rooms", "_law_values", "_law_rows", "_law_k", "_law_cell", "_law_here", "_law_kind", "_law_one", "_law_other", "_law_pair", "_law_due_here", "_law_handed", "_law_made", "_law_bases_here", "_law_room_here", "_law_value", "_law_row_here", "_law_base"]) (sc := defScope s_law) (by decide +kernel)) (fun _ _ _ _ _ => pg_name (i := 17) sc_law.nd rfl (Or.inl rfl)) (fun _ _ _ _ _ => by exact pts_nil) (fun _ _ _ _ _ => by exact (pe_call (E := E0) (ok__law_room L) (hr.mono (by decide)) (by rfl) L.g__law_room L.k__law_room L.b__law_room .nil passL (pa_cons (pv 17) pa_nil))))
      (pss_cons (ps_setLc (i := 5) (own := [("_law_room_here", 18)]) (g := gName 18) (tt := tYes) rfl sc_law.nd rfl rfl (sw_true rfl rfl rfl (by decide +kernel)) (pi_list (pv 4)) (blkOk_by (own := [("_law_room_here", 18)]) (N := ["_law_script", "_law_some", "_law_all_bases", "_law_boards", "_law_rooms", "_law_values", "_law_rows", "_law_k", "_law_cell", "_law_here", "_law_kind", "_law_one", "_law_other", "_law_pair", "_law_due_here", "_law_handed", "_law_made", "_law_bases_here", "_law_room_here", "_law_value", "_law_row_here", "_law_base"]) (sc := defScope s_law) (by decide +kernel)) (fun _ _ _ _ _ => pg_name (i := 18) sc_law.nd rfl (Or.inl rfl)) (fun _ _ _ _ _ => by exact pts_nil) (fun _ _ _ _ _ => by exact (pe_lst (pa_cons pe_int (pa_cons pe_int (pa_cons (pe_op op_sub (pv 18) pe_int) (pa_cons (pe_op op_mod (pe_callB call_abs (by rfl) L.z_abs (by decide +kernel) (pa_cons (pe_call (E := E0) (ok__law_cell_at L) (hr.mono (by decide)) (by rfl) L.g__law_cell_at L.k__law_cell_at L.b__law_cell_at .nil passL (pa_cons (pv 0) (pa_cons pe_int pa_nil))) pa_nil)) (pv 18)) pa_nil)))))))
      (pss_cons (ps_set (i := 6) sc_law.nd rfl (Or.inl rfl) (pe_lst pa_nil))
      (pss_cons (ps_for (passes_of rfl) rfl (pi_range1 (by rfl) L.z_range (pa_cons pe_int pa_nil)) (pg_name (i := 7) sc_law.nd rfl (Or.inr rfl)) (pss_one (ps_expr (pe_bm PySem.F.plainAttrs_list PySem.F.slot_list_append PySem.F.type_list_append mt_append (pv 6) (pa_cons (pe_lc (own := [("_law_value", 19)]) (g := gName 19) (tt := tYes) rfl sc_law.nd (pi_list (pe_ix ix_list (pv 5) (pv 7) (fun _ _ => rfl))) (blkOk_by (own := [("_law_value", 19)]) (N := ["_law_script", "_law_some", "_law_all_bases", "_law_boards", "_law_rooms", "_law_values", "_law_rows", "_law_k", "_law_cell", "_law_here", "_law_kind", "_law_one", "_law_other", "_law_pair", "_law_due_here", "_law_handed", "_law_made", "_law_bases_here", "_law_room_here", "_law_value", "_law_row_here", "_law_base"]) (sc := defScope s_law) (by decide +kernel)) (fun _ _ _ _ _ => pg_name (i := 19) sc_law.nd rfl (Or.inr rfl)) (fun _ _ _ _ _ => by exact pts_nil) (fun _ _ _ _ _ => by exact (pe_lc (own := [("_law_base", 21)]) (g := gName 21) (tt := tYes) rfl sc_law.nd (pi_listK (K := K) (pe_ix (ix_listK (K := K)) (pv 2) (pv 7) (fun _ _ => rfl))) (blk_nest (own := [("_law_base", 21)]) (N := ["_law_script", "_law_some", "_law_all_bases", "_law_boards", "_law_rooms", "_law_values", "_law_rows", "_law_k", "_law_cell", "_law_here", "_law_kind", "_law_one", "_law_other", "_law_pair", "_law_due_here", "_law_handed", "_law_made", "_law_bases_here", "_law_room_here", "_law_value", "_law_row_here", "_law_base"]) (sc0 := defScope s_law) rfl (by decide +kernel)) (fun _ _ _ _ _ => pg_name (i := 21) sc_law.nd rfl (Or.inl rfl)) (fun _ _ _ _ _ => by exact pts_nil) (fun _ _ _ _ _ => by exact (pe_op op_mod (pv 19) (pv 21)))))) pa_nil)))))
      (pss_cons (ps_for (passes_of rfl) rfl (pi_range1 (by rfl) L.z_range (pa_cons (pe_callB (call_min2 rfl) (by rfl) L.z_min (by decide +kernel) (pa_cons (pe_callB call_len_seq (by rfl) L.z_len PySem.boot_len (pa_cons (pv 0) pa_nil)) (pa_cons pe_int pa_nil))) pa_nil)) (pg_name (i := 7) sc_law.nd rfl (Or.inr rfl)) (pss_cons (ps_set (i := 8) sc_law.nd rfl (Or.inl rfl) (pe_op op_add (pe_ix ix_list (pv 0) (pv 7) (fun _ _ => rfl)) (pe_op op_mul pe_int (pv 7))))
      (pss_cons (ps_set (i := 9) sc_law.nd rfl (Or.inl rfl) (pe_op op_mod (pv 7) pe_int))
      (pss_cons (ps_set (i := 10) sc_law.nd rfl (Or.inl rfl) (pe_op op_mod (pv 8) pe_int))
      (pss_cons (ps_set (i := 11) sc_law.nd rfl (Or.inl rfl) (pe_op op_mod (pe_op op_fdiv (pv 8) pe_int) pe_int))
      (pss_cons (ps_set (i := 12) sc_law.nd rfl (Or.inl rfl) (pe_op op_mod (pe_op op_add (pe_op op_add (pv 11) pe_int) (pe_op op_mod (pe_op op_fdiv (pv 8) pe_int) pe_int)) pe_int))
      (pss_cons (ps_set (i := 13) sc_law.nd rfl (Or.inl rfl) (pe_lst (pa_cons (pe_ix ix_list (pe_ix ix_list (pv 6) (pv 9) (fun _ _ => rfl)) (pv 11) (fun _ _ => rfl)) (pa_cons (pe_ix ix_list (pe_ix ix_list (pv 6) (pv 9) (fun _ _ => rfl)) (pv 12) (fun _ _ => rfl)) pa_nil))))
      (pss_cons (ps_set (i := 14) sc_law.nd rfl (Or.inr rfl) (pe_call (E := E) (ok__law_due L) (hr.mono (by decide)) (by rfl) L.g__law_due L.k__law_due L.b__law_due .nil hx (pa_cons (pv 10) (pa_cons (pe_ix ix_list (pe_ix ix_list (pv 5) (pv 9) (fun _ _ => rfl)) (pv 11) (fun _ _ => rfl)) (pa_cons (pe_ix ix_list (pe_ix ix_list (pv 5) (pv 9) (fun _ _ => rfl)) (pv 12) (fun _ _ => rfl)) (pa_cons (pe_op op_fdiv (pv 8) pe_int) (pa_cons (pe_ix ix_list (pv 4) (pv 9) (fun _ _ => rfl)) pa_nil)))))))
      (pss_cons (ps_set (i := 15) sc_law.nd rfl (Or.inl rfl) (pe_lst (pa_cons (pe_callTy call_list_of (by rfl) L.z_list (by decide +kernel) (pa_cons (pe_ix ix_list (pv 13) pe_int (fun _ _ => rfl)) pa_nil)) (pa_cons (pe_callTy call_list_of (by rfl) L.z_list (by decide +kernel) (pa_cons (pe_ix ix_list (pv 13) pe_int (fun _ _ => rfl)) pa_nil)) pa_nil))))
      (pss_cut (ps_try_only rfl rfl ⟨by rfl, by decide, Or.inl L.g_OutOfRoom⟩ hk (fun W pn xe tk po => (pss_one (ps_set (i := 16) sc_law.nd rfl (Or.inl rfl) (pe_callS (ok__law_done L) (hr.mono (by decide)) (by rfl) L.g__law_done L.k__law_done L.b__law_done (fun σ => passAt tk σ) (pa_cons (pe_ix (ix_listK (K := K)) (pv 3) (pv 9) (fun _ _ => rfl)) (pa_cons (pv 10) (pa_cons (pv 13) (pa_cons (pe_op op_fdiv (pv 8) pe_int) pa_nil)))))))) (fun a oe cls d pn hz hf => (pss_one (ps_set (i := 16) sc_law.nd rfl (Or.inl rfl) pe_non))))
      (pss_cons (ps_if (pt_cmpR (op_neD hr.units) (pv 13) (pv 15) (nomark _)) (pss_one (ps_ret pe_bl)) pss_nil)
      (pss_cons (ps_if (pt_cmpR op_ne (pe_cmpR op_isN (pv 16) pe_non (nomark _)) (pe_or (pe_cmpR op_lt (pv 14) pe_int (nomark _)) (pe_one (pe_cmpR op_ge (pv 14) (pe_ix ix_list (pv 4) (pv 9) (fun _ _ => rfl)) (nomark _)))) (nomark _)) (pss_one (ps_ret pe_bl)) pss_nil)
      (pss_one (ps_if (pt_cmpR op_notN (pv 16) pe_non (nomark _)) (pss_cons (ps_if (pt_not (pt_val (pe_call (E := E) (ok__law_row L) (hr.mono (by decide)) (by rfl) L.g__law_row L.k__law_row L.b__law_row .nil hx (pa_cons (pv 16) (pa_cons (pe_lc (own := [("_law_base", 21)]) (g := gName 21) (tt := tYes) rfl sc_law.nd (pi_list (pe_ix ix_list (pv 2) (pv 9) (fun _ _ => rfl))) (blkOk_by (own := [("_law_base", 21)]) (N := ["_law_script", "_law_some", "_law_all_bases", "_law_boards", "_law_rooms", "_law_values", "_law_rows", "_law_k", "_law_cell", "_law_here", "_law_kind", "_law_one", "_law_other", "_law_pair", "_law_due_here", "_law_handed", "_law_made", "_law_bases_here", "_law_room_here", "_law_value", "_law_row_here", "_law_base"]) (sc := defScope s_law) (by decide +kernel)) (fun _ _ _ _ _ => pg_name (i := 21) sc_law.nd rfl (Or.inl rfl)) (fun _ _ _ _ _ => by exact pts_nil) (fun _ _ _ _ _ => by exact (pe_op op_mod (pv 14) (pv 21)))) pa_nil))))) (pss_one (ps_ret pe_bl)) pss_nil)
      (pss_cons (ps_asg (pv 14) (pg_sub (pe_ix ix_list (pv 5) (pv 9) (fun _ _ => rfl)) (pv 11) set_list))
      (pss_one (ps_asg (pe_callTy call_list_of (by rfl) L.z_list (by decide +kernel) (pa_cons (pv 16) pa_nil)) (pg_sub (pe_ix ix_list (pv 6) (pv 9) (fun _ _ => rfl)) (pv 11) set_list))))) pss_nil))))))))))))))
      (pss_cons (ps_for (passes_of rfl) rfl (pi_range1 (by rfl) L.z_range (pa_cons pe_int pa_nil)) (pg_name (i := 7) sc_law.nd rfl (Or.inr rfl)) (pss_cons (ps_if (pt_cmpR (op_neD hr.units) (pe_fld (pe_ix ix_list (pv 3) (pv 7) (fun _ _ => rfl)) (by rfl)) (pe_ix ix_list (pv 2) (pv 7) (fun _ _ => rfl)) (nomark _)) (pss_one (ps_ret pe_bl)) pss_nil)
      (pss_one (ps_if (pt_cmpR (op_neD hr.units) (pe_lc (own := [("_law_row_here", 20)]) (g := gName 20) (tt := tYes) rfl sc_law.nd (pi_list (pe_ix ix_list (pv 6) (pv 7) (fun _ _ => rfl))) (blkOk_by (own := [("_law_row_here", 20)]) (N := ["_law_script", "_law_some", "_law_all_bases", "_law_boards", "_law_rooms", "_law_values", "_law_rows", "_law_k", "_law_cell", "_law_here", "_law_kind", "_law_one", "_law_other", "_law_pair", "_law_due_here", "_law_handed", "_law_made", "_law_bases_here", "_law_room_here", "_law_value", "_law_row_here", "_law_base"]) (sc := defScope s_law) (by decide +kernel)) (fun _ _ _ _ _ => pg_name (i := 20) sc_law.nd rfl (Or.inl rfl)) (fun _ _ _ _ _ => by exact pts_nil) (fun _ _ _ _ _ => by exact (pe_meth (E := E0) (pe_ix (ix_listK (K := K)) (pv 3) (pv 7) (fun _ _ => rfl)) L.cl L.m_number (ok_number L) (hr.mono (by decide)) L.b_number .nil passL (pa_cons (pv 20) pa_nil)))) (pe_ix ix_list (pv 5) (pv 7) (fun _ _ => rfl)) (nomark _)) (pss_one (ps_ret pe_bl)) pss_nil))))
      (pss_one (ps_ret pe_bl))))))))))), ?_⟩
    dsimp only [cxOf]
    walk_at "ns"
    refine q_bases (ea_cons (ev_cell rfl hS) (ea_cons (ev_op (ev_cell rfl hS) ev_c (rv_I (show (0 : Int) < 136 by decide))) ea_nil)) fun bs bp H1 g hbp e1 hb1 => ?_
    walk_at "ns"
    -- the bases of both sides
    refine q_asgG (eg_rows (ds := [bs, [3, 5, 7, 11]]) (er_cons (eh_old (ev_var rfl) hb1) (er_cons (eh_new (el_lst (vs := ([3, 5, 7, 11] : List Int).map V.int) (ea_cons ev_c (ea_cons ev_c (ea_cons ev_c (ea_cons ev_c ea_nil)))) (by show 4 ≤ 100000; decide))) er_nil)) (by show 2 ≤ 1000; decide)) fun v H2 e2 ⟨ap, aps, ev, hap, hap2, hR⟩ => ?_
    subst ev
    walk_at "ns"
    obtain ⟨q, bss, ha2, hq, hg⟩ : ∃ (q : Nat → Addr) (bss : Nat → List Int), H2 ap = some (.lst [.ref (q 0), .ref (q 1)]) ∧ (∀ i, i < 2 → H2 (q i) = some (.lst ((bss i).map V.int))) ∧ ∀ i, i < 2 → Rw.Good (bss i) := by
      cases hR with
      | @cons q0 _ _ _ h1 hR =>
        cases hR with
        | @cons q1 _ _ _ h2 hR =>
          cases hR
          refine ⟨fun i => if i = 0 then q0 else q1, fun i => if i = 0 then bs else [3, 5, 7, 11], hap2, fun i hi => ?_, fun i hi => ?_⟩
          · rcases (show i = 0 ∨ i = 1 by omega) with e | e <;> subst e
            · exact h1
            · exact h2
          · rcases (show i = 0 ∨ i = 1 by omega) with e | e <;> subst e
            · exact g
            · exact good4
    have E2 := e1.trans e2
    clear hR hap2 hb1 g
    -- the boards
    refine q_asgG (eg_lc (R := fun i => NewBoard L.C (bss i)) (fun i => NewBoard.loc _ _) (ev_var rfl) (sq_of ha2) (by show 2 ≤ 40000; decide) (fun _ => rfl) (fun i x hx => ?_)) fun v H3 e3 ⟨xp, ys, hs, ev, hxp, hx2, hl, k⟩ => ?_
    · obtain ⟨hi, rfl⟩ := two_get (f := fun i => V.ref (q i)) hx
      exact eg_make (ea_cons (ev_var rfl) ea_nil) (sq_of (hq i hi)) (hg i hi)
    subst ev
    walk_at "ns"
    obtain ⟨x, hx⟩ := two_fn (P := fun i x => ys[i]? = some (.ref x) ∧ BoardAt L.C H3 x (bss i)) (fun i hi => by
      obtain ⟨y, hy⟩ := two_some hl hi
      obtain ⟨_, _, ⟨x, dx, l, t, ev, _, _, _, hB⟩, _⟩ := k i y hy
      exact ⟨x, by rw [hy, ev], hB.at_⟩)
    have hx3 : H3 xp = some (.lst [.ref (x 0), .ref (x 1)]) := by
      rw [hx2, two_list (f := fun i => .ref (x i)) hl fun i y hi hy => by
        have z := (hx i hi).1
        rw [hy] at z
        exact Option.some.inj z]
    clear k hx2 hl
    -- the rooms
    refine q_asgL (el_over (ys := [Rw.room (bss 0), Rw.room (bss 1)]) rfl (ev_var rfl) (sq_of (e3 _ _ ha2)) (by show 2 ≤ 40000; decide) (fun _ => rfl) (fun i x y H1 e1 hx' hy => ?_)) fun mp H4 hmp e4 hm4 => ?_
    · obtain ⟨hi, rfl⟩ := two_get (f := fun i => V.ref (q i)) hx'
      have ey : y = Rw.room (bss i) := by
        rcases (show i = 0 ∨ i = 1 by omega) with e | e <;> subst e
        · exact (Option.some.inj hy).symm
        · exact (Option.some.inj hy).symm
      subst ey
      exact ev_call0 (ea_cons (ev_var rfl) ea_nil) (sv__law_room (e1 _ _ (e3 _ _ (hq i hi))) (hg i hi))
    walk_at "ns"
    have hm4 : H4 mp = some (.lst [.int (Rw.room (bss 0)), .int (Rw.room (bss 1))]) := hm4
    have E4 := (E2.trans e3).trans e4
    -- the values
    obtain ⟨c2, hc2⟩ : ∃ c2, (if cell ns 2 < 0 then -cell ns 2 else cell ns 2) = c2 := ⟨_, rfl⟩
    refine q_asgG (eg_lc (R := fun i => NewL (([0, 1, Rw.room (bss i) - 1, c2 % Rw.room (bss i)] : List Int).map V.int)) (fun i => NewL.loc _) (ev_var rfl) (sq_of hm4) (by show 2 ≤ 40000; decide) (fun _ => rfl) (fun i x hx' => ?_)) fun v H5 e5 ⟨Vp, ys5, hs5, ev, hVp, hV2, hl5, k5⟩ => ?_
    · obtain ⟨hi, rfl⟩ := two_get (f := fun i => V.int (Rw.room (bss i))) hx'
      have rp := (hg i hi).room_pos
      exact eg_ofL (el_lst (ea_cons ev_c (ea_cons ev_c (ea_cons (ev_op (ev_var rfl) ev_c rv_I0) (ea_cons (ev_op (ev_is (ev_cb (ea_cons (ev_cell rfl (ex_l E4 hS)) ea_nil) rc_abs) (by rw [hc2])) (ev_var rfl) (rv_I rp)) ea_nil)))) (by show 4 ≤ 100000; decide))
    subst ev
    walk_at "ns"
    obtain ⟨vals, hvals⟩ : ∃ vals : Nat → List Int, vals = fun i => [0, 1, Rw.room (bss i) - 1, c2 % Rw.room (bss i)] := ⟨_, rfl⟩
    have hv4 : ∀ i, (vals i).length = 4 := fun i => by rw [hvals]; rfl
    obtain ⟨v, hv⟩ := two_fn (P := fun i a => ys5[i]? = some (.ref a) ∧ Ex H4 (hs5 i) ∧ hs5 i Vp ≠ none ∧ hs5 i a = none ∧ H5 a = some (.lst ((vals i).map V.int)) ∧ ∀ j, i < j → j < 2 → hs5 j a ≠ none) (fun i hi => by
      obtain ⟨y, hy⟩ := two_some hl5 hi
      obtain ⟨k1, k2, ⟨a, ev, n1, n2⟩, k4⟩ := k5 i y hy
      refine ⟨a, by rw [hy, ev], k1, k2, n1, by rw [hvals]; exact n2, fun j h1 h2 => ?_⟩
      obtain ⟨a', ev', n1', n2'⟩ := k4 j h1 h2
      rw [ev] at ev'
      cases ev'
      rw [n2']
      exact fun z => nomatch z)
    have hV5 : H5 Vp = some (.lst [.ref (v 0), .ref (v 1)]) := by
      rw [hV2, two_list (f := fun i => .ref (v i)) hl5 fun i y hi hy => by
        have z := (hv i hi).1
        rw [hy] at z
        exact Option.some.inj z]
    clear k5 hV2 hl5
    -- the rows
    refine q_asgL (el_lst ea_nil (by decide)) fun Rp H6 hRp e6 hR6 => ?_
    walk_at "ns"
    refine q_forR1 (n := 2) (ea_cons ev_c ea_nil) (by decide) (fun i σ' H' => (∃ o7, σ' = [some (.ref a), some (.ref bp), some (.ref ap), some (.ref xp), some (.ref mp), some (.ref Vp), some (.ref Rp), o7, none, none, none, none, none, none, none, none, none, none, none, none, none, none]) ∧
      Mw (fun i => Made (fun j => NewL ((Rw.rowOf (bss i) ((vals i).getD j 0)).map V.int)) 4) H5 Rp i H') (fun H7 e7 => ⟨⟨_, rfl⟩, hRp, e6.trans e7, [], fun _ => H5, e7 _ _ hR6, rfl, fun k y hk => by simp at hk⟩) ?_ ?_
    · rintro i σ' H7 hi ⟨⟨o7, rfl⟩, m⟩
      have hi' : i < 2 := by omega
      have gi := hg i hi'
      have h14 := gi.len14
      refine s_appM (fun i => Made.loc (fun j => NewL.loc _) _) m (by omega) (ev_var rfl) ?_ fun H8 m' => ⟨⟨_, rfl⟩, m'⟩
      have z := eg_lc (K := K) (σ := [some (.ref a), some (.ref bp), some (.ref ap), some (.ref xp), some (.ref mp), some (.ref Vp), some (.ref Rp), some (.int (i : Int)), none, none, none, none, none, none, none, none, none, none, none, none, none, none])
        (tl := tOp (rIxL K) (tVar 5) (tVar 7)) (te := tLc (iList K (tOp (rIxL K) (tVar 2) (tVar 7))) (gName 21) tYes (tOp (rI (fun _ j => 0 < j) fun i j => .int (i % j)) (tVar 19) (tVar 21)) [21]) (j := 19) (vs := [19])
        (xs := (vals i).map V.int) (R := fun j => NewL ((Rw.rowOf (bss i) ((vals i).getD j 0)).map V.int)) (fun j => NewL.loc _) (ev_op (ev_var rfl) (ev_var rfl) (rv_ixL (sq_of hV5) (two_at (f := fun i => .ref (v i)) hi'))) (sq_of (hv i hi').2.2.2.2.1) (by rw [List.length_map, hv4]; decide) (fun _ => rfl) (fun j x hx' => by
          obtain ⟨n, hn, rfl⟩ := map_get hx'
          rw [Rw.getD_of hn]
          exact eg_ofL (el_rowL (x := n) (ev_op (ev_var rfl) (ev_var rfl) (rv_ixL (sq_of (((e3.trans e4).trans e5) _ _ ha2)) (two_at (f := fun i => .ref (q i)) hi'))) (sq_of (((e3.trans e4).trans e5) _ _ (hq i hi'))) (by omega) (fun _ => rfl) (fun k c H2 e2 hc => ev_op (ev_var rfl) (ev_var rfl) (rv_I (gi.pos c (List.mem_of_getElem? hc))))))
      rw [List.length_map, hv4] at z
      exact z
    rintro σ' H7 ⟨⟨o7, rfl⟩, _, e57, ys7, hs7, hR7, hl7, k7⟩
    walk_at "ns"
    have hl7 : ys7.length = 2 := hl7
    obtain ⟨r, hr1⟩ := two_fn (P := fun i a => ∃ qs : List V, ys7[i]? = some (.ref a) ∧ Ex H5 (hs7 i) ∧ hs7 i Rp ≠ none ∧ hs7 i a = none ∧ H7 a = some (.lst qs) ∧ qs.length = 4 ∧
      (∀ j y, qs[j]? = some y → ∃ p, y = .ref p ∧ H5 p = none ∧ H7 p = some (.lst ((Rw.rowOf (bss i) ((vals i).getD j 0)).map V.int))) ∧ ∀ j, i < j → j < 2 → hs7 j a ≠ none) (fun i hi => by
      obtain ⟨y, hy⟩ := two_some hl7 hi
      obtain ⟨k1, k2, ⟨a, qs, hs, ev, n1, n2, n3, n4⟩, k4⟩ := k7 i y hy
      refine ⟨a, qs, by rw [hy, ev], k1, k2, n1, n2, n3, fun j y' hj => ?_, fun j h1 h2 => ?_⟩
      · obtain ⟨m1, _, ⟨p, ep, p1, p2⟩, _⟩ := n4 j y' hj
        exact ⟨p, ep, fresh_back (k1.trans m1) p1, p2⟩
      · obtain ⟨a', qs', hs', ev', n1', n2', _⟩ := k4 j h1 h2
        rw [ev] at ev'
        cases ev'
        rw [n2']
        exact fun z => nomatch z)
    obtain ⟨qs, hr⟩ := two_fn hr1
    have hR7 : H7 Rp = some (.lst [.ref (r 0), .ref (r 1)]) := by
      rw [hR7, two_list (f := fun i => .ref (r i)) hl7 fun i y hi hy => by
        have z := (hr i hi).1
        rw [hy] at z
        exact Option.some.inj z]
    clear k7 hl7 hr1 hR6 e6
    -- the state
    obtain ⟨T, ok, ⟨vals', qs', st⟩, hlT, ea, eap, exp, emp, eVp, eRp⟩ : ∃ T : T12, T.Ok ∧ (∃ vals qs, St12 K L.C T H7 vals qs) ∧ T.ns.length ≤ 63 ∧ T.a = a ∧ T.ap = ap ∧ T.xp = xp ∧ T.mp = mp ∧ T.Vp = Vp ∧ T.Rp = Rp := by
      have v5 : ∀ i, i < 2 → H5 (v i) ≠ none := fun i hi => by
        rw [(hv i hi).2.2.2.2.1]
        exact fun z => nomatch z
      have r5 : ∀ i, i < 2 → H5 (r i) = none := fun i hi => fresh_back (hr i hi).2.1 (hr i hi).2.2.2.1
      have vv : ∀ i j, i < j → j < 2 → v i ≠ v j := fun i j h1 h2 e => (hv i (by omega)).2.2.2.2.2 j h1 h2 (by rw [e]; exact (hv j h2).2.2.2.1)
      have rr : ∀ i j, i < j → j < 2 → r i ≠ r j := fun i j h1 h2 e => (hr i (by omega)).2.2.2.2.2.2.2 j h1 h2 (by rw [e]; exact (hr j h2).2.2.2.1)
      refine ⟨⟨a, ap, xp, mp, Vp, Rp, q, x, v, r, bss, ns⟩, ⟨hg, fun i j hi hj e => ?_, fun i j hi hj e => ?_, fun i j hi hj e => v5 i hi (by rw [show v i = r j from e]; exact r5 j hj)⟩, ⟨vals, qs, ?_⟩, hlen, rfl, rfl, rfl, rfl, rfl, rfl⟩
      · rcases Nat.lt_trichotomy i j with c | c | c
        · exact absurd e (vv i j c hj)
        · exact c
        · exact absurd e.symm (vv j i c hi)
      · rcases Nat.lt_trichotomy i j with c | c | c
        · exact absurd e (rr i j c hj)
        · exact c
        · exact absurd e.symm (rr j i c hi)
      · generalize hT : (⟨a, ap, xp, mp, Vp, Rp, q, x, v, r, bss, ns⟩ : T12) = T
        have tv : T.v = v := by rw [← hT]
        have tr : T.r = r := by rw [← hT]
        have x4 : Ex H4 (T.hid H7) := hid_of (e5.trans e57) fun i hi => ⟨by rw [tv]; exact fresh_back (hv i hi).2.1 (hv i hi).2.2.2.1, by rw [tr]; exact fresh_back e5 (r5 i hi)⟩
        have hidT : ∀ {p : Addr} {o : HO}, H7 p = some o → (∀ i, i < 2 → p ≠ v i ∧ p ≠ r i) → T.hid H7 p = some o := fun h k => hid_at h fun i hi => by rw [tv, tr]; exact k i hi
        have z0 : ∀ j, j < 2 → ∃ p, (qs j)[0]? = some (V.ref p) := fun j hj => by
          have hl := (hr j hj).2.2.2.2.2.1
          obtain ⟨p, ep, _⟩ := (hr j hj).2.2.2.2.2.2.1 0 _ (List.getElem?_eq_getElem (show 0 < (qs j).length by omega))
          exact ⟨p, by rw [List.getElem?_eq_getElem (show 0 < (qs j).length by omega), ep]⟩
        have hrows : ∀ i, i < 2 → Rows (T.hid H7) (qs i) ((vals i).map (Rw.rowOf (bss i))) := fun i hi => by
          refine rows_of (by rw [List.length_map, hv4]; exact (hr i hi).2.2.2.2.2.1) fun j y d hy hd => ?_
          obtain ⟨p, ep, p1, p2⟩ := (hr i hi).2.2.2.2.2.2.1 j y hy
          rw [List.getElem?_map] at hd
          have hj : j < (vals i).length := by
            rw [hv4, ← (hr i hi).2.2.2.2.2.1]
            exact (List.getElem?_eq_some_iff.mp hy).1
          have hn : (vals i)[j]? = some (vals i)[j] := List.getElem?_eq_getElem hj
          rw [Rw.getD_of hn] at p2
          rw [hn] at hd
          have ed := Option.some.inj hd
          subst ed
          refine ⟨p, ep, hidT p2 fun j' hj' => ⟨fun e => v5 j' hj' (by rw [← e]; exact p1), fun e => ?_⟩⟩
          obtain ⟨p0, hp0⟩ := z0 j' hj'
          have z := (hr j' hj').2.2.2.2.1
          rw [← e, p2] at z
          have z := HO.lst.inj (Option.some.inj z)
          rw [← z, List.getElem?_map] at hp0
          cases h0 : (Rw.rowOf (bss i) (vals i)[j])[0]? with
          | none => rw [h0] at hp0; cases hp0
          | some b => rw [h0] at hp0; cases hp0
        subst hT
        exact { scr := ex_l (E4.trans x4) hS, ap := x4 _ _ ((e3.trans e4) _ _ ha2), q := fun i hi => x4 _ _ ((e3.trans e4) _ _ (hq i hi)), xp := x4 _ _ (e4 _ _ hx3), x := fun i hi => (hx i hi).2.mono (e4.trans x4), mp := x4 _ _ hm4,
                Vp := hidT (e57 _ _ hV5) fun i hi => ⟨fun e => (hv i hi).2.2.1 (by rw [show Vp = v i from e]; exact (hv i hi).2.2.2.1), fun e => by
                  have z := r5 i hi
                  rw [← e, hV5] at z
                  cases z⟩,
                Rp := hidT hR7 fun i hi => ⟨fun e => v5 i hi (by rw [← e]; exact hRp), fun e => (hr i hi).2.2.1 (by rw [show Rp = r i from e]; exact (hr i hi).2.2.2.1)⟩,
                v := fun i hi => e57 _ _ (hv i hi).2.2.2.2.1, r := fun i hi => (hr i hi).2.2.2.2.1, rows := hrows, len := fun i _ => hv4 i,
                rng := fun i hi n hn => by
                  have r3 := room3r (hg i hi)
                  have m0 := Int.emod_nonneg c2 (show Rw.room (bss i) ≠ 0 by omega)
                  have m1 := Int.emod_lt_of_pos c2 (show 0 < Rw.room (bss i) by omega)
                  rw [hvals] at hn
                  show 0 ≤ n ∧ n < Rw.room (bss i)
                  simp only [List.mem_cons, List.not_mem_nil, or_false] at hn
                  rcases hn with e | e | e | e <;> subst e <;> omega }
    rw [← ea, ← eap, ← exp, ← emp, ← eVp, ← eRp]
    clear hr hR7 hv hV5 hx hx3 ha2 hq hg hS hlen e1 e2 e3 e4 e5 e57 E2 E4 hm4 hap hxp hmp hVp hRp hbp hv4 hvals hc2 ea eap exp emp eVp eRp
    -- the deeds
    have hls : (T.ns.map V.int).length = T.ns.length := List.length_map _
    have x7 := hid_ex T H7
    refine q_forR1 (n := if (24 : Int) < ((T.ns.map V.int).length : Int) then 24 else ((T.ns.map V.int).length : Int)) (ea_cons (ev_cb (ea_cons (ev_len (ev_var rfl) (ex_l x7 st.scr)) (ea_cons ev_c ea_nil)) rc_min) ea_nil) (by split <;> omega)
      (fun _ σ' H' => ∃ o7 o8 o9 o10 o11 o12 o13 o14 o15 o16 vals qs, σ' = [some (.ref T.a), some (.ref bp), some (.ref T.ap), some (.ref T.xp), some (.ref T.mp), some (.ref T.Vp), some (.ref T.Rp), o7, o8, o9, o10, o11, o12, o13, o14, o15, o16, none, none, none, none, none] ∧ St12 K L.C T H' vals qs)
      (fun H8 e8 => ⟨_, _, _, _, _, _, _, _, _, _, vals', qs', rfl, st.mono e8⟩) ?_ ?_
    · rintro k σ' H8 hk ⟨o7, o8, o9, o10, o11, o12, o13, o14, o15, o16, vals, qs, rfl, st⟩
      walk_at "ns"
      have hk' : k < T.ns.length := by
        rw [hls] at hk
        split at hk <;> omega
      have hn : T.ns[k]? = some T.ns[k] := List.getElem?_eq_getElem hk'
      generalize T.ns[k] = c at hn
      have x8 := hid_ex T H8
      refine q_asg (v := .int (c + 5 * (k : Int))) (ev_op (ev_op (ev_var rfl) (ev_var rfl) (rv_ixL (ex_l x8 st.scr) (at_map hn))) (ev_op ev_c (ev_var rfl) (rv_I (cmulL ⟨by decide, by decide⟩))) rv_I0) fun H9 e9 => ?_
      walk_at "ns"
      generalize c + 5 * (k : Int) = cl
      obtain ⟨i, hi, hie⟩ : ∃ i : Nat, i < 2 ∧ (k : Int) % 2 = (i : Int) := ⟨k % 2, by omega, by omega⟩
      refine q_asg (v := .int (i : Int)) (ev_is (ev_op (ev_var rfl) ev_c (rv_I (show (0 : Int) < 2 by decide))) (by rw [hie])) fun H10 e10 => ?_
      walk_at "ns"
      have k0 := Int.emod_nonneg cl (show (8 : Int) ≠ 0 by decide)
      have k8 := Int.emod_lt_of_pos cl (show (0 : Int) < 8 by decide)
      refine q_asg (ev_op (ev_var rfl) ev_c (rv_I (show (0 : Int) < 8 by decide))) fun H11 e11 => ?_
      walk_at "ns"
      generalize cl % 8 = kd at k0 k8 ⊢
      obtain ⟨o, ho, hoe⟩ : ∃ o : Nat, o < 4 ∧ cl / 8 % 4 = (o : Int) := ⟨(cl / 8 % 4).toNat, by omega, by omega⟩
      refine q_asg (v := .int (o : Int)) (ev_is (ev_op (ev_op (ev_var rfl) ev_c (rv_I ⟨by decide, by decide⟩)) ev_c (rv_I (show (0 : Int) < 4 by decide))) (by rw [hoe])) fun H12 e12 => ?_
      walk_at "ns"
      obtain ⟨u, hu, hue⟩ : ∃ u : Nat, u < 4 ∧ ((o : Int) + 1 + cl / 32 % 3) % 4 = (u : Int) := ⟨(((o : Int) + 1 + cl / 32 % 3) % 4).toNat, by omega, by omega⟩
      refine q_asg (v := .int (u : Int)) (ev_is (ev_op (ev_op (ev_op (ev_var rfl) ev_c rv_I0) (ev_op (ev_op (ev_var rfl) ev_c (rv_I ⟨by decide, by decide⟩)) ev_c (rv_I (show (0 : Int) < 3 by decide))) rv_I0) ev_c (rv_I (show (0 : Int) < 4 by decide))) (by rw [hue])) fun H13 e13 => ?_
      walk_at "ns"
      have st := st.mono ((((e9.trans e10).trans e11).trans e12).trans e13)
      clear e9 e10 e11 e12 e13 x8
      have g := ok.good i hi
      have h14b := g.len14
      have rp := g.room_pos
      have hlv := st.len i hi
      have hlq := st.qlen hi
      obtain ⟨n, hn1⟩ : ∃ n, (vals i)[o]? = some n := ⟨_, List.getElem?_eq_getElem (by omega)⟩
      obtain ⟨m, hm1⟩ : ∃ m, (vals i)[u]? = some m := ⟨_, List.getElem?_eq_getElem (by omega)⟩
      have nb := st.rng i hi n (List.mem_of_getElem? hn1)
      have mb := st.rng i hi m (List.mem_of_getElem? hm1)
      obtain ⟨r1, q1, hr1⟩ := (st.rows i hi).at_ (d := Rw.rowOf (T.bs i) n) (i := o) (by rw [List.getElem?_map, hn1]; rfl)
      obtain ⟨r2, q2, hr2⟩ := (st.rows i hi).at_ (d := Rw.rowOf (T.bs i) m) (i := u) (by rw [List.getElem?_map, hm1]; rfl)
      have x13 := hid_ex T H13
      -- the pair
      refine q_asgL (el_lst (vs := [.ref r1, .ref r2]) (ea_cons (ev_op (ev_op (ev_var rfl) (ev_var rfl) (rv_ixL (sq_of (x13 _ _ st.Rp)) (two_at (f := fun i => .ref (T.r i)) hi))) (ev_var rfl) (rv_ixL (sq_of (st.r i hi)) (atI_nat q1)))
        (ea_cons (ev_op (ev_op (ev_var rfl) (ev_var rfl) (rv_ixL (sq_of (x13 _ _ st.Rp)) (two_at (f := fun i => .ref (T.r i)) hi))) (ev_var rfl) (rv_ixL (sq_of (st.r i hi)) (atI_nat q2))) ea_nil)) (by show 2 ≤ 100000; decide)) fun pp H14 hpp e14 h14 => ?_
      walk_at "ns"
      have y14 := x13.trans e14
      have i0 : atI ([V.ref r1, V.ref r2] : List V) 0 = some (V.ref r1) := atI_nat (j := 0) rfl
      have i1 : atI ([V.ref r1, V.ref r2] : List V) 1 = some (V.ref r2) := atI_nat (j := 1) rfl
      -- what is due
      refine q_asg (ev_due (kd := kd) (n := n) (m := m) (more := cl / 96) (rm := Rw.room (T.bs i)) (ea_cons (ev_var rfl) (ea_cons (ev_op (ev_op (ev_var rfl) (ev_var rfl) (rv_ixL (sq_of (y14 _ _ st.Vp)) (two_at (f := fun i => .ref (T.v i)) hi))) (ev_var rfl) (rv_ixL (sq_of (e14 _ _ (st.v i hi))) (at_map hn1)))
        (ea_cons (ev_op (ev_op (ev_var rfl) (ev_var rfl) (rv_ixL (sq_of (y14 _ _ st.Vp)) (two_at (f := fun i => .ref (T.v i)) hi))) (ev_var rfl) (rv_ixL (sq_of (e14 _ _ (st.v i hi))) (at_map hm1)))
        (ea_cons (ev_op (ev_var rfl) ev_c (rv_I ⟨by decide, by decide⟩)) (ea_cons (ev_op (ev_var rfl) (ev_var rfl) (rv_ixL (sq_of (y14 _ _ st.mp)) (two_at (f := fun i => .int (Rw.room (T.bs i))) hi))) ea_nil))))) k0 k8 rp) fun H15 e15 => ?_
      walk_at "ns"
      generalize hdue : dueK kd n m (cl / 96) (Rw.room (T.bs i)) = due
      have y15 := y14.trans e15
      have h15 := e15 _ _ h14
      -- handed
      refine q_asgG (eg_two (el_list (ev_op (ev_var rfl) ev_c (rv_ixL (sq_of h15) i0)) (sq_of (y15 _ _ hr1))) (el_list (ev_op (ev_var rfl) ev_c (rv_ixL (sq_of h15) i1)) (sq_of (y15 _ _ hr2)))) fun v H16 e16 ⟨hp, pa, pb, ev, _, _, _, h16, ha16, hb16⟩ => ?_
      subst ev
      walk_at "ns"
      have st := st.mono ((e14.trans e15).trans e16)
      have hr1 := (hid_mono (T := T) ((e14.trans e15).trans e16)) _ _ hr1
      have hr2 := (hid_mono (T := T) ((e14.trans e15).trans e16)) _ _ hr2
      have hpair := e16 _ _ h15
      clear h14 h15 hpp e14 e15 e16 y14 y15 x13
      have y16 := hid_ex T H16
      -- the deed
      refine q_cut (M := fun σ' H' => ∃ w : V, σ' = [some (.ref T.a), some (.ref bp), some (.ref T.ap), some (.ref T.xp), some (.ref T.mp), some (.ref T.Vp), some (.ref T.Rp), some (.int (k : Int)), some (.int cl), some (.int (i : Int)), some (.int kd), some (.int (o : Int)), some (.int (u : Int)), some (.ref pp), some (.int due), some (.ref hp), some w, none, none, none, none, none] ∧ Ex H16 H' ∧
        (((0 ≤ due ∧ due < Rw.room (T.bs i)) ∧ ∃ p, w = .ref p ∧ (H16 p = none ∨ p = r1 ∨ p = r2) ∧ H' p = some (.lst ((Rw.rowOf (T.bs i) due).map V.int))) ∨ (¬ (0 ≤ due ∧ due < Rw.room (T.bs i)) ∧ w = .non))) ?_ ?_
      · refine s_asgCallS (vs := [.ref (T.x i), .int kd, .ref pp, .int (cl / 96)]) (ea_cons (ev_op (ev_var rfl) (ev_var rfl) (rv_ixL (sq_of (y16 _ _ st.xp)) (two_at (f := fun i => .ref (T.x i)) hi))) (ea_cons (ev_var rfl) (ea_cons (ev_var rfl) (ea_cons (ev_op (ev_var rfl) ev_c (rv_I ⟨by decide, by decide⟩)) ea_nil)))) fun H17 e17 => ?_
        refine ⟨T.x i, pp, r1, r2, T.bs i, kd, n, m, cl / 96, rfl, (st.x i hi).mono (y16.trans e17), g, e17 _ _ hpair, (y16.trans e17) _ _ hr1, (y16.trans e17) _ _ hr2, k0, k8, nb.1, nb.2, mb.1, mb.2, ?_, ?_⟩
        · rw [hdue]
          exact fun hin p' H18 e18 hp' h18 => ⟨_, rfl, e17.trans e18, .inl ⟨hin, p', rfl, hp'.imp_left (fresh_back e17), h18⟩⟩
        · rw [hdue]
          exact fun hout H18 e18 => ⟨true, exm_yes L.s_OutOfRoom L.h_OutOfRoom L.t_OutOfRoom L.u_OutOfRoom_OutOfRoom, fun _ x hx => s_asg ev_c fun H19 e19 => ⟨_, rfl, (e17.trans e18).trans e19, .inr ⟨hout, rfl⟩⟩, fun z => nomatch z⟩
      rintro σ' H17 ⟨w, rfl, e17, hw⟩
      walk_at "ns"
      have y17 := y16.trans e17
      -- the rows stay
      refine q_when (b := false) (et_is (et_test (ev_neRows (eh_old (ev_var rfl) (e17 _ _ hpair)) (.cons (y17 _ _ hr1) (.cons (y17 _ _ hr2) .nil)) (eh_old (ev_var rfl) (e17 _ _ h16)) (.cons (e17 _ _ ha16) (.cons (e17 _ _ hb16) .nil)))) (by simp)) (fun z => nomatch z) (fun _ H18 e18 => ?_)
      have y18 := y17.trans e18
      have isN : ∀ {H' : Hp} {w : V}, RV (fun x y H Q => y = .non ∧ Q (.bl (decide (x = .non))) H) w .non H' (.bl (decide (w = .non))) := fun H1 _ _ q => ⟨rfl, q H1 (Ex.refl H1)⟩
      have notN : ∀ {H' : Hp} {w : V}, RV (fun x y H Q => y = .non ∧ Q (.bl (!decide (x = .non))) H) w .non H' (.bl (!decide (w = .non))) := fun H1 _ _ q => ⟨rfl, q H1 (Ex.refl H1)⟩
      rcases hw with ⟨hin, p, rfl, hpn, hp17⟩ | ⟨hout, rfl⟩
      · refine q_when (b := false) (et_is (et_test (ev_op (ev_op (ev_var rfl) ev_c isN) (ev_orV (ev_op (ev_var rfl) ev_c rv_I0) (fun _ => ev_op (ev_var rfl) (ev_op (ev_var rfl) (ev_var rfl) (rv_ixL (sq_of (y18 _ _ st.mp)) (two_at (f := fun i => .int (Rw.room (T.bs i))) hi))) rv_I0)) (rv_ne rfl))) ?_) (fun z => nomatch z) (fun _ H19 e19 => ?_)
        · rw [decide_eq_false (show ¬ due < 0 by omega), decide_eq_false (show ¬ due ≥ Rw.room (T.bs i) by omega)]
          simp
        have y19 := y18.trans e19
        refine s_when (b := true) (et_is (et_test (ev_op (ev_var rfl) ev_c notN)) (by simp)) (fun _ H20 e20 => ?_) (fun z => nomatch z)
        have y20 := y19.trans e20
        have p20 := ((e18.trans e19).trans e20) _ _ hp17
        refine q_when (b := false) (et_is (et_not (et_B (ev_rowT (eh_old (ev_var rfl) p20) (eh_new (el_rowL (x := due) (ev_op (ev_var rfl) (ev_var rfl) (rv_ixL (sq_of (y20 _ _ st.ap)) (two_at (f := fun i => .ref (T.q i)) hi))) (sq_of (y20 _ _ (st.q i hi))) (by omega) (fun _ => rfl) (fun k c H2 e2 hc => ev_op (ev_var rfl) (ev_var rfl) (rv_I (g.pos c (List.mem_of_getElem? hc))))))))) rfl) (fun z => nomatch z) (fun _ H21 e21 => ?_)
        have pne : p ≠ T.v i := by
          rcases hpn with h | h | h
          · intro z
            rw [z, st.v i hi] at h
            cases h
          · rw [h]
            exact (hid_ne hr1 i hi).1
          · rw [h]
            exact (hid_ne hr2 i hi).1
        have st21 := st.mono ((((e17.trans e18).trans e19).trans e20).trans e21)
        have x21 := hid_ex T H21
        refine q_setL (l := T.v i) (xs := (vals i).map V.int) (j := o) (st21.v i hi) (ev_var rfl) (ev_op (ev_var rfl) (ev_var rfl) (rv_ixL (sq_of (x21 _ _ st21.Vp)) (two_at (f := fun i => .ref (T.v i)) hi))) (ev_var rfl) (by rw [List.length_map]; omega) fun H22 e22 => ?_
        rw [show ((vals i).map V.int).set o (.int due) = ((vals i).set o due).map V.int by rw [List.map_set]]
        have st22 := st21.mono e22
        have y22 : Ex (T.hid H22) (upd H22 (T.v i) (.lst (((vals i).set o due).map V.int))) := by
          have z := hid_ex T (upd H22 (T.v i) (.lst (((vals i).set o due).map V.int)))
          rw [hid_updV hi] at z
          exact z
        exact s_setLL (l := T.r i) (xs := qs i) (ys := (Rw.rowOf (T.bs i) due).map V.int) (j := o) (by rw [upd_ne (ok.vr i i hi hi).symm]; exact st22.r i hi) (el_listH (eh_old (ev_var rfl) (by rw [upd_ne pne]; exact (e21.trans e22) _ _ p20)))
          (ev_op (ev_var rfl) (ev_var rfl) (rv_ixL (sq_of (y22 _ _ st22.Rp)) (two_at (f := fun i => .ref (T.r i)) hi))) (ev_var rfl) (by omega) fun p' H23 hp' e23 h23 => ⟨_, _, _, _, _, _, _, _, _, _, _, _, rfl, St12.put ok st21 hi e22 hp' e23 h23 hin.1 hin.2⟩
      · have bad : (decide (due < 0) || decide (due ≥ Rw.room (T.bs i))) = true := by
          rw [Bool.or_eq_true, decide_eq_true_eq, decide_eq_true_eq]
          omega
        refine q_when (b := false) (et_is (et_test (ev_op (ev_op (ev_var rfl) ev_c isN) (ev_orV (ev_op (ev_var rfl) ev_c rv_I0) (fun _ => ev_op (ev_var rfl) (ev_op (ev_var rfl) (ev_var rfl) (rv_ixL (sq_of (y18 _ _ st.mp)) (two_at (f := fun i => .int (Rw.room (T.bs i))) hi))) rv_I0)) (rv_ne rfl))) (by rw [bad]; simp)) (fun z => nomatch z) (fun _ H19 e19 => ?_)
        exact s_when (b := false) (et_is (et_test (ev_op (ev_var rfl) ev_c notN)) (by simp)) (fun z => nomatch z) (fun _ H20 e20 => ⟨_, _, _, _, _, _, _, _, _, _, vals, qs, rfl, st.mono (((e17.trans e18).trans e19).trans e20)⟩)
    rintro σ' H8 ⟨o7, o8, o9, o10, o11, o12, o13, o14, o15, o16, vals, qs, rfl, st⟩
    walk_at "ns"
    -- the end
    have x8 := hid_ex T H8
    refine q_forR1 (n := 2) (ea_cons ev_c ea_nil) (by decide) (fun _ σ' H' => ∃ o7, σ' = [some (.ref T.a), some (.ref bp), some (.ref T.ap), some (.ref T.xp), some (.ref T.mp), some (.ref T.Vp), some (.ref T.Rp), o7, o8, o9, o10, o11, o12, o13, o14, o15, o16, none, none, none, none, none] ∧ St12 K L.C T H' vals qs)
      (fun H9 e9 => ⟨_, rfl, st.mono e9⟩) ?_ ?_
    · rintro i σ' H9 hi' ⟨o7, rfl, st⟩
      walk_at "ns"
      have hi : i < 2 := by omega
      have g := ok.good i hi
      have x9 := hid_ex T H9
      obtain ⟨dx, l, t, hb, hl, ht⟩ := id (st.x i hi)
      refine q_when (b := false) (et_is (et_test (ev_neH (xs := T.bs i) (ys := T.bs i) (eh_old (ev_fld (ev_op (ev_var rfl) (ev_var rfl) (rv_ixL (sq_of (x9 _ _ st.xp)) (two_at (f := fun i => .ref (T.x i)) hi))) (x9 _ _ hb) L.cl L.nB (bf_bases l t)) (x9 _ _ hl)) (eh_old (ev_op (ev_var rfl) (ev_var rfl) (rv_ixL (sq_of (x9 _ _ st.ap)) (two_at (f := fun i => .ref (T.q i)) hi))) (x9 _ _ (st.q i hi))))) (by simp)) (fun z => nomatch z) (fun _ H10 e10 => ?_)
      have x10 := x9.trans e10
      refine s_when (b := false) (et_is (et_test (ev_neH (xs := vals i) (ys := vals i) (eh_new (el_over (by rw [st.qlen hi, st.len i hi]) (ev_op (ev_var rfl) (ev_var rfl) (rv_ixL (sq_of (x10 _ _ st.Rp)) (two_at (f := fun i => .ref (T.r i)) hi))) (sq_of (e10 _ _ (st.r i hi))) (by rw [st.qlen hi]; decide) (fun _ => rfl) (fun j y n H11 e11 hy hn => ?_))) (eh_old (ev_op (ev_var rfl) (ev_var rfl) (rv_ixL (sq_of (x10 _ _ st.Vp)) (two_at (f := fun i => .ref (T.v i)) hi))) (e10 _ _ (st.v i hi))))) (by simp)) (fun z => nomatch z) (fun _ H11 e11 => ⟨_, rfl, st.mono (e10.trans e11)⟩)
      obtain ⟨p, hp, hpr⟩ := (st.rows i hi).at_ (d := Rw.rowOf (T.bs i) n) (i := j) (by rw [List.getElem?_map, hn]; rfl)
      rw [hy] at hp
      obtain rfl := Option.some.inj hp
      have nb := st.rng i hi n (List.mem_of_getElem? hn)
      exact ev_is (ev_meth (ev_op (ev_var rfl) (ev_var rfl) (rv_ixL (sq_of ((x10.trans e11) _ _ st.xp)) (two_at (f := fun i => .ref (T.x i)) hi))) ((x10.trans e11) _ _ hb) (bf_none l t (by decide +kernel) (by decide +kernel)) (ea_cons (ev_var rfl) ea_nil) (sv_number ((st.x i hi).mono (x10.trans e11)) g (sq_of ((x10.trans e11) _ _ hpr)) (tells_row g nb.1 nb.2))) (by rw [Rw.num_rowR g nb.1 nb.2])
    · rintro σ' H9 ⟨o7, rfl, st⟩
      exact s_ret (v := .bl true) ev_c fun H10 _ => qq H10
end
end Rk
namespace Rk
open PySem PySem.Spec PyProof.Rows L2 Evl
section
variable {P : Program} {w : World} {K : PySem.W.Frag} {mg : Str → Option Value} {base : Heap}
theorem all_mk {l : PySem.W.OpenLaw} {w : World} {K : PySem.W.Frag} {h : Heap} {mg : Str → Option Value} {fa f_common f_turned f_need_bases f_need_both f_within f_summed f_added f_taken f_parted f_halved f_times f___init__ f_room f_need_row f_need_number f_rests f_led f_figures f_tells f_number f_compared f_told_by_others f_without f_refilled f_mended f__law_cell_at f__law_bases f__law_row f__law_room f__law_done f__law_due f_law c_RestError c_NoBases c_NoRow c_NoNumber c_NoPlace c_NoTurn c_OutOfRoom c_Lost C : Addr} (X : K.In h) (G : h.Ns mainGlobals mg) (hfa : mg "law" = some (.ref fa))
    {od_common an_common od_turned an_turned od_need_bases an_need_bases od_need_both an_need_both od_within an_within od_summed an_summed od_added an_added od_taken an_taken od_parted an_parted od_halved an_halved od_times an_times od___init__ an___init__ od_room an_room od_need_row an_need_row od_need_number an_need_number od_rests an_rests od_led an_led od_figures an_figures od_tells an_tells od_number an_number od_compared an_compared od_told_by_others an_told_by_others od_without an_without od_refilled an_refilled od_mended an_mended od__law_cell_at an__law_cell_at od__law_bases an__law_bases od__law_row an__law_row od__law_room an__law_room od__law_done an__law_done od__law_due an__law_due od_law an_law : Option Addr} {sl_common sl_turned sl_need_bases sl_need_both sl_within sl_summed sl_added sl_taken sl_parted sl_halved sl_times sl___init__ sl_room sl_need_row sl_need_number sl_rests sl_led sl_figures sl_tells sl_number sl_compared sl_told_by_others sl_without sl_refilled sl_mended sl__law_cell_at sl__law_bases sl__law_row sl__law_room sl__law_done sl__law_due sl_law : Array (Option Value)} {oc_common kV_common dc_common pm_common cd_common ct_common oc_turned kV_turned dc_turned pm_turned cd_turned ct_turned oc_need_bases kV_need_bases dc_need_bases pm_need_bases cd_need_bases ct_need_bases oc_need_both kV_need_both dc_need_both pm_need_both cd_need_both ct_need_both oc_within kV_within dc_within pm_within cd_within ct_within oc_summed kV_summed dc_summed pm_summed cd_summed ct_summed oc_added kV_added dc_added pm_added cd_added ct_added oc_taken kV_taken dc_taken pm_taken cd_taken ct_taken oc_parted kV_parted dc_parted pm_parted cd_parted ct_parted oc_halved kV_halved dc_halved pm_halved cd_halved ct_halved oc_times kV_times dc_times pm_times cd_times ct_times oc___init__ kV___init__ dc___init__ pm___init__ cd___init__ ct___init__ oc_room kV_room dc_room pm_room cd_room ct_room oc_need_row kV_need_row dc_need_row pm_need_row cd_need_row ct_need_row oc_need_number kV_need_number dc_need_number pm_need_number cd_need_number ct_need_number oc_rests kV_rests dc_rests pm_rests cd_rests ct_rests oc_led kV_led dc_led pm_led cd_led ct_led oc_figures kV_figures dc_figures pm_figures cd_figures ct_figures oc_tells kV_tells dc_tells pm_tells cd_tells ct_tells oc_number kV_number dc_number pm_number cd_number ct_number oc_compared kV_compared dc_compared pm_compared cd_compared ct_compared oc_told_by_others kV_told_by_others dc_told_by_others pm_told_by_others cd_told_by_others ct_told_by_others oc_without kV_without dc_without pm_without cd_without ct_without oc_refilled kV_refilled dc_refilled pm_refilled cd_refilled ct_refilled oc_mended kV_mended dc_mended pm_mended cd_mended ct_mended oc__law_cell_at kV__law_cell_at dc__law_cell_at pm__law_cell_at cd__law_cell_at ct__law_cell_at oc__law_bases kV__law_bases dc__law_bases pm__law_bases cd__law_bases ct__law_bases oc__law_row kV__law_row dc__law_row pm__law_row cd__law_row ct__law_row oc__law_room kV__law_room dc__law_room pm__law_room cd__law_room ct__law_room oc__law_done kV__law_done dc__law_done pm__law_done cd__law_done ct__law_done oc__law_due kV__law_due dc__law_due pm__law_due cd__law_due ct__law_due oc_law kV_law dc_law pm_law cd_law ct_law : Value} {t_LEAST t_MOST t_FEWEST t_SO_MANY : Tok}
    (aC : PySem.W.nsIn K mainGlobals "Board" = some (some (.ref C)))
    (a_common : PySem.W.nsIn K mainGlobals "common" = some (some (.ref f_common)))
    (l_common : K.lookup f_common = some ⟨oc_common, od_common, .func (PySem.W.fnOf "common" "common" (defArgs s_common) (defBody s_common) (defScope s_common) .none kV_common dc_common pm_common an_common cd_common ct_common), sl_common⟩)
    (q_common : PySem.W.codeIn K cd_common "common" = true)
    (k_common : PySem.W.keepIn K (.ref f_common) = true)
    (a_turned : PySem.W.nsIn K mainGlobals "turned" = some (some (.ref f_turned)))
    (l_turned : K.lookup f_turned = some ⟨oc_turned, od_turned, .func (PySem.W.fnOf "turned" "turned" (defArgs s_turned) (defBody s_turned) (defScope s_turned) .none kV_turned dc_turned pm_turned an_turned cd_turned ct_turned), sl_turned⟩)
    (q_turned : PySem.W.codeIn K cd_turned "turned" = true)
    (k_turned : PySem.W.keepIn K (.ref f_turned) = true)
    (a_need_bases : PySem.W.nsIn K mainGlobals "need_bases" = some (some (.ref f_need_bases)))
    (l_need_bases : K.lookup f_need_bases = some ⟨oc_need_bases, od_need_bases, .func (PySem.W.fnOf "need_bases" "need_bases" (defArgs s_need_bases) (defBody s_need_bases) (defScope s_need_bases) .none kV_need_bases dc_need_bases pm_need_bases an_need_bases cd_need_bases ct_need_bases), sl_need_bases⟩)
    (q_need_bases : PySem.W.codeIn K cd_need_bases "need_bases" = true)
    (k_need_bases : PySem.W.keepIn K (.ref f_need_bases) = true)
    (a_need_both : PySem.W.nsIn K mainGlobals "need_both" = some (some (.ref f_need_both)))
    (l_need_both : K.lookup f_need_both = some ⟨oc_need_both, od_need_both, .func (PySem.W.fnOf "need_both" "need_both" (defArgs s_need_both) (defBody s_need_both) (defScope s_need_both) .none kV_need_both dc_need_both pm_need_both an_need_both cd_need_both ct_need_both), sl_need_both⟩)
    (q_need_both : PySem.W.codeIn K cd_need_both "need_both" = true)
    (k_need_both : PySem.W.keepIn K (.ref f_need_both) = true)
    (a_within : PySem.W.nsIn K mainGlobals "within" = some (some (.ref f_within)))
    (l_within : K.lookup f_within = some ⟨oc_within, od_within, .func (PySem.W.fnOf "within" "within" (defArgs s_within) (defBody s_within) (defScope s_within) .none kV_within dc_within pm_within an_within cd_within ct_within), sl_within⟩)
    (q_within : PySem.W.codeIn K cd_within "within" = true)
    (k_within : PySem.W.keepIn K (.ref f_within) = true)
    (a_summed : PySem.W.nsIn K mainGlobals "summed" = some (some (.ref f_summed)))
    (l_summed : K.lookup f_summed = some ⟨oc_summed, od_summed, .func (PySem.W.fnOf "summed" "summed" (defArgs s_summed) (defBody s_summed) (defScope s_summed) .none kV_summed dc_summed pm_summed an_summed cd_summed ct_summed), sl_summed⟩)
    (q_summed : PySem.W.codeIn K cd_summed "summed" = true)
    (k_summed : PySem.W.keepIn K (.ref f_summed) = true)
    (a_added : PySem.W.nsIn K mainGlobals "added" = some (some (.ref f_added)))
    (l_added : K.lookup f_added = some ⟨oc_added, od_added, .func (PySem.W.fnOf "added" "added" (defArgs s_added) (defBody s_added) (defScope s_added) .none kV_added dc_added pm_added an_added cd_added ct_added), sl_added⟩)
    (q_added : PySem.W.codeIn K cd_added "added" = true)
    (k_added : PySem.W.keepIn K (.ref f_added) = true)
    (a_taken : PySem.W.nsIn K mainGlobals "taken" = some (some (.ref f_taken)))
    (l_taken : K.lookup f_taken = some ⟨oc_taken, od_taken, .func (PySem.W.fnOf "taken" "taken" (defArgs s_taken) (defBody s_taken) (defScope s_taken) .none kV_taken dc_taken pm_taken an_taken cd_taken ct_taken), sl_taken⟩)
    (q_taken : PySem.W.codeIn K cd_taken "taken" = true)
    (k_taken : PySem.W.keepIn K (.ref f_taken) = true)
    (a_parted : PySem.W.nsIn K mainGlobals "parted" = some (some (.ref f_parted)))
    (l_parted : K.lookup f_parted = some ⟨oc_parted, od_parted, .func (PySem.W.fnOf "parted" "parted" (defArgs s_parted) (defBody s_parted) (defScope s_parted) .none kV_parted dc_parted pm_parted an_parted cd_parted ct_parted), sl_parted⟩)
    (q_parted : PySem.W.codeIn K cd_parted "parted" = true)
    (k_parted : PySem.W.keepIn K (.ref f_parted) = true)
    (a_halved : PySem.W.nsIn K mainGlobals "halved" = some (some (.ref f_halved)))
    (l_halved : K.lookup f_halved = some ⟨oc_halved, od_halved, .func (PySem.W.fnOf "halved" "halved" (defArgs s_halved) (defBody s_halved) (defScope s_halved) .none kV_halved dc_halved pm_halved an_halved cd_halved ct_halved), sl_halved⟩)
    (q_halved : PySem.W.codeIn K cd_halved "halved" = true)
    (k_halved : PySem.W.keepIn K (.ref f_halved) = true)
    (a_times : PySem.W.nsIn K mainGlobals "times" = some (some (.ref f_times)))
    (l_times : K.lookup f_times = some ⟨oc_times, od_times, .func (PySem.W.fnOf "times" "times" (defArgs s_times) (defBody s_times) (defScope s_times) .none kV_times dc_times pm_times an_times cd_times ct_times), sl_times⟩)
    (q_times : PySem.W.codeIn K cd_times "times" = true)
    (k_times : PySem.W.keepIn K (.ref f_times) = true)
    (a___init__ : PySem.W.findIn K (.ref C) "__init__" = some (some (.ref f___init__)))
    (i___init__ : PySem.W.isFn K (.ref f___init__) = true)
    (l___init__ : K.lookup f___init__ = some ⟨oc___init__, od___init__, .func (PySem.W.fnOf "__init__" "Board.__init__" (defArgs s___init__) (defBody s___init__) (defScope s___init__) .none kV___init__ dc___init__ pm___init__ an___init__ cd___init__ ct___init__), sl___init__⟩)
    (q___init__ : PySem.W.codeIn K cd___init__ "Board.__init__" = true)
    (k___init__ : PySem.W.keepIn K (.ref f___init__) = true)
    (a_room : PySem.W.findIn K (.ref C) "room" = some (some (.ref f_room)))
    (i_room : PySem.W.isFn K (.ref f_room) = true)
    (l_room : K.lookup f_room = some ⟨oc_room, od_room, .func (PySem.W.fnOf "room" "Board.room" (defArgs s_room) (defBody s_room) (defScope s_room) .none kV_room dc_room pm_room an_room cd_room ct_room), sl_room⟩)
    (q_room : PySem.W.codeIn K cd_room "Board.room" = true)
    (k_room : PySem.W.keepIn K (.ref f_room) = true)
    (a_need_row : PySem.W.findIn K (.ref C) "need_row" = some (some (.ref f_need_row)))
    (i_need_row : PySem.W.isFn K (.ref f_need_row) = true)
    (l_need_row : K.lookup f_need_row = some ⟨oc_need_row, od_need_row, .func (PySem.W.fnOf "need_row" "Board.need_row" (defArgs s_need_row) (defBody s_need_row) (defScope s_need_row) .none kV_need_row dc_need_row pm_need_row an_need_row cd_need_row ct_need_row), sl_need_row⟩)
    (q_need_row : PySem.W.codeIn K cd_need_row "Board.need_row" = true)
    (k_need_row : PySem.W.keepIn K (.ref f_need_row) = true)
    (a_need_number : PySem.W.findIn K (.ref C) "need_number" = some (some (.ref f_need_number)))
    (i_need_number : PySem.W.isFn K (.ref f_need_number) = true)
    (l_need_number : K.lookup f_need_number = some ⟨oc_need_number, od_need_number, .func (PySem.W.fnOf "need_number" "Board.need_number" (defArgs s_need_number) (defBody s_need_number) (defScope s_need_number) .none kV_need_number dc_need_number pm_need_number an_need_number cd_need_number ct_need_number), sl_need_number⟩)
    (q_need_number : PySem.W.codeIn K cd_need_number "Board.need_number" = true)
    (k_need_number : PySem.W.keepIn K (.ref f_need_number) = true)
    (a_rests : PySem.W.findIn K (.ref C) "rests" = some (some (.ref f_rests)))
    (i_rests : PySem.W.isFn K (.ref f_rests) = true)
    (l_rests : K.lookup f_rests = some ⟨oc_rests, od_rests, .func (PySem.W.fnOf "rests" "Board.rests" (defArgs s_rests) (defBody s_rests) (defScope s_rests) .none kV_rests dc_rests pm_rests an_rests cd_rests ct_rests), sl_rests⟩)
    (q_rests : PySem.W.codeIn K cd_rests "Board.rests" = true)
    (k_rests : PySem.W.keepIn K (.ref f_rests) = true)
    (a_led : PySem.W.findIn K (.ref C) "led" = some (some (.ref f_led)))
    (i_led : PySem.W.isFn K (.ref f_led) = true)
    (l_led : K.lookup f_led = some ⟨oc_led, od_led, .func (PySem.W.fnOf "led" "Board.led" (defArgs s_led) (defBody s_led) (defScope s_led) .none kV_led dc_led pm_led an_led cd_led ct_led), sl_led⟩)
    (q_led : PySem.W.codeIn K cd_led "Board.led" = true)
    (k_led : PySem.W.keepIn K (.ref f_led) = true)
    (a_figures : PySem.W.findIn K (.ref C) "figures" = some (some (.ref f_figures)))
    (i_figures : PySem.W.isFn K (.ref f_figures) = true)
    (l_figures : K.lookup f_figures = some ⟨oc_figures, od_figures, .func (PySem.W.fnOf "figures" "Board.figures" (defArgs s_figures) (defBody s_figures) (defScope s_figures) .none kV_figures dc_figures pm_figures an_figures cd_figures ct_figures), sl_figures⟩)
    (q_figures : PySem.W.codeIn K cd_figures "Board.figures" = true)
    (k_figures : PySem.W.keepIn K (.ref f_figures) = true)
    (a_tells : PySem.W.findIn K (.ref C) "tells" = some (some (.ref f_tells)))
    (i_tells : PySem.W.isFn K (.ref f_tells) = true)
    (l_tells : K.lookup f_tells = some ⟨oc_tells, od_tells, .func (PySem.W.fnOf "tells" "Board.tells" (defArgs s_tells) (defBody s_tells) (defScope s_tells) .none kV_tells dc_tells pm_tells an_tells cd_tells ct_tells), sl_tells⟩)
    (q_tells : PySem.W.codeIn K cd_tells "Board.tells" = true)
    (k_tells : PySem.W.keepIn K (.ref f_tells) = true)
    (a_number : PySem.W.findIn K (.ref C) "number" = some (some (.ref f_number)))
    (i_number : PySem.W.isFn K (.ref f_number) = true)
    (l_number : K.lookup f_number = some ⟨oc_number, od_number, .func (PySem.W.fnOf "number" "Board.number" (defArgs s_number) (defBody s_number) (defScope s_number) .none kV_number dc_number pm_number an_number cd_number ct_number), sl_number⟩)
    (q_number : PySem.W.codeIn K cd_number "Board.number" = true)
    (k_number : PySem.W.keepIn K (.ref f_number) = true)
    (a_compared : PySem.W.findIn K (.ref C) "compared" = some (some (.ref f_compared)))
    (i_compared : PySem.W.isFn K (.ref f_compared) = true)
    (l_compared : K.lookup f_compared = some ⟨oc_compared, od_compared, .func (PySem.W.fnOf "compared" "Board.compared" (defArgs s_compared) (defBody s_compared) (defScope s_compared) .none kV_compared dc_compared pm_compared an_compared cd_compared ct_compared), sl_compared⟩)
    (q_compared : PySem.W.codeIn K cd_compared "Board.compared" = true)
    (k_compared : PySem.W.keepIn K (.ref f_compared) = true)
    (a_told_by_others : PySem.W.nsIn K mainGlobals "told_by_others" = some (some (.ref f_told_by_others)))
    (l_told_by_others : K.lookup f_told_by_others = some ⟨oc_told_by_others, od_told_by_others, .func (PySem.W.fnOf "told_by_others" "told_by_others" (defArgs s_told_by_others) (defBody s_told_by_others) (defScope s_told_by_others) .none kV_told_by_others dc_told_by_others pm_told_by_others an_told_by_others cd_told_by_others ct_told_by_others), sl_told_by_others⟩)
    (q_told_by_others : PySem.W.codeIn K cd_told_by_others "told_by_others" = true)
    (k_told_by_others : PySem.W.keepIn K (.ref f_told_by_others) = true)
    (a_without : PySem.W.nsIn K mainGlobals "without" = some (some (.ref f_without)))
    (l_without : K.lookup f_without = some ⟨oc_without, od_without, .func (PySem.W.fnOf "without" "without" (defArgs s_without) (defBody s_without) (defScope s_without) .none kV_without dc_without pm_without an_without cd_without ct_without), sl_without⟩)
    (q_without : PySem.W.codeIn K cd_without "without" = true)
    (k_without : PySem.W.keepIn K (.ref f_without) = true)
    (a_refilled : PySem.W.nsIn K mainGlobals "refilled" = some (some (.ref f_refilled)))
    (l_refilled : K.lookup f_refilled = some ⟨oc_refilled, od_refilled, .func (PySem.W.fnOf "refilled" "refilled" (defArgs s_refilled) (defBody s_refilled) (defScope s_refilled) .none kV_refilled dc_refilled pm_refilled an_refilled cd_refilled ct_refilled), sl_refilled⟩)
    (q_refilled : PySem.W.codeIn K cd_refilled "refilled" = true)
    (k_refilled : PySem.W.keepIn K (.ref f_refilled) = true)
    (a_mended : PySem.W.nsIn K mainGlobals "mended" = some (some (.ref f_mended)))
    (l_mended : K.lookup f_mended = some ⟨oc_mended, od_mended, .func (PySem.W.fnOf "mended" "mended" (defArgs s_mended) (defBody s_mended) (defScope s_mended) .none kV_mended dc_mended pm_mended an_mended cd_mended ct_mended), sl_mended⟩)
    (q_mended : PySem.W.codeIn K cd_mended "mended" = true)
    (k_mended : PySem.W.keepIn K (.ref f_mended) = true)
    (a__law_cell_at : PySem.W.nsIn K mainGlobals "_law_cell_at" = some (some (.ref f__law_cell_at)))
    (l__law_cell_at : K.lookup f__law_cell_at = some ⟨oc__law_cell_at, od__law_cell_at, .func (PySem.W.fnOf "_law_cell_at" "_law_cell_at" (defArgs s__law_cell_at) (defBody s__law_cell_at) (defScope s__law_cell_at) .none kV__law_cell_at dc__law_cell_at pm__law_cell_at an__law_cell_at cd__law_cell_at ct__law_cell_at), sl__law_cell_at⟩)
    (q__law_cell_at : PySem.W.codeIn K cd__law_cell_at "_law_cell_at" = true)
    (k__law_cell_at : PySem.W.keepIn K (.ref f__law_cell_at) = true)
    (a__law_bases : PySem.W.nsIn K mainGlobals "_law_bases" = some (some (.ref f__law_bases)))
    (l__law_bases : K.lookup f__law_bases = some ⟨oc__law_bases, od__law_bases, .func (PySem.W.fnOf "_law_bases" "_law_bases" (defArgs s__law_bases) (defBody s__law_bases) (defScope s__law_bases) .none kV__law_bases dc__law_bases pm__law_bases an__law_bases cd__law_bases ct__law_bases), sl__law_bases⟩)
    (q__law_bases : PySem.W.codeIn K cd__law_bases "_law_bases" = true)
    (k__law_bases : PySem.W.keepIn K (.ref f__law_bases) = true)
    (a__law_row : PySem.W.nsIn K mainGlobals "_law_row" = some (some (.ref f__law_row)))
    (l__law_row : K.lookup f__law_row = some ⟨oc__law_row, od__law_row, .func (PySem.W.fnOf "_law_row" "_law_row" (defArgs s__law_row) (defBody s__law_row) (defScope s__law_row) .none kV__law_row dc__law_row pm__law_row an__law_row cd__law_row ct__law_row), sl__law_row⟩)
    (q__law_row : PySem.W.codeIn K cd__law_row "_law_row" = true)
    (k__law_row : PySem.W.keepIn K (.ref f__law_row) = true)
    (a__law_room : PySem.W.nsIn K mainGlobals "_law_room" = some (some (.ref f__law_room)))
    (l__law_room : K.lookup f__law_room = some ⟨oc__law_room, od__law_room, .func (PySem.W.fnOf "_law_room" "_law_room" (defArgs s__law_room) (defBody s__law_room) (defScope s__law_room) .none kV__law_room dc__law_room pm__law_room an__law_room cd__law_room ct__law_room), sl__law_room⟩)
    (q__law_room : PySem.W.codeIn K cd__law_room "_law_room" = true)
    (k__law_room : PySem.W.keepIn K (.ref f__law_room) = true)
    (a__law_done : PySem.W.nsIn K mainGlobals "_law_done" = some (some (.ref f__law_done)))
    (l__law_done : K.lookup f__law_done = some ⟨oc__law_done, od__law_done, .func (PySem.W.fnOf "_law_done" "_law_done" (defArgs s__law_done) (defBody s__law_done) (defScope s__law_done) .none kV__law_done dc__law_done pm__law_done an__law_done cd__law_done ct__law_done), sl__law_done⟩)
    (q__law_done : PySem.W.codeIn K cd__law_done "_law_done" = true)
    (k__law_done : PySem.W.keepIn K (.ref f__law_done) = true)
    (a__law_due : PySem.W.nsIn K mainGlobals "_law_due" = some (some (.ref f__law_due)))
    (l__law_due : K.lookup f__law_due = some ⟨oc__law_due, od__law_due, .func (PySem.W.fnOf "_law_due" "_law_due" (defArgs s__law_due) (defBody s__law_due) (defScope s__law_due) .none kV__law_due dc__law_due pm__law_due an__law_due cd__law_due ct__law_due), sl__law_due⟩)
    (q__law_due : PySem.W.codeIn K cd__law_due "_law_due" = true)
    (k__law_due : PySem.W.keepIn K (.ref f__law_due) = true)
    (a_law : PySem.W.nsIn K mainGlobals "law" = some (some (.ref f_law)))
    (l_law : K.lookup f_law = some ⟨oc_law, od_law, .func (PySem.W.fnOf "law" "law" (defArgs s_law) (defBody s_law) (defScope s_law) .none kV_law dc_law pm_law an_law cd_law ct_law), sl_law⟩)
    (q_law : PySem.W.codeIn K cd_law "law" = true)
    (k_law : PySem.W.keepIn K (.ref f_law) = true)
    (pg : PySem.W.plainGet K C Str.empty = true)
    (hd : PySem.W.hasDictIn K C = true)
    (po : PySem.W.plainOver K C = true)
    (sa : PySem.W.findIn K (.ref C) "__setattr__" = some (some (.builtin "object.__setattr__")))
    (mk : PySem.W.makesIn K C = true)
    (kc : PySem.W.keepIn K (.ref C) = true)
    (nB : PySem.W.findIn K (.ref C) "bases" = some none)
    (nT : PySem.W.findIn K (.ref C) "turns" = some none)
    (g_RestError : PySem.W.nsIn K mainGlobals "RestError" = some (some (.ref c_RestError)))
    (x_RestError : PySem.W.excIn K c_RestError [.type "ValueError", .type "Exception", .type "BaseException", .type "object"] "ValueError.__new__" = true)
    (e_RestError : PySem.W.keepIn K (.ref c_RestError) = true)
    (s_RestError : PySem.W.subIn K (.ref c_RestError) (.type "BaseException") = some true)
    (t_RestError : PySem.W.typeIn K (.ref c_RestError) = some (.type "type"))
    (h_RestError : PySem.W.hasDictIn K c_RestError = true)
    (g_NoBases : PySem.W.nsIn K mainGlobals "NoBases" = some (some (.ref c_NoBases)))
    (x_NoBases : PySem.W.excIn K c_NoBases [.type "ValueError", .type "Exception", .type "BaseException", .type "object"] "ValueError.__new__" = true)
    (e_NoBases : PySem.W.keepIn K (.ref c_NoBases) = true)
    (s_NoBases : PySem.W.subIn K (.ref c_NoBases) (.type "BaseException") = some true)
    (t_NoBases : PySem.W.typeIn K (.ref c_NoBases) = some (.type "type"))
    (h_NoBases : PySem.W.hasDictIn K c_NoBases = true)
    (g_NoRow : PySem.W.nsIn K mainGlobals "NoRow" = some (some (.ref c_NoRow)))
    (x_NoRow : PySem.W.excIn K c_NoRow [.type "ValueError", .type "Exception", .type "BaseException", .type "object"] "ValueError.__new__" = true)
    (e_NoRow : PySem.W.keepIn K (.ref c_NoRow) = true)
    (s_NoRow : PySem.W.subIn K (.ref c_NoRow) (.type "BaseException") = some true)
    (t_NoRow : PySem.W.typeIn K (.ref c_NoRow) = some (.type "type"))
    (h_NoRow : PySem.W.hasDictIn K c_NoRow = true)
    (g_NoNumber : PySem.W.nsIn K mainGlobals "NoNumber" = some (some (.ref c_NoNumber)))
    (x_NoNumber : PySem.W.excIn K c_NoNumber [.type "ValueError", .type "Exception", .type "BaseException", .type "object"] "ValueError.__new__" = true)
    (e_NoNumber : PySem.W.keepIn K (.ref c_NoNumber) = true)
    (s_NoNumber : PySem.W.subIn K (.ref c_NoNumber) (.type "BaseException") = some true)
    (t_NoNumber : PySem.W.typeIn K (.ref c_NoNumber) = some (.type "type"))
    (h_NoNumber : PySem.W.hasDictIn K c_NoNumber = true)
    (g_NoPlace : PySem.W.nsIn K mainGlobals "NoPlace" = some (some (.ref c_NoPlace)))
    (x_NoPlace : PySem.W.excIn K c_NoPlace [.type "ValueError", .type "Exception", .type "BaseException", .type "object"] "ValueError.__new__" = true)
    (e_NoPlace : PySem.W.keepIn K (.ref c_NoPlace) = true)
    (s_NoPlace : PySem.W.subIn K (.ref c_NoPlace) (.type "BaseException") = some true)
    (t_NoPlace : PySem.W.typeIn K (.ref c_NoPlace) = some (.type "type"))
    (h_NoPlace : PySem.W.hasDictIn K c_NoPlace = true)
    (g_NoTurn : PySem.W.nsIn K mainGlobals "NoTurn" = some (some (.ref c_NoTurn)))
    (x_NoTurn : PySem.W.excIn K c_NoTurn [.type "ValueError", .type "Exception", .type "BaseException", .type "object"] "ValueError.__new__" = true)
    (e_NoTurn : PySem.W.keepIn K (.ref c_NoTurn) = true)
    (s_NoTurn : PySem.W.subIn K (.ref c_NoTurn) (.type "BaseException") = some true)
    (t_NoTurn : PySem.W.typeIn K (.ref c_NoTurn) = some (.type "type"))
    (h_NoTurn : PySem.W.hasDictIn K c_NoTurn = true)
    (g_OutOfRoom : PySem.W.nsIn K mainGlobals "OutOfRoom" = some (some (.ref c_OutOfRoom)))
    (x_OutOfRoom : PySem.W.excIn K c_OutOfRoom [.type "ValueError", .type "Exception", .type "BaseException", .type "object"] "ValueError.__new__" = true)
    (e_OutOfRoom : PySem.W.keepIn K (.ref c_OutOfRoom) = true)
    (s_OutOfRoom : PySem.W.subIn K (.ref c_OutOfRoom) (.type "BaseException") = some true)
    (t_OutOfRoom : PySem.W.typeIn K (.ref c_OutOfRoom) = some (.type "type"))
    (h_OutOfRoom : PySem.W.hasDictIn K c_OutOfRoom = true)
    (g_Lost : PySem.W.nsIn K mainGlobals "Lost" = some (some (.ref c_Lost)))
    (x_Lost : PySem.W.excIn K c_Lost [.type "ValueError", .type "Exception", .type "BaseException", .type "object"] "ValueError.__new__" = true)
    (e_Lost : PySem.W.keepIn K (.ref c_Lost) = true)
    (s_Lost : PySem.W.subIn K (.ref c_Lost) (.type "BaseException") = some true)
    (t_Lost : PySem.W.typeIn K (.ref c_Lost) = some (.type "type"))
    (h_Lost : PySem.W.hasDictIn K c_Lost = true)
    (u_Lost_OutOfRoom : PySem.W.subIn K (.ref c_Lost) (.ref c_OutOfRoom) = some false)
    (u_NoBases_OutOfRoom : PySem.W.subIn K (.ref c_NoBases) (.ref c_OutOfRoom) = some false)
    (u_NoNumber_OutOfRoom : PySem.W.subIn K (.ref c_NoNumber) (.ref c_OutOfRoom) = some false)
    (u_NoPlace_OutOfRoom : PySem.W.subIn K (.ref c_NoPlace) (.ref c_OutOfRoom) = some false)
    (u_NoRow_OutOfRoom : PySem.W.subIn K (.ref c_NoRow) (.ref c_OutOfRoom) = some false)
    (u_NoTurn_OutOfRoom : PySem.W.subIn K (.ref c_NoTurn) (.ref c_OutOfRoom) = some false)
    (u_OutOfRoom_OutOfRoom : PySem.W.subIn K (.ref c_OutOfRoom) (.ref c_OutOfRoom) = some true)
    (k_LEAST : PySem.W.nsIn K mainGlobals "LEAST" = some (some (.int 3 t_LEAST)))
    (k_MOST : PySem.W.nsIn K mainGlobals "MOST" = some (some (.int 999999 t_MOST)))
    (k_FEWEST : PySem.W.nsIn K mainGlobals "FEWEST" = some (some (.int 3 t_FEWEST)))
    (k_SO_MANY : PySem.W.nsIn K mainGlobals "SO_MANY" = some (some (.int 14 t_SO_MANY)))
    (z_ValueError : PySem.W.nsIn K mainGlobals "ValueError" = some none)
    (z_abs : PySem.W.nsIn K mainGlobals "abs" = some none)
    (z_bool : PySem.W.nsIn K mainGlobals "bool" = some none)
    (z_int : PySem.W.nsIn K mainGlobals "int" = some none)
    (z_isinstance : PySem.W.nsIn K mainGlobals "isinstance" = some none)
    (z_len : PySem.W.nsIn K mainGlobals "len" = some none)
    (z_list : PySem.W.nsIn K mainGlobals "list" = some none)
    (z_max : PySem.W.nsIn K mainGlobals "max" = some none)
    (z_min : PySem.W.nsIn K mainGlobals "min" = some none)
    (z_range : PySem.W.nsIn K mainGlobals "range" = some none)
    (z_sorted : PySem.W.nsIn K mainGlobals "sorted" = some none)
    (z_sum : PySem.W.nsIn K mainGlobals "sum" = some none)
    (z_zip : PySem.W.nsIn K mainGlobals "zip" = some none) :
    ∃ fd : FuncData, (∀ (s : Shared) (v : Value), BindsTo s fd ⟨[v], []⟩ [("_law_script", v)]) ∧ ∀ base : Heap, K.In base → base.Ns mainGlobals mg → FnOk l.prog w K mg base (L2.CX l.prog w) 8 fa fd ["_law_script"] (sp_law K) := by
  have e := hfa.symm.trans (PySem.W.mg_of X G a_law)
  cases e
  have F_common := fun_mk (st := s_common) l_common q_common k_common
  have F_turned := fun_mk (st := s_turned) l_turned q_turned k_turned
  have F_need_bases := fun_mk (st := s_need_bases) l_need_bases q_need_bases k_need_bases
  have F_need_both := fun_mk (st := s_need_both) l_need_both q_need_both k_need_both
  have F_within := fun_mk (st := s_within) l_within q_within k_within
  have F_summed := fun_mk (st := s_summed) l_summed q_summed k_summed
  have F_added := fun_mk (st := s_added) l_added q_added k_added
  have F_taken := fun_mk (st := s_taken) l_taken q_taken k_taken
  have F_parted := fun_mk (st := s_parted) l_parted q_parted k_parted
  have F_halved := fun_mk (st := s_halved) l_halved q_halved k_halved
  have F_times := fun_mk (st := s_times) l_times q_times k_times
  have F___init__ := fun_mk (st := s___init__) l___init__ q___init__ k___init__
  have F_room := fun_mk (st := s_room) l_room q_room k_room
  have F_need_row := fun_mk (st := s_need_row) l_need_row q_need_row k_need_row
  have F_need_number := fun_mk (st := s_need_number) l_need_number q_need_number k_need_number
  have F_rests := fun_mk (st := s_rests) l_rests q_rests k_rests
  have F_led := fun_mk (st := s_led) l_led q_led k_led
  have F_figures := fun_mk (st := s_figures) l_figures q_figures k_figures
  have F_tells := fun_mk (st := s_tells) l_tells q_tells k_tells
  have F_number := fun_mk (st := s_number) l_number q_number k_number
  have F_compared := fun_mk (st := s_compared) l_compared q_compared k_compared
  have F_told_by_others := fun_mk (st := s_told_by_others) l_told_by_others q_told_by_others k_told_by_others
  have F_without := fun_mk (st := s_without) l_without q_without k_without
  have F_refilled := fun_mk (st := s_refilled) l_refilled q_refilled k_refilled
  have F_mended := fun_mk (st := s_mended) l_mended q_mended k_mended
  have F__law_cell_at := fun_mk (st := s__law_cell_at) l__law_cell_at q__law_cell_at k__law_cell_at
  have F__law_bases := fun_mk (st := s__law_bases) l__law_bases q__law_bases k__law_bases
  have F__law_row := fun_mk (st := s__law_row) l__law_row q__law_row k__law_row
  have F__law_room := fun_mk (st := s__law_room) l__law_room q__law_room k__law_room
  have F__law_done := fun_mk (st := s__law_done) l__law_done q__law_done k__law_done
  have F__law_due := fun_mk (st := s__law_due) l__law_due q__law_due k__law_due
  have F_law := fun_mk (st := s_law) l_law q_law k_law
  refine ⟨_, fun s v => ?_, fun base _ _ => ok_law (K := K) (mg := mg) { f_common := f_common, d_common := _, F_common := F_common, b_common := (F_common.binds (ps := ["one", "other"]) fun _ _ _ _ _ _ us hl => match us, hl with | [_, _], _ => rfl), f_turned := f_turned, d_turned := _, F_turned := F_turned, b_turned := (F_turned.binds (ps := ["number", "base"]) fun _ _ _ _ _ _ us hl => match us, hl with | [_, _], _ => rfl), f_need_bases := f_need_bases, d_need_bases := _, F_need_bases := F_need_bases, b_need_bases := (F_need_bases.binds (ps := ["bases"]) fun _ _ _ _ _ _ us hl => match us, hl with | [_], _ => rfl), f_need_both := f_need_both, d_need_both := _, F_need_both := F_need_both, b_need_both := (F_need_both.binds (ps := ["board", "one", "other"]) fun _ _ _ _ _ _ us hl => match us, hl with | [_, _, _], _ => rfl), f_within := f_within, d_within := _, F_within := F_within, b_within := (F_within.binds (ps := ["board", "row"]) fun _ _ _ _ _ _ us hl => match us, hl with | [_, _], _ => rfl), f_summed := f_summed, d_summed := _, F_summed := F_summed, b_summed := (F_summed.binds (ps := ["board", "one", "other"]) fun _ _ _ _ _ _ us hl => match us, hl with | [_, _, _], _ => rfl), f_added := f_added, d_added := _, F_added := F_added, b_added := (F_added.binds (ps := ["board", "one", "other"]) fun _ _ _ _ _ _ us hl => match us, hl with | [_, _, _], _ => rfl), f_taken := f_taken, d_taken := _, F_taken := F_taken, b_taken := (F_taken.binds (ps := ["board", "one", "other"]) fun _ _ _ _ _ _ us hl => match us, hl with | [_, _, _], _ => rfl), f_parted := f_parted, d_parted := _, F_parted := F_parted, b_parted := (F_parted.binds (ps := ["board", "row"]) fun _ _ _ _ _ _ us hl => match us, hl with | [_, _], _ => rfl), f_halved := f_halved, d_halved := _, F_halved := F_halved, b_halved := (F_halved.binds (ps := ["board", "row"]) fun _ _ _ _ _ _ us hl => match us, hl with | [_, _], _ => rfl), f_times := f_times, d_times := _, F_times := F_times, b_times := (F_times.binds (ps := ["board", "one", "other"]) fun _ _ _ _ _ _ us hl => match us, hl with | [_, _, _], _ => rfl), f___init__ := f___init__, d___init__ := _, F___init__ := F___init__, b___init__ := (F___init__.binds (ps := ["self", "bases"]) fun _ _ _ _ _ _ us hl => match us, hl with | [_, _], _ => rfl), f_room := f_room, d_room := _, F_room := F_room, b_room := (F_room.binds (ps := ["self"]) fun _ _ _ _ _ _ us hl => match us, hl with | [_], _ => rfl), f_need_row := f_need_row, d_need_row := _, F_need_row := F_need_row, b_need_row := (F_need_row.binds (ps := ["self", "row"]) fun _ _ _ _ _ _ us hl => match us, hl with | [_, _], _ => rfl), f_need_number := f_need_number, d_need_number := _, F_need_number := F_need_number, b_need_number := (F_need_number.binds (ps := ["self", "row"]) fun _ _ _ _ _ _ us hl => match us, hl with | [_, _], _ => rfl), f_rests := f_rests, d_rests := _, F_rests := F_rests, b_rests := (F_rests.binds (ps := ["self", "number"]) fun _ _ _ _ _ _ us hl => match us, hl with | [_, _], _ => rfl), f_led := f_led, d_led := _, F_led := F_led, b_led := (F_led.binds (ps := ["self", "row"]) fun _ _ _ _ _ _ us hl => match us, hl with | [_, _], _ => rfl), f_figures := f_figures, d_figures := _, F_figures := F_figures, b_figures := (F_figures.binds (ps := ["self", "row"]) fun _ _ _ _ _ _ us hl => match us, hl with | [_, _], _ => rfl), f_tells := f_tells, d_tells := _, F_tells := F_tells, b_tells := (F_tells.binds (ps := ["self", "row"]) fun _ _ _ _ _ _ us hl => match us, hl with | [_, _], _ => rfl), f_number := f_number, d_number := _, F_number := F_number, b_number := (F_number.binds (ps := ["self", "row"]) fun _ _ _ _ _ _ us hl => match us, hl with | [_, _], _ => rfl), f_compared := f_compared, d_compared := _, F_compared := F_compared, b_compared := (F_compared.binds (ps := ["self", "one", "other"]) fun _ _ _ _ _ _ us hl => match us, hl with | [_, _, _], _ => rfl), f_told_by_others := f_told_by_others, d_told_by_others := _, F_told_by_others := F_told_by_others, b_told_by_others := (F_told_by_others.binds (ps := ["board", "row", "place"]) fun _ _ _ _ _ _ us hl => match us, hl with | [_, _, _], _ => rfl), f_without := f_without, d_without := _, F_without := F_without, b_without := (F_without.binds (ps := ["board", "row", "place"]) fun _ _ _ _ _ _ us hl => match us, hl with | [_, _, _], _ => rfl), f_refilled := f_refilled, d_refilled := _, F_refilled := F_refilled, b_refilled := (F_refilled.binds (ps := ["board", "row", "place"]) fun _ _ _ _ _ _ us hl => match us, hl with | [_, _, _], _ => rfl), f_mended := f_mended, d_mended := _, F_mended := F_mended, b_mended := (F_mended.binds (ps := ["board", "row"]) fun _ _ _ _ _ _ us hl => match us, hl with | [_, _], _ => rfl), f__law_cell_at := f__law_cell_at, d__law_cell_at := _, F__law_cell_at := F__law_cell_at, b__law_cell_at := (F__law_cell_at.binds (ps := ["_law_script", "_law_k"]) fun _ _ _ _ _ _ us hl => match us, hl with | [_, _], _ => rfl), f__law_bases := f__law_bases, d__law_bases := _, F__law_bases := F__law_bases, b__law_bases := (F__law_bases.binds (ps := ["_law_one", "_law_other"]) fun _ _ _ _ _ _ us hl => match us, hl with | [_, _], _ => rfl), f__law_row := f__law_row, d__law_row := _, F__law_row := F__law_row, b__law_row := (F__law_row.binds (ps := ["_law_made", "_law_due_here"]) fun _ _ _ _ _ _ us hl => match us, hl with | [_, _], _ => rfl), f__law_room := f__law_room, d__law_room := _, F__law_room := F__law_room, b__law_room := (F__law_room.binds (ps := ["_law_bases_here"]) fun _ _ _ _ _ _ us hl => match us, hl with | [_], _ => rfl), f__law_done := f__law_done, d__law_done := _, F__law_done := F__law_done, b__law_done := (F__law_done.binds (ps := ["_law_board", "_law_kind", "_law_rows", "_law_more"]) fun _ _ _ _ _ _ us hl => match us, hl with | [_, _, _, _], _ => rfl), f__law_due := f__law_due, d__law_due := _, F__law_due := F__law_due, b__law_due := (F__law_due.binds (ps := ["_law_kind", "_law_one", "_law_other", "_law_more", "_law_room_here"]) fun _ _ _ _ _ _ us hl => match us, hl with | [_, _, _, _, _], _ => rfl), f_law := _, d_law := _, F_law := F_law, b_law := (F_law.binds (ps := ["_law_script"]) fun _ _ _ _ _ _ us hl => match us, hl with | [_], _ => rfl), C := C, cl := ⟨pg, hd, po, sa⟩, nB := nB, nT := nT, gC := PySem.W.mg_of X G aC, mkC := ⟨mk, a___init__, i___init__, kc⟩, g_common := PySem.W.mg_of X G a_common, k_common := k_common, g_turned := PySem.W.mg_of X G a_turned, k_turned := k_turned, g_need_bases := PySem.W.mg_of X G a_need_bases, k_need_bases := k_need_bases, g_need_both := PySem.W.mg_of X G a_need_both, k_need_both := k_need_both, g_within := PySem.W.mg_of X G a_within, k_within := k_within, g_summed := PySem.W.mg_of X G a_summed, k_summed := k_summed, g_added := PySem.W.mg_of X G a_added, k_added := k_added, g_taken := PySem.W.mg_of X G a_taken, k_taken := k_taken, g_parted := PySem.W.mg_of X G a_parted, k_parted := k_parted, g_halved := PySem.W.mg_of X G a_halved, k_halved := k_halved, g_times := PySem.W.mg_of X G a_times, k_times := k_times, m_room := ⟨a_room, i_room, k_room⟩, m_need_row := ⟨a_need_row, i_need_row, k_need_row⟩, m_need_number := ⟨a_need_number, i_need_number, k_need_number⟩, m_rests := ⟨a_rests, i_rests, k_rests⟩, m_led := ⟨a_led, i_led, k_led⟩, m_figures := ⟨a_figures, i_figures, k_figures⟩, m_tells := ⟨a_tells, i_tells, k_tells⟩, m_number := ⟨a_number, i_number, k_number⟩, m_compared := ⟨a_compared, i_compared, k_compared⟩, g_told_by_others := PySem.W.mg_of X G a_told_by_others, k_told_by_others := k_told_by_others, g_without := PySem.W.mg_of X G a_without, k_without := k_without, g_refilled := PySem.W.mg_of X G a_refilled, k_refilled := k_refilled, g_mended := PySem.W.mg_of X G a_mended, k_mended := k_mended, g__law_cell_at := PySem.W.mg_of X G a__law_cell_at, k__law_cell_at := k__law_cell_at, g__law_bases := PySem.W.mg_of X G a__law_bases, k__law_bases := k__law_bases, g__law_row := PySem.W.mg_of X G a__law_row, k__law_row := k__law_row, g__law_room := PySem.W.mg_of X G a__law_room, k__law_room := k__law_room, g__law_done := PySem.W.mg_of X G a__law_done, k__law_done := k__law_done, g__law_due := PySem.W.mg_of X G a__law_due, k__law_due := k__law_due, g_law := PySem.W.mg_of X G a_law, k_law := k_law, c_RestError := c_RestError, g_RestError := PySem.W.mg_of X G g_RestError, x_RestError := x_RestError, e_RestError := e_RestError, s_RestError := s_RestError, t_RestError := t_RestError, h_RestError := h_RestError, c_NoBases := c_NoBases, g_NoBases := PySem.W.mg_of X G g_NoBases, x_NoBases := x_NoBases, e_NoBases := e_NoBases, s_NoBases := s_NoBases, t_NoBases := t_NoBases, h_NoBases := h_NoBases, c_NoRow := c_NoRow, g_NoRow := PySem.W.mg_of X G g_NoRow, x_NoRow := x_NoRow, e_NoRow := e_NoRow, s_NoRow := s_NoRow, t_NoRow := t_NoRow, h_NoRow := h_NoRow, c_NoNumber := c_NoNumber, g_NoNumber := PySem.W.mg_of X G g_NoNumber, x_NoNumber := x_NoNumber, e_NoNumber := e_NoNumber, s_NoNumber := s_NoNumber, t_NoNumber := t_NoNumber, h_NoNumber := h_NoNumber, c_NoPlace := c_NoPlace, g_NoPlace := PySem.W.mg_of X G g_NoPlace, x_NoPlace := x_NoPlace, e_NoPlace := e_NoPlace, s_NoPlace := s_NoPlace, t_NoPlace := t_NoPlace, h_NoPlace := h_NoPlace, c_NoTurn := c_NoTurn, g_NoTurn := PySem.W.mg_of X G g_NoTurn, x_NoTurn := x_NoTurn, e_NoTurn := e_NoTurn, s_NoTurn := s_NoTurn, t_NoTurn := t_NoTurn, h_NoTurn := h_NoTurn, c_OutOfRoom := c_OutOfRoom, g_OutOfRoom := PySem.W.mg_of X G g_OutOfRoom, x_OutOfRoom := x_OutOfRoom, e_OutOfRoom := e_OutOfRoom, s_OutOfRoom := s_OutOfRoom, t_OutOfRoom := t_OutOfRoom, h_OutOfRoom := h_OutOfRoom, c_Lost := c_Lost, g_Lost := PySem.W.mg_of X G g_Lost, x_Lost := x_Lost, e_Lost := e_Lost, s_Lost := s_Lost, t_Lost := t_Lost, h_Lost := h_Lost, u_Lost_OutOfRoom := u_Lost_OutOfRoom, u_NoBases_OutOfRoom := u_NoBases_OutOfRoom, u_NoNumber_OutOfRoom := u_NoNumber_OutOfRoom, u_NoPlace_OutOfRoom := u_NoPlace_OutOfRoom, u_NoRow_OutOfRoom := u_NoRow_OutOfRoom, u_NoTurn_OutOfRoom := u_NoTurn_OutOfRoom, u_OutOfRoom_OutOfRoom := u_OutOfRoom_OutOfRoom, t_LEAST := t_LEAST, k_LEAST := PySem.W.mg_of X G k_LEAST, t_MOST := t_MOST, k_MOST := PySem.W.mg_of X G k_MOST, t_FEWEST := t_FEWEST, k_FEWEST := PySem.W.mg_of X G k_FEWEST, t_SO_MANY := t_SO_MANY, k_SO_MANY := PySem.W.mg_of X G k_SO_MANY, z_ValueError := PySem.W.mg_none_of X G z_ValueError, z_abs := PySem.W.mg_none_of X G z_abs, z_bool := PySem.W.mg_none_of X G z_bool, z_int := PySem.W.mg_none_of X G z_int, z_isinstance := PySem.W.mg_none_of X G z_isinstance, z_len := PySem.W.mg_none_of X G z_len, z_list := PySem.W.mg_none_of X G z_list, z_max := PySem.W.mg_none_of X G z_max, z_min := PySem.W.mg_none_of X G z_min, z_range := PySem.W.mg_none_of X G z_range, z_sorted := PySem.W.mg_none_of X G z_sorted, z_sum := PySem.W.mg_none_of X G z_sum, z_zip := PySem.W.mg_none_of X G z_zip }⟩
  exact .of_eq rfl
theorem walk {l : PySem.W.OpenLaw} {q : Program} {loose : List Str} {XP : (Str → Option Value) → Heap → Prop} {YP : World → Heap → Prop} {d : DefRec} {K : Params → PySem.W.Frag} (hn : l.most = some 63) (hdf : d.params.defaults = [])
    (hY : ∀ (w : World) (h : Heap), YP w h → (K w.params).In h)
    (F : ∀ (w : World) (mg : Str → Option Value) (fa : Addr) (h : Heap), (K w.params).In h → h.Ns mainGlobals mg → mg d.name = some (.ref fa) →
      ∃ fd : FuncData, (∀ (s : Shared) (u : Value), BindsTo s fd ⟨[u], []⟩ [("_law_script", u)]) ∧ ∀ base : Heap, (K w.params).In base → base.Ns mainGlobals mg → FnOk l.prog w (K w.params) mg base (L2.CX l.prog w) 8 fa fd ["_law_script"] (sp_law (K w.params))) :
    PySem.W.WalkO q loose XP YP l.row.toRowW d [] (fun f vs => PySem.call f vs) :=
  L2.walk_of (n := 63) (k := 8) (x := "_law_script") (CX := fun w => L2.CX l.prog w) (sp := fun w => sp_law (K w.params)) hn (by decide) hdf ⟨rfl, by decide, by decide⟩ hY F (fun _ _ a ns hl _ hS => ⟨a, ns, rfl, hS, hl, fun _ => rfl⟩) fun _ _ _ _ _ ⟨_, _, _, _, _, _, _, _, _, _, _, _, z⟩ => z
end
end Rk
open PySem PySem.W PyProof.Rows in
set_option maxRecDepth 100000 in
set_option maxHeartbeats 0 in
theorem PySem.Challenge.cw_restrow_k12_whole_deeds_holds : PySem.Challenge.rw_restrow_k12_whole_deeds.Holds := by
  w_on; o_law; k_head; (case hw => w_witness2)
  k_fill
  refine Rk.walk (l := PySem.Challenge.rw_restrow_k12_whole_deeds) rfl rfl (fun w h Y => PySem.W.kIn_of Y) ?F
  case F =>
    intro w mg fa h KX G hmg
    refine' Rk.all_mk KX G hmg ?aC ?a_common ?l_common ?q_common ?k_common ?a_turned ?l_turned ?q_turned ?k_turned ?a_need_bases ?l_need_bases ?q_need_bases ?k_need_bases ?a_need_both ?l_need_both ?q_need_both ?k_need_both ?a_within ?l_within ?q_within ?k_within ?a_summed ?l_summed ?q_summed ?k_summed ?a_added ?l_added ?q_added ?k_added ?a_taken ?l_taken ?q_taken ?k_taken ?a_parted ?l_parted ?q_parted ?k_parted ?a_halved ?l_halved ?q_halved ?k_halved ?a_times ?l_times ?q_times ?k_times ?a___init__ ?i___init__ ?l___init__ ?q___init__ ?k___init__ ?a_room ?i_room ?l_room ?q_room ?k_room ?a_need_row ?i_need_row ?l_need_row ?q_need_row ?k_need_row ?a_need_number ?i_need_number ?l_need_number ?q_need_number ?k_need_number ?a_rests ?i_rests ?l_rests ?q_rests ?k_rests ?a_led ?i_led ?l_led ?q_led ?k_led ?a_figures ?i_figures ?l_figures ?q_figures ?k_figures ?a_tells ?i_tells ?l_tells ?q_tells ?k_tells ?a_number ?i_number ?l_number ?q_number ?k_number ?a_compared ?i_compared ?l_compared ?q_compared ?k_compared ?a_told_by_others ?l_told_by_others ?q_told_by_others ?k_told_by_others ?a_without ?l_without ?q_without ?k_without ?a_refilled ?l_refilled ?q_refilled ?k_refilled ?a_mended ?l_mended ?q_mended ?k_mended ?a__law_cell_at ?l__law_cell_at ?q__law_cell_at ?k__law_cell_at ?a__law_bases ?l__law_bases ?q__law_bases ?k__law_bases ?a__law_row ?l__law_row ?q__law_row ?k__law_row ?a__law_room ?l__law_room ?q__law_room ?k__law_room ?a__law_done ?l__law_done ?q__law_done ?k__law_done ?a__law_due ?l__law_due ?q__law_due ?k__law_due ?a_law ?l_law ?q_law ?k_law ?pg ?hd ?po ?sa ?mk ?kc ?nB ?nT ?g_RestError ?x_RestError ?e_RestError ?s_RestError ?t_RestError ?h_RestError ?g_NoBases ?x_NoBases ?e_NoBases ?s_NoBases ?t_NoBases ?h_NoBases ?g_NoRow ?x_NoRow ?e_NoRow ?s_NoRow ?t_NoRow ?h_NoRow ?g_NoNumber ?x_NoNumber ?e_NoNumber ?s_NoNumber ?t_NoNumber ?h_NoNumber ?g_NoPlace ?x_NoPlace ?e_NoPlace ?s_NoPlace ?t_NoPlace ?h_NoPlace ?g_NoTurn ?x_NoTurn ?e_NoTurn ?s_NoTurn ?t_NoTurn ?h_NoTurn ?g_OutOfRoom ?x_OutOfRoom ?e_OutOfRoom ?s_OutOfRoom ?t_OutOfRoom ?h_OutOfRoom ?g_Lost ?x_Lost ?e_Lost ?s_Lost ?t_Lost ?h_Lost ?u_Lost_OutOfRoom ?u_NoBases_OutOfRoom ?u_NoNumber_OutOfRoom ?u_NoPlace_OutOfRoom ?u_NoRow_OutOfRoom ?u_NoTurn_OutOfRoom ?u_OutOfRoom_OutOfRoom ?k_LEAST ?k_MOST ?k_FEWEST ?k_SO_MANY ?z_ValueError ?z_abs ?z_bool ?z_int ?z_isinstance ?z_len ?z_list ?z_max ?z_min ?z_range ?z_sorted ?z_sum ?z_zip
    (case aC => k_is)
    (case a_common => k_is)
    (case l_common => k_is)
    (case q_common => k_is)
    (case k_common => k_is)
    (case a_turned => k_is)
    (case l_turned => k_is)
    (case q_turned => k_is)
    (case k_turned => k_is)
    (case a_need_bases => k_is)
    (case l_need_bases => k_is)
    (case q_need_bases => k_is)
    (case k_need_bases => k_is)
    (case a_need_both => k_is)
    (case l_need_both => k_is)
    (case q_need_both => k_is)
    (case k_need_both => k_is)
    (case a_within => k_is)
    (case l_within => k_is)
    (case q_within => k_is)
    (case k_within => k_is)
    (case a_summed => k_is)
    (case l_summed => k_is)
    (case q_summed => k_is)
    (case k_summed => k_is)
    (case a_added => k_is)
    (case l_added => k_is)
    (case q_added => k_is)
    (case k_added => k_is)
    (case a_taken => k_is)
    (case l_taken => k_is)
    (case q_taken => k_is)
    (case k_taken => k_is)
    (case a_parted => k_is)
    (case l_parted => k_is)
    (case q_parted => k_is)
    (case k_parted => k_is)
    (case a_halved => k_is)
    (case l_halved => k_is)
    (case q_halved => k_is)
    (case k_halved => k_is)
    (case a_times => k_is)
    (case l_times => k_is)
    (case q_times => k_is)
    (case k_times => k_is)
    (case a___init__ => k_is)
    (case i___init__ => k_is)
    (case l___init__ => k_is)
    (case q___init__ => k_is)
    (case k___init__ => k_is)
    (case a_room => k_is)
    (case i_room => k_is)
    (case l_room => k_is)
    (case q_room => k_is)
    (case k_room => k_is)
    (case a_need_row => k_is)
    (case i_need_row => k_is)
    (case l_need_row => k_is)
    (case q_need_row => k_is)
    (case k_need_row => k_is)
    (case a_need_number => k_is)
    (case i_need_number => k_is)
    (case l_need_number => k_is)
    (case q_need_number => k_is)
    (case k_need_number => k_is)
    (case a_rests => k_is)
    (case i_rests => k_is)
    (case l_rests => k_is)
    (case q_rests => k_is)
    (case k_rests => k_is)
    (case a_led => k_is)
    (case i_led => k_is)
    (case l_led => k_is)
    (case q_led => k_is)
    (case k_led => k_is)
    (case a_figures => k_is)
    (case i_figures => k_is)
    (case l_figures => k_is)
    (case q_figures => k_is)
    (case k_figures => k_is)
    (case a_tells => k_is)
    (case i_tells => k_is)
    (case l_tells => k_is)
    (case q_tells => k_is)
    (case k_tells => k_is)
    (case a_number => k_is)
    (case i_number => k_is)
    (case l_number => k_is)
    (case q_number => k_is)
    (case k_number => k_is)
    (case a_compared => k_is)
    (case i_compared => k_is)
    (case l_compared => k_is)
    (case q_compared => k_is)
    (case k_compared => k_is)
    (case a_told_by_others => k_is)
    (case l_told_by_others => k_is)
    (case q_told_by_others => k_is)
    (case k_told_by_others => k_is)
    (case a_without => k_is)
    (case l_without => k_is)
    (case q_without => k_is)
    (case k_without => k_is)
    (case a_refilled => k_is)
    (case l_refilled => k_is)
    (case q_refilled => k_is)
    (case k_refilled => k_is)
    (case a_mended => k_is)
    (case l_mended => k_is)
    (case q_mended => k_is)
    (case k_mended => k_is)
    (case a__law_cell_at => k_is)
    (case l__law_cell_at => k_is)
    (case q__law_cell_at => k_is)
    (case k__law_cell_at => k_is)
    (case a__law_bases => k_is)
    (case l__law_bases => k_is)
    (case q__law_bases => k_is)
    (case k__law_bases => k_is)
    (case a__law_row => k_is)
    (case l__law_row => k_is)
    (case q__law_row => k_is)
    (case k__law_row => k_is)
    (case a__law_room => k_is)
    (case l__law_room => k_is)
    (case q__law_room => k_is)
    (case k__law_room => k_is)
    (case a__law_done => k_is)
    (case l__law_done => k_is)
    (case q__law_done => k_is)
    (case k__law_done => k_is)
    (case a__law_due => k_is)
    (case l__law_due => k_is)
    (case q__law_due => k_is)
    (case k__law_due => k_is)
    (case a_law => k_is)
    (case l_law => k_is)
    (case q_law => k_is)
    (case k_law => k_is)
    (case pg => k_is)
    (case hd => k_is)
    (case po => k_is)
    (case sa => k_is)
    (case mk => k_is)
    (case kc => k_is)
    (case nB => k_is)
    (case nT => k_is)
    (case g_RestError => k_is)
    (case x_RestError => k_exc)
    (case e_RestError => k_is)
    (case s_RestError => k_is)
    (case t_RestError => k_is)
    (case h_RestError => k_is)
    (case g_NoBases => k_is)
    (case x_NoBases => k_exc)
    (case e_NoBases => k_is)
    (case s_NoBases => k_is)
    (case t_NoBases => k_is)
    (case h_NoBases => k_is)
    (case g_NoRow => k_is)
    (case x_NoRow => k_exc)
    (case e_NoRow => k_is)
    (case s_NoRow => k_is)
    (case t_NoRow => k_is)
    (case h_NoRow => k_is)
    (case g_NoNumber => k_is)
    (case x_NoNumber => k_exc)
    (case e_NoNumber => k_is)
    (case s_NoNumber => k_is)
    (case t_NoNumber => k_is)
    (case h_NoNumber => k_is)
    (case g_NoPlace => k_is)
    (case x_NoPlace => k_exc)
    (case e_NoPlace => k_is)
    (case s_NoPlace => k_is)
    (case t_NoPlace => k_is)
    (case h_NoPlace => k_is)
    (case g_NoTurn => k_is)
    (case x_NoTurn => k_exc)
    (case e_NoTurn => k_is)
    (case s_NoTurn => k_is)
    (case t_NoTurn => k_is)
    (case h_NoTurn => k_is)
    (case g_OutOfRoom => k_is)
    (case x_OutOfRoom => k_exc)
    (case e_OutOfRoom => k_is)
    (case s_OutOfRoom => k_is)
    (case t_OutOfRoom => k_is)
    (case h_OutOfRoom => k_is)
    (case g_Lost => k_is)
    (case x_Lost => k_exc)
    (case e_Lost => k_is)
    (case s_Lost => k_is)
    (case t_Lost => k_is)
    (case h_Lost => k_is)
    (case u_Lost_OutOfRoom => k_is)
    (case u_NoBases_OutOfRoom => k_is)
    (case u_NoNumber_OutOfRoom => k_is)
    (case u_NoPlace_OutOfRoom => k_is)
    (case u_NoRow_OutOfRoom => k_is)
    (case u_NoTurn_OutOfRoom => k_is)
    (case u_OutOfRoom_OutOfRoom => k_is)
    (case k_LEAST => k_is)
    (case k_MOST => k_is)
    (case k_FEWEST => k_is)
    (case k_SO_MANY => k_is)
    (case z_ValueError => k_is)
    (case z_abs => k_is)
    (case z_bool => k_is)
    (case z_int => k_is)
    (case z_isinstance => k_is)
    (case z_len => k_is)
    (case z_list => k_is)
    (case z_max => k_is)
    (case z_min => k_is)
    (case z_range => k_is)
    (case z_sorted => k_is)
    (case z_sum => k_is)
    (case z_zip => k_is)
