import PyProof.Rows.All
import Wide.All
import OpenK.AllK
import Wide.FinOn
import KE.GoesNew
import HandS.ForMost
import HandS.Walk
import KE.GoesEnumKw
import HandS.TupMul
import HandS.TupAny
import HandS.Style
import HandS.IsInst
import HandS.TryOnly
import HandS.Exc
import HandS.Wide
import HandS.Evl
import KE.KStateDown
import HandS.Defaults
import HandS.Head0
import HandS.Head1
import HandS.Head2
import HandS.HeadEnd
import HandS.HeadHook1
import HandS.HeadHook2
import PySem.Challenge.RW_splitclimb_k36_whole_bounds_of_players
/-! part M1 -/
set_option Elab.async false
set_option linter.all false
set_option maxHeartbeats 2000000
namespace SC
/-! the products of a schedule, the scaled weight -/
def prd : List Int → Int
  | [] => 1
  | r :: rs => r * prd rs
def sw : List Int → List Int → Int
  | r :: rs, c :: cs => c * prd rs + sw rs cs
  | _, _ => 0
def Sched (rs : List Int) : Prop := ∀ r ∈ rs, (2 : Int) ≤ r ∧ r ≤ 11
def NN (cs : List Int) : Prop := ∀ c ∈ cs, (0 : Int) ≤ c
theorem prd_pos : ∀ {rs : List Int}, (∀ r ∈ rs, (0 : Int) < r) → 0 < prd rs
  | [], _ => by decide
  | r :: rs, h => Int.mul_pos (h r List.mem_cons_self) (prd_pos fun x hx => h x (List.mem_cons_of_mem _ hx))
theorem Sched.pos {rs : List Int} (h : Sched rs) : ∀ r ∈ rs, (0 : Int) < r := fun r hr => by have := h r hr; omega
theorem Sched.tail {r : Int} {rs : List Int} (h : Sched (r :: rs)) : Sched rs := fun x hx => h x (List.mem_cons_of_mem _ hx)
theorem Sched.prd_pos {rs : List Int} (h : Sched rs) : 0 < prd rs := SC.prd_pos h.pos
theorem Sched.drop {rs : List Int} (h : Sched rs) (n : Nat) : Sched (rs.drop n) := fun x hx => h x (List.mem_of_mem_drop hx)
theorem Sched.take {rs : List Int} (h : Sched rs) (n : Nat) : Sched (rs.take n) := fun x hx => h x (List.mem_of_mem_take hx)
theorem prd_append : ∀ (a b : List Int), prd (a ++ b) = prd a * prd b
  | [], b => by show prd b = 1 * prd b; rw [Int.one_mul]
  | x :: a, b => by
    show x * prd (a ++ b) = x * prd a * prd b
    rw [prd_append a b, Int.mul_assoc]
theorem prd_split (rs : List Int) (n : Nat) : prd rs = prd (rs.take n) * prd (rs.drop n) := by
  rw [← prd_append, List.take_append_drop]
theorem NN.tail {c : Int} {cs : List Int} (h : NN (c :: cs)) : NN cs := fun x hx => h x (List.mem_cons_of_mem _ hx)
theorem NN.head {c : Int} {cs : List Int} (h : NN (c :: cs)) : 0 ≤ c := h c List.mem_cons_self
theorem sw_nonneg : ∀ {rs cs : List Int}, Sched rs → NN cs → 0 ≤ sw rs cs
  | [], [], _, _ => by decide
  | [], _ :: _, _, _ => by simp [sw]
  | _ :: _, [], _, _ => by simp [sw]
  | r :: rs, c :: cs, h, k => by
    have h1 := sw_nonneg h.tail k.tail
    have h2 := Int.mul_nonneg k.head (Int.le_of_lt h.tail.prd_pos)
    show 0 ≤ c * prd rs + sw rs cs
    omega
/-! what climbs -/
def climb : List Int → Int × List Int
  | [] => (0, [])
  | c :: cs => (c, cs ++ [0])
theorem sw_zero : ∀ (rs cs : List Int), sw rs (cs ++ [0]) = sw rs cs
  | [], cs => by cases cs <;> simp [sw]
  | r :: rs, [] => by simp [sw]
  | r :: rs, c :: cs => by
    show c * prd rs + sw rs (cs ++ [0]) = c * prd rs + sw rs cs
    rw [sw_zero rs cs]
theorem sw_nil (rs : List Int) : sw rs [] = 0 := by cases rs <;> rfl
theorem sw_climb (r : Int) (rs g : List Int) : sw (r :: rs) g = (climb g).1 * prd rs + sw rs (climb g).2 := by
  cases g with
  | nil => simp [sw, climb, sw_nil]
  | cons c cs =>
    show c * prd rs + sw rs cs = c * prd rs + sw rs (cs ++ [0])
    rw [sw_zero]
/-! splits -/
def colSum (gs : List (List Int)) (i : Nat) : Int := (gs.map fun g => g.getD i 0).sum
/-- gs is a split of pos into groups -/
structure IsSplit (gs : List (List Int)) (pos : List Int) : Prop where
  len : ∀ g ∈ gs, g.length = pos.length
  nn : ∀ g ∈ gs, NN g
  sum : ∀ i, i < pos.length → colSum gs i = pos.getD i 0
def addL : List Int → List Int → List Int
  | a :: as, b :: bs => (a + b) :: addL as bs
  | _, _ => []
theorem sw_addL : ∀ (rs a b : List Int), a.length = b.length → sw rs (addL a b) = sw rs a + sw rs b
  | [], a, b, _ => by simp [sw]
  | r :: rs, [], [], _ => by simp [sw, addL]
  | r :: rs, [], _ :: _, h => by simp at h
  | r :: rs, _ :: _, [], h => by simp at h
  | r :: rs, a :: as, b :: bs, h => by
    have ih := sw_addL rs as bs (by simpa using h)
    show (a + b) * prd rs + sw rs (addL as bs) = (a * prd rs + sw rs as) + (b * prd rs + sw rs bs)
    rw [ih, Int.add_mul]
    omega
theorem addL_length : ∀ {a b : List Int}, a.length = b.length → (addL a b).length = a.length
  | [], [], _ => rfl
  | [], _ :: _, h => by simp at h
  | _ :: _, [], h => by simp at h
  | a :: as, b :: bs, h => by
    show (addL as bs).length + 1 = as.length + 1
    rw [addL_length (by simpa using h)]
theorem addL_getD : ∀ {a b : List Int} (i : Nat), a.length = b.length → (addL a b).getD i 0 = a.getD i 0 + b.getD i 0
  | [], [], i, _ => by simp [addL]
  | [], _ :: _, _, h => by simp at h
  | _ :: _, [], _, h => by simp at h
  | a :: as, b :: bs, 0, h => by simp [addL]
  | a :: as, b :: bs, i + 1, h => by
    have := addL_getD (a := as) (b := bs) i (by simpa using h)
    simpa [addL] using this
def sumL (n : Nat) : List (List Int) → List Int
  | [] => List.replicate n 0
  | g :: gs => addL g (sumL n gs)
theorem sumL_length {n : Nat} : ∀ {gs : List (List Int)}, (∀ g ∈ gs, g.length = n) → (sumL n gs).length = n
  | [], _ => by simp [sumL]
  | g :: gs, h => by
    have h1 := h g List.mem_cons_self
    have h2 := sumL_length (gs := gs) fun x hx => h x (List.mem_cons_of_mem _ hx)
    show (addL g (sumL n gs)).length = n
    rw [addL_length (by rw [h1, h2]), h1]
theorem sumL_getD {n : Nat} (i : Nat) : ∀ {gs : List (List Int)}, (∀ g ∈ gs, g.length = n) → (sumL n gs).getD i 0 = colSum gs i
  | [], _ => by simp [sumL, colSum, List.getElem?_replicate]; split <;> rfl
  | g :: gs, h => by
    have h1 := h g List.mem_cons_self
    have h2 := sumL_length (gs := gs) fun x hx => h x (List.mem_cons_of_mem _ hx)
    have ih := sumL_getD i (gs := gs) fun x hx => h x (List.mem_cons_of_mem _ hx)
    show (addL g (sumL n gs)).getD i 0 = _
    rw [addL_getD i (by rw [h1, h2]), ih]
    simp [colSum]
theorem sw_replicate (rs : List Int) : ∀ n, sw rs (List.replicate n 0) = 0 := by
  induction rs with
  | nil => intro n; cases n <;> simp [sw, List.replicate]
  | cons r rs ih =>
    intro n
    cases n with
    | zero => simp [sw]
    | succ n =>
      show (0 : Int) * prd rs + sw rs (List.replicate n 0) = 0
      rw [ih n]; omega
theorem sw_sumL (rs : List Int) {n : Nat} : ∀ {gs : List (List Int)}, (∀ g ∈ gs, g.length = n) → sw rs (sumL n gs) = (gs.map (sw rs)).sum
  | [], _ => by simp [sumL, sw_replicate]
  | g :: gs, h => by
    have h1 := h g List.mem_cons_self
    have h2 := sumL_length (gs := gs) fun x hx => h x (List.mem_cons_of_mem _ hx)
    show sw rs (addL g (sumL n gs)) = _
    rw [sw_addL rs g _ (by rw [h1, h2]), sw_sumL rs (gs := gs) fun x hx => h x (List.mem_cons_of_mem _ hx)]
    simp
theorem ext_getD : ∀ {a b : List Int}, a.length = b.length → (∀ i, i < a.length → a.getD i 0 = b.getD i 0) → a = b := fun {a b} h k => by
  apply List.ext_getElem h
  intro i h1 h2
  have := k i h1
  simpa [h1, h2] using this
theorem IsSplit.weights {gs : List (List Int)} {pos : List Int} (h : IsSplit gs pos) (rs : List Int) : (gs.map (sw rs)).sum = sw rs pos := by
  rw [← sw_sumL rs (n := pos.length) h.len]
  have e : sumL pos.length gs = pos := ext_getD (sumL_length h.len) fun i hi => by
    rw [sumL_getD i h.len]
    exact h.sum i (by rw [sumL_length h.len] at hi; exact hi)
  rw [e]
theorem sum_ge {m : Int} : ∀ {l : List Int}, (∀ x ∈ l, m ≤ x) → (l.length : Int) * m ≤ l.sum
  | [], _ => by simp
  | a :: l, h => by
    have h1 := h a List.mem_cons_self
    have h2 := sum_ge (l := l) fun x hx => h x (List.mem_cons_of_mem _ hx)
    rw [List.sum_cons, List.length_cons]
    have : ((l.length + 1 : Nat) : Int) * m = (l.length : Int) * m + m := by rw [Int.natCast_add, Int.add_mul]; simp
    omega
theorem sum_le {m : Int} : ∀ {l : List Int}, (∀ x ∈ l, x ≤ m) → l.sum ≤ (l.length : Int) * m
  | [], _ => by simp
  | a :: l, h => by
    have h1 := h a List.mem_cons_self
    have h2 := sum_le (l := l) fun x hx => h x (List.mem_cons_of_mem _ hx)
    rw [List.sum_cons, List.length_cons]
    have : ((l.length + 1 : Nat) : Int) * m = (l.length : Int) * m + m := by rw [Int.natCast_add, Int.add_mul]; simp
    omega
/-! the game: G rest hist pos x: from there on x may arrive -/
abbrev SpR := List Int → List Int → List Int → List (List Int) → Prop
abbrev ChR := Nat → List Int → List (List Int) → Nat → Prop
inductive Game (S : SpR) (C : ChR) : List Int → List Int → List Int → Int → Prop
  | nil (hist pos : List Int) : Game S C [] hist pos 0
  | cons {r : Int} {rs hist pos : List Int} {gs : List (List Int)} {g : Nat} {x : Int} (hS : S hist (r :: rs) pos gs) (hC : C hist.length (r :: rs) gs g) (hg : (g : Int) < r)
      (h : Game S C rs (hist ++ [(g : Int)]) (climb (gs.getD g [])).2 x) : Game S C (r :: rs) hist pos ((climb (gs.getD g [])).1 + x)
/-- J holds ahead of each round: then the splits are splits -/
structure Fair (S : SpR) (J : List Int → List Int → List Int → Prop) : Prop where
  len : ∀ hist r rs pos gs, J hist (r :: rs) pos → S hist (r :: rs) pos gs → (gs.length : Int) = r
  split : ∀ hist r rs pos gs, J hist (r :: rs) pos → S hist (r :: rs) pos gs → IsSplit gs pos
  step : ∀ hist r rs pos gs (g : Nat), J hist (r :: rs) pos → S hist (r :: rs) pos gs → (g : Int) < r → J (hist ++ [(g : Int)]) rs (climb (gs.getD g [])).2
def IsLight : ChR := fun _ rs gs j => ∀ g ∈ gs, sw rs (gs.getD j []) ≤ sw rs g
def IsHeavy : ChR := fun _ rs gs j => ∀ g ∈ gs, sw rs g ≤ sw rs (gs.getD j [])
theorem light {S : SpR} {J : List Int → List Int → List Int → Prop} (F : Fair S J) {rs hist pos : List Int} {x : Int} (g : Game S IsLight rs hist pos x) : Sched rs → J hist rs pos → x * prd rs ≤ sw rs pos := by
  induction g with
  | nil hist pos => intro _ _; simp [sw]
  | @cons r rs hist pos gs g x hS hC hg _ ih =>
    intro hs j
    have hr := hs r List.mem_cons_self
    have hl := F.len _ _ _ _ _ j hS
    have ih := ih hs.tail (F.step _ _ _ _ _ _ j hS hg)
    have hw := (F.split _ _ _ _ _ j hS).weights (r :: rs)
    have hsum := sum_ge (m := sw (r :: rs) (gs.getD g [])) (l := gs.map (sw (r :: rs))) (fun x hx => by
      obtain ⟨y, hy, e⟩ := List.mem_map.mp hx
      rw [← e]; exact hC y hy)
    rw [hw, List.length_map, hl, sw_climb r rs (gs.getD g [])] at hsum
    show ((climb (gs.getD g [])).1 + x) * (r * prd rs) ≤ sw (r :: rs) pos
    generalize (climb (gs.getD g [])).1 = a at *
    generalize (climb (gs.getD g [])).2 = p' at *
    have e : (a + x) * (r * prd rs) = r * (a * prd rs + x * prd rs) := by grind
    rw [e]
    have : r * (a * prd rs + x * prd rs) ≤ r * (a * prd rs + sw rs p') := Int.mul_le_mul_of_nonneg_left (by omega) (by omega)
    omega
theorem heavy {S : SpR} {J : List Int → List Int → List Int → Prop} (F : Fair S J) {rs hist pos : List Int} {x : Int} (g : Game S IsHeavy rs hist pos x) : Sched rs → J hist rs pos → sw rs pos ≤ x * prd rs := by
  induction g with
  | nil hist pos => intro _ _; simp [sw]
  | @cons r rs hist pos gs g x hS hC hg _ ih =>
    intro hs j
    have hr := hs r List.mem_cons_self
    have hl := F.len _ _ _ _ _ j hS
    have ih := ih hs.tail (F.step _ _ _ _ _ _ j hS hg)
    have hw := (F.split _ _ _ _ _ j hS).weights (r :: rs)
    have hsum := sum_le (m := sw (r :: rs) (gs.getD g [])) (l := gs.map (sw (r :: rs))) (fun x hx => by
      obtain ⟨y, hy, e⟩ := List.mem_map.mp hx
      rw [← e]; exact hC y hy)
    rw [hw, List.length_map, hl, sw_climb r rs (gs.getD g [])] at hsum
    show sw (r :: rs) pos ≤ ((climb (gs.getD g [])).1 + x) * (r * prd rs)
    generalize (climb (gs.getD g [])).1 = a at *
    generalize (climb (gs.getD g [])).2 = p' at *
    have e : (a + x) * (r * prd rs) = r * (a * prd rs + x * prd rs) := by grind
    rw [e]
    have : r * (a * prd rs + sw rs p') ≤ r * (a * prd rs + x * prd rs) := Int.mul_le_mul_of_nonneg_left (by omega) (by omega)
    omega
/-- a splitter whose groups stay within lo and hi, each in its turn -/
def Tight (S : SpR) (J : List Int → List Int → List Int → Prop) : Prop :=
  ∀ hist r rs pos gs (g : Nat), J hist (r :: rs) pos → S hist (r :: rs) pos gs → (g : Int) < r →
    (sw (r :: rs) pos / prd (r :: rs)) * prd rs ≤ sw (r :: rs) (gs.getD g []) ∧ sw (r :: rs) (gs.getD g []) ≤ -((-(sw (r :: rs) pos)) / prd (r :: rs)) * prd rs
theorem tight {S : SpR} {C : ChR} {J : List Int → List Int → List Int → Prop} (F : Fair S J) (T : Tight S J) {rs hist pos : List Int} {x : Int} (g : Game S C rs hist pos x) : Sched rs → J hist rs pos →
    sw rs pos / prd rs ≤ x ∧ x ≤ -((-(sw rs pos)) / prd rs) := by
  induction g with
  | nil hist pos => intro _ _; simp [sw, prd]
  | @cons r rs hist pos gs g x hS hC hg _ ih =>
    intro hs j
    have ⟨h1, h2⟩ := ih hs.tail (F.step _ _ _ _ _ _ j hS hg)
    have ⟨t1, t2⟩ := T _ _ _ _ _ g j hS hg
    rw [sw_climb r rs (gs.getD g [])] at t1 t2
    have hp := hs.tail.prd_pos
    generalize (climb (gs.getD g [])).1 = a at *
    generalize (climb (gs.getD g [])).2 = p' at *
    generalize sw (r :: rs) pos / prd (r :: rs) = lo at *
    generalize -((-(sw (r :: rs) pos)) / prd (r :: rs)) = hi at *
    have e1 : (lo - a) * prd rs ≤ sw rs p' := by
      rw [Int.sub_mul]; omega
    have e2 : (a - hi) * prd rs ≤ -(sw rs p') := by
      rw [Int.sub_mul]; omega
    have g1 := (Int.le_ediv_iff_mul_le hp).mpr e1
    have g2 := (Int.le_ediv_iff_mul_le hp).mpr e2
    omega
end SC

/-! part M2 -/
set_option Elab.async false
set_option linter.all false
set_option maxHeartbeats 2000000
namespace SC
/-! the list of products -/
def pl (rs : List Int) (n : Nat) : List Int := (List.range (n + 1)).map fun d => prd (rs.take d)
theorem pl_len (rs : List Int) (n : Nat) : (pl rs n).length = n + 1 := by simp [pl]
theorem pl_get {rs : List Int} {n d : Nat} (h : d ≤ n) : (pl rs n)[d]? = some (prd (rs.take d)) := by
  have : d < n + 1 := by omega
  simp [pl, this]
theorem pl_snoc (rs : List Int) (n : Nat) : pl rs (n + 1) = pl rs n ++ [prd (rs.take (n + 1))] := by
  simp [pl, List.range_succ]
theorem pl_last (rs : List Int) (n : Nat) : ∃ l, pl rs n = l ++ [prd (rs.take n)] := by
  cases n with
  | zero => exact ⟨[], rfl⟩
  | succ n => exact ⟨pl rs n, pl_snoc rs n⟩
theorem prd_one (r : Int) : prd [r] = r := by simp [prd]
theorem prd_take_succ {rs : List Int} {i : Nat} {r : Int} (h : rs[i]? = some r) : prd (rs.take (i + 1)) = prd (rs.take i) * r := by
  rw [List.take_add_one, h, prd_append]
  simp [prd]
theorem prd_all (rs : List Int) : prd (rs.take rs.length) = prd rs := by rw [List.take_length]
theorem quot (rs : List Int) (hs : Sched rs) (d : Nat) : prd rs / prd (rs.take d) = prd (rs.drop d) := by
  have h := prd_split rs d
  have hp := (hs.take d).prd_pos
  rw [h]
  exact Int.mul_ediv_cancel_left _ (by omega)
theorem prd_le : ∀ {rs : List Int}, Sched rs → rs.length ≤ 8 → prd rs ≤ 11 ^ rs.length
  | [], _, _ => by decide
  | r :: rs, h, hl => by
    have h1 := prd_le h.tail (by simp at hl; omega)
    have h2 := h r List.mem_cons_self
    have h3 := h.tail.prd_pos
    show r * prd rs ≤ 11 ^ (rs.length + 1)
    rw [Int.pow_succ]
    have a1 : r * prd rs ≤ 11 * prd rs := Int.mul_le_mul_of_nonneg_right h2.2 (by omega)
    have a2 : 11 * prd rs ≤ 11 * 11 ^ rs.length := Int.mul_le_mul_of_nonneg_left h1 (by omega)
    have a3 : (11 : Int) ^ rs.length * 11 = 11 * 11 ^ rs.length := Int.mul_comm _ _
    omega
theorem pow_mono11 : ∀ n, n ≤ 8 → (11 : Int) ^ n ≤ 214358881 := by decide
theorem prd_lt {rs : List Int} (h : Sched rs) (hl : rs.length ≤ 8) : prd rs ≤ 214358881 := Int.le_trans (prd_le h hl) (pow_mono11 _ hl)
theorem prd_dvd_le {rs : List Int} (h : Sched rs) (d : Nat) : prd (rs.take d) ≤ prd rs := by
  rw [prd_split rs d]
  have h1 := (h.take d).prd_pos
  have h2 := (h.drop d).prd_pos
  have : prd (rs.take d) * 1 ≤ prd (rs.take d) * prd (rs.drop d) := Int.mul_le_mul_of_nonneg_left (by omega) (by omega)
  omega
/-! the weighted counts, one by one -/
def swL : List Int → List Int → List Int
  | r :: rs, c :: cs => c * prd rs :: swL rs cs
  | _, _ => []
theorem swL_sum : ∀ rs cs, (swL rs cs).sum = sw rs cs
  | [], cs => by simp [swL, sw]
  | r :: rs, [] => by simp [swL, sw]
  | r :: rs, c :: cs => by
    show (c * prd rs :: swL rs cs).sum = c * prd rs + sw rs cs
    rw [List.sum_cons, swL_sum rs cs]
theorem swL_len : ∀ rs cs, (swL rs cs).length = min cs.length rs.length
  | [], cs => by simp [swL]
  | r :: rs, [] => by simp [swL]
  | r :: rs, c :: cs => by
    show (swL rs cs).length + 1 = min (cs.length + 1) (rs.length + 1)
    rw [swL_len rs cs]; omega
theorem swL_get : ∀ {rs cs : List Int} {i : Nat} {c : Int}, cs[i]? = some c → i < rs.length → (swL rs cs)[i]? = some (c * prd (rs.drop (i + 1)))
  | [], cs, i, c, _, h => by simp at h
  | r :: rs, [], i, c, h, _ => by simp at h
  | r :: rs, c0 :: cs, 0, c, h, _ => by
    have e : c0 = c := Option.some.inj h
    subst e
    rfl
  | r :: rs, c0 :: cs, i + 1, c, h, hl => swL_get (rs := rs) (cs := cs) (i := i) h (by simp at hl; omega)
end SC

/-! part M3 -/
set_option Elab.async false
set_option linter.all false
set_option maxHeartbeats 2000000
namespace SC
/-! how many of [f, f + c) fall on a stretch, going round -/
def cbF (size f c start L : Int) : Int :=
  c / size * L + max 0 (min (c % size) ((start - f) % size + L) - (start - f) % size) + max 0 (min (c % size) ((start - f) % size + L - size))
/-- how many of [0, t) fall on the stretch from start, L long, of a circle of size -/
def gG (size start L t : Int) : Int := t / size * L + max 0 (min L (t % size - start))
theorem emod_sub {x size : Int} (h0 : 0 < size) (h1 : -size ≤ x) (h2 : x < size) : x % size = if x < 0 then x + size else x := by
  split
  · rw [← Int.add_emod_right x size]
    exact Int.emod_eq_of_lt (by omega) (by omega)
  · exact Int.emod_eq_of_lt (by omega) (by omega)
theorem gG_shift (size start L q x : Int) (h0 : 0 < size) : gG size start L (q * size + x) = q * L + gG size start L x := by
  unfold gG
  have e1 : (q * size + x) / size = q + x / size := by
    rw [Int.add_comm (q * size) x, Int.add_mul_ediv_right x q (by omega)]
    omega
  have e2 : (q * size + x) % size = x % size := by
    rw [Int.add_comm (q * size) x]
    exact Int.add_mul_emod_self_right x q size
  rw [e1, e2, Int.add_mul]
  omega
theorem cb_gG0 {size f c start L : Int} (h0 : 0 < size) (f0 : 0 ≤ f) (f1 : f < size) (c0 : 0 ≤ c) (s0 : 0 ≤ start) (l0 : 0 < L) (sl : start + L ≤ size) : cbF size f c start L = gG size start L (f + c) - gG size start L f := by
  have hc : f + c = c / size * size + (f + c % size) := by
    have := Int.mul_ediv_add_emod c size
    rw [Int.mul_comm] at this
    omega
  have hr0 := Int.emod_nonneg c (show size ≠ 0 by omega)
  have hr1 := Int.emod_lt_of_pos c h0
  rw [hc, gG_shift _ _ _ _ _ h0]
  unfold cbF gG
  rw [emod_sub (x := start - f) h0 (by omega) (by omega)]
  rw [Int.ediv_eq_zero_of_lt f0 f1, Int.emod_eq_of_lt f0 f1]
  generalize c % size = r at *
  generalize c / size = t at *
  by_cases hb : f + r < size
  · rw [Int.ediv_eq_zero_of_lt (by omega) hb, Int.emod_eq_of_lt (by omega) hb]
    split <;> omega
  · have e1 : (f + r) / size = 1 := by
      have : f + r = (f + r - size) + 1 * size := by omega
      rw [this, Int.add_mul_ediv_right _ _ (by omega), Int.ediv_eq_zero_of_lt (by omega) (by omega)]
      omega
    have e2 : (f + r) % size = f + r - size := by
      rw [← Int.sub_emod_right (f + r) size]
      exact Int.emod_eq_of_lt (by omega) (by omega)
    rw [e1, e2]
    split <;> omega
theorem cb_gG {size t c start L : Int} (h0 : 0 < size) (c0 : 0 ≤ c) (s0 : 0 ≤ start) (l0 : 0 < L) (sl : start + L ≤ size) : cbF size (t % size) c start L = gG size start L (t + c) - gG size start L t := by
  rw [cb_gG0 h0 (Int.emod_nonneg t (by omega)) (Int.emod_lt_of_pos t h0) c0 s0 l0 sl]
  have ht : t = t / size * size + t % size := by
    have := Int.mul_ediv_add_emod t size
    rw [Int.mul_comm] at this
    omega
  have h1 : gG size start L (t + c) = t / size * L + gG size start L (t % size + c) := by
    rw [← gG_shift _ _ _ _ _ h0]
    congr 1
    omega
  have h2 : gG size start L t = t / size * L + gG size start L (t % size) := by
    rw [← gG_shift _ _ _ _ _ h0]
    congr 1
  rw [h1, h2]
  omega
theorem cb_nonneg {size f c start L : Int} (h0 : 0 < size) (c0 : 0 ≤ c) (l0 : 0 ≤ L) : 0 ≤ cbF size f c start L := by
  have h := Int.mul_nonneg (Int.ediv_nonneg c0 (Int.le_of_lt h0)) l0
  unfold cbF
  omega
theorem gG_add {size s L1 L2 t : Int} (h1 : 0 ≤ L1) (h2 : 0 ≤ L2) : gG size s L1 t + gG size (s + L1) L2 t = gG size s (L1 + L2) t := by
  unfold gG
  rw [Int.mul_add]
  omega
theorem gG_all {size t : Int} (h0 : 0 < size) : gG size 0 size t = t := by
  unfold gG
  have := Int.mul_ediv_add_emod t size
  rw [Int.mul_comm] at this
  have hr0 := Int.emod_nonneg t (show size ≠ 0 by omega)
  have hr1 := Int.emod_lt_of_pos t h0
  omega
theorem gG_zero {size s L : Int} (s0 : 0 ≤ s) : gG size s L 0 = 0 := by
  unfold gG
  rw [Int.zero_ediv, Int.zero_emod]
  omega
theorem scale_mod {t size u : Int} (h0 : 0 < size) (hu : 0 < u) : t * u / (size * u) = t / size ∧ t * u % (size * u) = t % size * u := by
  have e := Int.mul_ediv_mul_of_pos_left t size hu
  refine ⟨e, ?_⟩
  have h1 := Int.mul_ediv_add_emod (t * u) (size * u)
  have h2 := Int.mul_ediv_add_emod t size
  rw [e] at h1
  have h3 : (size * (t / size) + t % size) * u = t * u := by rw [h2]
  rw [Int.add_mul] at h3
  have h4 : size * u * (t / size) = size * (t / size) * u := by grind
  omega
theorem gG_scale {size s L t u : Int} (h0 : 0 < size) (hu : 0 < u) (l0 : 0 ≤ L) : gG (size * u) (s * u) (L * u) (t * u) = gG size s L t * u := by
  unfold gG
  obtain ⟨e1, e2⟩ := scale_mod (t := t) h0 hu
  rw [e1, e2, Int.add_mul, Int.mul_assoc]
  congr 1
  rw [← Int.sub_mul]
  generalize t % size - s = x
  by_cases c1 : x ≤ 0
  · have : x * u ≤ 0 := Int.mul_nonpos_of_nonpos_of_nonneg c1 (by omega)
    rw [Int.max_eq_left (by omega), Int.max_eq_left (by omega)]
    omega
  · by_cases c2 : x ≤ L
    · have a1 : x * u ≤ L * u := Int.mul_le_mul_of_nonneg_right c2 (by omega)
      have a2 : 0 ≤ x * u := Int.mul_nonneg (by omega) (by omega)
      rw [Int.min_eq_right a1, Int.min_eq_right c2, Int.max_eq_right a2, Int.max_eq_right (by omega)]
    · have a1 : L * u ≤ x * u := Int.mul_le_mul_of_nonneg_right (by omega) (by omega)
      have a2 : 0 ≤ L * u := Int.mul_nonneg (by omega) (by omega)
      rw [Int.min_eq_left a1, Int.min_eq_left (by omega), Int.max_eq_right a2, Int.max_eq_right (by omega)]
theorem gG_one {size n r g t : Int} (h0 : 0 < size) (g0 : 0 ≤ g) (g1 : g < r) : gG (size * r) (n * r + g) 1 (t * r) = gG size n 1 t := by
  unfold gG
  obtain ⟨e1, e2⟩ := scale_mod (t := t) (u := r) h0 (by omega)
  rw [e1, e2]
  have e3 : t % size * r - (n * r + g) = (t % size - n) * r - g := by rw [Int.sub_mul]; omega
  rw [e3]
  generalize t % size - n = x
  by_cases c1 : x ≤ 0
  · have : x * r ≤ 0 := Int.mul_nonpos_of_nonpos_of_nonneg c1 (by omega)
    omega
  · have : 1 * r ≤ x * r := Int.mul_le_mul_of_nonneg_right (by omega) (by omega)
    omega
theorem ceil_eq {t size : Int} (h0 : 0 < size) : -((-t) / size) = t / size + if t % size = 0 then 0 else 1 := by
  have h1 := Int.mul_ediv_add_emod t size
  have h2 := Int.mul_ediv_add_emod (-t) size
  have hr0 := Int.emod_nonneg t (show size ≠ 0 by omega)
  have hr1 := Int.emod_lt_of_pos t h0
  have hs0 := Int.emod_nonneg (-t) (show size ≠ 0 by omega)
  have hs1 := Int.emod_lt_of_pos (-t) h0
  generalize t / size = a at *
  generalize (-t) / size = b at *
  generalize t % size = x at *
  generalize (-t) % size = y at *
  have e : size * (a + b) = -(x + y) := by rw [Int.mul_add]; omega
  split
  · have : a + b = 0 := by
      have l1 : -1 < a + b := by
        have : size * (-1) < size * (a + b) := by omega
        exact Int.lt_of_mul_lt_mul_left this (by omega)
      have l2 : a + b < 1 := by
        have : size * (a + b) < size * 1 := by omega
        exact Int.lt_of_mul_lt_mul_left this (by omega)
      omega
    omega
  · have : a + b = -1 := by
      have l1 : -2 < a + b := by
        have : size * (-2) < size * (a + b) := by omega
        exact Int.lt_of_mul_lt_mul_left this (by omega)
      have l2 : a + b < 0 := by
        have : size * (a + b) < size * 0 := by omega
        exact Int.lt_of_mul_lt_mul_left this (by omega)
      omega
    omega
theorem gG_lo {size s L t : Int} : t / size * L ≤ gG size s L t := by
  unfold gG
  omega
theorem gG_hi {size s L t : Int} (h0 : 0 < size) (s0 : 0 ≤ s) (l0 : 0 ≤ L) : gG size s L t ≤ -((-t) / size) * L := by
  rw [ceil_eq h0, Int.add_mul]
  unfold gG
  split
  · rename_i h
    rw [h]
    omega
  · omega
/-! sums over a range -/
def sm (n : Nat) (f : Nat → Int) : Int := ((List.range n).map f).sum
theorem sm_zero (f : Nat → Int) : sm 0 f = 0 := rfl
theorem sm_succ (n : Nat) (f : Nat → Int) : sm (n + 1) f = sm n f + f n := by
  unfold sm
  rw [List.range_succ, List.map_append, List.sum_append]
  simp
theorem sm_congr {n : Nat} {f g : Nat → Int} (h : ∀ i, i < n → f i = g i) : sm n f = sm n g := by
  induction n with
  | zero => rfl
  | succ n ih => rw [sm_succ, sm_succ, ih fun i hi => h i (by omega), h n (by omega)]
theorem sm_add (n : Nat) (f g : Nat → Int) : sm n (fun i => f i + g i) = sm n f + sm n g := by
  induction n with
  | zero => rfl
  | succ n ih => rw [sm_succ, sm_succ, sm_succ, ih]; omega
theorem sm_sub (n : Nat) (f g : Nat → Int) : sm n (fun i => f i - g i) = sm n f - sm n g := by
  induction n with
  | zero => rfl
  | succ n ih => rw [sm_succ, sm_succ, sm_succ, ih]; omega
theorem sm_const0 {n : Nat} {f : Nat → Int} (h : ∀ i, i < n → f i = 0) : sm n f = 0 := by
  induction n with
  | zero => rfl
  | succ n ih => rw [sm_succ, ih fun i hi => h i (by omega), h n (by omega)]; omega
theorem sm_one {n : Nat} {f : Nat → Int} (hn : 0 < n) (h : ∀ i, 0 < i → i < n → f i = 0) : sm n f = f 0 := by
  induction n with
  | zero => omega
  | succ n ih =>
    rw [sm_succ]
    by_cases h0 : n = 0
    · subst h0; rw [sm_zero]; omega
    · rw [ih (by omega) fun i a b => h i a (by omega), h n (by omega) (by omega)]; omega
theorem gG_sum {size L t : Int} (s : Int) (l0 : 0 ≤ L) (n : Nat) : sm n (fun g => gG size (s + (g : Int) * L) L t) = gG size s ((n : Int) * L) t := by
  induction n with
  | zero =>
    rw [sm_zero]
    unfold gG
    simp
    omega
  | succ n ih =>
    rw [sm_succ, ih, gG_add (Int.mul_nonneg (by omega) l0) l0]
    congr 1
    rw [Int.natCast_add, Int.add_mul]
    simp
/-- the columns of a split add up -/
theorem cb_sum {size t c s L : Int} (h0 : 0 < size) (c0 : 0 ≤ c) (s0 : 0 ≤ s) (l0 : 0 < L) (n : Nat) (hn : 0 < n) (sl : s + (n : Int) * L ≤ size) :
    sm n (fun g => cbF size (t % size) c (s + (g : Int) * L) L) = cbF size (t % size) c s ((n : Int) * L) := by
  have hL : 1 * L ≤ (n : Int) * L := Int.mul_le_mul_of_nonneg_right (by omega) (by omega)
  rw [cb_gG h0 c0 s0 (by omega) sl]
  have e : ∀ g, g < n → cbF size (t % size) c (s + (g : Int) * L) L = gG size (s + (g : Int) * L) L (t + c) - gG size (s + (g : Int) * L) L t := fun g hg => by
    have a1 : 0 ≤ (g : Int) * L := Int.mul_nonneg (by omega) (by omega)
    have a2 : ((g : Int) + 1) * L ≤ (n : Int) * L := Int.mul_le_mul_of_nonneg_right (by omega) (by omega)
    rw [Int.add_mul] at a2
    exact cb_gG h0 c0 (by omega) l0 (by omega)
  rw [sm_congr e, sm_sub, gG_sum s (by omega), gG_sum s (by omega)]
theorem cb_full {size t c : Int} (h0 : 0 < size) (c0 : 0 ≤ c) : cbF size (t % size) c 0 size = c := by
  rw [cb_gG h0 c0 (by omega) h0 (by omega), gG_all h0, gG_all h0]
  omega
end SC

/-! part M4 -/
set_option Elab.async false
set_option linter.all false
set_option maxHeartbeats 2000000
namespace SC
abbrev at0 (xs : List Int) (i : Nat) : Int := xs.getD i 0
theorem at0_some {xs : List Int} {i : Nat} (h : i < xs.length) : xs[i]? = some (at0 xs i) := by simp [at0, h]
theorem at0_get {xs : List Int} {i : Nat} {x : Int} (h : xs[i]? = some x) : at0 xs i = x := by simp [at0, h]
theorem at0_mem {xs : List Int} {i : Nat} (h : i < xs.length) : at0 xs i ∈ xs := List.mem_of_getElem? (at0_some h)
theorem at0_out {xs : List Int} {i : Nat} (h : xs.length ≤ i) : at0 xs i = 0 := by simp [at0, h]
theorem at0_nn {xs : List Int} (h : NN xs) (i : Nat) : 0 ≤ at0 xs i := by
  by_cases hi : i < xs.length
  · exact h _ (at0_mem hi)
  · rw [at0_out (by omega)]; omega
theorem at0_map (n : Nat) (f : Nat → Int) (i : Nat) : at0 ((List.range n).map f) i = if i < n then f i else 0 := by
  unfold at0
  split
  · rename_i h; simp [h]
  · rename_i h; simp [h]
theorem at0_append_l {a b : List Int} {i : Nat} (h : i < a.length) : at0 (a ++ b) i = at0 a i := by simp [at0, List.getElem?_append_left h]
theorem at0_snoc (a : List Int) (x : Int) : at0 (a ++ [x]) a.length = x := by simp [at0]
theorem drop_eq {rs : List Int} {k : Nat} (h : k < rs.length) : rs.drop k = at0 rs k :: rs.drop (k + 1) := by
  rw [List.drop_eq_getElem_cons h]
  simp [at0, h]
/-! products of the first d -/
abbrev pp (rs : List Int) (d : Nat) : Int := prd (rs.take d)
theorem pp_succ {rs : List Int} {i : Nat} (h : i < rs.length) : pp rs (i + 1) = pp rs i * at0 rs i := prd_take_succ (at0_some h)
theorem pp_pos {rs : List Int} (h : Sched rs) (d : Nat) : 0 < pp rs d := (h.take d).prd_pos
theorem pp_zero (rs : List Int) : pp rs 0 = 1 := by simp [pp, prd]
theorem pp_mul {rs : List Int} {k d : Nat} (h : k ≤ d) : pp rs d = pp rs k * prd ((rs.take d).drop k) := by
  unfold pp
  rw [prd_split (rs.take d) k, List.take_take, Nat.min_eq_left h]
/-- the length of a stretch: what is left of d's circle behind k rounds -/
abbrev ll (rs : List Int) (k d : Nat) : Int := pp rs d / pp rs k
theorem ll_eq {rs : List Int} (hs : Sched rs) {k d : Nat} (h : k ≤ d) : ll rs k d = prd ((rs.take d).drop k) := by
  unfold ll
  rw [pp_mul h]
  exact Int.mul_ediv_cancel_left _ (by have := pp_pos hs k; omega)
theorem ll_pos {rs : List Int} (hs : Sched rs) {k d : Nat} (h : k ≤ d) : 0 < ll rs k d := by
  rw [ll_eq hs h]
  exact ((hs.take d).drop k).prd_pos
theorem ll_mul {rs : List Int} (hs : Sched rs) {k d : Nat} (h : k ≤ d) : pp rs k * ll rs k d = pp rs d := by rw [ll_eq hs h, ← pp_mul h]
theorem ll_succ {rs : List Int} (hs : Sched rs) {k d : Nat} (h : k < d) (hk : k < rs.length) : at0 rs k * ll rs (k + 1) d = ll rs k d := by
  rw [ll_eq hs h, ll_eq hs (Nat.le_of_lt h)]
  have hk' : k < (rs.take d).length := by rw [List.length_take]; omega
  rw [List.drop_eq_getElem_cons hk']
  show _ = (rs.take d)[k] * prd _
  congr 1
  simp [at0, hk]
theorem ll_self {rs : List Int} (hs : Sched rs) (k : Nat) : ll rs k k = 1 := Int.ediv_self (by have := pp_pos hs k; omega)
theorem ll_zero (rs : List Int) (d : Nat) : ll rs 0 d = pp rs d := by
  unfold ll
  rw [pp_zero, Int.ediv_one]
/-! the running total; the number of a word -/
def tT (rs cs : List Int) : Nat → Int
  | 0 => 0
  | i + 1 => tT rs cs i * at0 rs i + at0 cs i
theorem tT_congr (rs : List Int) {a b : List Int} : ∀ {k : Nat}, (∀ i, i < k → at0 a i = at0 b i) → tT rs a k = tT rs b k
  | 0, _ => rfl
  | k + 1, h => by
    show tT rs a k * at0 rs k + at0 a k = tT rs b k * at0 rs k + at0 b k
    rw [tT_congr rs fun i hi => h i (by omega), h k (by omega)]
theorem tT_snoc (rs hist : List Int) (g : Int) : tT rs (hist ++ [g]) (hist.length + 1) = tT rs hist hist.length * at0 rs hist.length + g := by
  show tT rs (hist ++ [g]) hist.length * at0 rs hist.length + at0 (hist ++ [g]) hist.length = _
  rw [at0_snoc, tT_congr rs (b := hist) fun i hi => at0_append_l hi]
theorem tT_nn {rs cs : List Int} (hs : Sched rs) (h : NN cs) : ∀ k, 0 ≤ tT rs cs k
  | 0 => by show (0 : Int) ≤ 0; omega
  | k + 1 => by
    have h1 := tT_nn hs h k
    have h2 : 0 ≤ at0 rs k := at0_nn (fun r hr => by have := hs r hr; omega) k
    have h3 := at0_nn h k
    have := Int.mul_nonneg h1 h2
    show 0 ≤ tT rs cs k * at0 rs k + at0 cs k
    omega
theorem tT_sw (rs cs : List Int) : ∀ m, m ≤ rs.length → tT rs cs m * prd (rs.drop m) + sw (rs.drop m) (cs.drop m) = sw rs cs
  | 0, _ => by simp [tT]
  | m + 1, h => by
    have ih := tT_sw rs cs m (by omega)
    rw [← ih, drop_eq (k := m) (by omega)]
    show (tT rs cs m * at0 rs m + at0 cs m) * prd (rs.drop (m + 1)) + _ = tT rs cs m * (at0 rs m * prd (rs.drop (m + 1))) + _
    by_cases hc : m < cs.length
    · rw [drop_eq (rs := cs) hc]
      show _ = _ + (at0 cs m * prd (rs.drop (m + 1)) + sw (rs.drop (m + 1)) (cs.drop (m + 1)))
      grind
    · rw [at0_out (xs := cs) (by omega), List.drop_eq_nil_of_le (by omega : cs.length ≤ m), List.drop_eq_nil_of_le (by omega : cs.length ≤ m + 1), sw_nil, sw_nil]
      grind
theorem tT_all (rs cs : List Int) : tT rs cs rs.length = sw rs cs := by
  have := tT_sw rs cs rs.length (Nat.le_refl _)
  rw [List.drop_eq_nil_of_le (Nat.le_refl _)] at this
  simpa [prd, sw] using this
/-! rows to columns -/
theorem colSum_map (n : Nat) (f : Nat → List Int) (i : Nat) : colSum ((List.range n).map f) i = sm n fun g => at0 (f g) i := by
  unfold colSum sm
  rw [List.map_map]
  rfl
theorem getD_map (n : Nat) (f : Nat → List Int) {g : Nat} (h : g < n) : ((List.range n).map f).getD g [] = f g := by simp [h]
/-! the balanced split -/
def balE (rs cs : List Int) (i : Nat) (g : Nat) : Int :=
  if i < rs.length then cbF (pp rs (i + 1)) (tT rs cs i * at0 rs i % pp rs (i + 1)) (at0 cs i) ((g : Int) * (pp rs (i + 1) / at0 rs 0)) (pp rs (i + 1) / at0 rs 0) else if g = 0 then at0 cs i else 0
def balS (rs cs : List Int) : List (List Int) := (List.range (at0 rs 0).toNat).map fun g => (List.range cs.length).map fun i => balE rs cs i g
theorem pp_first {rs : List Int} (h : 0 < rs.length) (i : Nat) : pp rs (i + 1) = at0 rs 0 * prd (rs.tail.take i) := by
  cases rs with
  | nil => simp at h
  | cons r rs => rfl
theorem pp_quot {rs : List Int} (hs : Sched rs) (h : 0 < rs.length) (i : Nat) : pp rs (i + 1) / at0 rs 0 = prd (rs.tail.take i) := by
  rw [pp_first h]
  have := hs _ (at0_mem h)
  exact Int.mul_ediv_cancel_left _ (by omega)
theorem tail_sched {rs : List Int} (hs : Sched rs) : Sched rs.tail := fun x hx => hs x (List.mem_of_mem_tail hx)
theorem balE_gG {rs cs : List Int} (hs : Sched rs) (hc : NN cs) {i g : Nat} (hi : i < rs.length) (hg : (g : Int) < at0 rs 0) :
    balE rs cs i g = gG (pp rs (i + 1)) ((g : Int) * prd (rs.tail.take i)) (prd (rs.tail.take i)) (tT rs cs (i + 1)) - gG (pp rs (i + 1)) ((g : Int) * prd (rs.tail.take i)) (prd (rs.tail.take i)) (tT rs cs i * at0 rs i) := by
  unfold balE
  rw [if_pos hi, pp_quot hs (by omega) i]
  have hL := ((tail_sched hs).take i).prd_pos
  have hP := pp_pos hs (i + 1)
  have hf := pp_first (rs := rs) (by omega) i
  have a1 : ((g : Int) + 1) * prd (rs.tail.take i) ≤ at0 rs 0 * prd (rs.tail.take i) := Int.mul_le_mul_of_nonneg_right (by omega) (by omega)
  rw [Int.add_mul, ← hf] at a1
  rw [cb_gG hP (at0_nn hc i) (Int.mul_nonneg (by omega) (by omega)) hL (by omega)]
  rfl
theorem balE_nn {rs cs : List Int} (hs : Sched rs) (hc : NN cs) (i g : Nat) : 0 ≤ balE rs cs i g := by
  unfold balE
  split
  · rw [pp_quot hs (by omega) i]
    exact cb_nonneg (pp_pos hs _) (at0_nn hc i) (by have := ((tail_sched hs).take i).prd_pos; omega)
  · split
    · exact at0_nn hc i
    · omega
theorem balS_len {rs cs : List Int} (h : 0 ≤ at0 rs 0) : ((balS rs cs).length : Int) = at0 rs 0 := by
  unfold balS
  rw [List.length_map, List.length_range]
  omega
theorem head_pos {rs : List Int} (hs : Sched rs) (h : 0 < rs.length) : 2 ≤ at0 rs 0 ∧ at0 rs 0 ≤ 11 := hs _ (at0_mem h)
theorem balS_split {rs cs : List Int} (hs : Sched rs) (h : 0 < rs.length) (hc : NN cs) : IsSplit (balS rs cs) cs := by
  have h0 := head_pos hs h
  refine ⟨fun g hg => ?_, fun g hg => ?_, fun i hi => ?_⟩
  · obtain ⟨n, hn, rfl⟩ := List.mem_map.mp hg
    simp
  · obtain ⟨n, hn, rfl⟩ := List.mem_map.mp hg
    intro x hx
    obtain ⟨i, hi, rfl⟩ := List.mem_map.mp hx
    exact balE_nn hs hc _ _
  · unfold balS
    rw [colSum_map]
    have e : (sm (at0 rs 0).toNat fun g => at0 ((List.range cs.length).map fun i => balE rs cs i g) i) = sm (at0 rs 0).toNat fun g => balE rs cs i g := sm_congr fun g hg => by rw [at0_map, if_pos hi]
    rw [e]
    show _ = at0 cs i
    by_cases hr : i < rs.length
    · have e2 : (sm (at0 rs 0).toNat fun g => balE rs cs i g) = sm (at0 rs 0).toNat fun g => cbF (pp rs (i + 1)) (tT rs cs i * at0 rs i % pp rs (i + 1)) (at0 cs i) (0 + (g : Int) * prd (rs.tail.take i)) (prd (rs.tail.take i)) := sm_congr fun g hg => by
        unfold balE
        rw [if_pos hr, pp_quot hs h i, Int.zero_add]
      have hL := ((tail_sched hs).take i).prd_pos
      have hf := pp_first h i
      have en : (((at0 rs 0).toNat : Nat) : Int) = at0 rs 0 := by omega
      rw [e2, cb_sum (pp_pos hs _) (at0_nn hc i) (by omega) hL _ (by omega) (by rw [en, ← hf]; omega), en, ← hf, cb_full (pp_pos hs _) (at0_nn hc i)]
    · rw [sm_one (by omega) fun g g0 g1 => by unfold balE; rw [if_neg hr, if_neg (by omega)]]
      unfold balE
      rw [if_neg hr, if_pos rfl]
theorem bal_weight {rs cs : List Int} (hs : Sched rs) (h : 0 < rs.length) (hc : NN cs) {g : Nat} (hg : (g : Int) < at0 rs 0) : ∀ m, m ≤ rs.length →
    gG (prd rs) ((g : Int) * prd rs.tail) (prd rs.tail) (tT rs cs m * prd (rs.drop m)) + sw (rs.drop m) (((List.range cs.length).map fun i => balE rs cs i g).drop m) = sw rs ((List.range cs.length).map fun i => balE rs cs i g)
  | 0, _ => by
    have hQ := (tail_sched hs).prd_pos
    show gG _ _ _ (0 * _) + _ = _
    rw [Int.zero_mul, gG_zero (Int.mul_nonneg (by omega) (by omega))]
    simp
  | m + 1, hm => by
    rw [← bal_weight hs h hc hg m (by omega), drop_eq (rs := rs) (k := m) (by omega)]
    have hu := (hs.drop (m + 1)).prd_pos
    have hP := pp_pos hs (m + 1)
    have hL := ((tail_sched hs).take m).prd_pos
    have e1 : prd rs = pp rs (m + 1) * prd (rs.drop (m + 1)) := prd_split rs (m + 1)
    have e2 : prd rs.tail = prd (rs.tail.take m) * prd (rs.drop (m + 1)) := by
      rw [prd_split rs.tail m, List.drop_tail]
    have e3 : tT rs cs m * prd (at0 rs m :: rs.drop (m + 1)) = tT rs cs m * at0 rs m * prd (rs.drop (m + 1)) := by
      show tT rs cs m * (at0 rs m * prd (rs.drop (m + 1))) = _
      rw [Int.mul_assoc]
    have hb : at0 ((List.range cs.length).map fun i => balE rs cs i g) m = balE rs cs m g := by
      rw [at0_map]
      split
      · rfl
      · rename_i hn
        rw [balE_gG hs hc (by omega) hg]
        show 0 = gG _ _ _ (tT rs cs m * at0 rs m + at0 cs m) - _
        rw [at0_out (xs := cs) (by omega), Int.add_zero]
        omega
    have e4 : sw (at0 rs m :: rs.drop (m + 1)) (((List.range cs.length).map fun i => balE rs cs i g).drop m) = balE rs cs m g * prd (rs.drop (m + 1)) + sw (rs.drop (m + 1)) (((List.range cs.length).map fun i => balE rs cs i g).drop (m + 1)) := by
      by_cases hn : m < cs.length
      · rw [drop_eq (rs := (List.range cs.length).map fun i => balE rs cs i g) (k := m) (by simp [hn]), ← hb]
        rfl
      · have hl : ((List.range cs.length).map fun i => balE rs cs i g).length = cs.length := by simp
        rw [← hb, at0_out (xs := (List.range cs.length).map fun i => balE rs cs i g) (by rw [hl]; omega), List.drop_eq_nil_of_le (as := (List.range cs.length).map fun i => balE rs cs i g) (by rw [hl]; omega), List.drop_eq_nil_of_le (as := (List.range cs.length).map fun i => balE rs cs i g) (by rw [hl]; omega), sw_nil, sw_nil]
        omega
    rw [e4, e3, e1, e2, balE_gG hs hc (by omega) hg, Int.sub_mul, ← gG_scale hP hu (by omega), ← gG_scale hP hu (by omega), ← Int.mul_assoc (g : Int)]
    omega
theorem bal_sw {rs cs : List Int} (hs : Sched rs) (h : 0 < rs.length) (hc : NN cs) {g : Nat} (hg : (g : Int) < at0 rs 0) : sw rs ((balS rs cs).getD g []) = gG (prd rs) ((g : Int) * prd rs.tail) (prd rs.tail) (sw rs cs) := by
  have e := bal_weight hs h hc hg rs.length (Nat.le_refl _)
  rw [List.drop_eq_nil_of_le (Nat.le_refl _), tT_all] at e
  unfold balS
  rw [getD_map _ _ (by omega), ← e]
  simp [prd, sw]
/-! the even split, the joint split -/
def evenS (rs cs : List Int) : List (List Int) := (List.range (at0 rs 0).toNat).map fun (g : Nat) => cs.map fun c => c / at0 rs 0 + if (g : Int) < c % at0 rs 0 then 1 else 0
def jointS (rs cs : List Int) : List (List Int) := cs :: (List.range ((at0 rs 0).toNat - 1)).map fun _ => List.replicate cs.length 0
theorem at0_cmap (f : Int → Int) {cs : List Int} {i : Nat} (h : i < cs.length) : at0 (cs.map f) i = f (at0 cs i) := by simp [at0, h]
theorem sm_below (b : Int) (b0 : 0 ≤ b) (a : Int) : ∀ n : Nat, sm n (fun g => a + if (g : Int) < b then 1 else 0) = (n : Int) * a + min (n : Int) b
  | 0 => by rw [sm_zero]; simp; omega
  | n + 1 => by
    rw [sm_succ, sm_below b b0 a n, Int.natCast_add, Int.add_mul]
    simp
    split <;> omega
theorem evenS_split {rs cs : List Int} (hs : Sched rs) (h : 0 < rs.length) (hc : NN cs) : IsSplit (evenS rs cs) cs := by
  have h0 := head_pos hs h
  refine ⟨fun g hg => ?_, fun g hg => ?_, fun i hi => ?_⟩
  · obtain ⟨n, hn, rfl⟩ := List.mem_map.mp hg
    simp
  · obtain ⟨n, hn, rfl⟩ := List.mem_map.mp hg
    intro x hx
    obtain ⟨c, hcm, rfl⟩ := List.mem_map.mp hx
    have := Int.ediv_nonneg (hc c hcm) (show 0 ≤ at0 rs 0 by omega)
    split <;> omega
  · unfold evenS
    rw [colSum_map]
    have e : (sm (at0 rs 0).toNat fun g => at0 (cs.map fun c => c / at0 rs 0 + if (g : Int) < c % at0 rs 0 then 1 else 0) i) = sm (at0 rs 0).toNat fun g => at0 cs i / at0 rs 0 + if (g : Int) < at0 cs i % at0 rs 0 then 1 else 0 := sm_congr fun g hg => by
      rw [at0_cmap _ hi]
    have en : (((at0 rs 0).toNat : Nat) : Int) = at0 rs 0 := by omega
    have hm0 := Int.emod_nonneg (at0 cs i) (show at0 rs 0 ≠ 0 by omega)
    have hm1 := Int.emod_lt_of_pos (at0 cs i) (show 0 < at0 rs 0 by omega)
    have hd := Int.mul_ediv_add_emod (at0 cs i) (at0 rs 0)
    rw [e, sm_below _ hm0, en, Int.min_eq_right (by omega)]
    exact hd
theorem jointS_split {rs cs : List Int} (hc : NN cs) : IsSplit (jointS rs cs) cs := by
  refine ⟨fun g hg => ?_, fun g hg => ?_, fun i hi => ?_⟩
  · unfold jointS at hg
    rcases List.mem_cons.mp hg with rfl | hg
    · rfl
    · obtain ⟨n, hn, rfl⟩ := List.mem_map.mp hg
      simp
  · unfold jointS at hg
    rcases List.mem_cons.mp hg with rfl | hg
    · exact hc
    · obtain ⟨n, hn, rfl⟩ := List.mem_map.mp hg
      intro x hx
      have := List.eq_of_mem_replicate hx
      omega
  · have e := colSum_map ((at0 rs 0).toNat - 1) (fun _ => List.replicate cs.length 0) i
    unfold colSum at e ⊢
    unfold jointS
    rw [List.map_cons, List.sum_cons, e, sm_const0 fun g hg => by simp [at0, hi]]
    omega
theorem jointS_len {rs cs : List Int} (h : 1 ≤ at0 rs 0) : ((jointS rs cs).length : Int) = at0 rs 0 := by
  unfold jointS
  rw [List.length_cons, List.length_map, List.length_range]
  omega
theorem evenS_len {rs cs : List Int} (h : 0 ≤ at0 rs 0) : ((evenS rs cs).length : Int) = at0 rs 0 := by
  unfold evenS
  rw [List.length_map, List.length_range]
  omega
end SC

/-! part M5 -/
set_option Elab.async false
set_option linter.all false
set_option maxHeartbeats 2000000
namespace SC
/-! plans -/
abbrev Row := Nat × Int × Int
abbrev rowL (r : Row) : List Int := [(r.1 : Int), r.2.1, r.2.2]
def RowOk (rs : List Int) (r : Row) : Prop := 1 ≤ r.1 ∧ r.1 ≤ rs.length ∧ 0 ≤ r.2.1 ∧ r.2.1 < pp rs r.1 ∧ 1 ≤ r.2.2
def totR (rows : List Row) (d : Nat) : Int := (rows.map fun r => if r.1 = d then r.2.2 else 0).sum
structure PlanOk (rs cs : List Int) (rows : List Row) : Prop where
  row : ∀ r ∈ rows, RowOk rs r
  tot : ∀ d, 1 ≤ d → d ≤ rs.length → totR rows d = at0 cs (d - 1)
  few : rows.length ≤ 1000
structure HistOk (rs hist : List Int) : Prop where
  len : hist.length ≤ rs.length
  lo : ∀ i, i < hist.length → 0 ≤ at0 hist i
  hi : ∀ i, i < hist.length → at0 hist i < at0 rs i
abbrev nm (rs hist : List Int) : Int := tT rs hist hist.length
theorem nm_snoc (rs hist : List Int) (g : Int) : nm rs (hist ++ [g]) = nm rs hist * at0 rs hist.length + g := by
  unfold nm
  rw [List.length_append]
  exact tT_snoc rs hist g
theorem HistOk.snoc {rs hist : List Int} {g : Int} (h : HistOk rs hist) (hl : hist.length < rs.length) (g0 : 0 ≤ g) (g1 : g < at0 rs hist.length) : HistOk rs (hist ++ [g]) := by
  refine ⟨by simp; omega, fun i hi => ?_, fun i hi => ?_⟩
  · rw [List.length_append] at hi
    by_cases e : i < hist.length
    · rw [at0_append_l e]; exact h.lo i e
    · have : i = hist.length := by simp at hi; omega
      subst this
      rw [at0_snoc]; exact g0
  · rw [List.length_append] at hi
    by_cases e : i < hist.length
    · rw [at0_append_l e]; exact h.hi i e
    · have : i = hist.length := by simp at hi; omega
      subst this
      rw [at0_snoc]; exact g1
theorem HistOk.nm_bound {rs hist : List Int} (hs : Sched rs) (h : HistOk rs hist) : ∀ k, k ≤ hist.length → 0 ≤ tT rs hist k ∧ tT rs hist k < pp rs k
  | 0, _ => by
    rw [pp_zero]
    show (0 : Int) ≤ 0 ∧ (0 : Int) < 1
    omega
  | k + 1, hk => by
    obtain ⟨a, b⟩ := h.nm_bound hs k (by omega)
    have h1 := h.lo k (by omega)
    have h2 := h.hi k (by omega)
    have hl := h.len
    rw [pp_succ (by omega)]
    have hr : 0 ≤ at0 rs k := by omega
    have := Int.mul_nonneg a hr
    have m1 : (tT rs hist k + 1) * at0 rs k ≤ pp rs k * at0 rs k := Int.mul_le_mul_of_nonneg_right (by omega) hr
    rw [Int.add_mul] at m1
    show 0 ≤ tT rs hist k * at0 rs k + at0 hist k ∧ tT rs hist k * at0 rs k + at0 hist k < _
    omega
def cbR (rs : List Int) (N : Int) (k : Nat) (r : Row) : Int := cbF (pp rs r.1) r.2.1 r.2.2 (N * ll rs k r.1) (ll rs k r.1)
def wW (rs cs : List Int) (rows : List Row) (hist : List Int) (d : Nat) : Int :=
  if d ≤ rs.length then (rows.map fun r => if r.1 = d then cbR rs (nm rs hist) hist.length r else 0).sum else if hist.all (fun h => decide (h = 0)) then at0 cs (d - 1) else 0
def posP (rs cs : List Int) (rows : List Row) (hist : List Int) : List Int := (List.range cs.length).map fun e => wW rs cs rows hist (e + hist.length + 1)
def planS (rs cs : List Int) (rows : List Row) (hist : List Int) : List (List Int) :=
  (List.range (at0 rs hist.length).toNat).map fun (g : Nat) => (List.range cs.length).map fun e => wW rs cs rows (hist ++ [(g : Int)]) (e + hist.length + 1)
theorem list_sum_zero : ∀ {l : List Int}, (∀ x ∈ l, x = 0) → l.sum = 0
  | [], _ => rfl
  | a :: l, h => by
    rw [List.sum_cons, h a List.mem_cons_self, list_sum_zero fun x hx => h x (List.mem_cons_of_mem _ hx)]
    rfl
theorem list_sum_nn : ∀ {l : List Int}, (∀ x ∈ l, 0 ≤ x) → 0 ≤ l.sum
  | [], _ => by show (0 : Int) ≤ 0; omega
  | a :: l, h => by
    have h1 := h a List.mem_cons_self
    have h2 := list_sum_nn fun x hx => h x (List.mem_cons_of_mem _ hx)
    rw [List.sum_cons]
    omega
theorem list_mem_le_sum : ∀ {l : List Int} {y : Int}, (∀ x ∈ l, 0 ≤ x) → y ∈ l → y ≤ l.sum
  | a :: l, y, h, hy => by
    have h1 := h a List.mem_cons_self
    have h2 := list_sum_nn fun x hx => h x (List.mem_cons_of_mem _ hx)
    rw [List.sum_cons]
    rcases List.mem_cons.mp hy with rfl | hy
    · omega
    · have := list_mem_le_sum (fun x hx => h x (List.mem_cons_of_mem _ hx)) hy
      omega
/-- no row beyond the counts -/
theorem PlanOk.short {rs cs : List Int} {rows : List Row} (p : PlanOk rs cs rows) {r : Row} (hr : r ∈ rows) : r.1 ≤ cs.length := by
  obtain ⟨h1, h2, h3, h4, h5⟩ := p.row r hr
  have t := p.tot r.1 h1 h2
  by_cases hc : r.1 ≤ cs.length
  · exact hc
  · rw [at0_out (xs := cs) (by omega)] at t
    have : r.2.2 ≤ totR rows r.1 := by
      refine list_mem_le_sum (fun x hx => ?_) (List.mem_map.mpr ⟨r, hr, by rw [if_pos rfl]⟩)
      obtain ⟨q, hq, rfl⟩ := List.mem_map.mp hx
      have := (p.row q hq).2.2.2.2
      split <;> omega
    omega
theorem wW_out {rs cs : List Int} {rows : List Row} (p : PlanOk rs cs rows) (hist : List Int) {d : Nat} (h : cs.length < d) : wW rs cs rows hist d = 0 := by
  unfold wW
  split
  · refine list_sum_zero fun x hx => ?_
    obtain ⟨q, hq, rfl⟩ := List.mem_map.mp hx
    have := p.short hq
    rw [if_neg (by omega)]
  · split
    · exact at0_out (by omega)
    · rfl
theorem wW_nn {rs cs : List Int} (hs : Sched rs) (hc : NN cs) {rows : List Row} (p : PlanOk rs cs rows) (hist : List Int) {d : Nat} (h : hist.length ≤ d) : 0 ≤ wW rs cs rows hist d := by
  unfold wW
  split
  · refine list_sum_nn fun x hx => ?_
    obtain ⟨q, hq, rfl⟩ := List.mem_map.mp hx
    have h5 := (p.row q hq).2.2.2.2
    split
    · rename_i e
      exact cb_nonneg (pp_pos hs _) (by omega) (by have := ll_pos hs (k := hist.length) (d := q.1) (by omega); omega)
    · omega
  · split
    · exact at0_nn hc _
    · omega
theorem wW_root {rs cs : List Int} (hs : Sched rs) {rows : List Row} (p : PlanOk rs cs rows) {d : Nat} (h : 1 ≤ d) : wW rs cs rows [] d = at0 cs (d - 1) := by
  unfold wW
  split
  · rename_i hd
    rw [← p.tot d h hd]
    unfold totR
    congr 1
    refine List.map_congr_left fun r hr => ?_
    split
    · obtain ⟨h1, h2, h3, h4, h5⟩ := p.row r hr
      show cbF (pp rs r.1) r.2.1 r.2.2 (0 * ll rs 0 r.1) (ll rs 0 r.1) = _
      rw [Int.zero_mul, ll_zero]
      have := cb_full (t := r.2.1) (c := r.2.2) (pp_pos hs r.1) (by omega)
      rw [Int.emod_eq_of_lt h3 h4] at this
      exact this
    · rfl
  · rfl
theorem sm_list (n : Nat) {α : Type} (F : α → Nat → Int) : ∀ rows : List α, sm n (fun g => (rows.map fun r => F r g).sum) = (rows.map fun r => sm n (F r)).sum
  | [] => sm_const0 fun _ _ => rfl
  | r :: rows => by
    rw [List.map_cons, List.sum_cons, ← sm_list n F rows, ← sm_add]
    exact sm_congr fun g _ => by rw [List.map_cons, List.sum_cons]
theorem wW_sum {rs cs : List Int} (hs : Sched rs) {rows : List Row} (p : PlanOk rs cs rows) {hist : List Int} (H : HistOk rs hist) (hl : hist.length < rs.length) {d : Nat} (hd : hist.length < d) :
    sm (at0 rs hist.length).toNat (fun g => wW rs cs rows (hist ++ [(g : Int)]) d) = wW rs cs rows hist d := by
  have hr := hs _ (at0_mem hl)
  have en : (((at0 rs hist.length).toNat : Nat) : Int) = at0 rs hist.length := by omega
  have hn : 0 ≤ nm rs hist ∧ nm rs hist < pp rs hist.length := (H.nm_bound hs hist.length (Nat.le_refl _))
  by_cases h : d ≤ rs.length
  · have e : ∀ hh : List Int, wW rs cs rows hh d = (rows.map fun r => if r.1 = d then cbR rs (nm rs hh) hh.length r else 0).sum := fun hh => by
      unfold wW
      rw [if_pos h]
    rw [e hist, sm_congr fun g _ => e (hist ++ [(g : Int)])]
    rw [sm_list _ (fun (r : Row) (g : Nat) => if r.1 = d then cbR rs (nm rs (hist ++ [(g : Int)])) (hist ++ [(g : Int)]).length r else 0)]
    congr 1
    refine List.map_congr_left fun r hrr => ?_
    obtain ⟨h1, h2, h3, h4, h5⟩ := p.row r hrr
    by_cases hd2 : r.1 = d
    · rw [if_pos hd2, sm_congr fun g _ => if_pos hd2]
      unfold cbR
      have hL := ll_pos hs (k := hist.length + 1) (d := r.1) (by omega)
      have hS := ll_succ hs (k := hist.length) (d := r.1) (by omega) hl
      have hM := ll_mul hs (k := hist.length) (d := r.1) (by omega)
      have e2 : (sm (at0 rs hist.length).toNat fun g => cbF (pp rs r.1) r.2.1 r.2.2 (nm rs (hist ++ [(g : Int)]) * ll rs (hist ++ [(g : Int)]).length r.1) (ll rs (hist ++ [(g : Int)]).length r.1))
          = sm (at0 rs hist.length).toNat fun g => cbF (pp rs r.1) (r.2.1 % pp rs r.1) r.2.2 (nm rs hist * ll rs hist.length r.1 + (g : Int) * ll rs (hist.length + 1) r.1) (ll rs (hist.length + 1) r.1) := sm_congr fun g _ => by
        rw [nm_snoc, List.length_append, Int.emod_eq_of_lt h3 h4, Int.add_mul, Int.mul_assoc]
        show cbF _ _ _ (nm rs hist * (at0 rs hist.length * ll rs (hist.length + 1) r.1) + (g : Int) * ll rs (hist.length + 1) r.1) (ll rs (hist.length + 1) r.1) = _
        rw [hS]
      have a1 : (nm rs hist + 1) * ll rs hist.length r.1 ≤ pp rs hist.length * ll rs hist.length r.1 := Int.mul_le_mul_of_nonneg_right (by have := hn.2; omega) (by have := ll_pos hs (k := hist.length) (d := r.1) (by omega); omega)
      rw [hM, Int.add_mul] at a1
      rw [e2, cb_sum (pp_pos hs _) (by omega) (Int.mul_nonneg hn.1 (by have := ll_pos hs (k := hist.length) (d := r.1) (by omega); omega)) hL _ (by omega) (by rw [en, hS]; omega), en, hS, Int.emod_eq_of_lt h3 h4]
    · rw [if_neg hd2, sm_const0 fun g _ => if_neg hd2]
  · have e : ∀ hh : List Int, wW rs cs rows hh d = if hh.all (fun h => decide (h = 0)) then at0 cs (d - 1) else 0 := fun hh => by
      unfold wW
      rw [if_neg h]
    rw [e hist, sm_congr fun g _ => e (hist ++ [(g : Int)]), sm_one (by omega)]
    · simp
    · intro i i0 _
      have : ((i : Int) = 0) = False := by simp; omega
      simp
      omega
/-! strategies -/
inductive Stg
  | bal
  | even
  | joint
  | plan (rows : List Row)
def SR (rs cs : List Int) : Stg → SpR
  | .bal => fun _ rest pos gs => gs = balS rest pos
  | .even => fun _ rest pos gs => gs = evenS rest pos
  | .joint => fun _ rest pos gs => gs = jointS rest pos
  | .plan rows => fun hist _ _ gs => gs = planS rs cs rows hist
def JU (hist rest pos : List Int) : Prop := Sched rest ∧ NN pos ∧ pos.length ≤ 200
def JP (rs cs : List Int) (rows : List Row) (hist rest pos : List Int) : Prop := HistOk rs hist ∧ rest = rs.drop hist.length ∧ pos = posP rs cs rows hist
def JR (rs cs : List Int) : Stg → List Int → List Int → List Int → Prop
  | .plan rows => JP rs cs rows
  | _ => JU
def StgOk (rs cs : List Int) : Stg → Prop
  | .plan rows => PlanOk rs cs rows
  | _ => True
theorem climb_nn {g : List Int} (h : NN g) : NN (climb g).2 := by
  cases g with
  | nil => exact fun x hx => nomatch hx
  | cons c cs =>
    intro x hx
    rcases List.mem_append.mp hx with hx | hx
    · exact h x (List.mem_cons_of_mem _ hx)
    · have : x = 0 := by simpa using hx
      omega
theorem climb_len (g : List Int) : (climb g).2.length = g.length := by cases g <;> simp [climb]
theorem climb_nn1 {g : List Int} (h : NN g) : 0 ≤ (climb g).1 := by
  cases g with
  | nil => show (0 : Int) ≤ 0; omega
  | cons c cs => exact h c List.mem_cons_self
theorem getD_memL {gs : List (List Int)} {g : Nat} (h : g < gs.length) : gs.getD g [] ∈ gs := by
  have : gs.getD g [] = gs[g] := by simp [h]
  rw [this]
  exact List.getElem_mem h
theorem fairU {S : SpR} (hl : ∀ hist r rs pos gs, JU hist (r :: rs) pos → S hist (r :: rs) pos gs → (gs.length : Int) = r) (hs : ∀ hist r rs pos gs, JU hist (r :: rs) pos → S hist (r :: rs) pos gs → IsSplit gs pos) : Fair S JU :=
  ⟨hl, hs, fun hist r rs pos gs g j s hg => by
    have h1 := hl hist r rs pos gs j s
    have h2 := hs hist r rs pos gs j s
    have hm := getD_memL (gs := gs) (g := g) (by omega)
    exact ⟨j.1.tail, climb_nn (h2.nn _ hm), by rw [climb_len, h2.len _ hm]; exact j.2.2⟩⟩
theorem posP_len (rs cs : List Int) (rows : List Row) (hist : List Int) : (posP rs cs rows hist).length = cs.length := by simp [posP]
theorem planS_get {rs cs : List Int} {rows : List Row} {hist : List Int} {g : Nat} (hg : (g : Int) < at0 rs hist.length) : (planS rs cs rows hist).getD g [] = (List.range cs.length).map fun e => wW rs cs rows (hist ++ [(g : Int)]) (e + hist.length + 1) := by
  unfold planS
  exact getD_map _ (fun (g : Nat) => (List.range cs.length).map fun e => wW rs cs rows (hist ++ [(g : Int)]) (e + hist.length + 1)) (by omega)
theorem climb_map (n : Nat) (f : Nat → Int) (h : f n = 0) : climb ((List.range n).map f) = (if n = 0 then 0 else f 0, (List.range n).map fun e => f (e + 1)) := by
  cases n with
  | zero => rfl
  | succ n =>
    rw [if_neg (by omega)]
    have e : (List.range (n + 1)).map f = f 0 :: (List.range n).map fun e => f (e + 1) := by
      rw [List.range_succ_eq_map, List.map_cons, List.map_map]
      rfl
    rw [e]
    show (f 0, ((List.range n).map fun e => f (e + 1)) ++ [0]) = _
    rw [← h, List.range_succ, List.map_append]
    rfl
theorem planS_climb {rs cs : List Int} {rows : List Row} (p : PlanOk rs cs rows) {hist : List Int} {g : Nat} (hg : (g : Int) < at0 rs hist.length) :
    climb ((planS rs cs rows hist).getD g []) = (wW rs cs rows (hist ++ [(g : Int)]) (hist.length + 1), posP rs cs rows (hist ++ [(g : Int)])) := by
  rw [planS_get hg, climb_map _ _ (by exact wW_out p _ (by omega))]
  have e : hist.length + 1 = (hist ++ [(g : Int)]).length := by simp
  congr 1
  · split
    · rename_i h
      rw [wW_out p _ (by omega)]
    · rw [Nat.zero_add]
  · unfold posP
    refine List.map_congr_left fun i _ => ?_
    rw [← e]
    congr 1
    omega
theorem fairP {rs cs : List Int} (hs : Sched rs) (hc : NN cs) {rows : List Row} (p : PlanOk rs cs rows) : Fair (SR rs cs (.plan rows)) (JR rs cs (.plan rows)) := by
  have key : ∀ hist r rest pos, JP rs cs rows hist (r :: rest) pos → hist.length < rs.length ∧ at0 rs hist.length = r ∧ rs.drop (hist.length + 1) = rest := fun hist r rest pos j => by
    have hl : hist.length < rs.length := by
      by_cases h : hist.length < rs.length
      · exact h
      · have := j.2.1
        rw [List.drop_eq_nil_of_le (by omega)] at this
        cases this
    have := j.2.1
    rw [drop_eq hl] at this
    injection this with a b
    exact ⟨hl, a.symm, b.symm⟩
  refine ⟨?_, ?_, ?_⟩
  · rintro hist r rest pos gs j rfl
    obtain ⟨hl, e1, e2⟩ := key _ _ _ _ j
    have := hs _ (at0_mem hl)
    unfold planS
    rw [List.length_map, List.length_range]
    omega
  · rintro hist r rest pos gs j rfl
    obtain ⟨hl, e1, e2⟩ := key _ _ _ _ j
    obtain ⟨H, _, rfl⟩ := j
    refine ⟨fun g hg => ?_, fun g hg => ?_, fun i hi => ?_⟩
    · obtain ⟨n, hn, rfl⟩ := List.mem_map.mp hg
      rw [posP_len]
      simp
    · obtain ⟨n, hn, rfl⟩ := List.mem_map.mp hg
      intro x hx
      obtain ⟨i, hi, rfl⟩ := List.mem_map.mp hx
      exact wW_nn hs hc p _ (by rw [List.length_append]; show hist.length + 1 ≤ _; omega)
    · rw [posP_len] at hi
      unfold planS
      rw [colSum_map]
      have e : (sm (at0 rs hist.length).toNat fun g => at0 ((List.range cs.length).map fun e => wW rs cs rows (hist ++ [(g : Int)]) (e + hist.length + 1)) i) = sm (at0 rs hist.length).toNat fun g => wW rs cs rows (hist ++ [(g : Int)]) (i + hist.length + 1) := sm_congr fun g _ => by rw [at0_map, if_pos hi]
      rw [e, wW_sum hs p H hl (by omega)]
      show _ = at0 (posP rs cs rows hist) i
      unfold posP
      rw [at0_map, if_pos hi]
  · rintro hist r rest pos gs g j rfl hg
    obtain ⟨hl, e1, e2⟩ := key _ _ _ _ j
    obtain ⟨H, _, rfl⟩ := j
    refine ⟨H.snoc hl (by omega) (by omega), ?_, ?_⟩
    · rw [List.length_append]
      exact e2.symm
    · rw [planS_climb p (by omega)]
theorem fair {rs cs : List Int} (hs : Sched rs) (hc : NN cs) : ∀ s, StgOk rs cs s → Fair (SR rs cs s) (JR rs cs s)
  | .bal, _ => fairU (fun hist r rest pos gs j e => by
      rw [show gs = _ from e]; exact balS_len (rs := r :: rest) (by have := j.1 r List.mem_cons_self; show 0 ≤ r; omega)) (fun hist r rest pos gs j e => by
      rw [show gs = _ from e]; exact balS_split j.1 (by simp) j.2.1)
  | .even, _ => fairU (fun hist r rest pos gs j e => by
      rw [show gs = _ from e]; exact evenS_len (rs := r :: rest) (by have := j.1 r List.mem_cons_self; show 0 ≤ r; omega)) (fun hist r rest pos gs j e => by
      rw [show gs = _ from e]; exact evenS_split j.1 (by simp) j.2.1)
  | .joint, _ => fairU (fun hist r rest pos gs j e => by
      rw [show gs = _ from e]; exact jointS_len (rs := r :: rest) (by have := j.1 r List.mem_cons_self; show 1 ≤ r; omega)) (fun hist r rest pos gs j e => by
      rw [show gs = _ from e]; exact jointS_split j.2.1)
  | .plan rows, p => fairP hs hc p
theorem list_at (cs : List Int) : (List.range cs.length).map (at0 cs) = cs := ext_getD (by simp) fun i hi => by
  show at0 _ i = at0 cs i
  rw [at0_map, if_pos (by simpa using hi)]
theorem root {rs cs : List Int} (hs : Sched rs) (hc : NN cs) (hl : cs.length ≤ 200) : ∀ s, StgOk rs cs s → JR rs cs s [] rs cs
  | .bal, _ => ⟨hs, hc, hl⟩
  | .even, _ => ⟨hs, hc, hl⟩
  | .joint, _ => ⟨hs, hc, hl⟩
  | .plan rows, p => by
    refine ⟨⟨by simp, (fun i hi => nomatch hi), (fun i hi => nomatch hi)⟩, rfl, ?_⟩
    conv => lhs; rw [← list_at cs]
    unfold posP
    exact List.map_congr_left fun e _ => (wW_root hs p (d := e + 1) (by omega)).symm
theorem jr_pos {rs cs : List Int} (hs : Sched rs) (hc : NN cs) (hl : cs.length ≤ 200) : ∀ s, StgOk rs cs s → ∀ hist rest pos, JR rs cs s hist rest pos → NN pos ∧ pos.length ≤ 200
  | .bal, _, _, _, _, j => j.2
  | .even, _, _, _, _, j => j.2
  | .joint, _, _, _, _, j => j.2
  | .plan rows, p, hist, rest, pos, j => by
    obtain ⟨H, _, rfl⟩ := j
    refine ⟨fun x hx => ?_, by rw [posP_len]; exact hl⟩
    obtain ⟨i, _, rfl⟩ := List.mem_map.mp hx
    exact wW_nn hs hc p _ (by omega)
/-! the balanced splitter is tight -/
theorem bal_tight (rs cs : List Int) : Tight (SR rs cs .bal) (JR rs cs .bal) := by
  rintro hist r rest pos gs g j rfl hg
  have h0 := j.1 r List.mem_cons_self
  have hQ := j.1.tail.prd_pos
  have hP := j.1.prd_pos
  rw [bal_sw j.1 (by simp) j.2.1 (g := g) hg]
  exact ⟨gG_lo, gG_hi hP (Int.mul_nonneg (by omega) (by show 0 ≤ prd rest; omega)) (by show 0 ≤ prd rest; omega)⟩
/-! the made plan -/
def mkRows (rs cs : List Int) : Nat → List Row
  | 0 => []
  | i + 1 => mkRows rs cs i ++ if 0 < at0 cs i then [(i + 1, tT rs cs i * at0 rs i % pp rs (i + 1), at0 cs i)] else []
theorem mkRows_len (rs cs : List Int) : ∀ m, (mkRows rs cs m).length ≤ m
  | 0 => Nat.le_refl _
  | m + 1 => by
    have := mkRows_len rs cs m
    show (mkRows rs cs m ++ _).length ≤ _
    rw [List.length_append]
    split <;> simp <;> omega
theorem mk_sum {rs cs : List Int} (hc : NN cs) (F : Row → Int) (hF : ∀ i, at0 cs i = 0 → F (i + 1, tT rs cs i * at0 rs i % pp rs (i + 1), at0 cs i) = 0) (d : Nat) : ∀ m,
    ((mkRows rs cs m).map fun r => if r.1 = d then F r else 0).sum = if 1 ≤ d ∧ d ≤ m then F (d, tT rs cs (d - 1) * at0 rs (d - 1) % pp rs d, at0 cs (d - 1)) else 0
  | 0 => by
    rw [if_neg (by omega)]
    rfl
  | m + 1 => by
    show ((mkRows rs cs m ++ _).map _).sum = _
    rw [List.map_append, List.sum_append, mk_sum hc F hF d m]
    by_cases hd : d = m + 1
    · subst hd
      rw [if_neg (show ¬ (1 ≤ m + 1 ∧ m + 1 ≤ m) by omega), if_pos (show 1 ≤ m + 1 ∧ m + 1 ≤ m + 1 by omega)]
      split
      · simp
      · rename_i h0
        have := at0_nn hc m
        have h2 := hF m (by omega)
        show 0 + 0 = F (m + 1, tT rs cs m * at0 rs m % pp rs (m + 1), at0 cs m)
        omega
    · have e : (List.map (fun r : Row => if r.1 = d then F r else 0) (if 0 < at0 cs m then [(m + 1, tT rs cs m * at0 rs m % pp rs (m + 1), at0 cs m)] else [])).sum = 0 := by
        split
        · have : ¬ (m + 1 = d) := fun e => hd e.symm
          simp [this]
        · rfl
      rw [e]
      by_cases h1 : 1 ≤ d ∧ d ≤ m
      · rw [if_pos h1, if_pos (by omega)]
        omega
      · rw [if_neg h1, if_neg (by omega)]
        omega
theorem mk_row {rs cs : List Int} (hs : Sched rs) : ∀ m, m ≤ rs.length → ∀ r ∈ mkRows rs cs m, RowOk rs r
  | 0, _, r, h => nomatch h
  | m + 1, hm, r, h => by
    rcases List.mem_append.mp (show r ∈ mkRows rs cs m ++ _ from h) with h | h
    · exact mk_row hs m (by omega) r h
    · split at h
      · have e : r = (m + 1, tT rs cs m * at0 rs m % pp rs (m + 1), at0 cs m) := by simpa using h
        subst e
        have hp := pp_pos hs (m + 1)
        exact ⟨by simp, hm, Int.emod_nonneg _ (by omega), Int.emod_lt_of_pos _ hp, by show 1 ≤ at0 cs m; omega⟩
      · cases h
abbrev mkAll (rs cs : List Int) : List Row := mkRows rs cs (min cs.length rs.length)
theorem mk_ok {rs cs : List Int} (hs : Sched rs) (hc : NN cs) (hl : cs.length ≤ 200) : PlanOk rs cs (mkAll rs cs) := by
  refine ⟨mk_row hs _ (by omega), fun d h1 h2 => ?_, Nat.le_trans (mkRows_len rs cs _) (by omega)⟩
  unfold totR mkAll
  rw [mk_sum hc (fun r => r.2.2) (fun _ h => h)]
  split
  · rfl
  · rw [at0_out (by omega)]
theorem cb_none {size f start L : Int} (h : 0 < size) (l0 : 0 < L) : cbF size f 0 start L = 0 := by
  have := Int.emod_nonneg (start - f) (show size ≠ 0 by omega)
  have := Int.emod_lt_of_pos (start - f) h
  unfold cbF
  rw [Int.zero_ediv, Int.zero_emod]
  omega
theorem wW_made {rs cs : List Int} (hs : Sched rs) (hc : NN cs) {hist : List Int} (H : HistOk rs hist) (h : 1 ≤ hist.length) :
    wW rs cs (mkAll rs cs) hist hist.length = gG (pp rs hist.length) (nm rs hist) 1 (tT rs cs hist.length) - gG (pp rs hist.length) (nm rs hist) 1 (tT rs cs (hist.length - 1) * at0 rs (hist.length - 1)) := by
  obtain ⟨b1, b2⟩ := H.nm_bound hs hist.length (Nat.le_refl _)
  have hl := H.len
  have hP := pp_pos hs hist.length
  unfold wW
  rw [if_pos H.len]
  unfold mkAll
  have hz : ∀ i, at0 cs i = 0 → (if hist.length = i + 1 then cbR rs (nm rs hist) hist.length (i + 1, tT rs cs i * at0 rs i % pp rs (i + 1), at0 cs i) else 0) = 0 := fun i hi => by
    split
    · rename_i e
      unfold cbR
      show cbF (pp rs (i + 1)) _ (at0 cs i) _ _ = 0
      rw [hi]
      exact cb_none (pp_pos hs _) (ll_pos hs (by show hist.length ≤ i + 1; omega))
    · rfl
  have e0 : ((mkRows rs cs (min cs.length rs.length)).map fun r => if r.1 = hist.length then cbR rs (nm rs hist) hist.length r else 0)
      = (mkRows rs cs (min cs.length rs.length)).map fun r => if r.1 = hist.length then (fun q : Row => if hist.length = q.1 then cbR rs (nm rs hist) hist.length q else 0) r else 0 := List.map_congr_left fun r _ => by
    by_cases e : r.1 = hist.length
    · rw [if_pos e, if_pos e]
      show _ = if hist.length = r.1 then _ else _
      rw [if_pos e.symm]
    · rw [if_neg e, if_neg e]
  rw [e0, mk_sum hc (fun q : Row => if hist.length = q.1 then cbR rs (nm rs hist) hist.length q else 0) hz]
  have e3 : tT rs cs hist.length = tT rs cs (hist.length - 1) * at0 rs (hist.length - 1) + at0 cs (hist.length - 1) := by
    have : hist.length = (hist.length - 1) + 1 := by omega
    conv => lhs; rw [this]
    rfl
  have e4 : cbF (pp rs hist.length) (tT rs cs (hist.length - 1) * at0 rs (hist.length - 1) % pp rs hist.length) (at0 cs (hist.length - 1)) (nm rs hist * 1) 1 = gG (pp rs hist.length) (nm rs hist) 1 (tT rs cs hist.length) - gG (pp rs hist.length) (nm rs hist) 1 (tT rs cs (hist.length - 1) * at0 rs (hist.length - 1)) := by
    rw [Int.mul_one, cb_gG hP (at0_nn hc _) b1 (by omega) (by omega), e3]
  rw [← e4]
  split
  · show (if hist.length = hist.length then cbR rs (nm rs hist) hist.length _ else 0) = _
    rw [if_pos rfl]
    unfold cbR
    show cbF (pp rs hist.length) _ _ (nm rs hist * ll rs hist.length hist.length) (ll rs hist.length hist.length) = _
    rw [ll_self hs]
  · rw [at0_out (xs := cs) (by omega), cb_none hP (by omega)]
theorem made_val {rs cs : List Int} (hs : Sched rs) (hc : NN cs) (hl : cs.length ≤ 200) {C : ChR} {rest hist pos : List Int} {x : Int} (g : Game (SR rs cs (.plan (mkAll rs cs))) C rest hist pos x) : JP rs cs (mkAll rs cs) hist rest pos →
    ∃ N, 0 ≤ N ∧ x = gG (pp rs rs.length) N 1 (tT rs cs rs.length) - gG (pp rs hist.length) (nm rs hist) 1 (tT rs cs hist.length) := by
  have P := mk_ok hs hc hl
  induction g with
  | nil hist pos =>
    intro j
    obtain ⟨H, e, _⟩ := j
    have hl := H.len
    have : hist.length = rs.length := by
      have e2 := congrArg List.length e
      rw [List.length_drop] at e2
      simp at e2
      omega
    refine ⟨nm rs hist, (H.nm_bound hs _ (Nat.le_refl _)).1, ?_⟩
    rw [this]
    omega
  | @cons r rest hist pos gs g x hS hC hg _ ih =>
    intro j
    have F := fairP hs hc P
    have j2 := F.step _ _ _ _ _ g j hS hg
    obtain ⟨N, n0, e⟩ := ih j2
    obtain ⟨H, ed, rfl⟩ := j
    have hll : hist.length < rs.length := by
      by_cases h : hist.length < rs.length
      · exact h
      · rw [List.drop_eq_nil_of_le (by omega)] at ed
        cases ed
    rw [drop_eq hll] at ed
    injection ed with e1 e2
    have hS' : gs = planS rs cs (mkAll rs cs) hist := hS
    subst hS'
    have H2 := H.snoc (g := (g : Int)) hll (by omega) (by omega)
    have en : (hist ++ [(g : Int)]).length = hist.length + 1 := by simp
    have w := wW_made hs hc H2 (by omega)
    rw [en] at w e
    refine ⟨N, n0, ?_⟩
    rw [planS_climb P (by omega)]
    show wW rs cs (mkAll rs cs) (hist ++ [(g : Int)]) (hist.length + 1) + x = _
    have e5 : gG (pp rs (hist.length + 1)) (nm rs (hist ++ [(g : Int)])) 1 (tT rs cs hist.length * at0 rs hist.length) = gG (pp rs hist.length) (nm rs hist) 1 (tT rs cs hist.length) := by
      rw [pp_succ hll, nm_snoc]
      exact gG_one (pp_pos hs _) (by omega) (by omega)
    rw [w, e, Nat.add_sub_cancel, e5]
    omega
theorem made_tight {rs cs : List Int} (hs : Sched rs) (hc : NN cs) (hl : cs.length ≤ 200) {C : ChR} {x : Int} (g : Game (SR rs cs (.plan (mkAll rs cs))) C rs [] cs x) : sw rs cs / prd rs ≤ x ∧ x ≤ -((-(sw rs cs)) / prd rs) := by
  obtain ⟨N, n0, e⟩ := made_val hs hc hl g (root hs hc hl (.plan (mkAll rs cs)) (mk_ok hs hc hl))
  have hP := pp_pos hs rs.length
  have z : gG (pp rs ([] : List Int).length) (nm rs []) 1 (tT rs cs ([] : List Int).length) = 0 := by
    show gG _ 0 1 0 = 0
    exact gG_zero (by omega)
  rw [z, tT_all] at e
  have e2 : pp rs rs.length = prd rs := prd_all rs
  rw [e2] at e hP
  have h1 := gG_lo (size := prd rs) (s := N) (L := 1) (t := sw rs cs)
  have h2 := gG_hi (s := N) (L := 1) (t := sw rs cs) hP n0 (by omega)
  omega
/-- what a good strategy's games give -/
def Within (rs cs : List Int) (s : Stg) : Prop := ∀ C x, Game (SR rs cs s) C rs [] cs x → sw rs cs / prd rs ≤ x ∧ x ≤ -((-(sw rs cs)) / prd rs)
theorem within_bal {rs cs : List Int} (hs : Sched rs) (hc : NN cs) (hl : cs.length ≤ 200) : Within rs cs .bal := fun C x g => tight (fair hs hc .bal trivial) (bal_tight rs cs) g hs (root hs hc hl .bal trivial)
theorem within_made {rs cs : List Int} (hs : Sched rs) (hc : NN cs) (hl : cs.length ≤ 200) : Within rs cs (.plan (mkAll rs cs)) := fun C x g => made_tight hs hc hl g
theorem few_le {rs cs : List Int} (hs : Sched rs) (hc : NN cs) (hl : cs.length ≤ 200) {s : Stg} (ok : StgOk rs cs s) {x : Int} (g : Game (SR rs cs s) IsLight rs [] cs x) : x ≤ sw rs cs / prd rs := by
  have h := light (fair hs hc s ok) g hs (root hs hc hl s ok)
  exact (Int.le_ediv_iff_mul_le hs.prd_pos).mpr h
theorem many_ge {rs cs : List Int} (hs : Sched rs) (hc : NN cs) (hl : cs.length ≤ 200) {s : Stg} (ok : StgOk rs cs s) {x : Int} (g : Game (SR rs cs s) IsHeavy rs [] cs x) : -((-(sw rs cs)) / prd rs) ≤ x := by
  have h := heavy (fair hs hc s ok) g hs (root hs hc hl s ok)
  have : -x ≤ (-(sw rs cs)) / prd rs := (Int.le_ediv_iff_mul_le hs.prd_pos).mpr (by rw [Int.neg_mul]; omega)
  omega
end SC

/-! part M6 -/
set_option Elab.async false
set_option linter.all false
set_option maxHeartbeats 2000000
namespace SC
/-! tables -/
def mf (R n : Nat) (F : Nat → Nat → Int) : List (List Int) := (List.range R).map fun g => (List.range n).map (F g)
theorem row_get {n : Nat} {F : Nat → Int} {j : Nat} (h : j < n) : ((List.range n).map F)[j]? = some (F j) := by simp [h]
theorem row_set {n : Nat} {F : Nat → Int} {j : Nat} (h : j < n) (v : Int) : ((List.range n).map F).set j v = (List.range n).map fun e => if e = j then v else F e := by
  apply List.ext_getElem?
  intro i
  by_cases hi : i < n
  · rw [row_get hi]
    by_cases e : j = i
    · subst e
      rw [List.getElem?_set_self (by simp [h]), if_pos rfl]
    · rw [List.getElem?_set_ne e, row_get hi, if_neg (fun z => e z.symm)]
  · rw [List.getElem?_eq_none (by simp; omega), List.getElem?_eq_none (by simp; omega)]
theorem row_congr {n : Nat} {F G : Nat → Int} (h : ∀ e, e < n → F e = G e) : (List.range n).map F = (List.range n).map G := List.map_congr_left fun e he => h e (List.mem_range.mp he)
theorem mf_congr {R n : Nat} {F G : Nat → Nat → Int} (h : ∀ g e, g < R → e < n → F g e = G g e) : mf R n F = mf R n G := List.map_congr_left fun g hg => row_congr fun e he => h g e (List.mem_range.mp hg) he
theorem mf_get {R n : Nat} {F : Nat → Nat → Int} {g : Nat} (h : g < R) : (mf R n F)[g]? = some ((List.range n).map (F g)) := by simp [mf, h]
theorem mf_len (R n : Nat) (F : Nat → Nat → Int) : (mf R n F).length = R := by simp [mf]
theorem mf_set {R n : Nat} {F : Nat → Nat → Int} {g : Nat} (h : g < R) (G : Nat → Int) : (mf R n F).set g ((List.range n).map G) = mf R n fun g' => if g' = g then G else F g' := by
  apply List.ext_getElem?
  intro i
  by_cases hi : i < R
  · rw [mf_get hi]
    by_cases e : g = i
    · subst e
      rw [List.getElem?_set_self (by rw [mf_len]; exact h), if_pos rfl]
    · rw [List.getElem?_set_ne e, mf_get hi, if_neg (fun z => e z.symm)]
  · rw [List.getElem?_eq_none (by rw [List.length_set, mf_len]; omega), List.getElem?_eq_none (by rw [mf_len]; omega)]
/-! the entries of a plan's split, row by row -/
def pE (rs hist : List Int) (rows : List Row) (g e : Nat) : Int :=
  (rows.map fun r => if r.1 = e + hist.length + 1 then cbR rs (nm rs hist * at0 rs hist.length + (g : Int)) (hist.length + 1) r else 0).sum
theorem pE_snoc (rs hist : List Int) (rows : List Row) (r : Row) (g e : Nat) : pE rs hist (rows ++ [r]) g e = pE rs hist rows g e + if r.1 = e + hist.length + 1 then cbR rs (nm rs hist * at0 rs hist.length + (g : Int)) (hist.length + 1) r else 0 := by
  unfold pE
  rw [List.map_append, List.sum_append]
  simp
def exE (rs cs hist : List Int) (g e : Nat) : Int := if hist.all (fun h => decide (h = 0)) = true ∧ g = 0 ∧ rs.length ≤ e + hist.length then at0 cs (e + hist.length) else 0
theorem planS_mf {rs cs : List Int} {rows : List Row} (p : PlanOk rs cs rows) (hist : List Int) : planS rs cs rows hist = mf (at0 rs hist.length).toNat cs.length fun g e => pE rs hist rows g e + exE rs cs hist g e := by
  unfold planS
  refine List.map_congr_left fun g hg => row_congr fun e he => ?_
  show wW rs cs rows (hist ++ [(g : Int)]) (e + hist.length + 1) = pE rs hist rows g e + exE rs cs hist g e
  unfold wW
  by_cases h : e + hist.length + 1 ≤ rs.length
  · rw [if_pos h]
    have e0 : exE rs cs hist g e = 0 := by
      unfold exE
      rw [if_neg (by omega)]
    rw [e0, Int.add_zero]
    unfold pE
    congr 1
    refine List.map_congr_left fun r _ => ?_
    rw [nm_snoc, List.length_append]
    rfl
  · rw [if_neg h]
    have e0 : pE rs hist rows g e = 0 := by
      unfold pE
      refine list_sum_zero fun x hx => ?_
      obtain ⟨r, hr, rfl⟩ := List.mem_map.mp hx
      have := (p.row r hr).2.1
      rw [if_neg (by omega)]
    rw [e0, Int.zero_add]
    unfold exE
    rw [Nat.add_sub_cancel, List.all_append]
    by_cases h0 : hist.all (fun h => decide (h = 0)) = true
    · by_cases hg0 : g = 0
      · rw [if_pos (by rw [h0, hg0]; rfl), if_pos ⟨h0, hg0, by omega⟩]
      · rw [if_neg (by rw [h0]; simp; omega), if_neg (by intro z; exact hg0 z.2.1)]
    · rw [if_neg (by intro z; exact h0 (Bool.and_eq_true_iff.mp z).1), if_neg (by intro z; exact h0 z.1)]
end SC

/-! part E1 -/
set_option Elab.async false
set_option linter.all false
set_option maxRecDepth 100000
set_option maxHeartbeats 4000000
namespace SC
open PySem PySem.Spec PyProof.Rows L2
/-! a list (k = true) or a tuple (k = false) that is walked -/
def SqK (k : Bool) (K : PySem.W.Frag) (H : Hp) (a : Addr) (xs : List V) : Prop := if k = true then SqL K H a xs else SqT K H a xs
def StandsK (k : Bool) (h : Heap) (a : Addr) (its : Array Value) : Prop := if k = true then h.IsList a its else h.IsTuple a its
def IterK (k : Bool) (h : Heap) (it a : Addr) (i : Nat) : Prop := if k = true then h.IsListIter it a i else h.IsTupleIter it a i
def itO (k : Bool) (a : Addr) : Obj := { cls := .type (if k then "list_iterator" else "tuple_iterator"), data := .fields #[.ref a, .int 0 0] }
theorem inv_seqK {k : Bool} {X : Cx} {pins : List (Addr × Obj)} {σ : L2.St} {H : Hp} {s : Shared} {a : Addr} {xs : List V} (I : Inv X pins σ H s) (h : SqK k X.K H a xs) :
    ∃ its : List Value, Vals xs its ∧ StandsK k s.heap a its.toArray := by
  cases k with
  | true =>
    obtain ⟨its, r, p, _⟩ := I.list (show SqL X.K H a xs from h)
    exact ⟨its, r, p.isList⟩
  | false =>
    obtain ⟨its, r, p, _⟩ := I.tuple (show SqT X.K H a xs from h)
    exact ⟨its, r, p⟩
theorem seqK_inj {k : Bool} {X : Cx} {pins : List (Addr × Obj)} {σ : L2.St} {H : Hp} {s : Shared} {a : Addr} {xs ys : List V} (I : Inv X pins σ H s) (h : SqK k X.K H a xs) (h2 : SqK k X.K H a ys) : xs = ys := by
  cases k with
  | true => exact I.list_inj h h2
  | false => exact I.tuple_inj h h2
theorem stands_lt {k : Bool} {h : Heap} {a : Addr} {its : Array Value} (p : StandsK k h a its) : a < h.objs.size := by
  cases k with
  | true => obtain ⟨o, e, _⟩ := (show h.IsList a its from p); exact Heap.lt_size e
  | false => obtain ⟨o, e, _⟩ := (show h.IsTuple a its from p); exact Heap.lt_size e
theorem iterK_obj {k : Bool} {h : Heap} {it a : Addr} {i : Nat} (p : IterK k h it a i) : ∃ o, h.get? it = some o ∧ ∀ v, o.data ≠ .cell v := by
  cases k with
  | true =>
    obtain ⟨o, e, c, d⟩ := (show h.IsListIter it a i from p)
    exact ⟨o, e, fun v q => by rw [d] at q; cases q⟩
  | false =>
    obtain ⟨o, e, c, d⟩ := (show h.IsTupleIter it a i from p)
    exact ⟨o, e, fun v q => by rw [d] at q; cases q⟩
theorem iterK_at {k : Bool} {h h' : Heap} {it a : Addr} {i : Nat} (p : IterK k h it a i) (q : ∀ o, h.get? it = some o → h'.get? it = some o) : IterK k h' it a i := by
  cases k with
  | true => obtain ⟨o, e, r⟩ := (show h.IsListIter it a i from p); exact ⟨o, q o e, r⟩
  | false => obtain ⟨o, e, r⟩ := (show h.IsTupleIter it a i from p); exact ⟨o, q o e, r⟩
theorem itO_at {k : Bool} {h : Heap} {it a : Addr} (e : h.get? it = some (itO k a)) : IterK k h it a 0 := by
  cases k with
  | true => exact ⟨_, e, rfl, rfl⟩
  | false => exact ⟨_, e, rfl, rfl⟩
theorem drawsK {k : Bool} {prog : Program} {w : World} {A : Around} (hh : A.handled = none) (it a : Addr) (hne : a ≠ it) (items : Array Value) :
    ∃ fp, (∀ b ∈ fp, b = it ∨ b = a) ∧ it ∈ fp ∧ Draws prog w A it fp items.size (fun i v => items[i]? = some v) (fun i h => IterK k h it a i ∧ StandsK k h a items) := by
  cases k with
  | true =>
    refine ⟨[it, a], fun b hb => by simpa using hb, by simp, ?_⟩
    exact Draws.list hh it a hne items
  | false =>
    refine ⟨[it, a], fun b hb => by simpa using hb, by simp, ?_⟩
    exact Draws.tuple hh it a hne items
theorem beginsK (k : Bool) (a : Addr) (items : Array Value) : Begins (.ref a) (itO k a) fun h => StandsK k h a items := by
  cases k with
  | true => exact begins_list a items
  | false => exact begins_tuple a items
/-! enumerate(x), enumerate(x, k0) -/
def IteK (k : Bool) (K : PySem.W.Frag) (a : Addr) (k0 : Int) : It :=
  ⟨fun i H => ∃ (xs : List V) (x : V), SqK k K H a xs ∧ xs[i]? = some x,
    fun i H v H' => ∃ T x, v = .ref T ∧ H T = none ∧ H' = upd H T (.tup [.int (k0 + (i : Nat)), x]) ∧ ∀ xs, SqK k K H a xs → xs[i]? = some x,
    fun i H => ∃ xs : List V, SqK k K H a xs ∧ xs.length = i⟩
theorem turn_enumK {k : Bool} {P : Program} {w : World} {K : PySem.W.Frag} {elts : List Expr} {kk : Nat} {tpos : Pos} (a e it : Addr) (k0 : Int) :
    Turn P w K (.Tuple elts kk tpos) (IteK k K a k0) [e, it] e (fun i h => (∃ old, IsEnum h e it (k0 + ((i : Nat) : Int)) old) ∧ IterK k h it a i ∧ e ≠ it ∧ a ≠ it ∧ a ≠ e) where
  mem := by simp
  obj := fun i h st b hb => by
    obtain ⟨⟨old, he⟩, hi, _⟩ := st
    have e' : b = e ∨ b = it := by simpa using hb
    rcases e' with z | z
    · rw [z]; exact ⟨_, he, fun v q => nomatch q⟩
    · rw [z]; exact iterK_obj hi
  keep := fun i h h' st q => by
    obtain ⟨⟨old, he⟩, hi, hn⟩ := st
    exact ⟨⟨old, q e (by simp) _ he⟩, iterK_at hi fun o z => q it (by simp) o z, hn⟩
  item := by
    intro X hP hw hK hc i pins s σ H E I hf st hg
    subst hP hw hK
    obtain ⟨hen, hit, hne, hai, hae⟩ := st
    obtain ⟨xs, x, hq, hx⟩ := hg
    obtain ⟨its, rv, p⟩ := inv_seqK I hq
    obtain ⟨u, hu, ru⟩ := rv.get hx
    obtain ⟨fp, hfp, hmem, D⟩ := drawsK (k := k) (prog := X.prog) (w := X.w) (A := X.A.in1) (show X.A.in1.handled = none from I.ok.hd hc) it a hai its.toArray
    have W := GoesN.enumFrom (elts := elts) (x1 := kk) (pos := tpos) k0 D e hne (fun z => (hfp e z).elim hne (fun q => hae q.symm)) hmem
    have hlt : i < its.toArray.size := by
      have := (List.getElem?_eq_some_iff.mp hu).1
      simpa using this
    refine W.goes i s _ E hlt ⟨hen, hit, p⟩ fun v h' tk hY st' hk htk => ?_
    obtain ⟨T, t, y, rfl, hT, hy, hTup⟩ := hY
    obtain ⟨hen', hit', _⟩ := st'
    have ey : y = u := by
      have q1 : its.toArray[i]? = some u := by simpa using hu
      rw [q1] at hy
      exact (Option.some.inj hy).symm
    subst ey
    have new : ObjOk X.prog X.w (upd H T (.tup [.int (k0 + (i : Nat)), x])) h' T (.tup [.int (k0 + (i : Nat)), x]) :=
      ⟨by show 2 ≤ sizeLine; decide, [.int (k0 + (i : Nat)) t, y], .cons ⟨_, rfl⟩ (.cons ru .nil), hTup⟩
    have I1 := I.turnedNew (t' := tk) (ch := [e, it]) (fun b ob hb q => hk b ob hb q) hf hT new
    refine ⟨.ref T, _, I1, rfl, ⟨T, x, rfl, I.hok.fresh hT, rfl, fun ys hys => by rw [seqK_inj I hys hq]; exact hx⟩, ⟨hen', hit', hne, hai, hae⟩, fun b hb => ?_⟩
    have hb' : b < s.heap.objs.size := by
      have e' : b = e ∨ b = it := by simpa using hb
      rcases e' with z | z
      · obtain ⟨old, he⟩ := hen
        rw [z]; exact Heap.lt_size he
      · obtain ⟨o, ho, _⟩ := iterK_obj hit
        rw [z]; exact Heap.lt_size ho
    rw [upd_ne (Nat.ne_of_lt (Nat.lt_of_lt_of_le hb' hT))]
    exact (hf b hb).1
  done := by
    intro X hP hw hK hc i pins s σ H E I hf st hg
    subst hP hw hK
    obtain ⟨hen, hit, hne, hai, hae⟩ := st
    obtain ⟨xs, hq, hx⟩ := hg
    obtain ⟨its, rv, p⟩ := inv_seqK I hq
    obtain ⟨fp, hfp, hmem, D⟩ := drawsK (k := k) (prog := X.prog) (w := X.w) (A := X.A.in1) (show X.A.in1.handled = none from I.ok.hd hc) it a hai its.toArray
    have W := GoesN.enumFrom (elts := elts) (x1 := kk) (pos := tpos) k0 D e hne (fun z => (hfp e z).elim hne (fun q => hae q.symm)) hmem
    have hn : its.toArray.size = i := by
      have := rv.length
      simp only [List.size_toArray]
      omega
    refine W.stops s (fun s1 => Inv X pins σ H s1) E ?_ fun h' tk hk htk => I.turnedL (ch := [e, it]) (fun b o hb q => hk b o hb q) hf
    rw [hn]
    exact ⟨hen, hit, p⟩
  self := fun A i s Q E st h => by
    obtain ⟨⟨_, he⟩, _⟩ := st
    exact wpAny_pyIter_enum he h
/-- what its call asks: the list or tuple, the start -/
def iEnumK (K : PySem.W.Frag) (k0 : Int) (ta : TA) : TI := fun σ H R => ta σ H fun vs H1 => ∃ k a xs, vs = [.ref a, .int k0] ∧ SqK k K H1 a xs ∧ (-(2 ^ 63) ≤ k0 ∧ k0 < 2 ^ 63) ∧ R (IteK k K a k0) H1
theorem pi_enum2 {X : Cx} {e1 e2 : Expr} {ta : TA} {k0 : Int} {p pos tpos : Pos} {elts : List Expr} {kk : Nat} (hg : Gl X "enumerate") (hm : X.mg "enumerate" = none) (ha : PA X [e1, e2] ta)
    (hs : starEach [e1, e2] X.env = (false, eval e1 X.env) :: starEach [e2] X.env := by rfl) (hpl : (backTo pos (starEach [e2] X.env)).any (·.1) = false := by rfl) :
    PI X (.Tuple elts kk tpos) (.Call (.Name "enumerate" p) [e1, e2] [] pos) (iEnumK X.K k0 ta) := by
  refine ⟨fun pins s σ H R I h => ?_⟩
  refine Call_ (ld_blt I hg hm boot_enumerate (PyProof.Rows.callWith_type1 (thn (ha.run pos pins s σ H _ I h) fun us s1 ⟨vs, H1, I1, r1, q1⟩ => ?_) hs hpl))
  obtain ⟨k, a, xs, ex, hq, hk0, q⟩ := q1
  subst ex
  cases r1 with
  | cons r rr =>
    cases rr with
    | cons r' rr =>
      cases rr
      cases r
      obtain ⟨t, rfl⟩ := r'
      obtain ⟨its, rv, p'⟩ := inv_seqK I1 hq
      refine enum_begins (beginsK k a its.toArray) p' hk0.1 hk0.2 fun h' he hit hsz hk => wpAny_pyIter_enum he ?_
      have I2 : Inv X pins σ H1 { s1 with heap := h' } := I1.kept (t' := s1.toks) hk
      have hlt := stands_lt p'
      refine ⟨s1.heap.objs.size + 1, [s1.heap.objs.size + 1, s1.heap.objs.size], _, _, H1, rfl, I2, turn_enumK (k := k) a (s1.heap.objs.size + 1) s1.heap.objs.size k0, ⟨⟨.none, by simpa using he⟩, itO_at hit, Nat.succ_ne_self _, Nat.ne_of_lt hlt, Nat.ne_of_lt (Nat.lt_succ_of_lt hlt)⟩, fun b hb => ?_, q⟩
      have e' : b = s1.heap.objs.size + 1 ∨ b = s1.heap.objs.size := by simpa using hb
      have hle : s1.heap.objs.size ≤ b := by
        rcases e' with z | z
        · rw [z]; exact Nat.le_add_right _ _
        · rw [z]; exact Nat.le_refl _
      exact I1.fpOk hle (I1.hok.fresh hle)
theorem walk_enumK {k : Bool} {K : PySem.W.Frag} {a : Addr} {k0 : Int} {xs : List V} : Walk (IteK k K a k0) xs.length (fun H => SqK k K H a xs) (YPair (fun i => some (.int (k0 + (i : Nat)))) (fun i => xs[i]?)) :=
  ⟨fun i H hi q => ⟨xs, xs[i], q, by simp [hi]⟩, fun H q => ⟨xs, q, rfl⟩, fun i H v H' hi q y => by
    obtain ⟨T, x, h1, h2, h3, h4⟩ := y
    exact ⟨T, _, x, h1, h2, h3, rfl, h4 xs q⟩⟩
end SC

/-! part E2 -/
set_option Elab.async false
set_option linter.all false
set_option maxRecDepth 100000
set_option maxHeartbeats 4000000
namespace SC
open PySem PySem.Spec PyProof.Rows L2
open AutoSeq1 (wpAny_loadPart')
theorem meets_enum1 {v : Value} {o : Obj} {H : Heap → Prop} (B : Begins v o H) :
    Meets (Builtin.«enumerate.__new__» ⟨[.type "enumerate", v], []⟩) (fun _ R s => H s.heap ∧
      R (.ok (.ret (.ref (s.heap.push o).objs.size))) { s with heap := (s.heap.push o).push { cls := .type "enumerate", data := .fields #[.none, .bool false, .ref s.heap.objs.size, rawInt 0, .none, .none] } }) :=
  .of_wp fun prog w A R s h => by
    obtain ⟨hp, g, d, tk, os⟩ := s
    obtain ⟨h1, h⟩ := h
    have hsub := sub_enumerate
    have q1 : ∀ {A' : Around} {E : Value → Shared → Prop} {Q : Value → Shared → Prop}, Q (.ref hp.objs.size) ⟨hp.push o, g, d, tk, os⟩ → wpAny (model prog w) A' (pyIter v) Q E ⟨hp, g, d, tk, os⟩ :=
      fun q => B.iter prog w _ _ ⟨hp, g, d, tk, os⟩ _ h1 q
    wp_walk using q1
    refine wpAny_stack_any fun st => wpAny_pure ?_
    split
    · rename_i c _ _ _ _ _
      cases (c == Value.type "enumerate") <;> (wp_walk using q1; exact ⟨_, rfl, h⟩)
    · wp_walk using q1
      exact ⟨_, rfl, h⟩
theorem enum_begins1 {prog : Program} {w : World} {A : Around} {E : Value → Shared → Prop} {s : Shared} {v : Value} {o : Obj} {H : Heap → Prop} {Q : Value → Shared → Prop} (B : Begins v o H) (h1 : H s.heap)
    (h : ∀ h', IsEnum h' (s.heap.objs.size + 1) s.heap.objs.size 0 .none → h'.get? s.heap.objs.size = some o → h'.objs.size = s.heap.objs.size + 2 →
      (∀ b o, s.heap.get? b = some o → h'.get? b = some o) → Q (.ref (s.heap.objs.size + 1)) { s with heap := h' }) :
    wpAny (model prog w) A (call (.type "enumerate") [v]) Q E s := by
  refine callType_new F.called_enumerate (by decide) (F.typeCall_enumerate_1 _) (F.newCall_enumerate_1 _) (fun obj => F.args_object_init_2 obj _) F.entry_enumerate_new (meets_enum1 B) ⟨h1, ?_⟩
  have hz : (s.heap.push o).objs.size = s.heap.objs.size + 1 := Heap.size_push ..
  show _ ∧ _
  rw [hz]
  have he : IsEnum ((s.heap.push o).push { cls := .type "enumerate", data := .fields #[.none, .bool false, .ref s.heap.objs.size, rawInt 0, .none, .none] }) (s.heap.objs.size + 1) s.heap.objs.size 0 .none := by
    have z := Heap.get?_push_size (s.heap.push o) (o := { cls := .type "enumerate", data := .fields #[.none, .bool false, .ref s.heap.objs.size, rawInt 0, .none, .none] }) rfl
    rw [hz] at z
    exact z
  exact ⟨⟨_, he, rfl⟩, h _ he (Heap.get?_push_of_some _ (Heap.get?_push_size _ B.free)) (by rw [Heap.size_push, hz]) fun b o x => Heap.get?_push_of_some _ (Heap.get?_push_of_some _ x)⟩
/-- enumerate(x): a list or a tuple -/
def iEnum1 (K : PySem.W.Frag) (ta : TA) : TI := fun σ H R => ta σ H fun vs H1 => ∃ k a xs, vs = [.ref a] ∧ SqK k K H1 a xs ∧ R (IteK k K a 0) H1
theorem pi_enum1 {X : Cx} {e1 : Expr} {ta : TA} {p pos tpos : Pos} {elts : List Expr} {kk : Nat} (hg : Gl X "enumerate") (hm : X.mg "enumerate" = none) (ha : PA X [e1] ta)
    (hs : starEach [e1] X.env = [(false, eval e1 X.env)] := by rfl) :
    PI X (.Tuple elts kk tpos) (.Call (.Name "enumerate" p) [e1] [] pos) (iEnum1 X.K ta) := by
  refine ⟨fun pins s σ H R I h => ?_⟩
  refine Call_ (ld_blt I hg hm boot_enumerate (PyProof.Rows.callWith_type1 (thn (ha.run pos pins s σ H _ I h) fun us s1 ⟨vs, H1, I1, r1, q1⟩ => ?_) hs rfl))
  obtain ⟨k, a, xs, ex, hq, q⟩ := q1
  subst ex
  cases r1 with
  | cons r rr =>
    cases rr
    cases r
    obtain ⟨its, rv, p'⟩ := inv_seqK I1 hq
    refine enum_begins1 (beginsK k a its.toArray) p' fun h' he hit hsz hk => wpAny_pyIter_enum he ?_
    have I2 : Inv X pins σ H1 { s1 with heap := h' } := I1.kept (t' := s1.toks) hk
    have hlt := stands_lt p'
    refine ⟨s1.heap.objs.size + 1, [s1.heap.objs.size + 1, s1.heap.objs.size], _, _, H1, rfl, I2, turn_enumK (k := k) a (s1.heap.objs.size + 1) s1.heap.objs.size 0, ⟨⟨.none, by simpa using he⟩, itO_at hit, Nat.succ_ne_self _, Nat.ne_of_lt hlt, Nat.ne_of_lt (Nat.lt_succ_of_lt hlt)⟩, fun b hb => ?_, q⟩
    have e' : b = s1.heap.objs.size + 1 ∨ b = s1.heap.objs.size := by simpa using hb
    have hle : s1.heap.objs.size ≤ b := by
      rcases e' with z | z
      · rw [z]; exact Nat.le_add_right _ _
      · rw [z]; exact Nat.le_refl _
    exact I1.fpOk hle (I1.hok.fresh hle)
/-! zip of two, each a list or a tuple -/
def ItzK (k1 k2 : Bool) (K : PySem.W.Frag) (a b : Addr) : It :=
  ⟨fun i H => ∃ (xs ys : List V) (x y : V), SqK k1 K H a xs ∧ SqK k2 K H b ys ∧ xs[i]? = some x ∧ ys[i]? = some y,
    fun i H v H' => ∃ T x y, v = .ref T ∧ H T = none ∧ H' = upd H T (.tup [x, y]) ∧ (∀ xs, SqK k1 K H a xs → xs[i]? = some x) ∧ ∀ ys, SqK k2 K H b ys → ys[i]? = some y,
    fun i H => ∃ xs ys : List V, SqK k1 K H a xs ∧ SqK k2 K H b ys ∧ min xs.length ys.length = i⟩
/-- the cells of a zip lie apart, and off what is walked -/
structure ApartK (z TI TO i1 i2 a b : Addr) : Prop where
  nd : [z, TI, TO, i1, i2].Nodup
  na : a ∉ [z, TI, TO, i1, i2]
  nb : b ∉ [z, TI, TO, i1, i2]
theorem ApartK.sep {z TI TO i1 i2 a b : Addr} (D : ApartK z TI TO i1 i2 a b) {fp1 fp2 : List Addr} (h1 : ∀ c ∈ fp1, c = i1 ∨ c = a) (h2 : ∀ c ∈ fp2, c = i2 ∨ c = b) (m1 : i1 ∈ fp1) (m2 : i2 ∈ fp2) : ZipSep2 z TI TO i1 i2 fp1 fp2 := by
  have nd := D.nd
  have na := D.na
  have nb := D.nb
  simp only [List.nodup_cons, List.mem_cons, List.not_mem_nil, or_false, not_or] at nd na nb
  obtain ⟨⟨a1, a2, a3, a4⟩, ⟨b1, b2, b3⟩, ⟨c1, c2⟩, d1, _⟩ := nd
  obtain ⟨na0, na1, na2, na3, na4⟩ := na
  obtain ⟨nb0, nb1, nb2, nb3, nb4⟩ := nb
  have f1 : ∀ c, c ≠ i1 → a ≠ c → c ∉ fp1 := fun c n1 n2 hm => (h1 c hm).elim n1 fun q => n2 q.symm
  have f2 : ∀ c, c ≠ i2 → b ≠ c → c ∉ fp2 := fun c n1 n2 hm => (h2 c hm).elim n1 fun q => n2 q.symm
  exact ⟨fun q => a1 q.symm, fun q => a2 q.symm, b1, b2, m1, f1 z a3 na0, f1 TO c1 na2, b3, m2, f2 z a4 nb0, f2 TO c2 nb2, f2 i1 d1 nb3, f1 i2 (fun q => d1 q.symm) na4⟩
theorem turn_zipK {k1 k2 : Bool} {P : Program} {w : World} {K : PySem.W.Frag} {elts : List Expr} {kk : Nat} {tpos : Pos} {z TI TO i1 i2 a b : Addr} (D : ApartK z TI TO i1 i2 a b) :
    Turn P w K (.Tuple elts kk tpos) (ItzK k1 k2 K a b) [z, TI, TO, i1, i2] z (fun i h => IsZip h z TI TO .none ∧ IsTupOf2 h TI (.ref i1) (.ref i2) ∧ (∃ a1 a2, IsTupOf2 h TO a1 a2) ∧ IterK k1 h i1 a i ∧ IterK k2 h i2 b i) where
  mem := by simp
  obj := fun i h st c hc => by
    obtain ⟨hz, hTI, ⟨x, y, hTO⟩, h1, h2⟩ := st
    have e' : c = z ∨ c = TI ∨ c = TO ∨ c = i1 ∨ c = i2 := by simpa using hc
    rcases e' with q | q | q | q | q
    · rw [q]; exact ⟨_, hz, fun v q => nomatch q⟩
    · rw [q]; exact ⟨_, hTI, fun v q => nomatch q⟩
    · rw [q]; exact ⟨_, hTO, fun v q => nomatch q⟩
    · rw [q]; exact iterK_obj h1
    · rw [q]; exact iterK_obj h2
  keep := fun i h h' st k => by
    obtain ⟨hz, hTI, ⟨x, y, hTO⟩, h1, h2⟩ := st
    exact ⟨k z (by simp) _ hz, k TI (by simp) _ hTI, ⟨x, y, k TO (by simp) _ hTO⟩, iterK_at h1 fun o q => k i1 (by simp) o q, iterK_at h2 fun o q => k i2 (by simp) o q⟩
  item := by
    intro X hP hw hK hc i pins s σ H E I hf st hg
    subst hP hw hK
    obtain ⟨hz, hTI, hTO, h1, h2⟩ := st
    obtain ⟨xs, ys, x, y, hqx, hqy, hx, hy⟩ := hg
    obtain ⟨its, rv, p1⟩ := inv_seqK I hqx
    obtain ⟨its2, rv2, p2⟩ := inv_seqK I hqy
    obtain ⟨u, hu, ru⟩ := rv.get hx
    obtain ⟨u2, hu2, ru2⟩ := rv2.get hy
    have hh : X.A.in1.handled = none := I.ok.hd hc
    have nai : a ≠ i1 := fun q => D.na (by rw [q]; simp)
    have nbi : b ≠ i2 := fun q => D.nb (by rw [q]; simp)
    obtain ⟨fp1, hf1, m1, D1⟩ := drawsK (k := k1) (prog := X.prog) (w := X.w) (A := X.A.in1) hh i1 a nai its.toArray
    obtain ⟨fp2, hf2, m2, D2⟩ := drawsK (k := k2) (prog := X.prog) (w := X.w) (A := X.A.in1) hh i2 b nbi its2.toArray
    have W := GoesN.zip2 (elts := elts) (x1 := kk) (pos := tpos) (D.sep hf1 hf2 m1 m2) D1 D2
    have l1 : i < its.toArray.size := by
      have := (List.getElem?_eq_some_iff.mp hu).1
      simpa using this
    have l2 : i < its2.toArray.size := by
      have := (List.getElem?_eq_some_iff.mp hu2).1
      simpa using this
    have lz : ∀ c ∈ [z, TI, TO, i1, i2], c < s.heap.objs.size := fun c hc => by
      have e' : c = z ∨ c = TI ∨ c = TO ∨ c = i1 ∨ c = i2 := by simpa using hc
      obtain ⟨a1, a2, hTO'⟩ := hTO
      rcases e' with q | q | q | q | q
      · rw [q]; exact Heap.lt_size hz
      · rw [q]; exact Heap.lt_size hTI
      · rw [q]; exact Heap.lt_size hTO'
      · obtain ⟨o, ho, _⟩ := iterK_obj h1
        rw [q]; exact Heap.lt_size ho
      · obtain ⟨o, ho, _⟩ := iterK_obj h2
        rw [q]; exact Heap.lt_size ho
    refine W.goes i s _ E (Nat.lt_min.mpr ⟨l1, l2⟩) ⟨hz, hTI, hTO, ⟨h1, p1⟩, ⟨h2, p2⟩⟩ fun v h' tk hY st' hk htk => ?_
    obtain ⟨T, y1, y2, rfl, hT, hy1, hy2, hTup⟩ := hY
    obtain ⟨hz', hTI', hTO', ⟨h1', _⟩, ⟨h2', _⟩⟩ := st'
    have e1 : y1 = u := by
      have q1 : its.toArray[i]? = some u := by simpa using hu
      rw [q1] at hy1
      exact (Option.some.inj hy1).symm
    have e2 : y2 = u2 := by
      have q1 : its2.toArray[i]? = some u2 := by simpa using hu2
      rw [q1] at hy2
      exact (Option.some.inj hy2).symm
    subst e1 e2
    have new : ObjOk X.prog X.w (upd H T (.tup [x, y])) h' T (.tup [x, y]) :=
      ⟨by show 2 ≤ sizeLine; decide, [y1, y2], .cons ru (.cons ru2 .nil), hTup⟩
    have I1 := I.turnedNew (t' := tk) (ch := [z, TI, TO, i1, i2]) (fun c ob hb q => hk c ob (fun hm => hb (by simp at hm ⊢; rcases hm with q | q | q | q <;> simp [q])) q) hf hT new
    refine ⟨.ref T, _, I1, rfl, ⟨T, x, y, rfl, I.hok.fresh hT, rfl, fun l hl => by rw [seqK_inj I hl hqx]; exact hx, fun l hl => by rw [seqK_inj I hl hqy]; exact hy⟩, ⟨hz', hTI', hTO', h1', h2'⟩, fun c hcm => ?_⟩
    rw [upd_ne (Nat.ne_of_lt (Nat.lt_of_lt_of_le (lz c hcm) hT))]
    exact (hf c hcm).1
  done := by
    intro X hP hw hK hc i pins s σ H E I hf st hg
    subst hP hw hK
    obtain ⟨hz, hTI, hTO, h1, h2⟩ := st
    obtain ⟨xs, ys, hqx, hqy, hend⟩ := hg
    obtain ⟨its, rv, p1⟩ := inv_seqK I hqx
    obtain ⟨its2, rv2, p2⟩ := inv_seqK I hqy
    have hh : X.A.in1.handled = none := I.ok.hd hc
    have nai : a ≠ i1 := fun q => D.na (by rw [q]; simp)
    have nbi : b ≠ i2 := fun q => D.nb (by rw [q]; simp)
    obtain ⟨fp1, hf1, m1, D1⟩ := drawsK (k := k1) (prog := X.prog) (w := X.w) (A := X.A.in1) hh i1 a nai its.toArray
    obtain ⟨fp2, hf2, m2, D2⟩ := drawsK (k := k2) (prog := X.prog) (w := X.w) (A := X.A.in1) hh i2 b nbi its2.toArray
    have W := GoesN.zip2 (elts := elts) (x1 := kk) (pos := tpos) (D.sep hf1 hf2 m1 m2) D1 D2
    have hn : min its.toArray.size its2.toArray.size = i := by
      have := rv.length
      have := rv2.length
      simp only [List.size_toArray]
      omega
    refine W.stops s (fun s1 => Inv X pins σ H s1) E ?_ fun h' tk hk htk => I.turnedL (ch := [z, TI, TO, i1, i2]) (fun c o hb q => hk c o (fun hm => hb (by simp at hm ⊢; rcases hm with q | q | q | q <;> simp [q])) q) hf
    rw [hn]
    exact ⟨hz, hTI, hTO, ⟨h1, p1⟩, ⟨h2, p2⟩⟩
  self := fun A i s Q E st h => wpAny_pyIter_zip st.1 h
theorem apart_new {n a b : Nat} (ha : a < n) (hb : b < n) : ApartK (n + 4) (n + 2) (n + 3) n (n + 1) a b := by
  refine ⟨?_, ?_, ?_⟩
  · simp only [List.nodup_cons, List.mem_cons, List.not_mem_nil, or_false, not_or, List.nodup_nil, and_true, not_false_eq_true]
    refine ⟨⟨?_, ?_, ?_, ?_⟩, ⟨?_, ?_, ?_⟩, ⟨?_, ?_⟩, ?_⟩
    any_goals first
      | exact (show ¬ ((n + 4 : Nat) = n + 2) by omega)
      | exact (show ¬ ((n + 4 : Nat) = n + 3) by omega)
      | exact (show ¬ ((n + 4 : Nat) = n) by omega)
      | exact (show ¬ ((n + 4 : Nat) = n + 1) by omega)
      | exact (show ¬ ((n + 2 : Nat) = n + 3) by omega)
      | exact (show ¬ ((n + 2 : Nat) = n) by omega)
      | exact (show ¬ ((n + 2 : Nat) = n + 1) by omega)
      | exact (show ¬ ((n + 3 : Nat) = n) by omega)
      | exact (show ¬ ((n + 3 : Nat) = n + 1) by omega)
      | exact (show ¬ ((n : Nat) = n + 1) by omega)
  · simp only [List.mem_cons, List.not_mem_nil, or_false, not_or]
    exact ⟨(show ¬ ((a : Nat) = n + 4) by omega), (show ¬ ((a : Nat) = n + 2) by omega), (show ¬ ((a : Nat) = n + 3) by omega), (show ¬ ((a : Nat) = n) by omega), (show ¬ ((a : Nat) = n + 1) by omega)⟩
  · simp only [List.mem_cons, List.not_mem_nil, or_false, not_or]
    exact ⟨(show ¬ ((b : Nat) = n + 4) by omega), (show ¬ ((b : Nat) = n + 2) by omega), (show ¬ ((b : Nat) = n + 3) by omega), (show ¬ ((b : Nat) = n) by omega), (show ¬ ((b : Nat) = n + 1) by omega)⟩
def iZip2 (K : PySem.W.Frag) (ta : TA) : TI := fun σ H R => ta σ H fun vs H1 => ∃ k1 k2 a b xs ys, vs = [.ref a, .ref b] ∧ SqK k1 K H1 a xs ∧ SqK k2 K H1 b ys ∧ R (ItzK k1 k2 K a b) H1
theorem pie_zip {X : Cx} {pins : List (Addr × Obj)} {σ : L2.St} {s1 : Shared} {H1 : Hp} {h' : Heap} {R : It → Hp → Prop} {elts : List Expr} {kk : Nat} {tpos : Pos} {k1 k2 : Bool} {a b : Addr} (I1 : Inv X pins σ H1 s1) (la : a < s1.heap.objs.size) (lb : b < s1.heap.objs.size)
    (hz : IsZip h' (s1.heap.objs.size + 4) (s1.heap.objs.size + 2) (s1.heap.objs.size + 3) .none) (hTI : IsTupOf2 h' (s1.heap.objs.size + 2) (.ref s1.heap.objs.size) (.ref (s1.heap.objs.size + 1)))
    (hTO : IsTupOf2 h' (s1.heap.objs.size + 3) .none .none) (g1 : h'.get? s1.heap.objs.size = some (itO k1 a)) (g2 : h'.get? (s1.heap.objs.size + 1) = some (itO k2 b))
    (hk : ∀ c o, s1.heap.get? c = some o → h'.get? c = some o) (q : R (ItzK k1 k2 X.K a b) H1) : PIE X pins σ (.Tuple elts kk tpos) R (.ref (s1.heap.objs.size + 4)) { s1 with heap := h' } := by
  have I2 : Inv X pins σ H1 { s1 with heap := h' } := I1.kept (t' := s1.toks) hk
  refine ⟨_, [s1.heap.objs.size + 4, s1.heap.objs.size + 2, s1.heap.objs.size + 3, s1.heap.objs.size, s1.heap.objs.size + 1], _, _, H1, rfl, I2, turn_zipK (k1 := k1) (k2 := k2) (apart_new la lb), ⟨hz, hTI, ⟨_, _, hTO⟩, itO_at g1, itO_at g2⟩, fun c hcm => ?_, q⟩
  have hle : s1.heap.objs.size ≤ c := by
    have e' : c = s1.heap.objs.size + 4 ∨ c = s1.heap.objs.size + 2 ∨ c = s1.heap.objs.size + 3 ∨ c = s1.heap.objs.size ∨ c = s1.heap.objs.size + 1 := by simpa using hcm
    rcases e' with z | z | z | z | z
    · rw [z]; exact Nat.le_add_right _ _
    · rw [z]; exact Nat.le_add_right _ _
    · rw [z]; exact Nat.le_add_right _ _
    · rw [z]; exact Nat.le_refl _
    · rw [z]; exact Nat.le_add_right _ _
  exact I1.fpOk hle (I1.hok.fresh hle)
theorem pi_zip2 {X : Cx} {e e2 : Expr} {ta : TA} {p pos tpos : Pos} {elts : List Expr} {kk : Nat} (hg : Gl X "zip") (hm : X.mg "zip" = none) (ha : PA X [e, e2] ta)
    (hs : starEach [e, e2] X.env = (false, eval e X.env) :: starEach [e2] X.env := by rfl) (hpl : (backTo pos (starEach [e2] X.env)).any (·.1) = false := by rfl) :
    PI X (.Tuple elts kk tpos) (.Call (.Name "zip" p) [e, e2] [] pos) (iZip2 X.K ta) := by
  refine ⟨fun pins s σ H R I h => ?_⟩
  refine Call_ (ld_blt I hg hm PyProof.Rows.boot_zip (PyProof.Rows.callWith_type1 (thn (ha.run pos pins s σ H _ I h) fun us s1 ⟨vs, H1, I1, r1, q1⟩ => ?_) hs hpl))
  obtain ⟨k1, k2, a, b, xs, ys, ex, hqx, hqy, q⟩ := q1
  subst ex
  cases r1 with
  | cons r rr =>
    cases rr with
    | cons r' rr =>
      cases rr
      cases r
      cases r'
      obtain ⟨its, rv, p1⟩ := inv_seqK I1 hqx
      obtain ⟨its2, rv2, p2⟩ := inv_seqK I1 hqy
      exact zip_begins2 (beginsK k1 a its.toArray) (beginsK k2 b its2.toArray) p1 p2 fun h' hz hTI hTO g1 g2 hsz hk => wpAny_pyIter_zip hz (pie_zip I1 (stands_lt p1) (stands_lt p2) hz hTI hTO g1 g2 hk q)
theorem walk_zipK {k1 k2 : Bool} {K : PySem.W.Frag} {a b : Addr} {xs ys : List V} {n : Nat} (hn : n = min xs.length ys.length) : Walk (ItzK k1 k2 K a b) n (fun H => SqK k1 K H a xs ∧ SqK k2 K H b ys) (YPair (fun i => xs[i]?) (fun i => ys[i]?)) := by
  subst hn
  refine ⟨fun i H hi q => ?_, fun H q => ⟨xs, ys, q.1, q.2, rfl⟩, fun i H v H' hi q y => ?_⟩
  · have h1 : i < xs.length := by omega
    have h2 : i < ys.length := by omega
    exact ⟨xs, ys, xs[i], ys[i], q.1, q.2, by simp [h1], by simp [h2]⟩
  · obtain ⟨T, x, z, h1, h2, h3, h4, h5⟩ := y
    exact ⟨T, x, z, h1, h2, h3, h4 xs q.1, h5 ys q.2⟩
end SC

/-! part E3 -/
set_option Elab.async false
set_option linter.all false
set_option maxRecDepth 100000
set_option maxHeartbeats 4000000
namespace SC
open PySem PySem.Spec PyProof.Rows L2
open Sem (wp)
/-! zip(x, y, strict=b) -/
/-- a zip record that is strict or not -/
abbrev IsZipB (b : Bool) (h : Heap) (z TI TO : Addr) (f0 : Value) : Prop :=
  h.get? z = some { cls := .type "zip", dict := none, data := .fields #[f0, .bool false, .bool b, .ref TI, .ref TO], slots := #[] }
abbrev szZ (b : Bool) (h : Heap) (o1 o2 : Obj) : Heap := (gzO2 h o1 o2).push { cls := .type "zip", data := .fields #[.none, .bool false, .bool b, .ref ((h.push o1).push o2).objs.size, .ref (gzT2 h o1 o2).objs.size] }
theorem typeCall_zipS (a b c : Value) : checkTypeCall "zip" ⟨[a, b], [(Str.ofString "strict", c)]⟩ = pure () := by kernel_rfl
theorem newCall_zipS (a b c : Value) : checkBuiltinCall "zip.__new__" ⟨[.type "zip", a, b], [(Str.ofString "strict", c)]⟩ = pure () := by kernel_rfl
theorem args_initS (obj a b c : Value) : argsOk "object.__init__" ⟨[obj, a, b], [(Str.ofString "strict", c)]⟩ := by unfold argsOk; kernel_rfl
theorem meets_zipS {v1 v2 : Value} {o1 o2 : Obj} {H1 H2 : Heap → Prop} (B1 : Begins v1 o1 H1) (B2 : Begins v2 o2 H2) (b : Bool) :
    Meets (Builtin.«zip.__new__» ⟨[.type "zip", v1, v2], [(Str.ofString "strict", .bool b)]⟩) (fun _ R s => (H1 s.heap ∧ H2 s.heap) ∧
      R (.ok (.ret (.ref (gzO2 s.heap o1 o2).objs.size))) { s with heap := szZ b s.heap o1 o2 }) :=
  .of_wp fun prog w A R s h => by
    obtain ⟨hp, g, d, tk, os⟩ := s
    obtain ⟨⟨h1, h2⟩, h⟩ := h
    have hsub := sub_zip
    have e1 : (Str.ofString "strict" != ("strict" : Str)) = false := by decide +kernel
    have q1 : ∀ {A' : Around} {E : Value → Shared → Prop} {Q : Value → Shared → Prop}, Q (.ref hp.objs.size) ⟨(hp.push o1), g, d, tk, os⟩ → wpAny (model prog w) A' (pyIter v1) Q E ⟨hp, g, d, tk, os⟩ :=
      fun q => B1.iter prog w _ _ ⟨hp, g, d, tk, os⟩ _ h1 q
    have q2 : ∀ {A' : Around} {E : Value → Shared → Prop} {Q : Value → Shared → Prop}, Q (.ref (hp.push o1).objs.size) ⟨((hp.push o1).push o2), g, d, tk, os⟩ → wpAny (model prog w) A' (pyIter v2) Q E ⟨(hp.push o1), g, d, tk, os⟩ :=
      fun q => B2.iter prog w _ _ ⟨(hp.push o1), g, d, tk, os⟩ _ (B2.keeps _ _ h2 fun b o' e => Heap.get?_push_of_some _ e) q
    wp_walk using q1, q2
    exact ⟨_, rfl, h⟩
section
variable {prog : Program} {w : World} {A : Around} {E : Value → Shared → Prop} {s : Shared}
theorem zip_beginsS {b : Bool} {v1 v2 : Value} {o1 o2 : Obj} {H1 H2 : Heap → Prop} {Q : Value → Shared → Prop} (B1 : Begins v1 o1 H1) (B2 : Begins v2 o2 H2) (h1 : H1 s.heap) (h2 : H2 s.heap)
    (h : ∀ h', IsZipB b h' (s.heap.objs.size + 4) (s.heap.objs.size + 2) (s.heap.objs.size + 3) .none → IsTupOf2 h' (s.heap.objs.size + 2) (.ref s.heap.objs.size) (.ref (s.heap.objs.size + 1)) →
      IsTupOf2 h' (s.heap.objs.size + 3) .none .none → h'.get? s.heap.objs.size = some o1 → h'.get? (s.heap.objs.size + 1) = some o2 →
      (∀ c o, s.heap.get? c = some o → h'.get? c = some o) → Q (.ref (s.heap.objs.size + 4)) { s with heap := h' }) :
    wpAny (model prog w) A (call (.type "zip") [v1, v2] [(Str.ofString "strict", .bool b)]) Q E s := by
  refine callType_newKw F.called_zip (by decide) (typeCall_zipS _ _ _) (newCall_zipS _ _ _) (fun obj => args_initS obj _ _ _) F.entry_zip_new (meets_zipS B1 B2 b) ⟨⟨h1, h2⟩, ?_⟩
  have z1 : (s.heap.push o1).objs.size = s.heap.objs.size + 1 := Heap.size_push ..
  have z2 : ((s.heap.push o1).push o2).objs.size = s.heap.objs.size + 2 := by rw [Heap.size_push, z1]
  have zT : (gzT2 s.heap o1 o2).objs.size = s.heap.objs.size + 3 := by rw [Heap.size_push, z2]
  have zO : (gzO2 s.heap o1 o2).objs.size = s.heap.objs.size + 4 := by rw [Heap.size_push, zT]
  have pk : ∀ {h : Heap} {c : Addr} {o x : Obj}, h.get? c = some o → (h.push x).get? c = some o := fun e => Heap.get?_push_of_some _ e
  have gZ : (szZ b s.heap o1 o2).get? (gzO2 s.heap o1 o2).objs.size = some { cls := .type "zip", data := .fields #[.none, .bool false, .bool b, .ref ((s.heap.push o1).push o2).objs.size, .ref (gzT2 s.heap o1 o2).objs.size] } := Heap.get?_push_size _ rfl
  have gO : (szZ b s.heap o1 o2).get? (gzT2 s.heap o1 o2).objs.size = some { cls := .type "tuple", data := .seq #[.none, .none] } := pk (Heap.get?_push_size _ rfl)
  have gT : (szZ b s.heap o1 o2).get? ((s.heap.push o1).push o2).objs.size = some { cls := .type "tuple", data := .seq #[.ref s.heap.objs.size, .ref (s.heap.push o1).objs.size] } := pk (pk (Heap.get?_push_size _ rfl))
  have g1 : (szZ b s.heap o1 o2).get? s.heap.objs.size = some o1 := pk (pk (pk (pk (Heap.get?_push_size _ B1.free))))
  have g2 : (szZ b s.heap o1 o2).get? (s.heap.push o1).objs.size = some o2 := pk (pk (pk (Heap.get?_push_size _ B2.free)))
  rw [zO, zT, z2] at gZ
  rw [zT] at gO
  rw [z2, z1] at gT
  rw [z1] at g2
  show _ ∧ _
  rw [zO]
  exact ⟨⟨_, gZ, rfl⟩, h _ gZ gT gO g1 g2 fun c o e => pk (pk (pk (pk (pk e))))⟩
end
/-- the call with its keyword, as evaluated -/
theorem call_zipKw {X : Cx} {e e2 : Expr} {ta : TA} {p pos : Pos} {b : Bool} {kp cp : Pos} {cj : Nat} {pins : List (Addr × Obj)} {s : Shared} {σ : L2.St} {H : Hp} {Q : Value → Shared → Prop} (hg : Gl X "zip") (hm : X.mg "zip" = none) (ha : PA X [e, e2] ta) (I : Inv X pins σ H s)
    (hs : starEach [e, e2] X.env = (false, eval e X.env) :: starEach [e2] X.env) (hpl : (backTo pos (starEach [e2] X.env)).any (·.1) = false)
    {Po : List V → Hp → Prop} (h : ta σ H Po) (hq : ∀ vs H1 us s1, Inv X pins σ H1 s1 → Vals vs us → Po vs H1 → wpAny (model X.prog X.w) X.A (call (.type "zip") us [(Str.ofString "strict", .bool b)]) Q X.xe s1) :
    wpAny (model X.prog X.w) X.A (eval (.Call (.Name "zip" p) [e, e2] [⟨some (Str.ofString "strict"), .Constant (.bool b) cj cp, kp⟩] pos) X.env) Q X.xe s := by
  refine wpAny_Call_Name_kw (ld_blt I hg hm PyProof.Rows.boot_zip ?_)
  unfold callWith
  have hp2 : ((backTo pos (starEach [e, e2] X.env)).any (·.1) || (backToKw pos (keywordEach [⟨some (Str.ofString "strict"), .Constant (.bool b) cj cp, kp⟩] X.env)).any (·.1.isNone)) = false := by
    rw [hs]
    show ((false || (backTo pos (starEach [e2] X.env)).any (·.1)) || false) = false
    rw [hpl]; rfl
  have key : wpAny (model X.prog X.w) X.A (evalArgs (.type "zip") true (backTo pos (starEach [e, e2] X.env)) (backToKw pos (keywordEach [⟨some (Str.ofString "strict"), .Constant (.bool b) cj cp, kp⟩] X.env)))
      (fun a s₁ => wpAny (model X.prog X.w) X.A (call (.type "zip") ([] ++ a.pos) a.kw) Q X.xe s₁) X.xe s := by
    have hr := ha.run pos pins s σ H _ I h
    rw [hs] at hr ⊢
    refine evalArgs_kwB rfl (thn hr fun us s1 ⟨vs, H1, I1, r1, q1⟩ => ?_)
    have pk : PK X [⟨some (Str.ofString "strict"), .Constant (.bool b) cj cp, kp⟩] (tCons (tC (.bl b)) tNil) := pk_cons pe_bl pk_nil
    refine thn (pk.run pos pins s1 σ H1 (fun ws H2 => ws = [.bl b] ∧ H2 = H1) I1 ⟨rfl, rfl⟩) fun ws s2 ⟨zs, H2, I2, r2, e1, e2⟩ => ?_
    subst e1 e2
    cases r2 with
    | cons ra rb =>
      cases rb
      cases ra
      exact hq vs _ us s2 I2 r1 q1
  refine wpAny_bind (wpAny_holding (thn key fun a s₁ h₁ => wpAny_bind (wpAny_standAt ?_)))
  simp only [hp2]
  refine wpAny_bind (wpAny_pure ?_)
  exact wpAny_bind (thn h₁ fun r s₂ hr => wpAny_bind (wpAny_holding (wpAny_point (wpAny_pure hr))))
/-- zip(x, y, strict=False) -/
theorem pi_zipF {X : Cx} {e e2 : Expr} {ta : TA} {p pos tpos kp cp : Pos} {cj : Nat} {elts : List Expr} {kk : Nat} (hg : Gl X "zip") (hm : X.mg "zip" = none) (ha : PA X [e, e2] ta)
    (hs : starEach [e, e2] X.env = (false, eval e X.env) :: starEach [e2] X.env := by rfl) (hpl : (backTo pos (starEach [e2] X.env)).any (·.1) = false := by rfl) :
    PI X (.Tuple elts kk tpos) (.Call (.Name "zip" p) [e, e2] [⟨some (Str.ofString "strict"), .Constant (.bool false) cj cp, kp⟩] pos) (iZip2 X.K ta) := by
  refine ⟨fun pins s σ H R I h => ?_⟩
  refine call_zipKw hg hm ha I hs hpl h fun vs H1 us s1 I1 r1 q1 => ?_
  obtain ⟨k1, k2, a, b, xs, ys, ex, hqx, hqy, q⟩ := q1
  subst ex
  cases r1 with
  | cons r rr =>
    cases rr with
    | cons r' rr =>
      cases rr
      cases r
      cases r'
      obtain ⟨its, rv, p1⟩ := inv_seqK I1 hqx
      obtain ⟨its2, rv2, p2⟩ := inv_seqK I1 hqy
      exact zip_beginsS (beginsK k1 a its.toArray) (beginsK k2 b its2.toArray) p1 p2 fun h' hz hTI hTO g1 g2 hk => wpAny_pyIter_zip hz (pie_zip I1 (stands_lt p1) (stands_lt p2) hz hTI hTO g1 g2 hk q)
/-! the strict zip's turns -/
section
variable {prog : Program} {w : World} {A : Around} {E : Value → Shared → Prop} {s : Shared} {z TI TO i1 i2 : Addr} {fp1 fp2 : List Addr} {n i : Nat} {P1 P2 : Nat → Value → Prop} {St1 St2 : Nat → Heap → Prop} {a1 a2 : Value}
theorem nextOr_item {it : Addr} {fp : List Addr} {P : Nat → Value → Prop} {St : Nat → Heap → Prop} {Q : Option Value → Shared → Prop} (D : Draws prog w A it fp n P St) (hi : i < n) (st : St i s.heap)
    (hQ : ∀ x h' tk, P i x → St (i + 1) h' → Heap.SameBut it s.heap h' → Q (some x) { s with heap := h', toks := tk }) : wpAny (model prog w) A (Builtin.SmallTypes.nextOrEnd (.ref it)) Q E s := by
  unfold Builtin.SmallTypes.nextOrEnd
  exact wpAny_bind (wpAny_attempt (D.item i s _ _ hi st fun x h' tk hP hS hB => wpAny_pure (hQ x h' tk hP hS hB)))
theorem nextOr_end {it : Addr} {fp : List Addr} {P : Nat → Value → Prop} {St : Nat → Heap → Prop} {Q : Option Value → Shared → Prop} (D : Draws prog w A it fp n P St) (st : St n s.heap)
    (hQ : ∀ h', Heap.ExtBut it s.heap h' → Q none { s with heap := h' }) : wpAny (model prog w) A (Builtin.SmallTypes.nextOrEnd (.ref it)) Q E s := by
  unfold Builtin.SmallTypes.nextOrEnd
  refine wpAny_bind (wpAny_attempt (D.done s _ _ st fun h' e hB he => ?_))
  obtain ⟨o, ho, hc⟩ := he
  refine wpAny_bind (wpAny_isInstance (T := "StopIteration") (b := true) ⟨o, ho, hc⟩ isSubtype_stop ?_)
  exact wpAny_pure (hQ h' hB)
theorem zipS_item {Q : Value → Shared → Prop} (S : ZipSep2 z TI TO i1 i2 fp1 fp2) (D1 : Draws prog w A i1 fp1 n P1 St1) (D2 : Draws prog w A i2 fp2 n P2 St2)
    (hz : IsZipB true s.heap z TI TO .none) (hTI : IsTupOf2 s.heap TI (.ref i1) (.ref i2)) (hTO : IsTupOf2 s.heap TO a1 a2) (st1 : St1 i s.heap) (st2 : St2 i s.heap) (hlt : i < n)
    (hQ : ∀ x1 x2 h' tk, P1 i x1 → P2 i x2 → IsZipB true h' z TI TO (rawInt s.heap.objs.size) → IsTupOf2 h' TO x1 x2 → St1 (i + 1) h' → St2 (i + 1) h' → IsTupOf2 h' s.heap.objs.size x1 x2 →
      (∀ c o, c ≠ z → c ≠ TO → c ≠ i1 → c ≠ i2 → s.heap.get? c = some o → h'.get? c = some o) → Q (.ref s.heap.objs.size) { s with heap := h', toks := tk }) :
    wpAny (model prog w) A (Builtin.«zip.__next__» ⟨[.ref z], []⟩) (fun fin s' => ∃ v, fin = .done (.ret v) ∧ Q v s') E s := by
  obtain ⟨hp, g, d, tk0, os⟩ := s
  show wpAny _ _ (field (.ref z) 2 >>= _) _ _ _
  refine wpAny_bind (wpAny_field hz rfl (x := .bool true) rfl ?_)
  show wpAny _ _ (field (.ref z) 3 >>= _) _ _ _
  refine wpAny_bind (wpAny_field hz rfl (x := .ref TI) rfl ?_)
  refine wpAny_bind (wpAny_seqItems hTI rfl ?_)
  show wpAny _ _ (Builtin.SmallTypes.ownedTupleIsFree (.ref z) >>= _) _ _ _
  refine wpAny_bind ?_
  unfold Builtin.SmallTypes.ownedTupleIsFree
  refine wpAny_bind (wpAny_field hz rfl (x := .none) rfl (wpAny_pure ?_))
  simp only [if_true]
  refine wpAny_bind (wpAny_rule ?_)
  refine wpAny_bind (wpAny_field hz rfl (x := .ref TO) rfl ?_)
  refine wpAny_bind (wpAny_setField_rec hz (by simp) fun g0 hz0 hs0 => ?_)
  replace hz0 : IsZipB true g0 z TI TO .ellipsis := hz0
  replace hs0 : Heap.SameBut z hp g0 := hs0
  refine wpAny_bind ?_
  simp only [List.zipIdx_cons, List.zipIdx_nil, List.forIn_cons, List.forIn_nil]
  refine wpAny_bind (wpAny_bind (wpAny_onRaise ?_))
  show wpAny _ _ (Builtin.SmallTypes.nextOrEnd (.ref i1)) _ _ ⟨g0, g, d, tk0, os⟩
  refine nextOr_item (i := i) D1 hlt (D1.over st1 hs0 S.zf1) fun x1 p1 tk1 hx1 sn1 hp1 => ?_
  replace hp1 : Heap.SameBut i1 g0 p1 := hp1
  have hU1 : IsTupOf2 p1 TO a1 a2 := hp1.extBut _ _ S.Ti1 (hs0.extBut _ _ S.TOz hTO)
  refine wpAny_bind (wpAny_seqItems (s := ⟨p1, g, d, tk1, os⟩) hU1 rfl ?_)
  refine wpAny_bind (updateSeq_IsTupOf2 (s := ⟨p1, g, d, tk1, os⟩) hU1 fun g1 hT1 hs1 => ?_)
  replace hT1 : IsTupOf2 g1 TO x1 a2 := hT1
  replace hs1 : Heap.SameBut TO p1 g1 := hs1
  refine wpAny_bind (wpAny_letGo (wpAny_pure ?_))
  refine wpAny_bind (wpAny_bind (wpAny_onRaise ?_))
  show wpAny _ _ (Builtin.SmallTypes.nextOrEnd (.ref i2)) _ _ ⟨g1, g, d, tk1, os⟩
  refine nextOr_item (i := i) D2 hlt (D2.over (D2.over (D2.over st2 hs0 S.zf2) hp1 S.sep1_2) hs1 S.Tf2) fun x2 p2 tk2 hx2 sn2 hp2 => ?_
  replace hp2 : Heap.SameBut i2 g1 p2 := hp2
  have hU2 : IsTupOf2 p2 TO x1 a2 := hp2.extBut _ _ S.Ti2 hT1
  refine wpAny_bind (wpAny_seqItems (s := ⟨p2, g, d, tk2, os⟩) hU2 rfl ?_)
  refine wpAny_bind (updateSeq_IsTupOf2 (s := ⟨p2, g, d, tk2, os⟩) hU2 fun g2 hT2 hs2 => ?_)
  replace hT2 : IsTupOf2 g2 TO x1 x2 := hT2
  replace hs2 : Heap.SameBut TO p2 g2 := hs2
  refine wpAny_bind (wpAny_letGo (wpAny_pure (wpAny_pure ?_)))
  refine wpAny_bind (wpAny_seqItems (s := ⟨g2, g, d, tk2, os⟩) hT2 rfl ?_)
  refine wpAny_bind (wpAny_newTuple ?_)
  have hsz : g2.objs.size = hp.objs.size := by rw [hs2.1, hp2.1, hs1.1, hp1.1, hs0.1]
  have hkk : ∀ c o, c ≠ z → c ≠ TO → c ≠ i1 → c ≠ i2 → hp.get? c = some o → g2.get? c = some o := fun c o cz cT c1 c2 e =>
    hs2.extBut _ _ cT (hp2.extBut _ _ c2 (hs1.extBut _ _ cT (hp1.extBut _ _ c1 (hs0.extBut _ _ cz e))))
  have hzz : IsZipB true g2 z TI TO .ellipsis := hs2.extBut _ _ S.TOz.symm (hp2.extBut _ _ S.zi2 (hs1.extBut _ _ S.TOz.symm (hp1.extBut _ _ S.zi1 hz0)))
  have hj1 : St1 (i + 1) g2 := D1.over (D1.over (D1.over sn1 hs1 S.Tf1) hp2 S.sep2_1) hs2 S.Tf1
  have hj2 : St2 (i + 1) g2 := D2.over sn2 hs2 S.Tf2
  have hzlt : z < g2.objs.size := Heap.lt_size hzz
  show wpAny _ _ (Builtin.SmallTypes.ownedTupleHandOut (.ref z) (.ref g2.objs.size) >>= _) _ _ ⟨g2.push { cls := .type "tuple", data := .seq #[x1, x2] }, g, d, tk2, os⟩
  refine wpAny_bind ?_
  unfold Builtin.SmallTypes.ownedTupleHandOut
  have hz6 : IsZipB true (g2.push { cls := .type "tuple", data := .seq #[x1, x2] }) z TI TO .ellipsis := Heap.get?_push_of_some _ hzz
  refine wpAny_bind (wpAny_setField_rec hz6 (by simp) fun h7 hz7 hs7 => ?_)
  replace hz7 : IsZipB true h7 z TI TO (rawInt g2.objs.size) := hz7
  refine wpAny_setField_rec hz7 (by simp) fun h8 hz8 hs8 => ?_
  replace hz8 : IsZipB true h8 z TI TO (rawInt g2.objs.size) := hz8
  replace hs7 : Heap.SameBut z (g2.push { cls := .type "tuple", data := .seq #[x1, x2] }) h7 := hs7
  replace hs8 : Heap.SameBut z h7 h8 := hs8
  have up : ∀ c o, c ≠ z → g2.get? c = some o → h8.get? c = some o := fun c o c1 e => hs8.extBut _ _ c1 (hs7.extBut _ _ c1 (Heap.get?_push_of_some _ e))
  have hT8 : IsTupOf2 h8 g2.objs.size x1 x2 := hs8.extBut _ _ (Nat.ne_of_gt hzlt) (hs7.extBut _ _ (Nat.ne_of_gt hzlt) (Heap.get?_push_size _ rfl))
  rw [hsz] at hz8 hT8
  refine wpAny_pure ⟨_, rfl, ?_⟩
  show Q (.ref g2.objs.size) ⟨h8, g, d, tk2, os⟩
  rw [hsz]
  exact hQ x1 x2 h8 tk2 hx1 hx2 hz8 (up _ _ S.TOz hT2) (D1.frame _ _ _ hj1 fun b hb o e => up b o (fun q => S.zf1 (q ▸ hb)) e) (D2.frame _ _ _ hj2 fun b hb o e => up b o (fun q => S.zf2 (q ▸ hb)) e) hT8 fun c o cz cT c1 c2 e => up c o cz (hkk c o cz cT c1 c2 e)
theorem zipS_end {Q : Fin → Shared → Prop} (hh : A.handled = none) (S : ZipSep2 z TI TO i1 i2 fp1 fp2) (D1 : Draws prog w A i1 fp1 n P1 St1) (D2 : Draws prog w A i2 fp2 n P2 St2)
    (hz : IsZipB true s.heap z TI TO .none) (hTI : IsTupOf2 s.heap TI (.ref i1) (.ref i2)) (hTO : IsTupOf2 s.heap TO a1 a2) (st1 : St1 n s.heap) (st2 : St2 n s.heap)
    (hne : ∀ b ∈ fp2, b < s.heap.objs.size)
    (hE : ∀ h' tk e, (∀ c o, c ≠ z → c ≠ TO → c ≠ i1 → c ≠ i2 → s.heap.get? c = some o → h'.get? c = some o) → (∃ o, h'.get? e = some o ∧ o.cls = .type "StopIteration") → E (.ref e) { s with heap := h', toks := tk }) :
    wpAny (model prog w) A (Builtin.«zip.__next__» ⟨[.ref z], []⟩) Q E s := by
  obtain ⟨hp, g, d, tk0, os⟩ := s
  show wpAny _ _ (field (.ref z) 2 >>= _) _ _ _
  refine wpAny_bind (wpAny_field hz rfl (x := .bool true) rfl ?_)
  show wpAny _ _ (field (.ref z) 3 >>= _) _ _ _
  refine wpAny_bind (wpAny_field hz rfl (x := .ref TI) rfl ?_)
  refine wpAny_bind (wpAny_seqItems hTI rfl ?_)
  show wpAny _ _ (Builtin.SmallTypes.ownedTupleIsFree (.ref z) >>= _) _ _ _
  refine wpAny_bind ?_
  unfold Builtin.SmallTypes.ownedTupleIsFree
  refine wpAny_bind (wpAny_field hz rfl (x := .none) rfl (wpAny_pure ?_))
  simp only [if_true]
  refine wpAny_bind (wpAny_rule ?_)
  refine wpAny_bind (wpAny_field hz rfl (x := .ref TO) rfl ?_)
  refine wpAny_bind (wpAny_setField_rec hz (by simp) fun g0 hz0 hs0 => ?_)
  replace hz0 : IsZipB true g0 z TI TO .ellipsis := hz0
  replace hs0 : Heap.SameBut z hp g0 := hs0
  refine wpAny_bind ?_
  simp only [List.zipIdx_cons, List.zipIdx_nil, List.forIn_cons, List.forIn_nil]
  refine wpAny_bind (wpAny_bind (wpAny_onRaise ?_))
  show wpAny _ _ (Builtin.SmallTypes.nextOrEnd (.ref i1)) _ _ ⟨g0, g, d, tk0, os⟩
  refine nextOr_end D1 (D1.over st1 hs0 S.zf1) fun p1 hp1 => ?_
  replace hp1 : Heap.ExtBut i1 g0 p1 := hp1
  have hzq : IsZipB true p1 z TI TO .ellipsis := hp1 _ _ S.zi1 hz0
  refine wpAny_bind (wpAny_setField_rec (s := ⟨p1, g, d, tk0, os⟩) hzq (by simp) fun p2 hz2 hs2 => ?_)
  replace hs2 : Heap.SameBut z p1 p2 := hs2
  have st2' : St2 n p2 := D2.over (D2.frame _ _ _ (D2.over st2 hs0 S.zf2) fun b hb o e => hp1 b o (fun q => S.sep1_2 (q ▸ hb)) e) hs2 S.zf2
  refine wpAny_bind ?_
  have q2 : ∀ {Q : Option Value → Shared → Prop} {E : Value → Shared → Prop}, (∀ h', Heap.ExtBut i2 p2 h' → Q none ⟨h', g, d, tk0, os⟩) → wpAny (model prog w) A (Builtin.SmallTypes.nextOrEnd (.ref i2)) Q E ⟨p2, g, d, tk0, os⟩ :=
    fun q => nextOr_end D2 st2' q
  wp_step
  wp_step
  dsimp only [List.drop, List.zipIdx_cons, List.zipIdx_nil]
  simp only [List.zipIdx_cons, List.zipIdx_nil, List.forIn_cons, List.forIn_nil]
  refine wpAny_bind (wpAny_bind (wpAny_bind (q2 fun h3 hb3 => ?_)))
  replace hb3 : Heap.ExtBut i2 p2 h3 := hb3
  rw [if_neg (by decide)]
  refine wpAny_pure (wpAny_pure (wpAny_bind (wpAny_rule ?_)))
  unfold Builtin.SmallTypes.stopIteration
  refine wpAny_bind ?_
  simp only [newExc, newTuple]
  refine wpAny_bind (wpAny_newObj_type ?_ (by size_fits))
  refine wpAny_bind (m := firstArgMember _ _) (wpAny_of_eq (a := Value.none) (by first | rfl | (simp only [firstArgMember]; rfl)) ?_)
  refine wpAny_newObj_type ?_ (by size_fits)
  simp only [raiseNew]
  refine wpAny_bind (wpAny_handled ?_)
  rw [hh]
  refine wpAny_bind (wpAny_pure (wpAny_throw ?_))
  refine hE _ _ _ (fun c o cz cT c1 c2 x => ?_) ⟨_, Heap.get?_push_size _ rfl, rfl⟩
  refine Heap.get?_push_of_some _ (Heap.get?_push_of_some _ (hb3 _ _ c2 (hs2.extBut _ _ cz (hp1 _ _ c1 (hs0.extBut _ _ cz x)))))
end
end SC

/-! part E4 -/
set_option Elab.async false
set_option linter.all false
set_option maxRecDepth 100000
set_option maxHeartbeats 4000000
namespace SC
open PySem PySem.Spec PyProof.Rows L2
section
variable {prog : Program} {w : World} {A : Around} {E : Value → Shared → Prop} {s : Shared} {z TI TO i1 i2 : Addr} {fp1 fp2 : List Addr} {n i : Nat} {P1 P2 : Nat → Value → Prop} {St1 St2 : Nat → Heap → Prop} {a1 a2 : Value}
theorem goS {elts : List Expr} {x1 : Nat} {pos : Pos} {T : Addr} {b : Bool} {Q : Unit → Shared → Prop} (hz : IsZipB b s.heap z TI TO (rawInt T))
    (hQ : ∀ h', IsZipB b h' z TI TO .none → Heap.SameBut z s.heap h' → Q () { s with heap := h' }) :
    wpAny (model prog w) A (letOwnedTupleGo (.Tuple elts x1 pos) (.ref z) (.ref T)) Q E s := by
  unfold letOwnedTupleGo
  refine wpAny_bind (wpAny_load hz ?_)
  show wpAny _ _ (if (["enumerate", "zip", "dict_itemiterator", "dict_reverseitemiterator", "odict_iterator", "itertools.zip_longest", "itertools.pairwise"].contains "zip" &&
      (#[rawInt T, .bool false, .bool b, .ref TI, .ref TO] : Array Value)[0]? == some (rawInt T)) = true then _ else _) Q E s
  rw [if_pos (by simp)]
  refine wpAny_bind (wpAny_rule ?_)
  show wpAny _ _ (setField (.ref z) 0 .none) Q E s
  exact wpAny_setField_rec hz (by simp) fun h' hz' hs' => hQ h' hz' hs'
theorem iterS {b : Bool} {f0 : Value} {Q : Value → Shared → Prop} (hz : IsZipB b s.heap z TI TO f0) (h : Q (.ref z) s) : wpAny (model prog w) A (pyIter (.ref z)) Q E s := by
  have hT : s.TypeIs (.ref z) "zip" := ⟨_, hz, rfl⟩
  refine wpAny_pyIter_slot hT F.slot_zip_iter (wpAny_call_entry F.slot_zip_iter hT F.entry_zip_iter ?_ (F.args_zip_iter_1 _))
  show wpAny _ _ (ret (.ref z)) _ _ s
  exact wpAny_pure ⟨_, rfl, "zip", _, hT, F.slot_zip_next.lookup, h⟩
theorem pyNextS_item {Q : Option Value → Shared → Prop} (S : ZipSep2 z TI TO i1 i2 fp1 fp2) (D1 : Draws prog w A.in1 i1 fp1 n P1 St1) (D2 : Draws prog w A.in1 i2 fp2 n P2 St2)
    (hz : IsZipB true s.heap z TI TO .none) (hTI : IsTupOf2 s.heap TI (.ref i1) (.ref i2)) (hTO : IsTupOf2 s.heap TO a1 a2) (st1 : St1 i s.heap) (st2 : St2 i s.heap) (hlt : i < n)
    (hQ : ∀ x1 x2 h' tk, P1 i x1 → P2 i x2 → IsZipB true h' z TI TO (rawInt s.heap.objs.size) → IsTupOf2 h' TO x1 x2 → St1 (i + 1) h' → St2 (i + 1) h' → IsTupOf2 h' s.heap.objs.size x1 x2 →
      (∀ c o, c ≠ z → c ≠ TO → c ≠ i1 → c ≠ i2 → s.heap.get? c = some o → h'.get? c = some o) → Q (some (.ref s.heap.objs.size)) { s with heap := h', toks := tk }) :
    wpAny (model prog w) A (pyNext (.ref z)) Q E s := by
  have hT : s.TypeIs (.ref z) "zip" := ⟨_, hz, rfl⟩
  unfold pyNext
  exact wpAny_bind (wpAny_attempt (wpAny_callSpecial?_slot (name := Str.ofString "__next__") hT F.slot_zip_next
    (wpAny_call_entry F.slot_zip_next hT F.entry_zip_next
      (zipS_item S D1 D2 hz hTI hTO st1 st2 hlt fun x1 x2 h' tk y1 y2 b1 b2 d1 d2 b5 b7 => wpAny_pure (hQ x1 x2 h' tk y1 y2 b1 b2 d1 d2 b5 b7)) (F.args_zip_next_1 _))))
theorem pyNextS_end {Q : Option Value → Shared → Prop} (hh : A.in1.handled = none) (S : ZipSep2 z TI TO i1 i2 fp1 fp2) (D1 : Draws prog w A.in1 i1 fp1 n P1 St1) (D2 : Draws prog w A.in1 i2 fp2 n P2 St2)
    (hz : IsZipB true s.heap z TI TO .none) (hTI : IsTupOf2 s.heap TI (.ref i1) (.ref i2)) (hTO : IsTupOf2 s.heap TO a1 a2) (st1 : St1 n s.heap) (st2 : St2 n s.heap) (hne : ∀ b ∈ fp2, b < s.heap.objs.size)
    (hQ : ∀ h' tk, (∀ c o, c ≠ z → c ≠ TO → c ≠ i1 → c ≠ i2 → s.heap.get? c = some o → h'.get? c = some o) → Q none { s with heap := h', toks := tk }) : wpAny (model prog w) A (pyNext (.ref z)) Q E s := by
  have hT : s.TypeIs (.ref z) "zip" := ⟨_, hz, rfl⟩
  unfold pyNext
  refine wpAny_bind (wpAny_attempt (wpAny_callSpecial?_slot (name := Str.ofString "__next__") hT F.slot_zip_next
    (wpAny_call_entry F.slot_zip_next hT F.entry_zip_next (zipS_end hh S D1 D2 hz hTI hTO st1 st2 hne fun h' tk e hk he => ?_) (F.args_zip_next_1 _))))
  obtain ⟨o, ho, hc⟩ := he
  refine wpAny_bind (wpAny_isInstance (T := "StopIteration") (b := true) ⟨o, ho, hc⟩ isSubtype_stop ?_)
  exact wpAny_pure (hQ _ _ hk)
end
/-- two of one length, strictly zipped -/
def ItzS (k1 k2 : Bool) (K : PySem.W.Frag) (a b : Addr) : It :=
  ⟨fun i H => ∃ (xs ys : List V) (x y : V), SqK k1 K H a xs ∧ SqK k2 K H b ys ∧ xs.length = ys.length ∧ xs[i]? = some x ∧ ys[i]? = some y,
    fun i H v H' => ∃ T x y, v = .ref T ∧ H T = none ∧ H' = upd H T (.tup [x, y]) ∧ (∀ xs, SqK k1 K H a xs → xs[i]? = some x) ∧ ∀ ys, SqK k2 K H b ys → ys[i]? = some y,
    fun i H => ∃ xs ys : List V, SqK k1 K H a xs ∧ SqK k2 K H b ys ∧ xs.length = i ∧ ys.length = i⟩
theorem turn_zipS {k1 k2 : Bool} {P : Program} {w : World} {K : PySem.W.Frag} {elts : List Expr} {kk : Nat} {tpos : Pos} {z TI TO i1 i2 a b : Addr} (D : ApartK z TI TO i1 i2 a b) :
    Turn P w K (.Tuple elts kk tpos) (ItzS k1 k2 K a b) [z, TI, TO, i1, i2] z (fun i h => IsZipB true h z TI TO .none ∧ IsTupOf2 h TI (.ref i1) (.ref i2) ∧ (∃ a1 a2, IsTupOf2 h TO a1 a2) ∧ IterK k1 h i1 a i ∧ IterK k2 h i2 b i) where
  mem := by simp
  obj := fun i h st c hc => by
    obtain ⟨hz, hTI, ⟨x, y, hTO⟩, h1, h2⟩ := st
    have e' : c = z ∨ c = TI ∨ c = TO ∨ c = i1 ∨ c = i2 := by simpa using hc
    rcases e' with q | q | q | q | q
    · rw [q]; exact ⟨_, hz, fun v q => nomatch q⟩
    · rw [q]; exact ⟨_, hTI, fun v q => nomatch q⟩
    · rw [q]; exact ⟨_, hTO, fun v q => nomatch q⟩
    · rw [q]; exact iterK_obj h1
    · rw [q]; exact iterK_obj h2
  keep := fun i h h' st k => by
    obtain ⟨hz, hTI, ⟨x, y, hTO⟩, h1, h2⟩ := st
    exact ⟨k z (by simp) _ hz, k TI (by simp) _ hTI, ⟨x, y, k TO (by simp) _ hTO⟩, iterK_at h1 fun o q => k i1 (by simp) o q, iterK_at h2 fun o q => k i2 (by simp) o q⟩
  item := by
    intro X hP hw hK hc i pins s σ H E I hf st hg
    subst hP hw hK
    obtain ⟨hz, hTI, ⟨a1, a2, hTO⟩, h1, h2⟩ := st
    obtain ⟨xs, ys, x, y, hqx, hqy, hll, hx, hy⟩ := hg
    obtain ⟨its, rv, p1⟩ := inv_seqK I hqx
    obtain ⟨its2, rv2, p2⟩ := inv_seqK I hqy
    obtain ⟨u, hu, ru⟩ := rv.get hx
    obtain ⟨u2, hu2, ru2⟩ := rv2.get hy
    have hh : X.A.in1.handled = none := I.ok.hd hc
    have nai : a ≠ i1 := fun q => D.na (by rw [q]; simp)
    have nbi : b ≠ i2 := fun q => D.nb (by rw [q]; simp)
    obtain ⟨fp1, hf1, m1, D1⟩ := drawsK (k := k1) (prog := X.prog) (w := X.w) (A := X.A.in1) hh i1 a nai its.toArray
    obtain ⟨fp2, hf2, m2, D2⟩ := drawsK (k := k2) (prog := X.prog) (w := X.w) (A := X.A.in1) hh i2 b nbi its2.toArray
    have hn : its2.toArray.size = its.toArray.size := by
      have := rv.length
      have := rv2.length
      simp only [List.size_toArray]
      omega
    rw [hn] at D2
    have S := D.sep hf1 hf2 m1 m2
    have l1 : i < its.toArray.size := by
      have := (List.getElem?_eq_some_iff.mp hu).1
      simpa using this
    have lz : ∀ c ∈ [z, TI, TO, i1, i2], c < s.heap.objs.size := fun c hc => by
      have e' : c = z ∨ c = TI ∨ c = TO ∨ c = i1 ∨ c = i2 := by simpa using hc
      rcases e' with q | q | q | q | q
      · rw [q]; exact Heap.lt_size hz
      · rw [q]; exact Heap.lt_size hTI
      · rw [q]; exact Heap.lt_size hTO
      · obtain ⟨o, ho, _⟩ := iterK_obj h1
        rw [q]; exact Heap.lt_size ho
      · obtain ⟨o, ho, _⟩ := iterK_obj h2
        rw [q]; exact Heap.lt_size ho
    refine pyNextS_item S D1 D2 hz hTI hTO ⟨h1, p1⟩ ⟨h2, p2⟩ l1 fun y1 y2 h' tk hy1 hy2 hz' hTO' hs1 hs2 hT hk => ?_
    refine ⟨_, rfl, goS (s := { s with heap := h', toks := tk }) hz' fun h3 hz3 sb => ?_⟩
    replace sb : Heap.SameBut z h' h3 := sb
    have e1 : y1 = u := by
      have q1 : its.toArray[i]? = some u := by simpa using hu
      rw [q1] at hy1
      exact (Option.some.inj hy1).symm
    have e2 : y2 = u2 := by
      have q1 : its2.toArray[i]? = some u2 := by simpa using hu2
      rw [q1] at hy2
      exact (Option.some.inj hy2).symm
    subst e1 e2
    have zlt := lz z (by simp)
    have hT3 : h3.get? s.heap.objs.size = some { cls := .type "tuple", data := .seq #[y1, y2] } := sb.extBut _ _ (Nat.ne_of_gt zlt) hT
    have new : ObjOk X.prog X.w (upd H s.heap.objs.size (.tup [x, y])) h3 s.heap.objs.size (.tup [x, y]) :=
      ⟨by show 2 ≤ sizeLine; decide, [y1, y2], .cons ru (.cons ru2 .nil), ⟨_, hT3, rfl, _, rfl⟩⟩
    have I1 := I.turnedNew (t' := tk) (ch := [z, TI, TO, i1, i2]) (fun c ob hb q => by
      have n := hb
      simp only [List.mem_cons, List.not_mem_nil, or_false, not_or] at n
      exact sb.extBut _ _ n.1 (hk c ob n.1 n.2.2.1 n.2.2.2.1 n.2.2.2.2 q)) hf (Nat.le_refl _) new
    have nd := D.nd
    simp only [List.nodup_cons, List.mem_cons, List.not_mem_nil, or_false, not_or] at nd
    have off : ∀ c, c ≠ z → ∀ o, h'.get? c = some o → h3.get? c = some o := fun c n o q => sb.extBut _ _ n q
    refine ⟨.ref s.heap.objs.size, _, I1, rfl, ⟨_, x, y, rfl, I.hok.fresh (Nat.le_refl _), rfl, fun l hl => by rw [seqK_inj I hl hqx]; exact hx, fun l hl => by rw [seqK_inj I hl hqy]; exact hy⟩,
      ⟨hz3, off _ S.TIz _ (hk _ _ S.TIz S.TITO S.TIi1 S.TIi2 hTI), ⟨_, _, off _ S.TOz _ hTO'⟩, iterK_at hs1.1 (off _ S.zi1.symm), iterK_at hs2.1 (off _ S.zi2.symm)⟩, fun c hcm => ?_⟩
    rw [upd_ne (Nat.ne_of_lt (lz c hcm))]
    exact (hf c hcm).1
  done := by
    intro X hP hw hK hc i pins s σ H E I hf st hg
    subst hP hw hK
    obtain ⟨hz, hTI, ⟨a1, a2, hTO⟩, h1, h2⟩ := st
    obtain ⟨xs, ys, hqx, hqy, hl1, hl2⟩ := hg
    obtain ⟨its, rv, p1⟩ := inv_seqK I hqx
    obtain ⟨its2, rv2, p2⟩ := inv_seqK I hqy
    have hh : X.A.in1.handled = none := I.ok.hd hc
    have nai : a ≠ i1 := fun q => D.na (by rw [q]; simp)
    have nbi : b ≠ i2 := fun q => D.nb (by rw [q]; simp)
    obtain ⟨fp1, hf1, m1, D1⟩ := drawsK (k := k1) (prog := X.prog) (w := X.w) (A := X.A.in1) hh i1 a nai its.toArray
    obtain ⟨fp2, hf2, m2, D2⟩ := drawsK (k := k2) (prog := X.prog) (w := X.w) (A := X.A.in1) hh i2 b nbi its2.toArray
    have n1 : its.toArray.size = i := by
      have := rv.length
      simp only [List.size_toArray]
      omega
    have n2 : its2.toArray.size = i := by
      have := rv2.length
      simp only [List.size_toArray]
      omega
    rw [n1] at D1
    rw [n2] at D2
    refine pyNextS_end hh (D.sep hf1 hf2 m1 m2) D1 D2 hz hTI hTO ⟨h1, p1⟩ ⟨h2, p2⟩ (fun c hm => ?_) fun h' tk hk => ⟨rfl, ?_⟩
    · rcases hf2 c hm with q | q
      · obtain ⟨o, ho, _⟩ := iterK_obj h2
        rw [q]; exact Heap.lt_size ho
      · rw [q]; exact stands_lt p2
    · exact I.turnedL (ch := [z, TI, TO, i1, i2]) (fun c o hb q => by
        have n := hb
        simp only [List.mem_cons, List.not_mem_nil, or_false, not_or] at n
        exact hk c o n.1 n.2.2.1 n.2.2.2.1 n.2.2.2.2 q) hf
  self := fun A i s Q E st h => iterS st.1 h
def iZipS (K : PySem.W.Frag) (ta : TA) : TI := fun σ H R => ta σ H fun vs H1 => ∃ k1 k2 a b xs ys, vs = [.ref a, .ref b] ∧ SqK k1 K H1 a xs ∧ SqK k2 K H1 b ys ∧ R (ItzS k1 k2 K a b) H1
/-- zip(x, y, strict=True) -/
theorem pi_zipS {X : Cx} {e e2 : Expr} {ta : TA} {p pos tpos kp cp : Pos} {cj : Nat} {elts : List Expr} {kk : Nat} (hg : Gl X "zip") (hm : X.mg "zip" = none) (ha : PA X [e, e2] ta)
    (hs : starEach [e, e2] X.env = (false, eval e X.env) :: starEach [e2] X.env := by rfl) (hpl : (backTo pos (starEach [e2] X.env)).any (·.1) = false := by rfl) :
    PI X (.Tuple elts kk tpos) (.Call (.Name "zip" p) [e, e2] [⟨some (Str.ofString "strict"), .Constant (.bool true) cj cp, kp⟩] pos) (iZipS X.K ta) := by
  refine ⟨fun pins s σ H R I h => ?_⟩
  refine call_zipKw hg hm ha I hs hpl h fun vs H1 us s1 I1 r1 q1 => ?_
  obtain ⟨k1, k2, a, b, xs, ys, ex, hqx, hqy, q⟩ := q1
  subst ex
  cases r1 with
  | cons r rr =>
    cases rr with
    | cons r' rr =>
      cases rr
      cases r
      cases r'
      obtain ⟨its, rv, p1⟩ := inv_seqK I1 hqx
      obtain ⟨its2, rv2, p2⟩ := inv_seqK I1 hqy
      refine zip_beginsS (beginsK k1 a its.toArray) (beginsK k2 b its2.toArray) p1 p2 fun h' hz hTI hTO g1 g2 hk => iterS hz ?_
      have I2 : Inv X pins σ H1 { s1 with heap := h' } := I1.kept (t' := s1.toks) hk
      refine ⟨_, [s1.heap.objs.size + 4, s1.heap.objs.size + 2, s1.heap.objs.size + 3, s1.heap.objs.size, s1.heap.objs.size + 1], _, _, H1, rfl, I2, turn_zipS (k1 := k1) (k2 := k2) (apart_new (stands_lt p1) (stands_lt p2)), ⟨hz, hTI, ⟨_, _, hTO⟩, itO_at g1, itO_at g2⟩, fun c hcm => ?_, q⟩
      have hle : s1.heap.objs.size ≤ c := by
        have e' : c = s1.heap.objs.size + 4 ∨ c = s1.heap.objs.size + 2 ∨ c = s1.heap.objs.size + 3 ∨ c = s1.heap.objs.size ∨ c = s1.heap.objs.size + 1 := by simpa using hcm
        rcases e' with z | z | z | z | z
        · rw [z]; exact Nat.le_add_right _ _
        · rw [z]; exact Nat.le_add_right _ _
        · rw [z]; exact Nat.le_add_right _ _
        · rw [z]; exact Nat.le_refl _
        · rw [z]; exact Nat.le_add_right _ _
      exact I1.fpOk hle (I1.hok.fresh hle)
theorem walk_zipS {k1 k2 : Bool} {K : PySem.W.Frag} {a b : Addr} {xs ys : List V} {n : Nat} (h1 : xs.length = n) (h2 : ys.length = n) : Walk (ItzS k1 k2 K a b) n (fun H => SqK k1 K H a xs ∧ SqK k2 K H b ys) (YPair (fun i => xs[i]?) (fun i => ys[i]?)) := by
  refine ⟨fun i H hi q => ?_, fun H q => ⟨xs, ys, q.1, q.2, h1, h2⟩, fun i H v H' hi q y => ?_⟩
  · have g1 : i < xs.length := by omega
    have g2 : i < ys.length := by omega
    exact ⟨xs, ys, xs[i], ys[i], q.1, q.2, by omega, by simp [g1], by simp [g2]⟩
  · obtain ⟨T, x, z, h1, h2, h3, h4, h5⟩ := y
    exact ⟨T, x, z, h1, h2, h3, h4 xs q.1, h5 ys q.2⟩
end SC

/-! part E5 -/
set_option Elab.async false
set_option linter.all false
set_option maxRecDepth 100000
set_option maxHeartbeats 4000000
namespace SC
open PySem PySem.Spec PyProof.Rows L2
open AutoSeq1 (wpAny_loadPart')
/-! xs[i], for xs[i] += e -/
def gIxL (K : PySem.W.Frag) : V → V → Hp → VK → Prop := fun o i H Q => ∃ (l : Addr) (xs : List V) (j : Nat) (v : V), o = .ref l ∧ i = .int (j : Int) ∧ SqL K H l xs ∧ xs[j]? = some v ∧ Q v H
theorem pget_list {X : Cx} : PGet X (gIxL X.K) := by
  intro pins s σ H o i ov iv Q I ro ri h
  obtain ⟨l, xs, j, v, rfl, rfl, hq, hv, q⟩ := h
  cases ro
  obtain ⟨t, rfl⟩ := ri
  obtain ⟨its, r, pl, hz⟩ := I.list hq
  obtain ⟨u, hu, ru⟩ := r.get hv
  have hj : j < xs.length := (List.getElem?_eq_some_iff.mp hv).1
  rw [sizeLine_eq] at hz
  exact wpAny_getItem_list pl.isList (by omega) (by omega) (by simpa using hu) ⟨v, H, I, ru, q⟩
/-! (v,) * k -/
theorem tupMul_one (l : Addr) (items : Array Value) (n : Nat) (dd : Option Addr) (sl : Array (Option Value)) (u : Tok) :
    Meets (Builtin.«tuple.__mul__» ⟨[.ref l, .int 1 u], []⟩) (fun _ R s => s.heap.get? l = some { cls := .type "tuple", dict := dd, data := .seq items n, slots := sl } ∧ R (.ok (.ret (.ref l))) s) :=
  .of_wp fun prog w A R s h => by
    obtain ⟨hp, g, d, tk, os⟩ := s
    obtain ⟨hl, h⟩ := h
    have f1 := AutoSeq1.idx_int
    have c0 : (decide ((1 : Int) < -(2 ^ 63)) || decide ((1 : Int) ≥ 2 ^ 63)) = false := by decide
    have c1 : (items.isEmpty || (1 : Int) == 1) = true := by simp
    wp_walk using wpAny_loadPart' hl
    repeat (first
      | (refine wpAny_ite_false (decide_eq_false (by rw [c0]; exact Bool.false_ne_true)) ?_; wp_walk using wpAny_loadPart' hl)
      | (refine wpAny_ite_true (decide_eq_true (by rw [c1])) ?_; wp_walk using wpAny_loadPart' hl))
    exact ⟨_, rfl, h⟩
theorem tupMul_zero (l : Addr) (x : Value) (n : Nat) (dd : Option Addr) (sl : Array (Option Value)) (u : Tok) :
    Meets (Builtin.«tuple.__mul__» ⟨[.ref l, .int 0 u], []⟩) (fun _ R s => s.heap.get? l = some { cls := .type "tuple", dict := dd, data := .seq #[x] n, slots := sl } ∧
      R (.ok (.ret (Value.ref s.heap.objs.size))) { s with heap := s.heap.push { cls := Value.type "tuple", data := Data.seq #[] } }) :=
  .of_wp fun prog w A R s h => by
    obtain ⟨hp, g, d, tk, os⟩ := s
    obtain ⟨hl, h⟩ := h
    have f1 := AutoSeq1.idx_int
    have c0 : (decide ((0 : Int) < -(2 ^ 63)) || decide ((0 : Int) ≥ 2 ^ 63)) = false := by decide
    have c1 : ((#[x] : Array Value).isEmpty || (0 : Int) == 1) = false := by simp
    have c2 : (decide ((0 : Int) ≤ 0) || (#[x] : Array Value).isEmpty) = true := by simp
    wp_walk using wpAny_loadPart' hl
    repeat (first
      | (refine wpAny_ite_false (decide_eq_false (by rw [c0]; exact Bool.false_ne_true)) ?_; wp_walk using wpAny_loadPart' hl)
      | (refine wpAny_ite_false (decide_eq_false (by rw [c1]; exact Bool.false_ne_true)) ?_; wp_walk using wpAny_loadPart' hl)
      | (refine wpAny_ite_true (decide_eq_true (by rw [c2])) ?_; wp_walk using wpAny_loadPart' hl))
    exact ⟨_, rfl, h⟩
/-- (v,) * k, k from 0 to 1000 -/
def rRep1 (K : PySem.W.Frag) : R2 := fun x y H Q => ∃ l k v, x = .ref l ∧ y = .int k ∧ SqT K H l [v] ∧ 0 ≤ k ∧ k ≤ 1000 ∧ (k = 1 → Q (.ref l) H) ∧ (k ≠ 1 → ∀ p, H p = none → Q (.ref p) (upd H p (.tup (List.replicate k.toNat v))))
theorem flat_rep {v : V} : ∀ n, (List.replicate n [v]).flatten = List.replicate n v
  | 0 => rfl
  | n + 1 => by rw [List.replicate_succ, List.flatten_cons, flat_rep n, List.replicate_succ]; rfl
theorem op_rep1 {X : Cx} : OpR X (binaryOp .Mult) (rRep1 X.K) := by
  intro pins s σ H x y v u Q I rx ry h
  obtain ⟨l, k, z, rfl, rfl, hT, h0, hk, q1, q2⟩ := h
  by_cases h2 : 2 ≤ k
  · exact op_repT pins s σ H _ _ v u Q I rx ry ⟨l, k, [z], rfl, rfl, hT, List.cons_ne_nil _ _, h2, hk, by show 1 ≤ 1000; decide, fun p hp => by rw [flat_rep]; exact q2 (by omega) p hp⟩
  · cases rx
    obtain ⟨t, rfl⟩ := ry
    obtain ⟨its, r, ⟨⟨cls, dd, data, sl⟩, ho, hc, n, hd⟩, hs⟩ := I.tuple hT
    simp only at hc hd
    subst hc hd
    cases r with
    | cons r0 rr =>
      cases rr
      rename_i zv
      have e01 : k = 0 ∨ k = 1 := by omega
      have road : ∀ (j : Int), wpAny (model X.prog X.w) X.A.in1 (call (.builtin "tuple.__mul__") [.ref l, .int j t]) (EP X pins σ Q) X.xe s → True := fun _ _ => trivial
      rcases e01 with rfl | rfl
      · refine wpAny_binaryOp_repeat_ref (T := "tuple") (U := "int") (by decide) ⟨_, ho, rfl⟩ (fun s' => typeIs_int s' _ t) noFill_tuple_mul F.fills_int_mul F.slot_int_rmul repeat_tuple F.slot_int_index.lookup
          (call_meets F.slot_int_rmul (typeIs_int s _ t) F.entry_int_rmul (F.args_int_rmul_2 _ _) (int_rmul_tuple _ t l _ n dd sl)
            ⟨ho, rfl, ⟨_, ho, rfl⟩, call_meets F.slot_tuple_mul ⟨_, ho, rfl⟩ F.entry_tuple_mul (F.args_tuple_mul_2 _ _) (tupMul_zero l zv n dd sl t) ⟨ho, ?_⟩⟩)
        exact ⟨.ref s.heap.objs.size, _, I.laid (t' := s.toks) (o := .tup []) (fun b ob q => Heap.get?_push_of_some _ q) (Nat.le_refl _) ⟨Nat.zero_le _, [], .nil, IsTup.new _ _⟩, rfl, q2 (by decide) _ (I.hok.fresh (Nat.le_refl _))⟩
      · refine wpAny_binaryOp_repeat_ref (T := "tuple") (U := "int") (by decide) ⟨_, ho, rfl⟩ (fun s' => typeIs_int s' _ t) noFill_tuple_mul F.fills_int_mul F.slot_int_rmul repeat_tuple F.slot_int_index.lookup
          (call_meets F.slot_int_rmul (typeIs_int s _ t) F.entry_int_rmul (F.args_int_rmul_2 _ _) (int_rmul_tuple _ t l _ n dd sl)
            ⟨ho, rfl, ⟨_, ho, rfl⟩, call_meets F.slot_tuple_mul ⟨_, ho, rfl⟩ F.entry_tuple_mul (F.args_tuple_mul_2 _ _) (tupMul_one l _ n dd sl t) ⟨ho, ?_⟩⟩)
        exact ⟨.ref l, H, I, rfl, q1 rfl⟩
end SC

/-! part Head -/
set_option Elab.async false
set_option linter.all false
set_option maxRecDepth 100000
set_option maxHeartbeats 0

namespace SC
open PySem PySem.Spec PyProof.Rows L2
def top (i : Nat) : Stmt := PySem.Challenge.pw_splitclimb_k36_whole_bounds_of_players.main.body.getD i (.Pass ⟨0, 0, 0, 0⟩)
abbrev s_is_integer : Stmt := top 14
abbrev s_is_at_least : Stmt := top 15
abbrev s_is_between : Stmt := top 16
abbrev s_require_schedule : Stmt := top 20
abbrev s_require_rounds : Stmt := top 21
abbrev s_is_group : Stmt := top 22
abbrev s_require_counts : Stmt := top 23
abbrev s_require_small_round : Stmt := top 24
abbrev s_require_split : Stmt := top 25
abbrev s_products : Stmt := top 26
abbrev s_scaled_weight : Stmt := top 27
abbrev s_climbed : Stmt := top 28
abbrev s_is_row : Stmt := top 30
abbrev s_require_plan : Stmt := top 31
abbrev s_require_choices : Stmt := top 32
abbrev s_word_numbers : Stmt := top 33
abbrev s_make_plan : Stmt := top 34
abbrev s_check_plan : Stmt := top 35
abbrev s_climbers_between : Stmt := top 36
abbrev s_split_of : Stmt := top 37
abbrev s_group_weights : Stmt := top 39
abbrev s_lightest_group : Stmt := top 40
abbrev s_heaviest_group : Stmt := top 41
abbrev s_shared_out : Stmt := top 42
abbrev s_balanced_split : Stmt := top 43
abbrev s_is_word : Stmt := top 50
abbrev s_is_sequence : Stmt := top 51
abbrev s_even_split : Stmt := top 52
abbrev s_joint_split : Stmt := top 53
abbrev s_require_small_rounds : Stmt := top 54
abbrev s_S_init : Stmt := inClass (top 55) 0
abbrev s_S_has_plan : Stmt := inClass (top 55) 1
abbrev s_S_fits : Stmt := inClass (top 55) 2
abbrev s_S_split_position : Stmt := inClass (top 55) 3
abbrev s_C_init : Stmt := inClass (top 56) 0
abbrev s_C_has_list : Stmt := inClass (top 56) 1
abbrev s_C_fits : Stmt := inClass (top 56) 2
abbrev s_C_next_choice : Stmt := inClass (top 56) 3
abbrev s_play : Stmt := top 57
abbrev s_l_cell_at : Stmt := top 59
abbrev s_l_source : Stmt := top 60
abbrev s_l_take : Stmt := top 61
abbrev s_l_pick : Stmt := top 62
abbrev s_l_shuffled : Stmt := top 63
abbrev s_l_rounds : Stmt := top 64
abbrev s_l_crowd : Stmt := top 65
abbrev s_l_shares : Stmt := top 66
abbrev s_l_scaled : Stmt := top 67
abbrev s_l_path : Stmt := top 68
abbrev s_l_drawn_plan : Stmt := top 69
abbrev s_l_one_right : Stmt := top 70
abbrev s_law : Stmt := top 71
def d_is_integer : He.DefD := ⟨("is_integer", none), "is_integer", "is_integer", defArgs s_is_integer, defBody s_is_integer, defScope s_is_integer, [], []⟩
def d_is_at_least : He.DefD := ⟨("is_at_least", none), "is_at_least", "is_at_least", defArgs s_is_at_least, defBody s_is_at_least, defScope s_is_at_least, [], []⟩
def d_is_between : He.DefD := ⟨("is_between", none), "is_between", "is_between", defArgs s_is_between, defBody s_is_between, defScope s_is_between, [], []⟩
def d_require_schedule : He.DefD := ⟨("require_schedule", none), "require_schedule", "require_schedule", defArgs s_require_schedule, defBody s_require_schedule, defScope s_require_schedule, [], []⟩
def d_require_rounds : He.DefD := ⟨("require_rounds", none), "require_rounds", "require_rounds", defArgs s_require_rounds, defBody s_require_rounds, defScope s_require_rounds, [], []⟩
def d_is_group : He.DefD := ⟨("is_group", none), "is_group", "is_group", defArgs s_is_group, defBody s_is_group, defScope s_is_group, [], []⟩
def d_require_counts : He.DefD := ⟨("require_counts", none), "require_counts", "require_counts", defArgs s_require_counts, defBody s_require_counts, defScope s_require_counts, [], []⟩
def d_require_small_round : He.DefD := ⟨("require_small_round", none), "require_small_round", "require_small_round", defArgs s_require_small_round, defBody s_require_small_round, defScope s_require_small_round, [], []⟩
def d_require_split : He.DefD := ⟨("require_split", none), "require_split", "require_split", defArgs s_require_split, defBody s_require_split, defScope s_require_split, [], []⟩
def d_products : He.DefD := ⟨("products", none), "products", "products", defArgs s_products, defBody s_products, defScope s_products, [], []⟩
def d_scaled_weight : He.DefD := ⟨("scaled_weight", none), "scaled_weight", "scaled_weight", defArgs s_scaled_weight, defBody s_scaled_weight, defScope s_scaled_weight, [], []⟩
def d_climbed : He.DefD := ⟨("climbed", none), "climbed", "climbed", defArgs s_climbed, defBody s_climbed, defScope s_climbed, [], []⟩
def d_is_row : He.DefD := ⟨("is_row", none), "is_row", "is_row", defArgs s_is_row, defBody s_is_row, defScope s_is_row, [], []⟩
def d_require_plan : He.DefD := ⟨("require_plan", none), "require_plan", "require_plan", defArgs s_require_plan, defBody s_require_plan, defScope s_require_plan, [], []⟩
def d_require_choices : He.DefD := ⟨("require_choices", none), "require_choices", "require_choices", defArgs s_require_choices, defBody s_require_choices, defScope s_require_choices, [], []⟩
def d_word_numbers : He.DefD := ⟨("word_numbers", none), "word_numbers", "word_numbers", defArgs s_word_numbers, defBody s_word_numbers, defScope s_word_numbers, [], []⟩
def d_make_plan : He.DefD := ⟨("make_plan", none), "make_plan", "make_plan", defArgs s_make_plan, defBody s_make_plan, defScope s_make_plan, [], []⟩
def d_check_plan : He.DefD := ⟨("check_plan", none), "check_plan", "check_plan", defArgs s_check_plan, defBody s_check_plan, defScope s_check_plan, [], []⟩
def d_climbers_between : He.DefD := ⟨("climbers_between", none), "climbers_between", "climbers_between", defArgs s_climbers_between, defBody s_climbers_between, defScope s_climbers_between, [], []⟩
def d_split_of : He.DefD := ⟨("split_of", none), "split_of", "split_of", defArgs s_split_of, defBody s_split_of, defScope s_split_of, [], []⟩
def d_group_weights : He.DefD := ⟨("group_weights", none), "group_weights", "group_weights", defArgs s_group_weights, defBody s_group_weights, defScope s_group_weights, [], []⟩
def d_lightest_group : He.DefD := ⟨("lightest_group", none), "lightest_group", "lightest_group", defArgs s_lightest_group, defBody s_lightest_group, defScope s_lightest_group, [], []⟩
def d_heaviest_group : He.DefD := ⟨("heaviest_group", none), "heaviest_group", "heaviest_group", defArgs s_heaviest_group, defBody s_heaviest_group, defScope s_heaviest_group, [], []⟩
def d_shared_out : He.DefD := ⟨("shared_out", none), "shared_out", "shared_out", defArgs s_shared_out, defBody s_shared_out, defScope s_shared_out, [], []⟩
def d_balanced_split : He.DefD := ⟨("balanced_split", none), "balanced_split", "balanced_split", defArgs s_balanced_split, defBody s_balanced_split, defScope s_balanced_split, [], []⟩
def d_is_word : He.DefD := ⟨("is_word", none), "is_word", "is_word", defArgs s_is_word, defBody s_is_word, defScope s_is_word, [], []⟩
def d_is_sequence : He.DefD := ⟨("is_sequence", none), "is_sequence", "is_sequence", defArgs s_is_sequence, defBody s_is_sequence, defScope s_is_sequence, [], []⟩
def d_even_split : He.DefD := ⟨("even_split", none), "even_split", "even_split", defArgs s_even_split, defBody s_even_split, defScope s_even_split, [], []⟩
def d_joint_split : He.DefD := ⟨("joint_split", none), "joint_split", "joint_split", defArgs s_joint_split, defBody s_joint_split, defScope s_joint_split, [], []⟩
def d_require_small_rounds : He.DefD := ⟨("require_small_rounds", none), "require_small_rounds", "require_small_rounds", defArgs s_require_small_rounds, defBody s_require_small_rounds, defScope s_require_small_rounds, [], []⟩
def d_S_init : He.DefD := ⟨("Splitter", some "__init__"), "__init__", "Splitter.__init__", defArgs s_S_init, defBody s_S_init, defScope s_S_init, [], []⟩
def d_S_has_plan : He.DefD := ⟨("Splitter", some "has_plan"), "has_plan", "Splitter.has_plan", defArgs s_S_has_plan, defBody s_S_has_plan, defScope s_S_has_plan, [], []⟩
def d_S_fits : He.DefD := ⟨("Splitter", some "fits"), "fits", "Splitter.fits", defArgs s_S_fits, defBody s_S_fits, defScope s_S_fits, [], []⟩
def d_S_split_position : He.DefD := ⟨("Splitter", some "split_position"), "split_position", "Splitter.split_position", defArgs s_S_split_position, defBody s_S_split_position, defScope s_S_split_position, [], []⟩
def d_C_init : He.DefD := ⟨("Chooser", some "__init__"), "__init__", "Chooser.__init__", defArgs s_C_init, defBody s_C_init, defScope s_C_init, [], []⟩
def d_C_has_list : He.DefD := ⟨("Chooser", some "has_list"), "has_list", "Chooser.has_list", defArgs s_C_has_list, defBody s_C_has_list, defScope s_C_has_list, [], []⟩
def d_C_fits : He.DefD := ⟨("Chooser", some "fits"), "fits", "Chooser.fits", defArgs s_C_fits, defBody s_C_fits, defScope s_C_fits, [], []⟩
def d_C_next_choice : He.DefD := ⟨("Chooser", some "next_choice"), "next_choice", "Chooser.next_choice", defArgs s_C_next_choice, defBody s_C_next_choice, defScope s_C_next_choice, [], []⟩
def d_play : He.DefD := ⟨("play", none), "play", "play", defArgs s_play, defBody s_play, defScope s_play, [], []⟩
def d_l_cell_at : He.DefD := ⟨("_law_cell_at", none), "_law_cell_at", "_law_cell_at", defArgs s_l_cell_at, defBody s_l_cell_at, defScope s_l_cell_at, [], []⟩
def d_l_source : He.DefD := ⟨("_law_source", none), "_law_source", "_law_source", defArgs s_l_source, defBody s_l_source, defScope s_l_source, [], []⟩
def d_l_take : He.DefD := ⟨("_law_take", none), "_law_take", "_law_take", defArgs s_l_take, defBody s_l_take, defScope s_l_take, [], []⟩
def d_l_pick : He.DefD := ⟨("_law_pick", none), "_law_pick", "_law_pick", defArgs s_l_pick, defBody s_l_pick, defScope s_l_pick, [], []⟩
def d_l_shuffled : He.DefD := ⟨("_law_shuffled", none), "_law_shuffled", "_law_shuffled", defArgs s_l_shuffled, defBody s_l_shuffled, defScope s_l_shuffled, [], []⟩
def d_l_rounds : He.DefD := ⟨("_law_rounds", none), "_law_rounds", "_law_rounds", defArgs s_l_rounds, defBody s_l_rounds, defScope s_l_rounds, [], []⟩
def d_l_crowd : He.DefD := ⟨("_law_crowd", none), "_law_crowd", "_law_crowd", defArgs s_l_crowd, defBody s_l_crowd, defScope s_l_crowd, [], []⟩
def d_l_shares : He.DefD := ⟨("_law_shares", none), "_law_shares", "_law_shares", defArgs s_l_shares, defBody s_l_shares, defScope s_l_shares, [], []⟩
def d_l_scaled : He.DefD := ⟨("_law_scaled", none), "_law_scaled", "_law_scaled", defArgs s_l_scaled, defBody s_l_scaled, defScope s_l_scaled, [], []⟩
def d_l_path : He.DefD := ⟨("_law_path", none), "_law_path", "_law_path", defArgs s_l_path, defBody s_l_path, defScope s_l_path, [], []⟩
def d_l_drawn_plan : He.DefD := ⟨("_law_drawn_plan", none), "_law_drawn_plan", "_law_drawn_plan", defArgs s_l_drawn_plan, defBody s_l_drawn_plan, defScope s_l_drawn_plan, [], []⟩
def d_l_one_right : He.DefD := ⟨("_law_one_right", none), "_law_one_right", "_law_one_right", defArgs s_l_one_right, defBody s_l_one_right, defScope s_l_one_right, [], []⟩
def d_law : He.DefD := ⟨("law", none), "law", "law", defArgs s_law, defBody s_law, defScope s_law, [], []⟩
def fnA : List He.DefD := [d_is_integer, d_is_at_least, d_is_between, d_require_schedule, d_require_rounds, d_is_group, d_require_counts, d_require_small_round, d_require_split, d_products, d_scaled_weight, d_climbed, d_is_row, d_require_plan, d_require_choices, d_word_numbers, d_make_plan, d_check_plan, d_climbers_between, d_split_of, d_group_weights, d_lightest_group, d_heaviest_group, d_shared_out, d_balanced_split, d_is_word, d_is_sequence, d_even_split, d_joint_split, d_require_small_rounds]
def fnB : List He.DefD := [d_S_init, d_S_has_plan, d_S_fits, d_S_split_position, d_C_init, d_C_has_list, d_C_fits, d_C_next_choice, d_play, d_l_cell_at, d_l_source, d_l_take, d_l_pick, d_l_shuffled, d_l_rounds, d_l_crowd, d_l_shares, d_l_scaled, d_l_path, d_l_drawn_plan, d_l_one_right, d_law]
def fn : List He.DefD := fnA ++ fnB
def fa0 : List He.Fa := [.glo "is_integer", .glo "is_at_least", .glo "is_between", .glo "require_schedule", .glo "require_rounds", .glo "is_group", .glo "require_counts", .glo "require_small_round", .glo "require_split", .glo "products", .glo "scaled_weight", .glo "climbed", .glo "is_row", .glo "require_plan", .glo "require_choices", .glo "word_numbers", .glo "make_plan", .glo "check_plan", .glo "climbers_between", .glo "split_of", .glo "group_weights", .glo "lightest_group", .glo "heaviest_group", .glo "shared_out", .glo "balanced_split", .glo "is_word", .glo "is_sequence", .glo "even_split", .glo "joint_split", .glo "require_small_rounds"]
def fa1 : List He.Fa := [.glo "play", .glo "_law_cell_at", .glo "_law_source", .glo "_law_take", .glo "_law_pick", .glo "_law_shuffled", .glo "_law_rounds", .glo "_law_crowd", .glo "_law_shares", .glo "_law_scaled", .glo "_law_path", .glo "_law_drawn_plan", .glo "_law_one_right", .glo "law", .glo "Splitter", .glo "Chooser", .glo "InvalidPlan", .free "isinstance", .free "len", .free "enumerate", .free "int", .free "bool", .free "list", .free "tuple", .free "str", .free "all", .free "any", .free "sum", .free "zip", .free "range"]
def fa2 : List He.Fa := [.free "max", .free "min", .int "MAX_ROUNDS" 200, .int "MAX_GROUPS" 1000, .str "BALANCED" "balanced", .str "EVEN" "even", .str "TOGETHER" "together", .str "LIGHTEST" "lightest", .str "HEAVIEST" "heaviest", .cls "Splitter", .noat "Splitter" "strategy", .meth "Splitter" "has_plan", .meth "Splitter" "fits", .meth "Splitter" "split_position", .mkr "Splitter", .cls "Chooser", .noat "Chooser" "strategy", .meth "Chooser" "has_list", .meth "Chooser" "fits", .meth "Chooser" "next_choice", .mkr "Chooser"]
def fa : List He.Fa := fa0 ++ fa1 ++ fa2
def lo0 : List PySem.Str := ["_wall", "ClimbError", "InvalidSchedule", "InvalidCounts", "InvalidSplit", "InvalidGroup", "InvalidPlan", "InvalidChoices", "InvalidNumber", "InvalidStrategy", "Mismatch", "TooLarge", "is_integer", "is_at_least", "is_between", "MAX_ROUNDS", "MAX_GROUPS", "require_schedule", "require_rounds", "is_group", "require_counts", "require_small_round", "require_split", "products", "scaled_weight", "climbed", "is_row", "require_plan", "require_choices", "word_numbers"]
def lo1 : List PySem.Str := ["make_plan", "check_plan", "climbers_between", "split_of", "group_weights", "lightest_group", "heaviest_group", "shared_out", "balanced_split", "BALANCED", "EVEN", "TOGETHER", "LIGHTEST", "HEAVIEST", "is_word", "is_sequence", "even_split", "joint_split", "require_small_rounds", "Splitter", "Chooser", "play", "_law_cell_at", "_law_source", "_law_take", "_law_pick", "_law_shuffled", "_law_rounds", "_law_crowd", "_law_shares"]
def lo2 : List PySem.Str := ["_law_scaled", "_law_path", "_law_drawn_plan", "_law_one_right"]
def loose : List PySem.Str := lo0 ++ lo1 ++ lo2
/-- of the two classes: what isinstance asks of an instance -/
def instB (K : PySem.W.Frag) (x : Str) : Bool :=
  decide (PySem.W.findIn K (.ref (He.ga K x)) "__class__" = some (some (.builtin "object.__class__"))) && (decide (PySem.W.specialIn K (.builtin "object.__class__") "__get__" = some (some (.builtin "getset_descriptor.__get__"))) &&
    (decide (PySem.W.takesIn K (.builtin "object.__class__") = some true) && decide (PySem.W.mroIn K (He.ga K x) (.type "object") = some true)))
def exB (K : PySem.W.Frag) : Bool := instB K "Splitter" && instB K "Chooser"
abbrev Ob : Type := He.AlD × Bool
def obK (K : PySem.W.Frag) : Ob := (He.obsD fa fn K, exB K)
def obG (g : Addr → Option Obj) : Ob := obK (He.frG g (He.asD g 6))
def hk : PySem.W.Hook where
  α := Ob
  obs := fun s => obG s.heap.get?
  val := fun _ => (He.valD fn, true)
  says := fun _ h => ∃ K : PySem.W.Frag, K.In h ∧ obK K = (He.valD fn, true)
  of := fun _ _ e => ⟨_, He.frG_in, e⟩
  keeps := fun _ _ _ ⟨K, hK, c⟩ k => ⟨K, PySem.W.Frag.In.keeps hK k, c⟩
abbrev R : PySem.W.OpenRow := PySem.W.OpenLaw.row PySem.Challenge.rw_splitclimb_k36_whole_bounds_of_players
def ob (s : PySem.W.SharedT) : Ob := obG (HandSHeadRun.getT s)
theorem ob_eq (s : PySem.W.SharedT) : ob s = hk.obs s.abs := by
  have e : HandSHeadRun.getT s = s.abs.heap.get? := funext (HandSHeadRun.getT_eq s)
  show obG (HandSHeadRun.getT s) = obG s.abs.heap.get?
  rw [e]
theorem topRun (w : World) : HandSHeadRun.RunEq R (PySem.W.view R.prog [71]) hk ob 6000 loose w := by
  intro os
  kernel_rfl
end SC

/-! part W0 -/
set_option Elab.async false
set_option linter.all false
set_option maxRecDepth 100000
set_option maxHeartbeats 4000000
namespace SC
open PySem PySem.Spec PyProof.Rows L2 Evl
/-! what the top has left, by names -/
structure Tx (K : PySem.W.Frag) (mg : Str → Option Value) : Prop where
  env : ∃ h : Heap, K.In h ∧ h.Ns mainGlobals mg
  c : obK K = (He.valD fn, true)
section
variable {K : PySem.W.Frag} {mg : Str → Option Value}
theorem Tx.says (T : Tx K mg) : He.SaysD fa fn K := congrArg Prod.fst T.c
theorem Tx.ex (T : Tx K mg) : exB K = true := congrArg Prod.snd T.c
theorem Tx.gl (T : Tx K mg) (i : Nat) {x : Str} (h : fa[i]? = some (.glo x)) : mg x = some (.ref (He.ga K x)) := by
  obtain ⟨_, X, G⟩ := T.env
  exact He.glo_ok X G (T.says.fact i h)
theorem Tx.fr (T : Tx K mg) (i : Nat) {x : Str} (h : fa[i]? = some (.free x)) : mg x = none := by
  obtain ⟨_, X, G⟩ := T.env
  exact He.free_ok X G (T.says.fact i h)
theorem Tx.it (T : Tx K mg) (i : Nat) {x : Str} {n : Int} (h : fa[i]? = some (.int x n)) : ∃ t, mg x = some (.int n t) := by
  obtain ⟨_, X, G⟩ := T.env
  exact He.int_ok X G (T.says.fact i h)
theorem Tx.sr (T : Tx K mg) (i : Nat) {x z : Str} (h : fa[i]? = some (.str x z)) : ∃ t, mg x = some (.str z t) := by
  obtain ⟨_, X, G⟩ := T.env
  exact He.str_ok X G (T.says.fact i h)

theorem Tx.g_is_integer (T : Tx K mg) : mg "is_integer" = some (.ref (He.ga K "is_integer")) := T.gl 0 rfl
theorem Tx.g_is_at_least (T : Tx K mg) : mg "is_at_least" = some (.ref (He.ga K "is_at_least")) := T.gl 1 rfl
theorem Tx.g_is_between (T : Tx K mg) : mg "is_between" = some (.ref (He.ga K "is_between")) := T.gl 2 rfl
theorem Tx.g_require_schedule (T : Tx K mg) : mg "require_schedule" = some (.ref (He.ga K "require_schedule")) := T.gl 3 rfl
theorem Tx.g_require_rounds (T : Tx K mg) : mg "require_rounds" = some (.ref (He.ga K "require_rounds")) := T.gl 4 rfl
theorem Tx.g_is_group (T : Tx K mg) : mg "is_group" = some (.ref (He.ga K "is_group")) := T.gl 5 rfl
theorem Tx.g_require_counts (T : Tx K mg) : mg "require_counts" = some (.ref (He.ga K "require_counts")) := T.gl 6 rfl
theorem Tx.g_require_small_round (T : Tx K mg) : mg "require_small_round" = some (.ref (He.ga K "require_small_round")) := T.gl 7 rfl
theorem Tx.g_require_split (T : Tx K mg) : mg "require_split" = some (.ref (He.ga K "require_split")) := T.gl 8 rfl
theorem Tx.g_products (T : Tx K mg) : mg "products" = some (.ref (He.ga K "products")) := T.gl 9 rfl
theorem Tx.g_scaled_weight (T : Tx K mg) : mg "scaled_weight" = some (.ref (He.ga K "scaled_weight")) := T.gl 10 rfl
theorem Tx.g_climbed (T : Tx K mg) : mg "climbed" = some (.ref (He.ga K "climbed")) := T.gl 11 rfl
theorem Tx.g_is_row (T : Tx K mg) : mg "is_row" = some (.ref (He.ga K "is_row")) := T.gl 12 rfl
theorem Tx.g_require_plan (T : Tx K mg) : mg "require_plan" = some (.ref (He.ga K "require_plan")) := T.gl 13 rfl
theorem Tx.g_require_choices (T : Tx K mg) : mg "require_choices" = some (.ref (He.ga K "require_choices")) := T.gl 14 rfl
theorem Tx.g_word_numbers (T : Tx K mg) : mg "word_numbers" = some (.ref (He.ga K "word_numbers")) := T.gl 15 rfl
theorem Tx.g_make_plan (T : Tx K mg) : mg "make_plan" = some (.ref (He.ga K "make_plan")) := T.gl 16 rfl
theorem Tx.g_check_plan (T : Tx K mg) : mg "check_plan" = some (.ref (He.ga K "check_plan")) := T.gl 17 rfl
theorem Tx.g_climbers_between (T : Tx K mg) : mg "climbers_between" = some (.ref (He.ga K "climbers_between")) := T.gl 18 rfl
theorem Tx.g_split_of (T : Tx K mg) : mg "split_of" = some (.ref (He.ga K "split_of")) := T.gl 19 rfl
theorem Tx.g_group_weights (T : Tx K mg) : mg "group_weights" = some (.ref (He.ga K "group_weights")) := T.gl 20 rfl
theorem Tx.g_lightest_group (T : Tx K mg) : mg "lightest_group" = some (.ref (He.ga K "lightest_group")) := T.gl 21 rfl
theorem Tx.g_heaviest_group (T : Tx K mg) : mg "heaviest_group" = some (.ref (He.ga K "heaviest_group")) := T.gl 22 rfl
theorem Tx.g_shared_out (T : Tx K mg) : mg "shared_out" = some (.ref (He.ga K "shared_out")) := T.gl 23 rfl
theorem Tx.g_balanced_split (T : Tx K mg) : mg "balanced_split" = some (.ref (He.ga K "balanced_split")) := T.gl 24 rfl
theorem Tx.g_is_word (T : Tx K mg) : mg "is_word" = some (.ref (He.ga K "is_word")) := T.gl 25 rfl
theorem Tx.g_is_sequence (T : Tx K mg) : mg "is_sequence" = some (.ref (He.ga K "is_sequence")) := T.gl 26 rfl
theorem Tx.g_even_split (T : Tx K mg) : mg "even_split" = some (.ref (He.ga K "even_split")) := T.gl 27 rfl
theorem Tx.g_joint_split (T : Tx K mg) : mg "joint_split" = some (.ref (He.ga K "joint_split")) := T.gl 28 rfl
theorem Tx.g_require_small_rounds (T : Tx K mg) : mg "require_small_rounds" = some (.ref (He.ga K "require_small_rounds")) := T.gl 29 rfl
theorem Tx.g_play (T : Tx K mg) : mg "play" = some (.ref (He.ga K "play")) := T.gl 30 rfl
theorem Tx.g__law_cell_at (T : Tx K mg) : mg "_law_cell_at" = some (.ref (He.ga K "_law_cell_at")) := T.gl 31 rfl
theorem Tx.g__law_source (T : Tx K mg) : mg "_law_source" = some (.ref (He.ga K "_law_source")) := T.gl 32 rfl
theorem Tx.g__law_take (T : Tx K mg) : mg "_law_take" = some (.ref (He.ga K "_law_take")) := T.gl 33 rfl
theorem Tx.g__law_pick (T : Tx K mg) : mg "_law_pick" = some (.ref (He.ga K "_law_pick")) := T.gl 34 rfl
theorem Tx.g__law_shuffled (T : Tx K mg) : mg "_law_shuffled" = some (.ref (He.ga K "_law_shuffled")) := T.gl 35 rfl
theorem Tx.g__law_rounds (T : Tx K mg) : mg "_law_rounds" = some (.ref (He.ga K "_law_rounds")) := T.gl 36 rfl
theorem Tx.g__law_crowd (T : Tx K mg) : mg "_law_crowd" = some (.ref (He.ga K "_law_crowd")) := T.gl 37 rfl
theorem Tx.g__law_shares (T : Tx K mg) : mg "_law_shares" = some (.ref (He.ga K "_law_shares")) := T.gl 38 rfl
theorem Tx.g__law_scaled (T : Tx K mg) : mg "_law_scaled" = some (.ref (He.ga K "_law_scaled")) := T.gl 39 rfl
theorem Tx.g__law_path (T : Tx K mg) : mg "_law_path" = some (.ref (He.ga K "_law_path")) := T.gl 40 rfl
theorem Tx.g__law_drawn_plan (T : Tx K mg) : mg "_law_drawn_plan" = some (.ref (He.ga K "_law_drawn_plan")) := T.gl 41 rfl
theorem Tx.g__law_one_right (T : Tx K mg) : mg "_law_one_right" = some (.ref (He.ga K "_law_one_right")) := T.gl 42 rfl
theorem Tx.g_law (T : Tx K mg) : mg "law" = some (.ref (He.ga K "law")) := T.gl 43 rfl
theorem Tx.g_Splitter (T : Tx K mg) : mg "Splitter" = some (.ref (He.ga K "Splitter")) := T.gl 44 rfl
theorem Tx.g_Chooser (T : Tx K mg) : mg "Chooser" = some (.ref (He.ga K "Chooser")) := T.gl 45 rfl
theorem Tx.g_InvalidPlan (T : Tx K mg) : mg "InvalidPlan" = some (.ref (He.ga K "InvalidPlan")) := T.gl 46 rfl
theorem Tx.f_isinstance (T : Tx K mg) : mg "isinstance" = none := T.fr 47 rfl
theorem Tx.f_len (T : Tx K mg) : mg "len" = none := T.fr 48 rfl
theorem Tx.f_enumerate (T : Tx K mg) : mg "enumerate" = none := T.fr 49 rfl
theorem Tx.f_int (T : Tx K mg) : mg "int" = none := T.fr 50 rfl
theorem Tx.f_bool (T : Tx K mg) : mg "bool" = none := T.fr 51 rfl
theorem Tx.f_list (T : Tx K mg) : mg "list" = none := T.fr 52 rfl
theorem Tx.f_tuple (T : Tx K mg) : mg "tuple" = none := T.fr 53 rfl
theorem Tx.f_str (T : Tx K mg) : mg "str" = none := T.fr 54 rfl
theorem Tx.f_all (T : Tx K mg) : mg "all" = none := T.fr 55 rfl
theorem Tx.f_any (T : Tx K mg) : mg "any" = none := T.fr 56 rfl
theorem Tx.f_sum (T : Tx K mg) : mg "sum" = none := T.fr 57 rfl
theorem Tx.f_zip (T : Tx K mg) : mg "zip" = none := T.fr 58 rfl
theorem Tx.f_range (T : Tx K mg) : mg "range" = none := T.fr 59 rfl
theorem Tx.f_max (T : Tx K mg) : mg "max" = none := T.fr 60 rfl
theorem Tx.f_min (T : Tx K mg) : mg "min" = none := T.fr 61 rfl
theorem Tx.i_MAX_ROUNDS (T : Tx K mg) : ∃ t, mg "MAX_ROUNDS" = some (.int 200 t) := T.it 62 rfl
theorem Tx.i_MAX_GROUPS (T : Tx K mg) : ∃ t, mg "MAX_GROUPS" = some (.int 1000 t) := T.it 63 rfl
theorem Tx.s_BALANCED (T : Tx K mg) : ∃ t, mg "BALANCED" = some (.str "balanced" t) := T.sr 64 rfl
theorem Tx.s_EVEN (T : Tx K mg) : ∃ t, mg "EVEN" = some (.str "even" t) := T.sr 65 rfl
theorem Tx.s_TOGETHER (T : Tx K mg) : ∃ t, mg "TOGETHER" = some (.str "together" t) := T.sr 66 rfl
theorem Tx.s_LIGHTEST (T : Tx K mg) : ∃ t, mg "LIGHTEST" = some (.str "lightest" t) := T.sr 67 rfl
theorem Tx.s_HEAVIEST (T : Tx K mg) : ∃ t, mg "HEAVIEST" = some (.str "heaviest" t) := T.sr 68 rfl
theorem Tx.cls_Splitter (T : Tx K mg) : Cls K (He.ga K "Splitter") := He.cls_ok (T.says.fact 69 (f := .cls "Splitter") rfl)
theorem Tx.noat_Splitter (T : Tx K mg) : NoAttr K (He.ga K "Splitter") "strategy" := He.noat_ok (T.says.fact 70 (f := .noat "Splitter" "strategy") rfl)
theorem Tx.meth_Splitter_has_plan (T : Tx K mg) : Meth K (He.ga K "Splitter") "has_plan" (He.ma K (He.ga K "Splitter") "has_plan") := He.meth_ok (T.says.fact 71 (f := .meth "Splitter" "has_plan") rfl)
theorem Tx.meth_Splitter_fits (T : Tx K mg) : Meth K (He.ga K "Splitter") "fits" (He.ma K (He.ga K "Splitter") "fits") := He.meth_ok (T.says.fact 72 (f := .meth "Splitter" "fits") rfl)
theorem Tx.meth_Splitter_split_position (T : Tx K mg) : Meth K (He.ga K "Splitter") "split_position" (He.ma K (He.ga K "Splitter") "split_position") := He.meth_ok (T.says.fact 73 (f := .meth "Splitter" "split_position") rfl)
theorem Tx.mkr_Splitter (T : Tx K mg) : Mk K (He.ga K "Splitter") (He.ma K (He.ga K "Splitter") "__init__") := He.mkr_ok (T.says.fact 74 (f := .mkr "Splitter") rfl)
theorem Tx.cls_Chooser (T : Tx K mg) : Cls K (He.ga K "Chooser") := He.cls_ok (T.says.fact 75 (f := .cls "Chooser") rfl)
theorem Tx.noat_Chooser (T : Tx K mg) : NoAttr K (He.ga K "Chooser") "strategy" := He.noat_ok (T.says.fact 76 (f := .noat "Chooser" "strategy") rfl)
theorem Tx.meth_Chooser_has_list (T : Tx K mg) : Meth K (He.ga K "Chooser") "has_list" (He.ma K (He.ga K "Chooser") "has_list") := He.meth_ok (T.says.fact 77 (f := .meth "Chooser" "has_list") rfl)
theorem Tx.meth_Chooser_fits (T : Tx K mg) : Meth K (He.ga K "Chooser") "fits" (He.ma K (He.ga K "Chooser") "fits") := He.meth_ok (T.says.fact 78 (f := .meth "Chooser" "fits") rfl)
theorem Tx.meth_Chooser_next_choice (T : Tx K mg) : Meth K (He.ga K "Chooser") "next_choice" (He.ma K (He.ga K "Chooser") "next_choice") := He.meth_ok (T.says.fact 79 (f := .meth "Chooser" "next_choice") rfl)
theorem Tx.mkr_Chooser (T : Tx K mg) : Mk K (He.ga K "Chooser") (He.ma K (He.ga K "Chooser") "__init__") := He.mkr_ok (T.says.fact 80 (f := .mkr "Chooser") rfl)
theorem Tx.d_is_integer (T : Tx K mg) : ∃ fd, FunD K "is_integer" "is_integer" (defArgs s_is_integer) (defBody s_is_integer) (defScope s_is_integer) [] [] (He.ga K "is_integer") fd := T.says.def_ 0 (d := SC.d_is_integer) rfl
theorem Tx.d_is_at_least (T : Tx K mg) : ∃ fd, FunD K "is_at_least" "is_at_least" (defArgs s_is_at_least) (defBody s_is_at_least) (defScope s_is_at_least) [] [] (He.ga K "is_at_least") fd := T.says.def_ 1 (d := SC.d_is_at_least) rfl
theorem Tx.d_is_between (T : Tx K mg) : ∃ fd, FunD K "is_between" "is_between" (defArgs s_is_between) (defBody s_is_between) (defScope s_is_between) [] [] (He.ga K "is_between") fd := T.says.def_ 2 (d := SC.d_is_between) rfl
theorem Tx.d_require_schedule (T : Tx K mg) : ∃ fd, FunD K "require_schedule" "require_schedule" (defArgs s_require_schedule) (defBody s_require_schedule) (defScope s_require_schedule) [] [] (He.ga K "require_schedule") fd := T.says.def_ 3 (d := SC.d_require_schedule) rfl
theorem Tx.d_require_rounds (T : Tx K mg) : ∃ fd, FunD K "require_rounds" "require_rounds" (defArgs s_require_rounds) (defBody s_require_rounds) (defScope s_require_rounds) [] [] (He.ga K "require_rounds") fd := T.says.def_ 4 (d := SC.d_require_rounds) rfl
theorem Tx.d_is_group (T : Tx K mg) : ∃ fd, FunD K "is_group" "is_group" (defArgs s_is_group) (defBody s_is_group) (defScope s_is_group) [] [] (He.ga K "is_group") fd := T.says.def_ 5 (d := SC.d_is_group) rfl
theorem Tx.d_require_counts (T : Tx K mg) : ∃ fd, FunD K "require_counts" "require_counts" (defArgs s_require_counts) (defBody s_require_counts) (defScope s_require_counts) [] [] (He.ga K "require_counts") fd := T.says.def_ 6 (d := SC.d_require_counts) rfl
theorem Tx.d_require_small_round (T : Tx K mg) : ∃ fd, FunD K "require_small_round" "require_small_round" (defArgs s_require_small_round) (defBody s_require_small_round) (defScope s_require_small_round) [] [] (He.ga K "require_small_round") fd := T.says.def_ 7 (d := SC.d_require_small_round) rfl
theorem Tx.d_require_split (T : Tx K mg) : ∃ fd, FunD K "require_split" "require_split" (defArgs s_require_split) (defBody s_require_split) (defScope s_require_split) [] [] (He.ga K "require_split") fd := T.says.def_ 8 (d := SC.d_require_split) rfl
theorem Tx.d_products (T : Tx K mg) : ∃ fd, FunD K "products" "products" (defArgs s_products) (defBody s_products) (defScope s_products) [] [] (He.ga K "products") fd := T.says.def_ 9 (d := SC.d_products) rfl
theorem Tx.d_scaled_weight (T : Tx K mg) : ∃ fd, FunD K "scaled_weight" "scaled_weight" (defArgs s_scaled_weight) (defBody s_scaled_weight) (defScope s_scaled_weight) [] [] (He.ga K "scaled_weight") fd := T.says.def_ 10 (d := SC.d_scaled_weight) rfl
theorem Tx.d_climbed (T : Tx K mg) : ∃ fd, FunD K "climbed" "climbed" (defArgs s_climbed) (defBody s_climbed) (defScope s_climbed) [] [] (He.ga K "climbed") fd := T.says.def_ 11 (d := SC.d_climbed) rfl
theorem Tx.d_is_row (T : Tx K mg) : ∃ fd, FunD K "is_row" "is_row" (defArgs s_is_row) (defBody s_is_row) (defScope s_is_row) [] [] (He.ga K "is_row") fd := T.says.def_ 12 (d := SC.d_is_row) rfl
theorem Tx.d_require_plan (T : Tx K mg) : ∃ fd, FunD K "require_plan" "require_plan" (defArgs s_require_plan) (defBody s_require_plan) (defScope s_require_plan) [] [] (He.ga K "require_plan") fd := T.says.def_ 13 (d := SC.d_require_plan) rfl
theorem Tx.d_require_choices (T : Tx K mg) : ∃ fd, FunD K "require_choices" "require_choices" (defArgs s_require_choices) (defBody s_require_choices) (defScope s_require_choices) [] [] (He.ga K "require_choices") fd := T.says.def_ 14 (d := SC.d_require_choices) rfl
theorem Tx.d_word_numbers (T : Tx K mg) : ∃ fd, FunD K "word_numbers" "word_numbers" (defArgs s_word_numbers) (defBody s_word_numbers) (defScope s_word_numbers) [] [] (He.ga K "word_numbers") fd := T.says.def_ 15 (d := SC.d_word_numbers) rfl
theorem Tx.d_make_plan (T : Tx K mg) : ∃ fd, FunD K "make_plan" "make_plan" (defArgs s_make_plan) (defBody s_make_plan) (defScope s_make_plan) [] [] (He.ga K "make_plan") fd := T.says.def_ 16 (d := SC.d_make_plan) rfl
theorem Tx.d_check_plan (T : Tx K mg) : ∃ fd, FunD K "check_plan" "check_plan" (defArgs s_check_plan) (defBody s_check_plan) (defScope s_check_plan) [] [] (He.ga K "check_plan") fd := T.says.def_ 17 (d := SC.d_check_plan) rfl
theorem Tx.d_climbers_between (T : Tx K mg) : ∃ fd, FunD K "climbers_between" "climbers_between" (defArgs s_climbers_between) (defBody s_climbers_between) (defScope s_climbers_between) [] [] (He.ga K "climbers_between") fd := T.says.def_ 18 (d := SC.d_climbers_between) rfl
theorem Tx.d_split_of (T : Tx K mg) : ∃ fd, FunD K "split_of" "split_of" (defArgs s_split_of) (defBody s_split_of) (defScope s_split_of) [] [] (He.ga K "split_of") fd := T.says.def_ 19 (d := SC.d_split_of) rfl
theorem Tx.d_group_weights (T : Tx K mg) : ∃ fd, FunD K "group_weights" "group_weights" (defArgs s_group_weights) (defBody s_group_weights) (defScope s_group_weights) [] [] (He.ga K "group_weights") fd := T.says.def_ 20 (d := SC.d_group_weights) rfl
theorem Tx.d_lightest_group (T : Tx K mg) : ∃ fd, FunD K "lightest_group" "lightest_group" (defArgs s_lightest_group) (defBody s_lightest_group) (defScope s_lightest_group) [] [] (He.ga K "lightest_group") fd := T.says.def_ 21 (d := SC.d_lightest_group) rfl
theorem Tx.d_heaviest_group (T : Tx K mg) : ∃ fd, FunD K "heaviest_group" "heaviest_group" (defArgs s_heaviest_group) (defBody s_heaviest_group) (defScope s_heaviest_group) [] [] (He.ga K "heaviest_group") fd := T.says.def_ 22 (d := SC.d_heaviest_group) rfl
theorem Tx.d_shared_out (T : Tx K mg) : ∃ fd, FunD K "shared_out" "shared_out" (defArgs s_shared_out) (defBody s_shared_out) (defScope s_shared_out) [] [] (He.ga K "shared_out") fd := T.says.def_ 23 (d := SC.d_shared_out) rfl
theorem Tx.d_balanced_split (T : Tx K mg) : ∃ fd, FunD K "balanced_split" "balanced_split" (defArgs s_balanced_split) (defBody s_balanced_split) (defScope s_balanced_split) [] [] (He.ga K "balanced_split") fd := T.says.def_ 24 (d := SC.d_balanced_split) rfl
theorem Tx.d_is_word (T : Tx K mg) : ∃ fd, FunD K "is_word" "is_word" (defArgs s_is_word) (defBody s_is_word) (defScope s_is_word) [] [] (He.ga K "is_word") fd := T.says.def_ 25 (d := SC.d_is_word) rfl
theorem Tx.d_is_sequence (T : Tx K mg) : ∃ fd, FunD K "is_sequence" "is_sequence" (defArgs s_is_sequence) (defBody s_is_sequence) (defScope s_is_sequence) [] [] (He.ga K "is_sequence") fd := T.says.def_ 26 (d := SC.d_is_sequence) rfl
theorem Tx.d_even_split (T : Tx K mg) : ∃ fd, FunD K "even_split" "even_split" (defArgs s_even_split) (defBody s_even_split) (defScope s_even_split) [] [] (He.ga K "even_split") fd := T.says.def_ 27 (d := SC.d_even_split) rfl
theorem Tx.d_joint_split (T : Tx K mg) : ∃ fd, FunD K "joint_split" "joint_split" (defArgs s_joint_split) (defBody s_joint_split) (defScope s_joint_split) [] [] (He.ga K "joint_split") fd := T.says.def_ 28 (d := SC.d_joint_split) rfl
theorem Tx.d_require_small_rounds (T : Tx K mg) : ∃ fd, FunD K "require_small_rounds" "require_small_rounds" (defArgs s_require_small_rounds) (defBody s_require_small_rounds) (defScope s_require_small_rounds) [] [] (He.ga K "require_small_rounds") fd := T.says.def_ 29 (d := SC.d_require_small_rounds) rfl
theorem Tx.d_S_init (T : Tx K mg) : ∃ fd, FunD K "__init__" "Splitter.__init__" (defArgs s_S_init) (defBody s_S_init) (defScope s_S_init) [] [] (He.ma K (He.ga K "Splitter") "__init__") fd := T.says.def_ 30 (d := SC.d_S_init) rfl
theorem Tx.d_S_has_plan (T : Tx K mg) : ∃ fd, FunD K "has_plan" "Splitter.has_plan" (defArgs s_S_has_plan) (defBody s_S_has_plan) (defScope s_S_has_plan) [] [] (He.ma K (He.ga K "Splitter") "has_plan") fd := T.says.def_ 31 (d := SC.d_S_has_plan) rfl
theorem Tx.d_S_fits (T : Tx K mg) : ∃ fd, FunD K "fits" "Splitter.fits" (defArgs s_S_fits) (defBody s_S_fits) (defScope s_S_fits) [] [] (He.ma K (He.ga K "Splitter") "fits") fd := T.says.def_ 32 (d := SC.d_S_fits) rfl
theorem Tx.d_S_split_position (T : Tx K mg) : ∃ fd, FunD K "split_position" "Splitter.split_position" (defArgs s_S_split_position) (defBody s_S_split_position) (defScope s_S_split_position) [] [] (He.ma K (He.ga K "Splitter") "split_position") fd := T.says.def_ 33 (d := SC.d_S_split_position) rfl
theorem Tx.d_C_init (T : Tx K mg) : ∃ fd, FunD K "__init__" "Chooser.__init__" (defArgs s_C_init) (defBody s_C_init) (defScope s_C_init) [] [] (He.ma K (He.ga K "Chooser") "__init__") fd := T.says.def_ 34 (d := SC.d_C_init) rfl
theorem Tx.d_C_has_list (T : Tx K mg) : ∃ fd, FunD K "has_list" "Chooser.has_list" (defArgs s_C_has_list) (defBody s_C_has_list) (defScope s_C_has_list) [] [] (He.ma K (He.ga K "Chooser") "has_list") fd := T.says.def_ 35 (d := SC.d_C_has_list) rfl
theorem Tx.d_C_fits (T : Tx K mg) : ∃ fd, FunD K "fits" "Chooser.fits" (defArgs s_C_fits) (defBody s_C_fits) (defScope s_C_fits) [] [] (He.ma K (He.ga K "Chooser") "fits") fd := T.says.def_ 36 (d := SC.d_C_fits) rfl
theorem Tx.d_C_next_choice (T : Tx K mg) : ∃ fd, FunD K "next_choice" "Chooser.next_choice" (defArgs s_C_next_choice) (defBody s_C_next_choice) (defScope s_C_next_choice) [] [] (He.ma K (He.ga K "Chooser") "next_choice") fd := T.says.def_ 37 (d := SC.d_C_next_choice) rfl
theorem Tx.d_play (T : Tx K mg) : ∃ fd, FunD K "play" "play" (defArgs s_play) (defBody s_play) (defScope s_play) [] [] (He.ga K "play") fd := T.says.def_ 38 (d := SC.d_play) rfl
theorem Tx.d_l_cell_at (T : Tx K mg) : ∃ fd, FunD K "_law_cell_at" "_law_cell_at" (defArgs s_l_cell_at) (defBody s_l_cell_at) (defScope s_l_cell_at) [] [] (He.ga K "_law_cell_at") fd := T.says.def_ 39 (d := SC.d_l_cell_at) rfl
theorem Tx.d_l_source (T : Tx K mg) : ∃ fd, FunD K "_law_source" "_law_source" (defArgs s_l_source) (defBody s_l_source) (defScope s_l_source) [] [] (He.ga K "_law_source") fd := T.says.def_ 40 (d := SC.d_l_source) rfl
theorem Tx.d_l_take (T : Tx K mg) : ∃ fd, FunD K "_law_take" "_law_take" (defArgs s_l_take) (defBody s_l_take) (defScope s_l_take) [] [] (He.ga K "_law_take") fd := T.says.def_ 41 (d := SC.d_l_take) rfl
theorem Tx.d_l_pick (T : Tx K mg) : ∃ fd, FunD K "_law_pick" "_law_pick" (defArgs s_l_pick) (defBody s_l_pick) (defScope s_l_pick) [] [] (He.ga K "_law_pick") fd := T.says.def_ 42 (d := SC.d_l_pick) rfl
theorem Tx.d_l_shuffled (T : Tx K mg) : ∃ fd, FunD K "_law_shuffled" "_law_shuffled" (defArgs s_l_shuffled) (defBody s_l_shuffled) (defScope s_l_shuffled) [] [] (He.ga K "_law_shuffled") fd := T.says.def_ 43 (d := SC.d_l_shuffled) rfl
theorem Tx.d_l_rounds (T : Tx K mg) : ∃ fd, FunD K "_law_rounds" "_law_rounds" (defArgs s_l_rounds) (defBody s_l_rounds) (defScope s_l_rounds) [] [] (He.ga K "_law_rounds") fd := T.says.def_ 44 (d := SC.d_l_rounds) rfl
theorem Tx.d_l_crowd (T : Tx K mg) : ∃ fd, FunD K "_law_crowd" "_law_crowd" (defArgs s_l_crowd) (defBody s_l_crowd) (defScope s_l_crowd) [] [] (He.ga K "_law_crowd") fd := T.says.def_ 45 (d := SC.d_l_crowd) rfl
theorem Tx.d_l_shares (T : Tx K mg) : ∃ fd, FunD K "_law_shares" "_law_shares" (defArgs s_l_shares) (defBody s_l_shares) (defScope s_l_shares) [] [] (He.ga K "_law_shares") fd := T.says.def_ 46 (d := SC.d_l_shares) rfl
theorem Tx.d_l_scaled (T : Tx K mg) : ∃ fd, FunD K "_law_scaled" "_law_scaled" (defArgs s_l_scaled) (defBody s_l_scaled) (defScope s_l_scaled) [] [] (He.ga K "_law_scaled") fd := T.says.def_ 47 (d := SC.d_l_scaled) rfl
theorem Tx.d_l_path (T : Tx K mg) : ∃ fd, FunD K "_law_path" "_law_path" (defArgs s_l_path) (defBody s_l_path) (defScope s_l_path) [] [] (He.ga K "_law_path") fd := T.says.def_ 48 (d := SC.d_l_path) rfl
theorem Tx.d_l_drawn_plan (T : Tx K mg) : ∃ fd, FunD K "_law_drawn_plan" "_law_drawn_plan" (defArgs s_l_drawn_plan) (defBody s_l_drawn_plan) (defScope s_l_drawn_plan) [] [] (He.ga K "_law_drawn_plan") fd := T.says.def_ 49 (d := SC.d_l_drawn_plan) rfl
theorem Tx.d_l_one_right (T : Tx K mg) : ∃ fd, FunD K "_law_one_right" "_law_one_right" (defArgs s_l_one_right) (defBody s_l_one_right) (defScope s_l_one_right) [] [] (He.ga K "_law_one_right") fd := T.says.def_ 50 (d := SC.d_l_one_right) rfl
theorem Tx.d_law (T : Tx K mg) : ∃ fd, FunD K "law" "law" (defArgs s_law) (defBody s_law) (defScope s_law) [] [] (He.ga K "law") fd := T.says.def_ 51 (d := SC.d_law) rfl
theorem Tx.inst (T : Tx K mg) (b : Bool) : PySem.W.findIn K (.ref (He.ga K (if b then "Splitter" else "Chooser"))) "__class__" = some (some (.builtin "object.__class__")) ∧ PySem.W.specialIn K (.builtin "object.__class__") "__get__" = some (some (.builtin "getset_descriptor.__get__")) ∧
    PySem.W.takesIn K (.builtin "object.__class__") = some true ∧ PySem.W.mroIn K (He.ga K (if b then "Splitter" else "Chooser")) (.type "object") = some true := by
  have h := T.ex
  unfold exB instB at h
  simp only [Bool.and_eq_true, decide_eq_true_eq] at h
  cases b with
  | true => exact ⟨h.1.1, h.1.2.1, h.1.2.2.1, h.1.2.2.2⟩
  | false => exact ⟨h.2.1, h.2.2.1, h.2.2.2.1, h.2.2.2.2⟩
end
/-! a def of the text keeps a promise -/
def Ok (P : Program) (w : World) (K : PySem.W.Frag) (mg : Str → Option Value) (base : Heap) (k : Nat) (x : Str) (ps : List Str) (sp : Sp) : Prop :=
  ∃ fd, FnOk P w K mg base CX0 k (He.ga K x) fd ps sp ∧ Binds K fd ps [] ∧ PySem.W.keepIn K (.ref (He.ga K x)) = true ∧ mg x = some (.ref (He.ga K x))
/-- a method of the class C -/
def OkM (P : Program) (w : World) (K : PySem.W.Frag) (mg : Str → Option Value) (base : Heap) (k : Nat) (C m : Str) (ps : List Str) (sp : Sp) : Prop :=
  ∃ fd, FnOk P w K mg base CX0 k (He.ma K (He.ga K C) m) fd ps sp ∧ Binds K fd ps []
section
variable {X : Cx} {k : Nat} {f C m : Str} {ps : List Str} {sp : Sp} {e o : Expr} {es : List Expr} {t : TA} {ta : TE} {p pos apos : Pos}
theorem pe_ok (O : Ok X.prog X.w X.K X.mg X.base k f ps sp) (hr : Room k X.A) (hg : Gl X f) (ha : PA X (e :: es) t) (hdb : (f == ("__debug__" : Str)) = false := by decide)
    (he : starEach (e :: es) X.env = (false, eval e X.env) :: starEach es X.env := by rfl) (hpl : (backTo pos (starEach es X.env)).any (·.1) = false := by rfl) : PE X (.Call (.Name f p) (e :: es) [] pos) (tCall sp [] E0 t) := by
  obtain ⟨fd, G, b, kp, hm⟩ := O
  exact pe_call G hr hg hm kp b .nil pass0 ha hdb he hpl
/-- a module's constant int, text -/
theorem pe_gint {x : Str} {i : Int} (h : ∃ t, X.mg x = some (.int i t)) (hg : Gl X x) (hd : (x == ("__debug__" : Str)) = false := by decide) : PE X (.Name x pos) (tC (.int i)) := by
  obtain ⟨t, h⟩ := h
  exact pe_glob hg h ⟨t, rfl⟩ hd
theorem pe_gstr {x z : Str} (h : ∃ t, X.mg x = some (.str z t)) (hg : Gl X x) (hd : (x == ("__debug__" : Str)) = false := by decide) : PE X (.Name x pos) (tC (.str z)) := by
  obtain ⟨t, h⟩ := h
  exact pe_glob hg h ⟨t, rfl⟩ hd
end
end SC

/-! part W1 -/
set_option Elab.async false
set_option linter.all false
set_option maxRecDepth 100000
set_option maxHeartbeats 4000000
namespace SC
open PySem PySem.Spec PyProof.Rows L2 Evl
/-! the built-in names -/
theorem bb_isinstance : bootBuiltins "isinstance" = some (.builtin "isinstance") := by decide +kernel
theorem bb_len : bootBuiltins "len" = some (.builtin "len") := by decide +kernel
theorem bb_max : bootBuiltins "max" = some (.builtin "max") := by decide +kernel
theorem bb_min : bootBuiltins "min" = some (.builtin "min") := by decide +kernel
theorem bb_sum : bootBuiltins "sum" = some (.builtin "sum") := by decide +kernel
theorem bb_all : bootBuiltins "all" = some (.builtin "all") := by decide +kernel
theorem bb_any : bootBuiltins "any" = some (.builtin "any") := by decide +kernel
theorem bb_int : bootBuiltins "int" = some (.type "int") := by decide +kernel
theorem bb_bool : bootBuiltins "bool" = some (.type "bool") := by decide +kernel
theorem bb_list : bootBuiltins "list" = some (.type "list") := by decide +kernel
theorem bb_tuple : bootBuiltins "tuple" = some (.type "tuple") := by decide +kernel
theorem bb_str : bootBuiltins "str" = some (.type "str") := by decide +kernel
section
variable {X : Cx} {K : PySem.W.Frag} {k : Nat} {C m : Str} {ps : List Str} {sp : Sp} {e o : Expr} {es : List Expr} {t : TA} {ta : TE} {p pos apos : Pos}
theorem pe_okM {pl : Sem Bool} (O : OkM X.prog X.w K X.mg X.base k C m ps sp) (c : Cls K (He.ga K C)) (hm : Meth K (He.ga K C) m (He.ma K (He.ga K C) m)) (hr : Room k X.A) (he : PE X o ta) (ha : PA X (e :: es) t) (hK : X.K = K := by rfl)
    (hst : starEach (e :: es) X.env = (false, eval e X.env) :: starEach es X.env := by rfl) (hpl : (backTo pos (starEach es X.env)).any (·.1) = false := by rfl)
    (ht : eval (.Call (.Attribute o m apos) (e :: es) [] pos) X.env = (do
      let ov ← eval o X.env
      standAt apos.atName
      let (f, first) ← holding [ov] (getMethod ov m pl)
      callWith pos f first (backTo pos (starEach (e :: es) X.env)) (backToKw pos (keywordEach [] X.env))) := by rfl) :
    PE X (.Call (.Attribute o m apos) (e :: es) [] pos) (tMeth (He.ga K C) m sp [] E0 ta t) := by
  subst hK
  obtain ⟨fd, G, b⟩ := O
  exact pe_meth he c hm G hr b .nil pass0 ha hst hpl ht
theorem pe_okM0 {pl : Sem Bool} (O : OkM X.prog X.w K X.mg X.base k C m ps sp) (c : Cls K (He.ga K C)) (hm : Meth K (He.ga K C) m (He.ma K (He.ga K C) m)) (hr : Room k X.A) (he : PE X o ta) (hK : X.K = K := by rfl)
    (ht : eval (.Call (.Attribute o m apos) [] [] pos) X.env = (do
      let ov ← eval o X.env
      standAt apos.atName
      let (f, first) ← holding [ov] (getMethod ov m pl)
      callWith pos f first (backTo pos (starEach [] X.env)) (backToKw pos (keywordEach [] X.env))) := by rfl) :
    PE X (.Call (.Attribute o m apos) [] [] pos) (tMeth (He.ga K C) m sp [] E0 ta tNil) := by
  subst hK
  obtain ⟨fd, G, b⟩ := O
  exact pe_meth0 he c hm G hr b .nil pass0 ht
theorem pe_mk (O : OkM X.prog X.w K X.mg X.base k C "__init__" ps sp) (M : Mk K (He.ga K C) (He.ma K (He.ga K C) "__init__")) (hm : X.mg C = some (.ref (He.ga K C))) (hr : Room (k + 1) X.A) (hg : Gl X C) (ha : PA X (e :: es) t) (hK : X.K = K := by rfl)
    (hdb : (C == ("__debug__" : Str)) = false := by decide) (he : starEach (e :: es) X.env = (false, eval e X.env) :: starEach es X.env := by rfl) (hpl : (backTo pos (starEach es X.env)).any (·.1) = false := by rfl) :
    PE X (.Call (.Name C p) (e :: es) [] pos) (tMake (He.ga K C) sp [] E0 t) := by
  subst hK
  obtain ⟨fd, G, b⟩ := O
  exact pe_make M G hr hg hm b .nil pass0 ha hdb he hpl
end
/-! the rules with the fragment named -/
section
variable {X : Cx} {K : PySem.W.Frag}
theorem ix_listK (hK : X.K = K := by rfl) : IxR X (rIxL K) := hK ▸ ix_list
theorem ix_tupK (hK : X.K = K := by rfl) : IxR X (rIxT K) := hK ▸ ix_tup
theorem op_catAK (hK : X.K = K := by rfl) : OpR X (binaryOp .Add) (rCatA K) := hK ▸ op_catA
theorem op_rep1K (hK : X.K = K := by rfl) : OpR X (binaryOp .Mult) (rRep1 K) := hK ▸ op_rep1
theorem op_inK (hK : X.K = K := by rfl) : OpR X (compareOp .In) (rIn K false) := hK ▸ op_in_seq
theorem op_neDK (hu : X.A.units + 64 < cLine) (hK : X.K = K := by rfl) : OpR X (compareOp .NotEq) (rNeD K) := hK ▸ op_neD hu
theorem call_lenK (hK : X.K = K := by rfl) : CallR X (.builtin "len") (rLenS K) := by subst hK; exact call_len_seq
theorem call_isiK (hK : X.K = K := by rfl) : CallR X (.builtin "isinstance") (rIsi K) := hK ▸ call_isi
theorem call_isiTK (hK : X.K = K := by rfl) : CallR X (.builtin "isinstance") (rIsiT K) := hK ▸ call_isiT
theorem cr_sumK (hc : X.calm = true) (hK : X.K = K := by rfl) : CallR X (.builtin "sum") (rSum K) := hK ▸ cr_sum hc
theorem cr_maxK (hc : X.calm = true) (hK : X.K = K := by rfl) : CallR X (.builtin "max") (rMax K) := hK ▸ cr_max hc
theorem cr_minK' (hc : X.calm = true) (hK : X.K = K := by rfl) : CallR X (.builtin "min") (rMin K) := hK ▸ cr_min hc
theorem cr_allK (hc : X.calm = true) (hK : X.K = K := by rfl) : CallR X (.builtin "all") (rAll K) := hK ▸ cr_all hc
theorem cr_anyK (hc : X.calm = true) (hK : X.K = K := by rfl) : CallR X (.builtin "any") (rAny K) := hK ▸ cr_any hc
theorem call_listK (hK : X.K = K := by rfl) : CallR X (.type "list") (rListS K) := by subst hK; exact call_list_of
def rTupS (K : PySem.W.Frag) : List V → Hp → VK → Prop := fun xs H Q => ∃ p ys, xs = [.ref p] ∧ ((SqL K H p ys ∧ ∀ l, H l = none → Q (.ref l) (upd H l (.tup ys))) ∨ (SqT K H p ys ∧ Q (.ref p) H))
theorem call_tupK (hK : X.K = K := by rfl) : CallR X (.type "tuple") (rTupS K) := by subst hK; exact call_tuple_of
theorem sl_listK (hK : X.K = K := by rfl) : SlR X (rSlL K) := hK ▸ sl_list
theorem sl_tupK (hK : X.K = K := by rfl) : SlR X (rSlA K) := hK ▸ sl_tupA
theorem mt_indexK (hK : X.K = K := by rfl) : MtR X "list.index" (rIndex K) := hK ▸ mt_index
theorem pget_listK (hK : X.K = K := by rfl) : PGet X (gIxL K) := hK ▸ pget_list
theorem pe_bmK {T id : String} {name : Str} {r : V → List V → Hp → VK → Prop} {o e : Expr} {es : List Expr} {to : TE} {t : TA} {cpos apos : Pos} (pa : PlainAttrs T) (slot : Slot T name id) (hty : typeOf (.builtin id) = pure (.type "method_descriptor")) (hm : MtR X id r) (ho : PE X o to) (ha : PA X (e :: es) t) (hK : X.K = K := by rfl)
    (hbase : attributeBase o name X.env (eval o X.env) = eval o X.env := by rfl)
    (hfew : ((backTo cpos (starEach (e :: es) X.env)).all (fun x => !x.1) && (backToKw cpos (keywordEach [] X.env)).all (fun x => x.1.isSome)
      && decide ((e :: es).length + ([] : List Keyword).length + (if ([] : List Keyword).isEmpty then 0 else 1) < 30)) = true := by rfl)
    (hline : (apos.endLine == cpos.line) = true := by rfl) (hs : starEach (e :: es) X.env = (false, eval e X.env) :: starEach es X.env := by rfl) (hplain : (backTo cpos (starEach es X.env)).any (·.1) = false := by rfl) :
    PE X (.Call (.Attribute o name apos) (e :: es) [] cpos) (tBM K T r to t) := by
  subst hK
  exact pe_bm pa slot hty hm ho ha hbase hfew hline hs hplain
theorem pe_fldK {e : Expr} {f : Str} {pos : Pos} {ta : TE} (he : PE X e ta) (hb : attributeBase e f X.env (eval e X.env) = eval e X.env) (hK : X.K = K := by rfl) : PE X (.Attribute e f pos) (tFld K ta f) := by
  subst hK
  exact pe_fld he hb
theorem ps_fldK {o value : Expr} {f : Str} {pos pos' : Pos} {ta tv : TE} (ha : PE X o ta) (hv : PE X value tv) (hs : swapsWith value (some (.Attribute o f pos')) pos.line X.env = pure false) (hK : X.K = K := by rfl) : PS X (.Assign [.Attribute o f pos'] value pos) (sFld K ta tv f) := by
  subst hK
  exact ps_fld ha hv hs
theorem pi_listK {tg l : Expr} {tl : TE} (hl : PE X l tl) (hK : X.K = K := by rfl) : PI X tg l (iList K tl) := by
  subst hK
  exact pi_list hl
theorem pi_tupK {tg l : Expr} {tl : TE} (hl : PE X l tl) (hK : X.K = K := by rfl) : PI X tg l (iTup K tl) := by
  subst hK
  exact pi_tup hl
theorem pi_enum1K {e1 : Expr} {ta : TA} {p pos tpos : Pos} {elts : List Expr} {kk : Nat} (hg : Gl X "enumerate") (hm : X.mg "enumerate" = none) (ha : PA X [e1] ta) (hK : X.K = K := by rfl)
    (hs : starEach [e1] X.env = [(false, eval e1 X.env)] := by rfl) :
    PI X (.Tuple elts kk tpos) (.Call (.Name "enumerate" p) [e1] [] pos) (iEnum1 K ta) := by
  subst hK
  exact pi_enum1 hg hm ha hs
theorem pi_enum2K {e1 e2 : Expr} {ta : TA} {k0 : Int} {p pos tpos : Pos} {elts : List Expr} {kk : Nat} (hg : Gl X "enumerate") (hm : X.mg "enumerate" = none) (ha : PA X [e1, e2] ta) (hK : X.K = K := by rfl)
    (hs : starEach [e1, e2] X.env = (false, eval e1 X.env) :: starEach [e2] X.env := by rfl) (hpl : (backTo pos (starEach [e2] X.env)).any (·.1) = false := by rfl) :
    PI X (.Tuple elts kk tpos) (.Call (.Name "enumerate" p) [e1, e2] [] pos) (iEnumK K k0 ta) := by
  subst hK
  exact pi_enum2 hg hm ha hs hpl
theorem pi_zip2K {e e2 : Expr} {ta : TA} {p pos tpos : Pos} {elts : List Expr} {kk : Nat} (hg : Gl X "zip") (hm : X.mg "zip" = none) (ha : PA X [e, e2] ta) (hK : X.K = K := by rfl)
    (hs : starEach [e, e2] X.env = (false, eval e X.env) :: starEach [e2] X.env := by rfl) (hpl : (backTo pos (starEach [e2] X.env)).any (·.1) = false := by rfl) :
    PI X (.Tuple elts kk tpos) (.Call (.Name "zip" p) [e, e2] [] pos) (iZip2 K ta) := by
  subst hK
  exact pi_zip2 hg hm ha hs hpl
theorem pi_zipFK {e e2 : Expr} {ta : TA} {p pos tpos kp cp : Pos} {cj : Nat} {elts : List Expr} {kk : Nat} (hg : Gl X "zip") (hm : X.mg "zip" = none) (ha : PA X [e, e2] ta) (hK : X.K = K := by rfl)
    (hs : starEach [e, e2] X.env = (false, eval e X.env) :: starEach [e2] X.env := by rfl) (hpl : (backTo pos (starEach [e2] X.env)).any (·.1) = false := by rfl) :
    PI X (.Tuple elts kk tpos) (.Call (.Name "zip" p) [e, e2] [⟨some (Str.ofString "strict"), .Constant (.bool false) cj cp, kp⟩] pos) (iZip2 K ta) := by
  subst hK
  exact pi_zipF hg hm ha hs hpl
theorem pi_zipSK {e e2 : Expr} {ta : TA} {p pos tpos kp cp : Pos} {cj : Nat} {elts : List Expr} {kk : Nat} (hg : Gl X "zip") (hm : X.mg "zip" = none) (ha : PA X [e, e2] ta) (hK : X.K = K := by rfl)
    (hs : starEach [e, e2] X.env = (false, eval e X.env) :: starEach [e2] X.env := by rfl) (hpl : (backTo pos (starEach [e2] X.env)).any (·.1) = false := by rfl) :
    PI X (.Tuple elts kk tpos) (.Call (.Name "zip" p) [e, e2] [⟨some (Str.ofString "strict"), .Constant (.bool true) cj cp, kp⟩] pos) (iZipS K ta) := by
  subst hK
  exact pi_zipS hg hm ha hs hpl
theorem pg_tupK {es : List Expr} {k : Nat} {t : TGs} {n : Nat} {pos : Pos} (hc : X.calm = true) (h : PGs X es t) (hK : X.K = K := by rfl)
    (hn : (assignEach es X.env).length = n := by rfl) (hst : (assignEach es X.env).findIdx? (·.1) = none := by rfl) : PG X (.Tuple es k pos) (gTup K n t) := by
  subst hK
  exact pg_tup hc h hn hst
theorem pg_lstK {es : List Expr} {k : Nat} {t : TGs} {n : Nat} {pos : Pos} (hc : X.calm = true) (h : PGs X es t) (hK : X.K = K := by rfl)
    (hn : (assignEach es X.env).length = n := by rfl) (hst : (assignEach es X.env).findIdx? (·.1) = none := by rfl) : PG X (.Tuple es k pos) (gLst K n t) := by
  subst hK
  exact pg_lst hc h hn hst
end
/-! heaps, sequences of iV, lists of tuples of iV -/
abbrev iV (xs : List Int) : List V := xs.map V.int
def AllT (K : PySem.W.Frag) (H : Hp) : List Addr → List (List Int) → Prop
  | [], [] => True
  | p :: ps, xs :: xss => SqT K H p (iV xs) ∧ AllT K H ps xss
  | _, _ => False
/-- at a a list of tuples of iV -/
def LT (K : PySem.W.Frag) (H : Hp) (a : Addr) (xss : List (List Int)) : Prop := ∃ as : List Addr, SqL K H a (as.map V.ref) ∧ AllT K H as xss
section
variable {K : PySem.W.Frag} {H H' : Hp}
theorem AllT.mono (e : Ex H H') : ∀ {as : List Addr} {xss : List (List Int)}, AllT K H as xss → AllT K H' as xss
  | [], [], _ => trivial
  | p :: ps, xs :: xss, h => ⟨ex_t e h.1, AllT.mono e h.2⟩
  | [], _ :: _, h => h.elim
  | _ :: _, [], h => h.elim
theorem LT.mono {a : Addr} {xss : List (List Int)} (e : Ex H H') (h : LT K H a xss) : LT K H' a xss := by
  obtain ⟨as, h1, h2⟩ := h
  exact ⟨as, ex_l e h1, h2.mono e⟩
theorem AllT.length : ∀ {as : List Addr} {xss : List (List Int)}, AllT K H as xss → as.length = xss.length
  | [], [], _ => rfl
  | p :: ps, xs :: xss, h => by rw [List.length_cons, List.length_cons, AllT.length h.2]
  | [], _ :: _, h => h.elim
  | _ :: _, [], h => h.elim
theorem AllT.get : ∀ {as : List Addr} {xss : List (List Int)} {i : Nat} {p : Addr}, AllT K H as xss → as[i]? = some p → ∃ xs, xss[i]? = some xs ∧ SqT K H p (iV xs)
  | p :: ps, xs :: xss, 0, q, h, e => by
    have e' : p = q := Option.some.inj e
    subst e'
    exact ⟨xs, rfl, h.1⟩
  | p :: ps, xs :: xss, i + 1, q, h, e => AllT.get (i := i) h.2 e
  | [], [], i, q, h, e => by simp at e
  | [], _ :: _, _, _, h, _ => h.elim
  | _ :: _, [], _, _, h, _ => h.elim
theorem AllT.snoc : ∀ {as : List Addr} {xss : List (List Int)} {p : Addr} {xs : List Int}, AllT K H as xss → SqT K H p (iV xs) → AllT K H (as ++ [p]) (xss ++ [xs])
  | [], [], p, xs, _, h => ⟨h, trivial⟩
  | q :: ps, ys :: xss, p, xs, h, h2 => ⟨h.1, AllT.snoc h.2 h2⟩
  | [], _ :: _, _, _, h, _ => h.elim
  | _ :: _, [], _, _, h, _ => h.elim
theorem ex_refl (H : Hp) : Ex H H := Ex.refl H
theorem iV_get {xs : List Int} {i : Nat} {v : V} (h : (iV xs)[i]? = some v) : ∃ x, xs[i]? = some x ∧ v = .int x := by
  rw [List.getElem?_map] at h
  cases e : xs[i]? with
  | none => rw [e] at h; cases h
  | some x => rw [e] at h; exact ⟨x, rfl, (Option.some.inj h).symm⟩
theorem iV_at {xs : List Int} {i : Nat} {x : Int} (h : xs[i]? = some x) : (iV xs)[i]? = some (.int x) := by rw [List.getElem?_map, h]; rfl
theorem iV_append (a b : List Int) : iV (a ++ b) = iV a ++ iV b := List.map_append
theorem iV_len (xs : List Int) : (iV xs).length = xs.length := List.length_map _
theorem len_ok {α : Type} {xs : List α} (h : xs.length ≤ 100000) : xs.length ≤ sizeLine := sz_of h
/-! kinds -/
theorem tyx_list {a : Addr} {xs : List V} (h : SqL K H a xs) : TyX K H (.ref a) (.type "list") := by
  rcases h with (h | ⟨o, h⟩) | ⟨o, its, n, h, c, _⟩
  · exact .base (.lst h)
  · exact .base (.frz h)
  · exact .kList h c
theorem tyx_tup {a : Addr} {xs : List V} (h : SqT K H a xs) : TyX K H (.ref a) (.type "tuple") := by
  rcases h with (h | ⟨o, h⟩) | ⟨o, its, n, h, c, _⟩
  · exact .base (.tup h)
  · exact .fTuple h
  · exact .kTuple h c
theorem k1 {K : PySem.W.Frag} {a b : String} {r : Bool} (h : kitB a b = some r) : PySem.W.kitOne K (.type a) (.type b) = some r := kit_ty h
theorem k2 {K : PySem.W.Frag} {a b c : String} {r1 r2 : Bool} (h1 : kitB a b = some r1) (h2 : kitB a c = some r2) : PySem.W.kitAny K (.type a) [.type b, .type c] = some (r1 || r2) := by
  cases r1 with
  | true => exact kitAny_cons (kit_ty h1) (fun q => nomatch q) fun _ => rfl
  | false =>
    refine kitAny_cons (kit_ty h1) (fun _ => ?_) fun q => nomatch q
    cases r2 with
    | true => exact kitAny_cons (kit_ty h2) (fun q => nomatch q) fun _ => rfl
    | false => exact kitAny_cons (kit_ty h2) (fun _ => kitAny_nil) fun q => nomatch q
end
theorem k_ii {K : PySem.W.Frag} : PySem.W.kitOne K (.type "int") (.type "int") = some true := k1 (by decide +kernel)
theorem k_ib {K : PySem.W.Frag} : PySem.W.kitOne K (.type "int") (.type "bool") = some false := k1 (by decide +kernel)
theorem k_tt {K : PySem.W.Frag} : PySem.W.kitOne K (.type "tuple") (.type "tuple") = some true := k1 (by decide +kernel)
theorem k_ll {K : PySem.W.Frag} : PySem.W.kitOne K (.type "list") (.type "list") = some true := k1 (by decide +kernel)
theorem k_ss {K : PySem.W.Frag} : PySem.W.kitOne K (.type "str") (.type "str") = some true := k1 (by decide +kernel)
theorem k_ls {K : PySem.W.Frag} : PySem.W.kitOne K (.type "list") (.type "str") = some false := k1 (by decide +kernel)
theorem k_sl {K : PySem.W.Frag} : PySem.W.kitOne K (.type "str") (.type "list") = some false := k1 (by decide +kernel)
theorem k_llt {K : PySem.W.Frag} : PySem.W.kitAny K (.type "list") [.type "list", .type "tuple"] = some true := k2 (r1 := true) (r2 := false) (by decide +kernel) (by decide +kernel)
theorem k_slt {K : PySem.W.Frag} : PySem.W.kitAny K (.type "str") [.type "list", .type "tuple"] = some false := k2 (r1 := false) (r2 := false) (by decide +kernel) (by decide +kernel)
/-! what evaluates to what, further -/
section
variable {K : PySem.W.Frag} {σ : L2.St} {H H' : Hp} {ta tb tc te tx : TE} {t u : TT} {x y z v : V} {r : R2}
theorem ev_isi {T : String} {tv : Value} {b : Bool} (ha : Ev ta σ H x) (ht : ∀ H1, Ex H H1 → TyX K H1 x tv) (hb : PySem.W.kitOne K tv (.type T) = some b) : Ev (tCB (rIsi K) (tCons ta (tCons (tC (.ty T)) tNil))) σ H (.bl b) :=
  fun H1 e Q q => ha H1 e _ fun H2 e2 => ⟨x, .ty T, tv, .type T, b, rfl, .ty T, ht H2 (e.trans e2), hb, q H2 e2⟩
theorem ev_isiC {C : Addr} {tv : Value} {b : Bool} (ha : Ev ta σ H x) (ht : ∀ H1, Ex H H1 → TyX K H1 x tv) (hb : PySem.W.kitOne K tv (.ref C) = some b) : Ev (tCB (rIsi K) (tCons ta (tCons (tC (.ref C)) tNil))) σ H (.bl b) :=
  fun H1 e Q q => ha H1 e _ fun H2 e2 => ⟨x, .ref C, tv, .ref C, b, rfl, .own C, ht H2 (e.trans e2), hb, q H2 e2⟩
theorem TyX.new {H : Hp} {p : Addr} {o : HO} {tv : Value} (h : ∀ H1, Ex H H1 → TyX K H1 x tv) (hp : H p = none) : TyX K (upd H p o) x tv := h _ (Ex.new hp)
theorem ev_isT {T1 T2 : String} {tv : Value} {b : Bool} (ha : Ev ta σ H x) (ht : ∀ H1, Ex H H1 → TyX K H1 x tv) (hb : PySem.W.kitAny K tv [.type T1, .type T2] = some b) :
    Ev (tCB (rIsiT K) (tCons ta (tCons (tTup (tCons (tC (.ty T1)) (tCons (tC (.ty T2)) tNil))) tNil))) σ H (.bl b) :=
  fun H1 e Q q => ha H1 e _ fun H2 e2 => ⟨by show 2 ≤ sizeLine; decide, fun p hp => ⟨x, p, [.ty T1, .ty T2], tv, [.type T1, .type T2], b, rfl, upd_same, .cons (.ty _) (.cons (.ty _) .nil), ht _ ((e.trans e2).trans (Ex.new hp)), hb, q _ (e2.trans (Ex.new hp))⟩⟩
theorem ev_lenL {p : Addr} {xs : List V} (ha : Ev ta σ H (.ref p)) (h : SqL K H p xs) : Ev (tCB (rLenS K) (tCons ta tNil)) σ H (.int (xs.length : Int)) := ev_len ha h
theorem ev_lenT {p : Addr} {xs : List V} (ha : Ev ta σ H (.ref p)) (h : SqT K H p xs) : Ev (tCB (rLenS K) (tCons ta tNil)) σ H (.int (xs.length : Int)) := fun H1 e Q q =>
  ha H1 e _ fun H2 e2 => ⟨p, xs, rfl, Or.inr (ex_t (e.trans e2) h), q H2 e2⟩
theorem ev_chain {r' : R2} {a b : Bool} {w : V} (ha : Ev ta σ H x) (hb : Ev tb σ H y) (hr : RV r x y H (.bl a)) (hc : a = true → Ev tc σ H w) (hr' : a = true → RV r' y w H (.bl b)) : Ev (tChain r r' ta tb tc) σ H (.bl (a && b)) := fun H1 e Q q =>
  ha H1 e _ fun H2 e2 => hb H2 (e.trans e2) _ fun H3 e3 => hr H3 ((e.trans e2).trans e3) _ fun H4 e4 => ⟨a, rfl, by
    cases a with
    | true =>
      show tc σ H4 _
      exact hc rfl H4 (((e.trans e2).trans e3).trans e4) _ fun H5 e5 => hr' rfl H5 ((((e.trans e2).trans e3).trans e4).trans e5) Q fun H6 e6 => q H6 ((((e2.trans e3).trans e4).trans e5).trans e6)
    | false =>
      show Q (.bl false) H4
      exact q H4 ((e2.trans e3).trans e4)⟩
theorem ev_ixL {p : Addr} {xs : List V} {j : Nat} (ha : Ev ta σ H (.ref p)) (hb : Ev tb σ H (.int (j : Int))) (h : SqL K H p xs) (hv : xs[j]? = some v) : Ev (tOp (rIxL K) ta tb) σ H v := ev_op ha hb (rv_ixL h (atI_nat hv))
theorem ev_ixT {p : Addr} {xs : List V} {j : Nat} (ha : Ev ta σ H (.ref p)) (hb : Ev tb σ H (.int (j : Int))) (h : SqT K H p xs) (hv : xs[j]? = some v) : Ev (tOp (rIxT K) ta tb) σ H v := ev_op ha hb (rv_ixT h (atI_nat hv))
theorem ev_sum {p : Addr} {ns : List Int} (ha : Ev ta σ H (.ref p)) (h : SqL K H p (ns.map V.int)) : Ev (tCB (rSum K) (tCons ta tNil)) σ H (.int ns.sum) := fun H1 e Q q =>
  ha H1 e _ fun H2 e2 => ⟨p, ns, rfl, ex_l (e.trans e2) h, q H2 e2⟩
theorem ev_sumN {ns : List Int} (ha : EvL ta σ H (ns.map V.int)) : Ev (tCB (rSum K) (tCons ta tNil)) σ H (.int ns.sum) := fun H1 e Q q =>
  ha H1 e _ fun p H2 hp e2 h2 => ⟨p, ns, rfl, sq_of h2, q H2 e2⟩
theorem ev_allN {bs : List Bool} (ha : EvL ta σ H (bs.map V.bl)) : Ev (tCB (rAll K) (tCons ta tNil)) σ H (.bl (bs.all id)) := fun H1 e Q q =>
  ha H1 e _ fun p H2 hp e2 h2 => ⟨p, bs, rfl, sq_of h2, q H2 e2⟩
theorem ev_anyN {bs : List Bool} (ha : EvL ta σ H (bs.map V.bl)) : Ev (tCB (rAny K) (tCons ta tNil)) σ H (.bl (bs.any id)) := fun H1 e Q q =>
  ha H1 e _ fun p H2 hp e2 h2 => ⟨p, bs, rfl, sq_of h2, q H2 e2⟩
/-- list(x) of a tuple, tuple(x) of a new list -/
theorem el_listT {p : Addr} {xs : List V} (ha : Ev ta σ H (.ref p)) (h : SqT K H p xs) : EvL (tCB (rListS K) (tCons ta tNil)) σ H xs := fun H1 e Q q =>
  ha H1 e _ fun H2 e2 => ⟨p, xs, rfl, Or.inr (ex_t (e.trans e2) h), fun l hl => q l _ (fresh_back e2 hl) (e2.trans (Ex.new hl)) upd_same⟩
theorem eu_tupN {xs : List V} (ha : EvL ta σ H xs) : EvU (tCB (rTupS K) (tCons ta tNil)) σ H xs := fun H1 e Q q =>
  ha H1 e _ fun p H2 hp e2 h2 => ⟨p, xs, rfl, Or.inl ⟨sq_of h2, fun l hl => q l _ (fresh_back e2 hl) (e2.trans (Ex.new hl)) upd_same⟩⟩
theorem eu_tupL {p : Addr} {xs : List V} (ha : Ev ta σ H (.ref p)) (h : SqL K H p xs) : EvU (tCB (rTupS K) (tCons ta tNil)) σ H xs := fun H1 e Q q =>
  ha H1 e _ fun H2 e2 => ⟨p, xs, rfl, Or.inl ⟨ex_l (e.trans e2) h, fun l hl => q l _ (fresh_back e2 hl) (e2.trans (Ex.new hl)) upd_same⟩⟩
/-- arithmetic with its conditions -/
theorem rv_mul {i j : Int} (h : CMul i j) : RV (rI CMul fun i j => .int (i * j)) (.int i) (.int j) H (.int (i * j)) := rv_I h
theorem rv_div {i j : Int} (h0 : 0 < j) (h1 : j < 1073741824) : RV (rI CDiv fun i j => .int (i / j)) (.int i) (.int j) H (.int (i / j)) := rv_I ⟨h0, h1⟩
theorem rv_mod {i j : Int} (h0 : 0 < j) : RV (rI (fun _ j => 0 < j) fun i j => .int (i % j)) (.int i) (.int j) H (.int (i % j)) := rv_I h0
theorem ev_max {i j : Int} (ha : Ev ta σ H (.int i)) (hb : Ev tb σ H (.int j)) : Ev (tCB (fun xs H Q => ∃ i j, xs = [.int i, .int j] ∧ Q (.int (if j > i then j else i)) H) (tCons ta (tCons tb tNil))) σ H (.int (max i j)) := fun H1 e Q q =>
  ha H1 e _ fun H2 e2 => hb H2 (e.trans e2) _ fun H3 e3 => ⟨i, j, rfl, by
    have h : (if j > i then j else i) = max i j := by split <;> omega
    rw [h]
    exact q H3 (e2.trans e3)⟩
theorem ev_min {i j : Int} (ha : Ev ta σ H (.int i)) (hb : Ev tb σ H (.int j)) : Ev (tCB (fun xs H Q => ∃ i j, xs = [.int i, .int j] ∧ Q (.int (if j < i then j else i)) H) (tCons ta (tCons tb tNil))) σ H (.int (min i j)) := fun H1 e Q q =>
  ha H1 e _ fun H2 e2 => hb H2 (e.trans e2) _ fun H3 e3 => ⟨i, j, rfl, by
    have h : (if j < i then j else i) = min i j := by split <;> omega
    rw [h]
    exact q H3 (e2.trans e3)⟩
end
/-! what is walked -/
/-- the iterable is the iterator J -/
def EvJ (wi : TI) (σ : L2.St) (H : Hp) (J : It) : Prop := ∀ H1, Ex H H1 → ∀ R : It → Hp → Prop, (∀ H2, Ex H1 H2 → R J H2) → wi σ H1 R
/-- the iterable goes n turns and gives what Y tells, while its heap's objects stand -/
def EvI (wi : TI) (σ : L2.St) (H : Hp) (n : Nat) (Y : Nat → Hp → V → Hp → Prop) : Prop := ∀ H1, Ex H H1 → ∀ R : It → Hp → Prop, (∀ J H2, Ex H1 H2 → Walk J n (fun H3 => Ex H2 H3) Y → R J H2) → wi σ H1 R
section
variable {K : PySem.W.Frag} {σ : L2.St} {H : Hp} {tl te : TE} {ta : TA} {wi : TI} {J : It} {n : Nat} {G : Hp → Prop} {Y : Nat → Hp → V → Hp → Prop} {g : TG} {a b : Addr} {xs ys : List V}
theorem EvJ.evi (h : EvJ wi σ H J) (w : Walk J n G Y) (hG : ∀ H1, Ex H H1 → G H1) : EvI wi σ H n Y := fun H1 e R q =>
  h H1 e R fun H2 e2 => q J H2 e2 (w.mono (fun H3 e3 => hG H3 ((e.trans e2).trans e3)) fun _ _ _ _ _ _ y => y)
theorem evj_list (h : Ev tl σ H (.ref a)) (hx : SqL K H a xs) : EvJ (iList K tl) σ H (Itl K a) := fun H1 e R q => h H1 e _ fun H2 e2 => ⟨a, rfl, ⟨xs, ex_l (e.trans e2) hx⟩, q H2 e2⟩
theorem evj_tup (h : Ev tl σ H (.ref a)) (hx : SqT K H a xs) : EvJ (iTup K tl) σ H (Itt K a) := fun H1 e R q => h H1 e _ fun H2 e2 => ⟨a, rfl, ⟨xs, ex_t (e.trans e2) hx⟩, q H2 e2⟩
theorem evj_rng1 {m : Int} (h : EvA ta σ H [.int m]) (h0 : 0 ≤ m) (h1 : m ≤ 100000) : EvJ (iRng1 ta) σ H (Itr 0 m.toNat) := fun H1 e R q => h H1 e _ fun H2 e2 => ⟨m, rfl, by omega, by omega, q H2 e2⟩
theorem evj_rng2 {lo m : Int} (h : EvA ta σ H [.int lo, .int m]) (h0 : 0 ≤ lo) (h1 : lo ≤ 100000) (h2 : 0 ≤ m) (h3 : m ≤ 100000) : EvJ (iRng2 ta) σ H (Itr lo (m - lo).toNat) := fun H1 e R q => h H1 e _ fun H2 e2 => ⟨lo, m, rfl, ⟨by omega, by omega, by omega, by omega⟩, q H2 e2⟩
theorem ex_k {k : Bool} {H H' : Hp} (e : Ex H H') (h : SqK k K H a xs) : SqK k K H' a xs := by
  cases k with
  | true => exact ex_l e h
  | false => exact ex_t e h
theorem evj_enum1 {k : Bool} (h : EvA ta σ H [.ref a]) (hx : SqK k K H a xs) : EvJ (iEnum1 K ta) σ H (IteK k K a 0) := fun H1 e R q => h H1 e _ fun H2 e2 => ⟨k, a, xs, rfl, ex_k (e.trans e2) hx, q H2 e2⟩
theorem evj_zip2 {k1 k2 : Bool} (h : EvA ta σ H [.ref a, .ref b]) (hx : SqK k1 K H a xs) (hy : SqK k2 K H b ys) : EvJ (iZip2 K ta) σ H (ItzK k1 k2 K a b) := fun H1 e R q => h H1 e _ fun H2 e2 => ⟨k1, k2, a, b, xs, ys, rfl, ex_k (e.trans e2) hx, ex_k (e.trans e2) hy, q H2 e2⟩
theorem evj_zipS {k1 k2 : Bool} (h : EvA ta σ H [.ref a, .ref b]) (hx : SqK k1 K H a xs) (hy : SqK k2 K H b ys) : EvJ (iZipS K ta) σ H (ItzS k1 k2 K a b) := fun H1 e R q => h H1 e _ fun H2 e2 => ⟨k1, k2, a, b, xs, ys, rfl, ex_k (e.trans e2) hx, ex_k (e.trans e2) hy, q H2 e2⟩
/-- a new list -/
theorem evi_listN (h : EvL tl σ H xs) : EvI (iList K tl) σ H xs.length (YAt xs) := fun H1 e R q => h H1 e _ fun p H2 hp e2 h2 => ⟨p, rfl, ⟨xs, sq_of h2⟩, q _ H2 e2 (walk_list.mono (fun H3 e3 => ex_l e3 (sq_of h2)) fun _ _ _ _ _ _ y => y)⟩
/-- zip of a sequence and a new list -/
theorem evi_zipN {k1 : Bool} {tb : TE} (hn : n = min xs.length ys.length) (h : Ev tl σ H (.ref a)) (hx : SqK k1 K H a xs) (hy : EvL tb σ H ys) : EvI (iZip2 K (tCons tl (tCons tb tNil))) σ H n (YPair (fun i => xs[i]?) (fun i => ys[i]?)) := fun H1 e R q =>
  h H1 e _ fun H2 e2 => hy H2 (e.trans e2) _ fun p H3 hp e3 h3 => ⟨k1, true, a, p, xs, ys, rfl, ex_k ((e.trans e2).trans e3) hx, sq_of h3, q _ H3 (e2.trans e3)
    ((walk_zipK hn).mono (fun H4 e4 => ⟨ex_k (((e.trans e2).trans e3).trans e4) hx, sq_of (e4 _ _ h3)⟩) fun _ _ _ _ _ _ y => y)⟩
/-- a for over it -/
theorem s_for {tb : TS} {D : Ends} (h : EvJ wi σ H J) (w : Walk J n G Y) (Pv : Nat → L2.St → Hp → Prop) (h0 : ∀ H1, Ex H H1 → Pv 0 σ H1) (hG : ∀ i σ' H', i ≤ n → Pv i σ' H' → G H')
    (hs : ∀ i x σ' H1 H2, i < n → Pv i σ' H1 → Y i H1 x H2 → g x σ' H2 fun σ2 H3 => tb { D with nx := Pv (i + 1), ct := Pv (i + 1), bk := D.nx } σ2 H3) (hd : ∀ σ' H', Pv n σ' H' → D.nx σ' H') : tFor wi g tb D σ H :=
  h H (Ex.refl H) _ fun H1 e => for_it w Pv (h0 H1 e) hG hs hd
theorem q_for {tb tz : TS} {D : Ends} (h : EvJ wi σ H J) (w : Walk J n G Y) (Pv : Nat → L2.St → Hp → Prop) (h0 : ∀ H1, Ex H H1 → Pv 0 σ H1) (hG : ∀ i σ' H', i ≤ n → Pv i σ' H' → G H')
    (hs : ∀ i x σ' H1 H2, i < n → Pv i σ' H1 → Y i H1 x H2 → g x σ' H2 fun σ2 H3 => tb { D with nx := Pv (i + 1), ct := Pv (i + 1), bk := tz D } σ2 H3) (hd : ∀ σ' H', Pv n σ' H' → tz D σ' H') : tSeq (tFor wi g tb) tz D σ H :=
  s_for (D := { D with nx := tz D }) h w Pv h0 hG hs hd
/-- a comprehension over it: its items are zs -/
theorem el_lc {vs : List Nat} (h : EvI wi σ H n Y) (zs : List V) (hz : zs.length = n) (hn : n ≤ 100000)
    (he : ∀ (i : Nat) x H1 H2, i < n → Ex H H1 → Y i H1 x H2 → g x (wipe σ vs) H2 fun σ2 H3 => H3 = H2 ∧ wipe σ2 vs = wipe σ vs ∧ Ex H1 H2 ∧ ∃ z, zs[i]? = some z ∧ Ev te σ2 H2 z)
    (mono : ∀ x σ' H' (Q Q' : L2.St → Hp → Prop), (∀ s h, Q s h → Q' s h) → g x σ' H' Q → g x σ' H' Q') : EvL (tLc wi g tYes te vs) σ H zs := fun H0 e Q q =>
  h H0 e _ fun J H2 e2 w Dl hD => lc_it w (fun i H' => Ex H2 H' ∧ H' Dl = some (.lst (zs.take i))) ⟨Ex.new hD, by rw [upd_same]; rfl⟩ (fun i H' hi p => p.1) (fun i x H' H3 hi p y => by
      refine mono _ _ _ _ _ ?_ (he i x H' H3 hi ((e.trans e2).trans p.1) y)
      rintro σ2 H4 ⟨rfl, hw, hx, z, hz1, hv⟩
      refine ⟨hw, ?_⟩
      unfold tYes
      dsimp only
      rw [if_pos rfl]
      refine hv H4 (Ex.refl _) _ fun H5 e5 => ⟨zs.take i, e5 _ _ (hx _ _ p.2), ?_, ?_, ?_⟩
      · have hl := List.length_take_le i zs
        exact sz_lt (by omega)
      · exact Ex.mut ((p.1.trans hx).trans e5) hD
      · rw [upd_same, List.take_add_one, hz1]
        rfl)
    (fun H' p => q Dl H' (fresh_back e2 hD) (e2.trans p.1) (by rw [p.2, List.take_of_length_le (by omega)]))
theorem mono_name {j : Nat} : ∀ x σ' H' (Q Q' : L2.St → Hp → Prop), (∀ s h, Q s h → Q' s h) → gName j x σ' H' Q → gName j x σ' H' Q' := fun _ _ _ _ _ f h => f _ _ h
theorem mono_tup2 {i j : Nat} : ∀ x σ' H' (Q Q' : L2.St → Hp → Prop), (∀ s h, Q s h → Q' s h) → gTup K 2 (gCons (gName i) (gCons (gName j) gNil)) x σ' H' Q → gTup K 2 (gCons (gName i) (gCons (gName j) gNil)) x σ' H' Q' := by
  rintro x σ' H' Q Q' f ⟨a, xs, e1, h1, h2, v, r, e2, v2, r2, e3, e4, h3⟩
  exact ⟨a, xs, e1, h1, h2, v, r, e2, v2, r2, e3, e4, f _ _ h3⟩
/-- .. a name over the items of a sequence, of a range -/
theorem el_lcn {vs : List Nat} {j : Nat} (h : EvI wi σ H n (YAt xs)) (zs : List V) (hz : zs.length = n) (hn : n ≤ 100000) (hw : ∀ x, wipe ((wipe σ vs).set j (some x)) vs = wipe σ vs)
    (he : ∀ (i : Nat) x H1, Ex H H1 → xs[i]? = some x → ∃ z, zs[i]? = some z ∧ Ev te ((wipe σ vs).set j (some x)) H1 z) : EvL (tLc wi (gName j) tYes te vs) σ H zs :=
  el_lc h zs hz hn (fun i x H1 H2 hi e y => by
    obtain ⟨rfl, hx⟩ := y
    exact ⟨rfl, hw x, Ex.refl _, he i x H2 e hx⟩) mono_name
theorem el_lcr {vs : List Nat} {j : Nat} {lo : Int} (h : EvI wi σ H n (YFn fun i => .int (lo + (i : Nat)))) (zs : List V) (hz : zs.length = n) (hn : n ≤ 100000) (hw : ∀ x, wipe ((wipe σ vs).set j (some x)) vs = wipe σ vs)
    (he : ∀ (i : Nat) H1, i < n → Ex H H1 → ∃ z, zs[i]? = some z ∧ Ev te ((wipe σ vs).set j (some (.int (lo + (i : Nat))))) H1 z) : EvL (tLc wi (gName j) tYes te vs) σ H zs :=
  el_lc h zs hz hn (fun i x H1 H2 hi e y => by
    obtain ⟨rfl, rfl⟩ := y
    exact ⟨rfl, hw _, Ex.refl _, he i H2 hi e⟩) mono_name
/-- .. two names over pairs -/
theorem el_lcp {vs : List Nat} {j l : Nat} {fx fy : Nat → Option V} (h : EvI wi σ H n (YPair fx fy)) (zs : List V) (hz : zs.length = n) (hn : n ≤ 100000) (hw : ∀ x y, wipe (((wipe σ vs).set j (some x)).set l (some y)) vs = wipe σ vs)
    (he : ∀ (i : Nat) x y H1, Ex H H1 → fx i = some x → fy i = some y → ∃ z, zs[i]? = some z ∧ Ev te (((wipe σ vs).set j (some x)).set l (some y)) H1 z) : EvL (tLc wi (gTup K 2 (gCons (gName j) (gCons (gName l) gNil))) tYes te vs) σ H zs :=
  el_lc h zs hz hn (fun i v H1 H2 hi e y => by
    obtain ⟨T, x, z, rfl, hT, rfl, hx, hz1⟩ := y
    exact ⟨T, [x, z], rfl, st_of upd_same, rfl, x, [z], rfl, z, [], rfl, rfl, rfl, hw x z, Ex.new hT, he i x z _ (e.trans (Ex.new hT)) hx hz1⟩) mono_tup2
end
end SC

/-! part F1 -/
set_option Elab.async false
set_option linter.all false
set_option maxRecDepth 100000
set_option maxHeartbeats 4000000
namespace SC
open PySem PySem.Spec PyProof.Rows L2 Evl
section
variable {P : Program} {w : World} {K : PySem.W.Frag} {mg : Str → Option Value} {base : Heap}
/-! integers -/
theorem sc_is_integer : FnScope ["value"] ["value"] (defScope s_is_integer) := ⟨rfl, rfl, rfl, by decide +kernel, rfl, by decide +kernel, by decide +kernel⟩
def spIsInt : Sp := fun vs H Q _ => ∃ i : Int, vs = [.int i] ∧ ∀ H', Ex H H' → Q (.bl true) H'
theorem ok_is_integer (T : Tx K mg) : Ok P w K mg base 1 "is_integer" ["value"] spIsInt := by
  obtain ⟨fd, F⟩ := T.d_is_integer
  refine ⟨fd, F.ok sc_is_integer (fun vs H Q E h => ?_) (fun cdv A outer s H vs Q E hr h => ?_), F.bindsN (fun _ _ _ _ _ _ us hl => match us, hl with | [_], _ => rfl), F.kp, T.g_is_integer⟩
  · obtain ⟨i, rfl, _⟩ := h
    rfl
  · obtain ⟨i, rfl, q⟩ := h
    refine ⟨_, PSs.nox (pss_one (ps_ret (pe_and (pe_callB call_isiK (by rfl) T.f_isinstance bb_isinstance (pa_cons (pv 0) (pa_cons (pe_bltn (v := .ty "int") (by rfl) T.f_int bb_int rfl) pa_nil))) (pe_one (pe_not (pe_callB call_isiK (by rfl) T.f_isinstance bb_isinstance (pa_cons (pv 0) (pa_cons (pe_bltn (v := .ty "bool") (by rfl) T.f_bool bb_bool rfl) pa_nil)))))))), ?_⟩
    exact s_ret (ev_andV (ev_isi (ev_var rfl) (fun _ _ => .base (.int _)) k_ii) fun _ => ev_notV (ev_isi (ev_var rfl) (fun _ _ => .base (.int _)) k_ib)) q
theorem v_isInt {i : Int} {H : Hp} : SpV spIsInt [.int i] H (.bl true) := fun H1 e Q q E => ⟨i, rfl, q⟩
theorem sc_is_at_least : FnScope ["value", "low"] ["value", "low"] (defScope s_is_at_least) := ⟨rfl, rfl, rfl, by decide +kernel, rfl, by decide +kernel, by decide +kernel⟩
def spAtLeast : Sp := fun vs H Q _ => ∃ i l : Int, vs = [.int i, .int l] ∧ ∀ H', Ex H H' → Q (.bl (decide (l ≤ i))) H'
theorem ok_is_at_least (T : Tx K mg) : Ok P w K mg base 2 "is_at_least" ["value", "low"] spAtLeast := by
  have O_is_integer := ok_is_integer (P := P) (w := w) (base := base) T
  obtain ⟨fd, F⟩ := T.d_is_at_least
  refine ⟨fd, F.ok sc_is_at_least (fun vs H Q E h => ?_) (fun cdv A outer s H vs Q E hr h => ?_), F.bindsN (fun _ _ _ _ _ _ us hl => match us, hl with | [_, _], _ => rfl), F.kp, T.g_is_at_least⟩
  · obtain ⟨i, l, rfl, _⟩ := h
    rfl
  · obtain ⟨i, l, rfl, q⟩ := h
    refine ⟨_, PSs.nox (pss_one (ps_ret (pe_and (pe_ok O_is_integer (hr.mono (by decide)) (by rfl) (pa_cons (pv 0) pa_nil)) (pe_one (pe_cmpR op_ge (pv 0) (pv 1) (nomark _)))))), ?_⟩
    exact s_ret (ev_andV (ev_call (ea_cons (ev_var rfl) ea_nil) v_isInt) fun _ => ev_op (ev_var rfl) (ev_var rfl) rv_I0) q
theorem v_atLeast {i l : Int} {H : Hp} : SpV spAtLeast [.int i, .int l] H (.bl (decide (l ≤ i))) := fun H1 e Q q E => ⟨i, l, rfl, q⟩
theorem sc_is_between : FnScope ["value", "low", "high"] ["value", "low", "high"] (defScope s_is_between) := ⟨rfl, rfl, rfl, by decide +kernel, rfl, by decide +kernel, by decide +kernel⟩
def spBetween : Sp := fun vs H Q _ => ∃ i l u : Int, vs = [.int i, .int l, .int u] ∧ ∀ H', Ex H H' → Q (.bl (decide (l ≤ i) && decide (i ≤ u))) H'
theorem ok_is_between (T : Tx K mg) : Ok P w K mg base 2 "is_between" ["value", "low", "high"] spBetween := by
  have O_is_integer := ok_is_integer (P := P) (w := w) (base := base) T
  obtain ⟨fd, F⟩ := T.d_is_between
  refine ⟨fd, F.ok sc_is_between (fun vs H Q E h => ?_) (fun cdv A outer s H vs Q E hr h => ?_), F.bindsN (fun _ _ _ _ _ _ us hl => match us, hl with | [_, _, _], _ => rfl), F.kp, T.g_is_between⟩
  · obtain ⟨i, l, u, rfl, _⟩ := h
    rfl
  · obtain ⟨i, l, u, rfl, q⟩ := h
    refine ⟨_, PSs.nox (pss_one (ps_ret (pe_and (pe_ok O_is_integer (hr.mono (by decide)) (by rfl) (pa_cons (pv 0) pa_nil)) (pe_one (pe_chain op_le op_le (pv 1) (pv 0) (pv 2)))))), ?_⟩
    exact s_ret (ev_andV (ev_call (ea_cons (ev_var rfl) ea_nil) v_isInt) fun _ => ev_chain (ev_var rfl) (ev_var rfl) rv_I0 (fun _ => ev_var rfl) fun _ => rv_I0) q
theorem v_between {i l u : Int} {H : Hp} : SpV spBetween [.int i, .int l, .int u] H (.bl (decide (l ≤ i) && decide (i ≤ u))) := fun H1 e Q q E => ⟨i, l, u, rfl, q⟩
/-! positions -/
theorem sc_require_schedule : FnScope ["schedule", "index", "entry"] ["schedule"] (defScope s_require_schedule) := ⟨rfl, rfl, rfl, by decide +kernel, rfl, by decide +kernel, by decide +kernel⟩
def spReqSched (K : PySem.W.Frag) : Sp := fun vs H Q _ => ∃ (a : Addr) (rs : List Int), vs = [.ref a] ∧ SqL K H a (iV rs) ∧ rs.length ≤ 200 ∧ (∀ r ∈ rs, 2 ≤ r) ∧ ∀ H', Ex H H' → Q .non H'
theorem ok_require_schedule (T : Tx K mg) : Ok P w K mg base 3 "require_schedule" ["schedule"] (spReqSched K) := by
  have O_is_at_least := ok_is_at_least (P := P) (w := w) (base := base) T
  obtain ⟨fd, F⟩ := T.d_require_schedule
  refine ⟨fd, F.ok sc_require_schedule (fun vs H Q E h => ?_) (fun cdv A outer s H vs Q E hr h => ?_), F.bindsN (fun _ _ _ _ _ _ us hl => match us, hl with | [_], _ => rfl), F.kp, T.g_require_schedule⟩
  · obtain ⟨a, rs, rfl, _⟩ := h
    rfl
  · obtain ⟨a, rs, rfl, hS, hl, hr2, q⟩ := h
    refine ⟨_, PSs.nox (pss_cons (ps_if (pw_or (pt_not (pt_val (pe_callB call_isiTK (by rfl) T.f_isinstance bb_isinstance (pa_cons (pv 0) (pa_cons (pe_tup (pa_cons (pe_bltn (v := .ty "list") (by rfl) T.f_list bb_list rfl) (pa_cons (pe_bltn (v := .ty "tuple") (by rfl) T.f_tuple bb_tuple rfl) pa_nil))) pa_nil))))) (pw_or1 (pt_cmpR op_gt (pe_callB call_lenK (by rfl) T.f_len bb_len (pa_cons (pv 0) pa_nil)) (pe_gint T.i_MAX_ROUNDS (by rfl)) (nomark _)))).pt (pss_one ps_never) pss_nil)
      (pss_one (ps_for PassesOwn.never rfl (pi_enum1K (by rfl) T.f_enumerate (pa_cons (pv 0) pa_nil)) (pg_tupK rfl (pgs_cons (pg_name (i := 1) sc_require_schedule.nd rfl (.inl rfl)) (pgs_cons (pg_name (i := 2) sc_require_schedule.nd rfl (.inl rfl)) pgs_nil))) (pss_one (ps_if (pt_not (pt_val (pe_ok O_is_at_least (hr.mono (by decide)) (by rfl) (pa_cons (pv 2) (pa_cons pe_int pa_nil))))) (pss_one ps_never) pss_nil))))), ?_⟩
    refine q_when (b := false) (et_is (et_or (et_not (et_B (ev_isT (b := true) (ev_var rfl) (fun H1 e => tyx_list (ex_l e hS)) k_llt))) fun _ => et_test (ev_op (ev_lenL (ev_var rfl) hS) ev_c rv_I0)) ?_) (fun hb => nomatch hb) fun _ H1 e1 => ?_
    · rw [iV_len]
      simp
      omega
    · refine s_for (σ := _) (evj_enum1 (k := true) (ea_cons (ev_var rfl) ea_nil) (ex_l e1 hS)) (walk_enumK (xs := iV rs)) (fun i σ' H' => ∃ y z, σ' = [some (.ref a), y, z] ∧ Ex H H') (fun H2 e2 => ⟨_, _, rfl, e1.trans e2⟩) (fun i σ' H' hi p => ?_) (fun i x σ' H2 H3 hi p y => ?_) fun σ' H' p => ?_
      · obtain ⟨_, _, _, e⟩ := p
        exact ex_l e hS
      · obtain ⟨_, _, rfl, e⟩ := p
        obtain ⟨T, x1, x2, rfl, hT, rfl, hx1, hx2⟩ := y
        obtain ⟨r, hr', rfl⟩ := iV_get hx2
        have h2 := hr2 r (List.mem_of_getElem? hr')
        refine ⟨T, [x1, .int r], rfl, st_of upd_same, rfl, x1, _, rfl, _, [], rfl, rfl, ?_⟩
        refine s_when (b := false) (et_is (et_not (et_B (ev_call (ea_cons (ev_var rfl) (ea_cons ev_c ea_nil)) v_atLeast))) (by simp [h2])) (fun hb => nomatch hb) fun _ H4 e4 => ?_
        exact ⟨_, _, rfl, (e.trans (Ex.new hT)).trans e4⟩
      · obtain ⟨_, _, rfl, e⟩ := p
        exact q H' e
end
end SC

/-! part F2 -/
set_option Elab.async false
set_option linter.all false
set_option maxRecDepth 100000
set_option maxHeartbeats 4000000
namespace SC
open PySem PySem.Spec PyProof.Rows L2 Evl
section
variable {P : Program} {w : World} {K : PySem.W.Frag} {mg : Str → Option Value} {base : Heap}
theorem v_reqSched {a : Addr} {rs : List Int} {H : Hp} (hS : SqL K H a (iV rs)) (hl : rs.length ≤ 200) (h2 : ∀ r ∈ rs, 2 ≤ r) : SpV (spReqSched K) [.ref a] H .non := fun H1 e Q q E => ⟨a, rs, rfl, ex_l e hS, hl, h2, q⟩
theorem sc_require_rounds : FnScope ["schedule"] ["schedule"] (defScope s_require_rounds) := ⟨rfl, rfl, rfl, by decide +kernel, rfl, by decide +kernel, by decide +kernel⟩
def spReqRounds (K : PySem.W.Frag) : Sp := fun vs H Q _ => ∃ (a : Addr) (rs : List Int), vs = [.ref a] ∧ SqL K H a (iV rs) ∧ rs ≠ [] ∧ rs.length ≤ 200 ∧ (∀ r ∈ rs, 2 ≤ r) ∧ ∀ H', Ex H H' → Q .non H'
theorem ok_require_rounds (T : Tx K mg) : Ok P w K mg base 4 "require_rounds" ["schedule"] (spReqRounds K) := by
  have O_require_schedule := ok_require_schedule (P := P) (w := w) (base := base) T
  obtain ⟨fd, F⟩ := T.d_require_rounds
  refine ⟨fd, F.ok sc_require_rounds (fun vs H Q E h => ?_) (fun cdv A outer s H vs Q E hr h => ?_), F.bindsN (fun _ _ _ _ _ _ us hl => match us, hl with | [_], _ => rfl), F.kp, T.g_require_rounds⟩
  · obtain ⟨a, rs, rfl, _⟩ := h
    rfl
  · obtain ⟨a, rs, rfl, hS, hne, hl, hr2, q⟩ := h
    refine ⟨_, PSs.nox (pss_cons (ps_expr (pe_ok O_require_schedule (hr.mono (by decide)) (by rfl) (pa_cons (pv 0) pa_nil)))
      (pss_one (ps_if (pt_cmpR op_eq (pe_callB call_lenK (by rfl) T.f_len bb_len (pa_cons (pv 0) pa_nil)) pe_int (nomark _)) (pss_one ps_never) pss_nil))), ?_⟩
    refine q_drop (ev_call (ea_cons (ev_var rfl) ea_nil) (v_reqSched hS hl hr2)) fun H1 e1 => ?_
    refine s_when (b := false) (et_is (et_test (ev_op (ev_lenL (ev_var rfl) (ex_l e1 hS)) ev_c (rv_eq rfl))) ?_) (fun hb => nomatch hb) fun _ H2 e2 => q H2 (e1.trans e2)
    have : rs.length ≠ 0 := fun z => hne (List.eq_nil_of_length_eq_zero z)
    simp
    exact hne
theorem v_reqRounds {a : Addr} {rs : List Int} {H : Hp} (hS : SqL K H a (iV rs)) (hn : rs ≠ []) (hl : rs.length ≤ 200) (h2 : ∀ r ∈ rs, 2 ≤ r) : SpV (spReqRounds K) [.ref a] H .non := fun H1 e Q q E => ⟨a, rs, rfl, ex_l e hS, hn, hl, h2, q⟩
theorem sc_is_group : FnScope ["value", "length", "entry"] ["value", "length"] (defScope s_is_group) := ⟨rfl, rfl, rfl, by decide +kernel, rfl, by decide +kernel, by decide +kernel⟩
def spIsGroup (K : PySem.W.Frag) : Sp := fun vs H Q _ => ∃ (a : Addr) (cs : List Int) (n : Int), vs = [.ref a, .int n] ∧ SqT K H a (iV cs) ∧ (cs.length : Int) = n ∧ cs.length ≤ 200 ∧ NN cs ∧ ∀ H', Ex H H' → Q (.bl true) H'
theorem ok_is_group (T : Tx K mg) : Ok P w K mg base 3 "is_group" ["value", "length"] (spIsGroup K) := by
  have O_is_at_least := ok_is_at_least (P := P) (w := w) (base := base) T
  obtain ⟨fd, F⟩ := T.d_is_group
  refine ⟨fd, F.ok sc_is_group (fun vs H Q E h => ?_) (fun cdv A outer s H vs Q E hr h => ?_), F.bindsN (fun _ _ _ _ _ _ us hl => match us, hl with | [_, _], _ => rfl), F.kp, T.g_is_group⟩
  · obtain ⟨a, cs, n, rfl, _⟩ := h
    rfl
  · obtain ⟨a, cs, n, rfl, hT, hn, hl, hnn, q⟩ := h
    refine ⟨_, PSs.nox (pss_one (ps_ret (pe_and (pe_callB call_isiK (by rfl) T.f_isinstance bb_isinstance (pa_cons (pv 0) (pa_cons (pe_bltn (v := .ty "tuple") (by rfl) T.f_tuple bb_tuple rfl) pa_nil))) (pe_and (pe_cmpR op_eq (pe_callB call_lenK (by rfl) T.f_len bb_len (pa_cons (pv 0) pa_nil)) (pv 1) (nomark _)) (pe_one (pe_callB (cr_allK rfl) (by rfl) T.f_all bb_all (pa_cons (pe_lc (own := [("entry", 2)]) rfl sc_is_group.nd (pi_tupK (pv 0)) (blkOk_by (N := ["value", "length", "entry"]) (sc := defScope s_is_group) (own := [("entry", 2)]) (by decide +kernel)) (fun _ _ _ _ _ => (pg_name (i := 2) sc_is_group.nd rfl (.inl rfl))) (fun _ _ _ _ _ => pts_nil) (fun _ _ _ _ _ => (pe_ok O_is_at_least (hr.mono (by decide)) (by rfl) (pa_cons (pv 2) (pa_cons pe_int pa_nil))))) pa_nil))))))), ?_⟩
    refine s_ret (ev_is (ev_andV (ev_isi (ev_var rfl) (fun H1 e => tyx_tup (ex_t e hT)) k_tt) fun _ => ev_andV (ev_op (ev_lenT (ev_var rfl) hT) (ev_var rfl) (rv_eq rfl)) fun _ =>
      ev_allN (bs := cs.map fun c => decide (0 ≤ c)) (el_lcn ((evj_tup (ev_var rfl) hT).evi (walk_tup (xs := iV cs)) fun H1 e => ex_t e hT) _ (by simp) (by rw [iV_len]; omega) (fun _ => rfl) fun i x H1 e hx => ?_)) ?_) q
    · obtain ⟨c, hc, rfl⟩ := iV_get hx
      exact ⟨.bl (decide (0 ≤ c)), by simp [hc], ev_call (ea_cons (ev_var rfl) (ea_cons ev_c ea_nil)) v_atLeast⟩
    · have h1 : decide (V.int (((iV cs).length : Nat) : Int) = V.int n) = true := decide_eq_true (by rw [iV_len, hn])
      have h2 : (cs.map fun c => decide (0 ≤ c)).all id = true := by
        rw [List.all_eq_true]
        intro b hb
        obtain ⟨c, hc, rfl⟩ := List.mem_map.mp hb
        exact decide_eq_true (hnn c hc)
      rw [h1, h2]
      rfl
theorem v_isGroup {a : Addr} {cs : List Int} {n : Int} {H : Hp} (hT : SqT K H a (iV cs)) (hn : (cs.length : Int) = n) (hl : cs.length ≤ 200) (h : NN cs) : SpV (spIsGroup K) [.ref a, .int n] H (.bl true) := fun H1 e Q q E => ⟨a, cs, n, rfl, ex_t e hT, hn, hl, h, q⟩
theorem sc_require_counts : FnScope ["counts"] ["counts"] (defScope s_require_counts) := ⟨rfl, rfl, rfl, by decide +kernel, rfl, by decide +kernel, by decide +kernel⟩
def spReqCounts (K : PySem.W.Frag) : Sp := fun vs H Q _ => ∃ (a : Addr) (cs : List Int), vs = [.ref a] ∧ SqT K H a (iV cs) ∧ cs.length ≤ 200 ∧ NN cs ∧ ∀ H', Ex H H' → Q .non H'
theorem ok_require_counts (T : Tx K mg) : Ok P w K mg base 4 "require_counts" ["counts"] (spReqCounts K) := by
  have O_is_group := ok_is_group (P := P) (w := w) (base := base) T
  obtain ⟨fd, F⟩ := T.d_require_counts
  refine ⟨fd, F.ok sc_require_counts (fun vs H Q E h => ?_) (fun cdv A outer s H vs Q E hr h => ?_), F.bindsN (fun _ _ _ _ _ _ us hl => match us, hl with | [_], _ => rfl), F.kp, T.g_require_counts⟩
  · obtain ⟨a, cs, rfl, _⟩ := h
    rfl
  · obtain ⟨a, cs, rfl, hT, hl, hnn, q⟩ := h
    refine ⟨_, PSs.nox (pss_one (ps_if (pw_or (pt_not (pt_val (pe_callB call_isiK (by rfl) T.f_isinstance bb_isinstance (pa_cons (pv 0) (pa_cons (pe_bltn (v := .ty "tuple") (by rfl) T.f_tuple bb_tuple rfl) pa_nil))))) (pw_or (pt_cmpR op_gt (pe_callB call_lenK (by rfl) T.f_len bb_len (pa_cons (pv 0) pa_nil)) (pe_gint T.i_MAX_ROUNDS (by rfl)) (nomark _)) (pw_or1 (pt_not (pt_val (pe_ok O_is_group (hr.mono (by decide)) (by rfl) (pa_cons (pv 0) (pa_cons (pe_callB call_lenK (by rfl) T.f_len bb_len (pa_cons (pv 0) pa_nil)) pa_nil)))))))).pt (pss_one ps_never) pss_nil)), ?_⟩
    refine s_when (b := false) (et_is (et_or (et_not (et_B (ev_isi (ev_var rfl) (fun H1 e => tyx_tup (ex_t e hT)) k_tt))) fun _ => et_or (et_test (ev_op (ev_lenT (ev_var rfl) hT) ev_c rv_I0)) fun _ =>
      et_not (et_B (ev_call (ea_cons (ev_var rfl) (ea_cons (ev_lenT (ev_var rfl) hT) ea_nil)) (v_isGroup hT (by rw [iV_len]) hl hnn)))) ?_) (fun hb => nomatch hb) fun _ H1 e1 => q H1 e1
    rw [iV_len]
    simp
    omega
theorem v_reqCounts {a : Addr} {cs : List Int} {H : Hp} (hT : SqT K H a (iV cs)) (hl : cs.length ≤ 200) (h : NN cs) : SpV (spReqCounts K) [.ref a] H .non := fun H1 e Q q E => ⟨a, cs, rfl, ex_t e hT, hl, h, q⟩
theorem sc_require_small_round : FnScope ["schedule"] ["schedule"] (defScope s_require_small_round) := ⟨rfl, rfl, rfl, by decide +kernel, rfl, by decide +kernel, by decide +kernel⟩
def spReqSmall (K : PySem.W.Frag) : Sp := fun vs H Q _ => ∃ (a : Addr) (r : Int) (rs : List Int), vs = [.ref a] ∧ SqL K H a (iV (r :: rs)) ∧ r ≤ 1000 ∧ ∀ H', Ex H H' → Q .non H'
theorem ok_require_small_round (T : Tx K mg) : Ok P w K mg base 1 "require_small_round" ["schedule"] (spReqSmall K) := by
  obtain ⟨fd, F⟩ := T.d_require_small_round
  refine ⟨fd, F.ok sc_require_small_round (fun vs H Q E h => ?_) (fun cdv A outer s H vs Q E hr h => ?_), F.bindsN (fun _ _ _ _ _ _ us hl => match us, hl with | [_], _ => rfl), F.kp, T.g_require_small_round⟩
  · obtain ⟨a, r, rs, rfl, _⟩ := h
    rfl
  · obtain ⟨a, r, rs, rfl, hS, hr, q⟩ := h
    refine ⟨_, PSs.nox (pss_one (ps_if (pt_cmpR op_gt (pe_ix ix_listK (pv 0) pe_int (fun _ _ => rfl)) (pe_gint T.i_MAX_GROUPS (by rfl)) (nomark _)) (pss_one ps_never) pss_nil)), ?_⟩
    refine s_when (b := false) (et_is (et_test (ev_op (ev_ixL (j := 0) (ev_var rfl) ev_c hS rfl) ev_c rv_I0)) ?_) (fun hb => nomatch hb) fun _ H1 e1 => q H1 e1
    exact decide_eq_false (by omega)
theorem v_reqSmall {a : Addr} {r : Int} {rs : List Int} {H : Hp} (hS : SqL K H a (iV (r :: rs))) (hr : r ≤ 1000) : SpV (spReqSmall K) [.ref a] H .non := fun H1 e Q q E => ⟨a, r, rs, rfl, ex_l e hS, hr, q⟩
theorem sc_products : FnScope ["schedule", "found", "entry"] ["schedule"] (defScope s_products) := ⟨rfl, rfl, rfl, by decide +kernel, rfl, by decide +kernel, by decide +kernel⟩
def spProducts (K : PySem.W.Frag) : Sp := fun vs H Q _ => ∃ (a : Addr) (rs : List Int), vs = [.ref a] ∧ SqL K H a (iV rs) ∧ Sched rs ∧ rs.length ≤ 200 ∧ ∀ p H', H p = none → Ex H H' → H' p = some (.lst (iV (pl rs rs.length))) → Q (.ref p) H'
theorem atI_end {xs : List V} {v : V} : atI (xs ++ [v]) (-1) = some v := atI_last _ _
theorem ok_products (T : Tx K mg) : Ok P w K mg base 1 "products" ["schedule"] (spProducts K) := by
  obtain ⟨fd, F⟩ := T.d_products
  refine ⟨fd, F.ok sc_products (fun vs H Q E h => ?_) (fun cdv A outer s H vs Q E hr h => ?_), F.bindsN (fun _ _ _ _ _ _ us hl => match us, hl with | [_], _ => rfl), F.kp, T.g_products⟩
  · obtain ⟨a, rs, rfl, _⟩ := h
    rfl
  · obtain ⟨a, rs, rfl, hS, hs, hl, q⟩ := h
    refine ⟨_, PSs.nox (pss_cons (ps_set (i := 1) sc_products.nd rfl (.inl rfl) (pe_lst (pa_cons pe_int pa_nil)))
      (pss_cons (ps_for PassesOwn.never rfl (pi_listK (pv 0)) (pg_name (i := 2) sc_products.nd rfl (.inl rfl)) (pss_one (ps_expr (pe_bmK PySem.F.plainAttrs_list PySem.F.slot_list_append PySem.F.type_list_append mt_append (pv 1) (pa_cons (pe_op op_mul (pe_ix ix_listK (pv 1) (pe_un un_neg pe_int) (fun _ _ => rfl)) (pv 2)) pa_nil)))))
      (pss_one (ps_ret (pv 1))))), ?_⟩
    refine q_asgL (el_lst (ea_cons ev_c ea_nil) (by decide)) fun p H1 hp e1 h1 => ?_
    refine q_for (evj_list (ev_var rfl) (ex_l e1 hS)) (walk_list (xs := iV rs)) (fun i σ' H' => ∃ y, σ' = [some (.ref a), some (.ref p), y] ∧ Ex H H' ∧ H' p = some (.lst (iV (pl rs i)))) (fun H2 e2 => ⟨_, rfl, e1.trans e2, e2 _ _ h1⟩)
      (fun i σ' H' hi z => ?_) (fun i x σ' H2 H3 hi z y => ?_) fun σ' H' z => ?_
    · obtain ⟨_, _, e, _⟩ := z
      exact ex_l e hS
    · obtain ⟨_, rfl, e, h2⟩ := z
      obtain ⟨rfl, hx⟩ := y
      obtain ⟨r, hr', rfl⟩ := iV_get hx
      have hb := hs r (List.mem_of_getElem? hr')
      obtain ⟨l, hl2⟩ := pl_last rs i
      have hi2 : i < rs.length := by rw [iV_len] at hi; exact hi
      refine s_app h2 (ev_var rfl) (ev_op (ev_op (ev_var rfl) (ev_un ev_c ru_neg) (rv_ixL (v := .int (prd (rs.take i))) (sq_of h2) ?_)) (ev_var rfl) (rv_mul (.inr ⟨by omega, by omega⟩))) ?_ fun H4 e4 => ⟨_, rfl, ?_, ?_⟩
      · rw [hl2, iV_append]
        exact atI_end
      · rw [iV_len, pl_len]; omega
      · exact Ex.mut (e.trans e4) hp
      · rw [upd_same, pl_snoc, prd_take_succ hr', iV_append]
        rfl
    · obtain ⟨_, rfl, e, h2⟩ := z
      refine s_ret (ev_var rfl) fun H2 e2 => q p H2 hp (e.trans e2) ?_
      rw [iV_len] at h2
      exact e2 _ _ h2
theorem l_products {a : Addr} {rs : List Int} {H : Hp} (hS : SqL K H a (iV rs)) (hs : Sched rs) (hl : rs.length ≤ 200) : SpL (spProducts K) [.ref a] H (iV (pl rs rs.length)) := fun H1 e Q q E => ⟨a, rs, rfl, ex_l e hS, hs, hl, q⟩
theorem cut1 (xs : List V) : cutV xs (some 1) none = xs.drop 1 := by
  unfold cutV
  rw [show HT.sIx xs.length 0 (some 1) = min 1 xs.length from HT.sIx_nat xs.length 0 1, HT.sIx_none]
  cases xs with
  | nil => rfl
  | cons x r =>
    have h : min 1 (x :: r).length = 1 := by simp
    rw [h]
    simp
theorem sc_scaled_weight : FnScope ["schedule", "counts", "found", "count", "product"] ["schedule", "counts"] (defScope s_scaled_weight) := ⟨rfl, rfl, rfl, by decide +kernel, rfl, by decide +kernel, by decide +kernel⟩
def spScaled (K : PySem.W.Frag) : Sp := fun vs H Q _ => ∃ (a b : Addr) (rs cs : List Int), vs = [.ref a, .ref b] ∧ SqL K H a (iV rs) ∧ SqT K H b (iV cs) ∧ Sched rs ∧ rs.length ≤ 8 ∧ cs.length ≤ 200 ∧ ∀ H', Ex H H' → Q (.int (sw rs cs)) H'
theorem ok_scaled_weight (T : Tx K mg) : Ok P w K mg base 2 "scaled_weight" ["schedule", "counts"] (spScaled K) := by
  have O_products := ok_products (P := P) (w := w) (base := base) T
  obtain ⟨fd, F⟩ := T.d_scaled_weight
  refine ⟨fd, F.ok sc_scaled_weight (fun vs H Q E h => ?_) (fun cdv A outer s H vs Q E hr h => ?_), F.bindsN (fun _ _ _ _ _ _ us hl => match us, hl with | [_, _], _ => rfl), F.kp, T.g_scaled_weight⟩
  · obtain ⟨a, b, rs, cs, rfl, _⟩ := h
    rfl
  · obtain ⟨a, b, rs, cs, rfl, hS, hT, hs, hl, hc, q⟩ := h
    refine ⟨_, PSs.nox (pss_cons (ps_set (i := 2) sc_scaled_weight.nd rfl (.inr rfl) (pe_ok O_products (hr.mono (by decide)) (by rfl) (pa_cons (pv 0) pa_nil)))
      (pss_one (ps_ret (pe_callB (cr_sumK rfl) (by rfl) T.f_sum bb_sum (pa_cons (pe_lc (own := [("count", 3), ("product", 4)]) rfl sc_scaled_weight.nd (pi_zip2K (by rfl) T.f_zip (pa_cons (pv 1) (pa_cons (pe_slice sl_listK (pv 2) (po_some pe_int) po_none) pa_nil))) (blkOk_by (N := ["schedule", "counts", "found", "count", "product"]) (sc := defScope s_scaled_weight) (own := [("count", 3), ("product", 4)]) (by decide +kernel)) (fun _ _ _ _ _ => (pg_tupK (n := 2) rfl (pgs_cons (pg_name (i := 3) sc_scaled_weight.nd rfl (.inl rfl)) (pgs_cons (pg_name (i := 4) sc_scaled_weight.nd rfl (.inl rfl)) pgs_nil)))) (fun _ _ _ _ _ => pts_nil) (fun _ _ _ _ _ => (pe_op op_mul (pv 3) (pe_op op_fdiv (pe_ix ix_listK (pv 2) (pe_un un_neg pe_int) (fun _ _ => rfl)) (pv 4))))) pa_nil))))), ?_⟩
    refine q_asgL (el_call (ea_cons (ev_var rfl) ea_nil) (l_products hS hs (by omega))) fun p H1 hp e1 h1 => ?_
    have hP := hs.prd_pos
    obtain ⟨l, hl2⟩ := pl_last rs rs.length
    refine s_ret (ev_is (ev_sumN (ns := swL rs cs) (el_lcp (fx := fun i => (iV cs)[i]?) (fy := fun i => ((iV (pl rs rs.length)).drop 1)[i]?)
      (evi_zipN (k1 := false) rfl (ev_var rfl) (ex_t e1 hT) (by rw [← cut1]; exact el_sl (ev_var rfl) (eo_some ev_c) eo_none (sq_of h1))) _ ?_ ?_ (fun _ _ => rfl) fun i x y H2 e2 hx hy => ?_)) (by rw [swL_sum])) fun H2 e2 => q H2 (e1.trans e2)
    · rw [List.length_map, swL_len, List.length_drop, iV_len, iV_len, pl_len]
      omega
    · rw [List.length_drop, iV_len, iV_len, pl_len]
      omega
    · obtain ⟨c, hc1, rfl⟩ := iV_get hx
      rw [List.getElem?_drop] at hy
      obtain ⟨d, hd, rfl⟩ := iV_get hy
      have hi : i < rs.length := by
        have := (List.getElem?_eq_some_iff.mp hd).1
        rw [pl_len] at this
        omega
      rw [pl_get (by omega)] at hd
      have hd' : prd (rs.take (1 + i)) = d := Option.some.inj hd
      have e3 : prd rs / d = prd (rs.drop (i + 1)) := by rw [← hd', Nat.add_comm 1 i, quot rs hs]
      have hpos : 0 < d := by rw [← hd']; exact (hs.take _).prd_pos
      have hle : d ≤ prd rs := by rw [← hd']; exact prd_dvd_le hs _
      have hlt := prd_lt hs hl
      have hq0 := (hs.drop (i + 1)).prd_pos
      have hq1 : prd (rs.drop (i + 1)) ≤ prd rs := by
        rw [← e3]
        exact Int.ediv_le_self _ (by omega)
      refine ⟨.int (c * prd (rs.drop (i + 1))), iV_at (swL_get hc1 hi), ?_⟩
      rw [← e3] at hq0 hq1 ⊢
      refine ev_op (ev_var rfl) (ev_op (ev_op (ev_var rfl) (ev_un ev_c ru_neg) (rv_ixL (v := .int (prd rs)) (ex_l e2 (sq_of h1)) ?_)) (ev_var rfl) (rv_div hpos (by omega))) (rv_mul (.inr ⟨by omega, by omega⟩))
      rw [hl2, iV_append, ← prd_all rs]
      exact atI_end
theorem v_scaled {a b : Addr} {rs cs : List Int} {H : Hp} (hS : SqL K H a (iV rs)) (hT : SqT K H b (iV cs)) (hs : Sched rs) (hl : rs.length ≤ 8) (hc : cs.length ≤ 200) : SpV (spScaled K) [.ref a, .ref b] H (.int (sw rs cs)) :=
  fun H1 e Q q E => ⟨a, b, rs, cs, rfl, ex_l e hS, ex_t e hT, hs, hl, hc, q⟩
end
end SC

/-! part W2 -/
set_option Elab.async false
set_option linter.all false
set_option maxRecDepth 100000
set_option maxHeartbeats 4000000
namespace SC
open PySem PySem.Spec PyProof.Rows L2 Evl
/-! values of which a word is known -/
def EvX (te : TE) (σ : L2.St) (H : Hp) (P : V → Hp → Prop) : Prop := ∀ H1, Ex H H1 → ∀ Q : VK, (∀ v H2, Ex H1 H2 → P v H2 → Q v H2) → te σ H1 Q
def EvP (ta : TA) (σ : L2.St) (H : Hp) (P : List V → Hp → Prop) : Prop := ∀ H1, Ex H H1 → ∀ Q : List V → Hp → Prop, (∀ vs H2, Ex H1 H2 → P vs H2 → Q vs H2) → ta σ H1 Q
def SpX (sp : Sp) (vs : List V) (H : Hp) (P : V → Hp → Prop) : Prop := ∀ H1, Ex H H1 → ∀ Q : VK, (∀ v H2, Ex H1 H2 → P v H2 → Q v H2) → ∀ E : XK, sp vs H1 Q E
/-- a tuple of xs | a list of tuples of ints -/
def TupAt (K : PySem.W.Frag) (xs : List V) : V → Hp → Prop := fun v H => ∃ p, v = .ref p ∧ SqT K H p xs
def LTAt (K : PySem.W.Frag) (xss : List (List Int)) : V → Hp → Prop := fun v H => ∃ p, v = .ref p ∧ LT K H p xss
def RawT (K : PySem.W.Frag) (xss : List (List Int)) : V → Hp → Prop := fun v H => ∃ p as, v = .ref p ∧ H p = some (.lst (as.map V.ref)) ∧ AllT K H as xss
section
variable {K : PySem.W.Frag} {σ : L2.St} {H H' : Hp} {ta tb tc te tx : TE} {tr : TA} {t u : TT} {x y z v : V} {r : R2} {P : V → Hp → Prop} {PP : List V → Hp → Prop} {D : Ends} {tz : TS}
theorem EvX.mono (e : Ex H H') (h : EvX te σ H P) : EvX te σ H' P := fun H1 a Q q => h H1 (e.trans a) Q q
theorem ex_of (h : Ev te σ H v) : EvX te σ H (fun x _ => x = v) := fun H1 e Q q => h H1 e Q fun H2 e2 => q v H2 e2 rfl
theorem ex_tupV {p : Addr} {xs : List V} (h : Ev te σ H (.ref p)) (hx : SqT K H p xs) : EvX te σ H (TupAt K xs) := fun H1 e Q q => h H1 e Q fun H2 e2 => q _ H2 e2 ⟨p, rfl, ex_t (e.trans e2) hx⟩
theorem ex_tupU {xs : List V} (h : EvU te σ H xs) : EvX te σ H (TupAt K xs) := fun H1 e Q q => h H1 e Q fun p H2 _ e2 h2 => q _ H2 e2 ⟨p, rfl, st_of h2⟩
theorem ex_is {xs ys : List V} (h : EvX te σ H (TupAt K xs)) (e : xs = ys) : EvX te σ H (TupAt K ys) := by rw [← e]; exact h
theorem ex_slT {tl th : TO} {a : Addr} {xs : List V} {lo hi : Option Int} (h : Ev te σ H (.ref a)) (h1 : EvO tl σ H lo) (h2 : EvO th σ H hi) (hs : SqT K H a xs) : EvX (tSl (rSlA K) te tl th) σ H (TupAt K (cutV xs lo hi)) := fun H1 e _ q =>
  h H1 e _ fun H2 e2 => h1 H2 (e.trans e2) _ fun H3 e3 => h2 H3 ((e.trans e2).trans e3) _ fun H4 e4 => by
    have hx : SqT K H4 a xs := ex_t (((e.trans e2).trans e3).trans e4) hs
    refine ⟨a, xs, rfl, hx, fun hw => q _ H4 ((e2.trans e3).trans e4) ⟨a, rfl, ?_⟩, fun _ p hp => q _ _ (((e2.trans e3).trans e4).trans (Ex.new hp)) ⟨p, rfl, st_of upd_same⟩⟩
    have : cutV xs lo hi = xs := by
      unfold cutV
      rw [hw.1, hw.2]
      simp
    rw [this]
    exact hx
theorem ex_catT {xs ys : List V} (h1 : EvX ta σ H (TupAt K xs)) (h2 : EvX tb σ H (TupAt K ys)) (hz : xs.length + ys.length ≤ 100000) : EvX (tOp (rCatA K) ta tb) σ H (TupAt K (xs ++ ys)) := fun H1 e Q q =>
  h1 H1 e _ fun v H2 e2 ⟨a, ea, sa⟩ => h2 H2 (e.trans e2) _ fun w H3 e3 ⟨b, eb, sb⟩ => by
    subst ea eb
    refine ⟨a, b, xs, ys, rfl, rfl, ex_t e3 sa, sb, sz_of hz, fun h0 => ?_, fun _ h0 => ?_, fun _ _ p hp => q _ _ ((e2.trans e3).trans (Ex.new hp)) ⟨p, rfl, st_of upd_same⟩⟩
    · subst h0; exact q _ H3 (e2.trans e3) ⟨b, rfl, sb⟩
    · subst h0
      rw [List.append_nil] at q
      exact q _ H3 (e2.trans e3) ⟨a, rfl, ex_t e3 sa⟩
theorem ex_rep1 {k : Int} (h1 : EvX ta σ H (TupAt K [v])) (h2 : Ev tb σ H (.int k)) (h0 : 0 ≤ k) (hk : k ≤ 1000) : EvX (tOp (rRep1 K) ta tb) σ H (TupAt K (List.replicate k.toNat v)) := fun H1 e Q q =>
  h1 H1 e _ fun w H2 e2 ⟨a, ea, sa⟩ => h2 H2 (e.trans e2) _ fun H3 e3 => by
    subst ea
    refine ⟨a, k, v, rfl, rfl, ex_t e3 sa, h0, hk, fun h => ?_, fun _ p hp => q _ _ ((e2.trans e3).trans (Ex.new hp)) ⟨p, rfl, st_of upd_same⟩⟩
    subst h
    exact q _ H3 (e2.trans e3) ⟨a, rfl, ex_t e3 sa⟩
/-- tuple(x) of a list -/
theorem ex_tupN {xs : List V} (h : EvU te σ H xs) : EvX te σ H (TupAt K xs) := ex_tupU h
/-- arguments -/
theorem ep_nil : EvP tNil σ H (fun vs _ => vs = []) := fun H1 e Q q => q [] H1 (Ex.refl _) rfl
theorem ep_cons (h : Ev te σ H v) (hr : EvP tr σ H PP) : EvP (tCons te tr) σ H (fun vs H => ∃ r, vs = v :: r ∧ PP r H) := fun H1 e Q q =>
  h H1 e _ fun H2 e2 => hr H2 (e.trans e2) _ fun r H3 e3 p => q _ H3 (e2.trans e3) ⟨r, rfl, p⟩
theorem ep_consL {xs : List V} (h : EvL te σ H xs) (hr : EvP tr σ H PP) : EvP (tCons te tr) σ H (fun vs H' => ∃ p r, vs = .ref p :: r ∧ H p = none ∧ H' p = some (.lst xs) ∧ PP r H') := fun H1 e Q q =>
  h H1 e _ fun p H2 hp e2 h2 => hr H2 (e.trans e2) _ fun r H3 e3 pp => q _ H3 (e2.trans e3) ⟨p, r, rfl, fresh_back e hp, e3 _ _ h2, pp⟩
theorem ep_consX (h : EvX te σ H P) (hm : ∀ v H H', Ex H H' → P v H → P v H') (hr : EvP tr σ H PP) : EvP (tCons te tr) σ H (fun vs H => ∃ v r, vs = v :: r ∧ P v H ∧ PP r H) := fun H1 e Q q =>
  h H1 e _ fun v H2 e2 h2 => hr H2 (e.trans e2) _ fun r H3 e3 pp => q _ H3 (e2.trans e3) ⟨v, r, rfl, hm _ _ _ e3 h2, pp⟩
theorem TupAt.mono {xs : List V} : ∀ v H H', Ex H H' → TupAt K xs v H → TupAt K xs v H' := fun v H H' e ⟨p, ep, h⟩ => ⟨p, ep, ex_t e h⟩
theorem LTAt.mono {xss : List (List Int)} : ∀ v H H', Ex H H' → LTAt K xss v H → LTAt K xss v H' := fun v H H' e ⟨p, ep, h⟩ => ⟨p, ep, h.mono e⟩
/-- a tuple of arguments -/
theorem ex_tupP (h : EvP tr σ H PP) (hl : ∀ vs H, PP vs H → vs.length ≤ 100000) (hm : ∀ vs H H', Ex H H' → PP vs H → PP vs H') : EvX (tTup tr) σ H (fun v H => ∃ p vs, v = .ref p ∧ H p = some (.tup vs) ∧ PP vs H) := fun H1 e Q q =>
  h H1 e _ fun vs H2 e2 h2 => ⟨sz_of (hl _ _ h2), fun p hp => q _ _ (e2.trans (Ex.new hp)) ⟨p, vs, rfl, upd_same, hm _ _ _ (Ex.new hp) h2⟩⟩
theorem ev_callP {sp : Sp} {dvs : List V} {E : XK} (h : EvP tr σ H PP) (hs : ∀ vs H2, Ex H H2 → PP vs H2 → SpV sp (vs ++ dvs) H2 z) : Ev (tCall sp dvs E tr) σ H z := fun H1 e Q q =>
  h H1 e _ fun vs H2 e2 p => hs vs H2 (e.trans e2) p H2 (Ex.refl _) Q (fun H3 e3 => q H3 (e2.trans e3)) E
theorem el_callP {sp : Sp} {dvs xs : List V} {E : XK} (h : EvP tr σ H PP) (hs : ∀ vs H2, Ex H H2 → PP vs H2 → SpL sp (vs ++ dvs) H2 xs) : EvL (tCall sp dvs E tr) σ H xs := fun H1 e Q q =>
  h H1 e _ fun vs H2 e2 p => hs vs H2 (e.trans e2) p H2 (Ex.refl _) Q (fun p H3 hp e3 h3 => q p H3 (fresh_back e2 hp) (e2.trans e3) h3) E
theorem ex_callP {sp : Sp} {dvs : List V} {E : XK} (h : EvP tr σ H PP) (hs : ∀ vs H2, Ex H H2 → PP vs H2 → SpX sp (vs ++ dvs) H2 P) : EvX (tCall sp dvs E tr) σ H P := fun H1 e Q q =>
  h H1 e _ fun vs H2 e2 p => hs vs H2 (e.trans e2) p H2 (Ex.refl _) Q (fun v H3 e3 h3 => q v H3 (e2.trans e3) h3) E
theorem ex_call {sp : Sp} {dvs vs : List V} {E : XK} (h : EvA tr σ H vs) (hs : SpX sp (vs ++ dvs) H P) : EvX (tCall sp dvs E tr) σ H P := fun H1 e Q q =>
  h H1 e _ fun H2 e2 => hs H2 (e.trans e2) Q (fun v H3 e3 h3 => q v H3 (e2.trans e3) h3) E
theorem q_asgX {i : Nat} (h : EvX te σ H P) (k : ∀ v H1, Ex H H1 → P v H1 → tz D (σ.set i (some v)) H1) : tSeq (tAsg te (gName i)) tz D σ H := h H (Ex.refl H) _ fun v H1 e p => k v H1 e p
theorem s_asgX {i : Nat} (h : EvX te σ H P) (k : ∀ v H1, Ex H H1 → P v H1 → D.nx (σ.set i (some v)) H1) : tAsg te (gName i) D σ H := h H (Ex.refl H) _ fun v H1 e p => k v H1 e p
theorem s_retX (h : EvX te σ H P) (k : ∀ v H1, Ex H H1 → P v H1 → D.rt v H1) : tRet te D σ H := h H (Ex.refl H) _ fun v H1 e p => k v H1 e p
theorem q_dropX (h : EvX te σ H P) (k : ∀ v H1, Ex H H1 → P v H1 → tz D σ H1) : tSeq (tDrop te) tz D σ H := h H (Ex.refl H) _ fun v H1 e p => k v H1 e p
theorem ex_if {b : Bool} (h : EvT t σ H b) (h1 : b = true → EvX ta σ H P) (h2 : b = false → EvX tb σ H P) : EvX (tIf t ta tb) σ H P := fun H1 e Q q => h H1 e _ fun H2 e2 => by
  cases b with
  | true =>
    show ta σ H2 Q
    exact h1 rfl H2 (e.trans e2) Q fun v H3 e3 => q v H3 (e2.trans e3)
  | false =>
    show tb σ H2 Q
    exact h2 rfl H2 (e.trans e2) Q fun v H3 e3 => q v H3 (e2.trans e3)
theorem ex_weak {P' : V → Hp → Prop} (h : EvX te σ H P) (f : ∀ v H1, Ex H H1 → P v H1 → P' v H1) : EvX te σ H P' := fun H1 e Q q => h H1 e Q fun v H2 e2 p => q v H2 e2 (f v H2 (e.trans e2) p)
theorem ex_new {xs : List V} (h : EvL te σ H xs) : EvX te σ H (fun v H => ∃ p, v = .ref p ∧ H p = some (.lst xs)) := fun H1 e Q q => h H1 e Q fun p H2 _ e2 h2 => q _ H2 e2 ⟨p, rfl, h2⟩
theorem ex_newF {xs : List V} (h : EvL te σ H xs) : EvX te σ H (fun v H' => ∃ p, v = .ref p ∧ H p = none ∧ H' p = some (.lst xs)) := fun H1 e Q q => h H1 e Q fun p H2 hp e2 h2 => q _ H2 e2 ⟨p, rfl, fresh_back e hp, h2⟩
/-- a + b, a * k of raw lists -/
theorem el_cat {xs ys : List V} (h1 : EvL ta σ H xs) (h2 : EvL tb σ H ys) (hz : xs.length + ys.length ≤ 100000) : EvL (tOp rCat ta tb) σ H (xs ++ ys) := fun H1 e Q q =>
  h1 H1 e _ fun p H2 hp e2 hx => h2 H2 (e.trans e2) _ fun b H3 hb e3 hy => ⟨p, b, xs, ys, rfl, rfl, e3 _ _ hx, hy, sz_of hz, fun l hl => q l _ (fresh_back (e2.trans e3) hl) ((e2.trans e3).trans (Ex.new hl)) upd_same⟩
theorem el_catVL {p : Addr} {xs ys : List V} (h1 : Ev ta σ H (.ref p)) (hx : H p = some (.lst xs)) (h2 : EvL tb σ H ys) (hz : xs.length + ys.length ≤ 100000) : EvL (tOp rCat ta tb) σ H (xs ++ ys) := fun H1 e Q q =>
  h1 H1 e _ fun H2 e2 => h2 H2 (e.trans e2) _ fun b H3 hb e3 hy => ⟨p, b, xs, ys, rfl, rfl, ((e.trans e2).trans e3) _ _ hx, hy, sz_of hz, fun l hl => q l _ (fresh_back (e2.trans e3) hl) ((e2.trans e3).trans (Ex.new hl)) upd_same⟩
theorem el_catLV {p : Addr} {xs ys : List V} (h1 : EvL ta σ H xs) (h2 : Ev tb σ H (.ref p)) (hy : H p = some (.lst ys)) (hz : xs.length + ys.length ≤ 100000) : EvL (tOp rCat ta tb) σ H (xs ++ ys) := fun H1 e Q q =>
  h1 H1 e _ fun b H2 hb e2 hx => h2 H2 (e.trans e2) _ fun H3 e3 => ⟨b, p, xs, ys, rfl, rfl, e3 _ _ hx, ((e.trans e2).trans e3) _ _ hy, sz_of hz, fun l hl => q l _ (fresh_back (e2.trans e3) hl) ((e2.trans e3).trans (Ex.new hl)) upd_same⟩
theorem el_rep {xs : List V} {k : Int} (h1 : EvL ta σ H xs) (h2 : Ev tb σ H (.int k)) (h0 : 0 ≤ k) (hk : k ≤ 1000) (hz : xs.length ≤ 10) : EvL (tOp rRep ta tb) σ H (List.replicate k.toNat xs).flatten := fun H1 e Q q =>
  h1 H1 e _ fun b H2 hb e2 hx => h2 H2 (e.trans e2) _ fun H3 e3 => ⟨b, k, xs, rfl, rfl, e3 _ _ hx, by omega, by omega, sz_of (by
    have : xs.length * k.toNat ≤ 10 * k.toNat := Nat.mul_le_mul_right _ hz
    omega), fun l hl => q l _ (fresh_back (e2.trans e3) hl) ((e2.trans e3).trans (Ex.new hl)) upd_same⟩
theorem el_rep1 {k : Int} (h1 : EvL ta σ H [v]) (h2 : Ev tb σ H (.int k)) (h0 : 0 ≤ k) (hk : k ≤ 1000) : EvL (tOp rRep ta tb) σ H (List.replicate k.toNat v) := by
  have := el_rep h1 h2 h0 hk (by simp)
  rw [flat_rep] at this
  exact this
theorem el_is {xs ys : List V} (h : EvL te σ H xs) (e : xs = ys) : EvL te σ H ys := by rw [← e]; exact h
theorem iV_rep (n : Nat) (c : Int) : List.replicate n (V.int c) = iV (List.replicate n c) := by simp [iV]
/-! != of lists of ints that are alike -/
theorem dpAll_ints : ∀ xs : List Int, DpAll K H (iV xs) (xs.map PyData.int)
  | [] => .nil
  | x :: xs => .cons (.int x) (dpAll_ints xs)
theorem lay_ints : ∀ xs : List Int, PyData.canLayAll0 (xs.map PyData.int) = true
  | [] => rfl
  | x :: xs => by
    rw [List.map_cons, PyData.canLayAll0, lay_ints xs]
    rfl
theorem depth_ints : ∀ xs : List Int, PyData.depthAll (xs.map PyData.int) = 0
  | [] => rfl
  | x :: xs => by
    rw [List.map_cons, PyData.depthAll, depth_ints xs]
    rfl
theorem shaped_ints (xs : List Int) : SeqAt.shaped (.list (xs.map PyData.int)) = true := by
  unfold SeqAt.shaped
  have h1 : (PyData.list (xs.map PyData.int)).canLay0 = true := by rw [PyData.canLay0]; exact lay_ints xs
  have h2 : (PyData.list (xs.map PyData.int)).depth = 1 := by rw [PyData.depth, depth_ints]
  rw [h1, h2]
  decide
theorem rv_neSame {p q : Addr} {xs : List Int} (h1 : SqL K H p (iV xs)) (h2 : SqL K H q (iV xs)) : RV (rNeD K) (.ref p) (.ref q) H (.bl false) := fun H1 e Q k => by
  refine ⟨.list (xs.map PyData.int), .list (xs.map PyData.int), .lst (ex_l e h1) (dpAll_ints xs), .lst (ex_l e h2) (dpAll_ints xs), shaped_ints xs, shaped_ints xs, ?_⟩
  rw [PySem.SeqAt.eqv_refl _ (by rw [PyData.canLay0]; exact lay_ints xs)]
  exact k H1 (Ex.refl _)
/-! a comprehension of tuples -/
theorem sqT_upd {l : Addr} {acc acc' : List V} {q : Addr} {xs : List V} (h : SqT K H q xs) (hl : H l = some (.lst acc)) : SqT K (upd H l (.lst acc')) q xs := by
  rcases h with h | h
  · refine Or.inl ?_
    rcases h with h | ⟨o, h⟩
    · refine Or.inl ?_
      have : q ≠ l := fun e => by rw [e, hl] at h; cases h
      rw [upd_ne this]; exact h
    · refine Or.inr ⟨o, ?_⟩
      have : q ≠ l := fun e => by rw [e, hl] at h; cases h
      rw [upd_ne this]; exact h
  · exact Or.inr h
theorem allT_upd {l : Addr} {acc acc' : List V} (hl : H l = some (.lst acc)) : ∀ {as : List Addr} {xss : List (List Int)}, AllT K H as xss → AllT K (upd H l (.lst acc')) as xss
  | [], [], _ => trivial
  | p :: ps, xs :: xss, h => ⟨sqT_upd h.1 hl, allT_upd hl h.2⟩
  | [], _ :: _, h => h.elim
  | _ :: _, [], h => h.elim
variable {wi : TI} {n : Nat} {Y : Nat → Hp → V → Hp → Prop} {g : TG}
theorem ex_lcTR {vs : List Nat} (h : EvI wi σ H n Y) (row : Nat → List Int) (hn : n ≤ 100000)
    (he : ∀ (i : Nat) x H1 H2, i < n → Ex H H1 → Y i H1 x H2 → g x (wipe σ vs) H2 fun σ2 H3 => H3 = H2 ∧ wipe σ2 vs = wipe σ vs ∧ Ex H1 H2 ∧ EvX te σ2 H2 (TupAt K (iV (row i))))
    (mono : ∀ x σ' H' (Q Q' : L2.St → Hp → Prop), (∀ s h, Q s h → Q' s h) → g x σ' H' Q → g x σ' H' Q') : EvX (tLc wi g tYes te vs) σ H (RawT K ((List.range n).map row)) := fun H0 e Q q =>
  h H0 e _ fun J H2 e2 w Dl hD => lc_it w (fun i H' => Ex H2 H' ∧ i ≤ n ∧ ∃ as : List Addr, H' Dl = some (.lst (as.map V.ref)) ∧ AllT K H' as ((List.range i).map row)) ⟨Ex.new hD, by omega, [], upd_same, trivial⟩ (fun i H' hi p => p.1) (fun i x H' H3 hi p y => by
      obtain ⟨p1, p2, as, p3, p4⟩ := p
      refine mono _ _ _ _ _ ?_ (he i x H' H3 hi ((e.trans e2).trans p1) y)
      rintro σ2 H4 ⟨rfl, hw, hx, hv⟩
      refine ⟨hw, ?_⟩
      unfold tYes
      dsimp only
      rw [if_pos rfl]
      refine hv H4 (Ex.refl _) _ fun v H5 e5 ⟨a, ea, hT⟩ => ⟨as.map V.ref, e5 _ _ (hx _ _ p3), ?_, ?_, hi, as ++ [a], ?_, ?_⟩
      · have hl := p4.length
        rw [List.length_map, List.length_range] at hl
        rw [List.length_map]
        exact sz_lt (by omega)
      · exact Ex.mut ((p1.trans hx).trans e5) hD
      · rw [upd_same, List.map_append, ea]
        rfl
      · rw [List.range_succ, List.map_append]
        exact allT_upd (e5 _ _ (hx _ _ p3)) ((p4.mono (hx.trans e5)).snoc hT))
    (fun H' ⟨p1, _, as, p3, p4⟩ => q (.ref Dl) H' (e2.trans p1) ⟨Dl, as, rfl, p3, p4⟩)
theorem raw_lt {xss : List (List Int)} : ∀ v H1, RawT K xss v H1 → LTAt K xss v H1 := fun v H1 ⟨p, as, e1, h1, h2⟩ => ⟨p, e1, as, sq_of h1, h2⟩
theorem ex_lcT {vs : List Nat} (h : EvI wi σ H n Y) (row : Nat → List Int) (hn : n ≤ 100000)
    (he : ∀ (i : Nat) x H1 H2, i < n → Ex H H1 → Y i H1 x H2 → g x (wipe σ vs) H2 fun σ2 H3 => H3 = H2 ∧ wipe σ2 vs = wipe σ vs ∧ Ex H1 H2 ∧ EvX te σ2 H2 (TupAt K (iV (row i))))
    (mono : ∀ x σ' H' (Q Q' : L2.St → Hp → Prop), (∀ s h, Q s h → Q' s h) → g x σ' H' Q → g x σ' H' Q') : EvX (tLc wi g tYes te vs) σ H (LTAt K ((List.range n).map row)) := ex_weak (ex_lcTR h row hn he mono) fun v H1 _ p => raw_lt v H1 p
theorem ex_lcTn {vs : List Nat} {j : Nat} {xs : List V} (h : EvI wi σ H n (YAt xs)) (row : Nat → List Int) (hn : n ≤ 100000) (hw : ∀ x, wipe ((wipe σ vs).set j (some x)) vs = wipe σ vs)
    (he : ∀ (i : Nat) x H1, i < n → Ex H H1 → xs[i]? = some x → EvX te ((wipe σ vs).set j (some x)) H1 (TupAt K (iV (row i)))) : EvX (tLc wi (gName j) tYes te vs) σ H (LTAt K ((List.range n).map row)) :=
  ex_lcT h row hn (fun i x H1 H2 hi e y => by
    obtain ⟨rfl, hx⟩ := y
    exact ⟨rfl, hw x, Ex.refl _, he i x H2 hi e hx⟩) mono_name
theorem ex_lcTr {vs : List Nat} {j : Nat} {lo : Int} (h : EvI wi σ H n (YFn fun i => .int (lo + (i : Nat)))) (row : Nat → List Int) (hn : n ≤ 100000) (hw : ∀ x, wipe ((wipe σ vs).set j (some x)) vs = wipe σ vs)
    (he : ∀ (i : Nat) H1, i < n → Ex H H1 → EvX te ((wipe σ vs).set j (some (.int (lo + (i : Nat))))) H1 (TupAt K (iV (row i)))) : EvX (tLc wi (gName j) tYes te vs) σ H (LTAt K ((List.range n).map row)) :=
  ex_lcT h row hn (fun i x H1 H2 hi e y => by
    obtain ⟨rfl, rfl⟩ := y
    exact ⟨rfl, hw _, Ex.refl _, he i H2 hi e⟩) mono_name
/-- lists of tuples, by number -/
theorem LT.at {a : Addr} {xss : List (List Int)} (h : LT K H a xss) : ∃ as : List Addr, SqL K H a (as.map V.ref) ∧ as.length = xss.length ∧ AllT K H as xss := by
  obtain ⟨as, h1, h2⟩ := h
  exact ⟨as, h1, h2.length, h2⟩
theorem ref_get {as : List Addr} {i : Nat} {v : V} (h : (as.map V.ref)[i]? = some v) : ∃ a, as[i]? = some a ∧ v = .ref a := by
  rw [List.getElem?_map] at h
  cases e : as[i]? with
  | none => rw [e] at h; cases h
  | some x => rw [e] at h; exact ⟨x, rfl, (Option.some.inj h).symm⟩
theorem cut_from (xs : List V) (k : Nat) : cutV xs (some (k : Int)) none = xs.drop k := by
  unfold cutV
  rw [HT.sIx_nat, HT.sIx_none]
  by_cases h : k ≤ xs.length
  · rw [Nat.min_eq_left h, List.take_of_length_le (by simp)]
  · rw [Nat.min_eq_right (by omega)]
    simp
    omega
theorem cut_to (xs : List V) (k : Nat) : cutV xs none (some (k : Int)) = xs.take k := by
  unfold cutV
  rw [HT.sIx_nat, HT.sIx_none]
  by_cases h : k ≤ xs.length
  · rw [Nat.min_eq_left h]; simp
  · rw [Nat.min_eq_right (by omega), List.drop_zero, Nat.sub_zero, List.take_of_length_le (Nat.le_refl _), List.take_of_length_le (by omega)]
end
end SC

/-! part W3 -/
set_option Elab.async false
set_option linter.all false
set_option maxRecDepth 100000
set_option maxHeartbeats 4000000
namespace SC
open PySem PySem.Spec PyProof.Rows L2 Evl
section
variable {K : PySem.W.Frag} {σ : L2.St} {H H' : Hp} {ta tb tc te tx to ti tl : TE} {tr : TA} {t u : TT} {x y z v : V} {P : V → Hp → Prop} {PP : List V → Hp → Prop} {D : Ends} {tz tu : TS} {wi : TI} {n : Nat} {Y : Nat → Hp → V → Hp → Prop} {g : TG}
theorem q_par {i j : Nat} {a b : V} (h : EvA tr σ H [a, b]) (k : ∀ H1, Ex H H1 → tz D ((σ.set i (some a)).set j (some b)) H1) : tSeq (tPar i j tr) tz D σ H := h H (Ex.refl H) _ fun H1 e => ⟨a, b, rfl, k H1 e⟩
theorem q_parP {i j : Nat} (h : EvP tr σ H PP) (k : ∀ vs H1, Ex H H1 → PP vs H1 → ∃ a b, vs = [a, b] ∧ tz D ((σ.set i (some a)).set j (some b)) H1) : tSeq (tPar i j tr) tz D σ H := h H (Ex.refl H) _ fun vs H1 e p => k vs H1 e p
/-- xs[j] += e -/
theorem s_augL {l : Addr} {xs : List Int} {j : Nat} {a b : Int} (ho : Ev to σ H (.ref l)) (hl : H l = some (.lst (iV xs))) (hi : Ev ti σ H (.int (j : Int))) (hj : xs[j]? = some a) (he : Ev te σ H (.int b)) (k : ∀ H1, Ex H H1 → D.nx σ (upd H1 l (.lst (iV (xs.set j (a + b)))))) :
    tAugS to ti te (gIxL K) (ipI fun i j => i + j) rSetL D σ H := ho H (Ex.refl H) _ fun H1 e1 => hi H1 e1 _ fun H2 e2 => ⟨l, iV xs, j, .int a, rfl, rfl, sq_of ((e1.trans e2) _ _ hl), iV_at hj,
    he H2 (e1.trans e2) _ fun H3 e3 => ⟨a, b, rfl, rfl, l, iV xs, (j : Int), j, rfl, rfl, ((e1.trans e2).trans e3) _ _ hl, ixN_nat (by rw [iV_len]; exact (List.getElem?_eq_some_iff.mp hj).1), by
      have : (iV xs).set j (.int (a + b)) = iV (xs.set j (a + b)) := by show (xs.map V.int).set j (V.int (a + b)) = (xs.set j (a + b)).map V.int; rw [List.map_set]
      rw [this]
      exact k H3 ((e1.trans e2).trans e3)⟩⟩
theorem q_augL {l : Addr} {xs : List Int} {j : Nat} {a b : Int} (ho : Ev to σ H (.ref l)) (hl : H l = some (.lst (iV xs))) (hi : Ev ti σ H (.int (j : Int))) (hj : xs[j]? = some a) (he : Ev te σ H (.int b)) (k : ∀ H1, Ex H H1 → tz D σ (upd H1 l (.lst (iV (xs.set j (a + b)))))) :
    tSeq (tAugS to ti te (gIxL K) (ipI fun i j => i + j) rSetL) tz D σ H := s_augL (D := { D with nx := tz D }) ho hl hi hj he k
theorem el_listX {xs : List V} (h : EvX te σ H (TupAt K xs)) : EvL (tCB (rListS K) (tCons te tNil)) σ H xs := fun H1 e Q q =>
  h H1 e _ fun v H2 e2 ⟨p, ep, hx⟩ => ⟨p, xs, by rw [ep], Or.inr hx, fun l hl => q l _ (fresh_back e2 hl) (e2.trans (Ex.new hl)) upd_same⟩
theorem q_ifM {b : Bool} {Mid : L2.St → Hp → Prop} (fin : ∀ σ' H', Mid σ' H' → tz D σ' H') (h : EvT t σ H b) (h1 : b = true → ∀ H1, Ex H H1 → (∀ σ' H', Mid σ' H' → tz D σ' H') → tu { D with nx := tz D } σ H1) (h2 : b = false → ∀ H1, Ex H H1 → Mid σ H1) :
    tSeq (tIfS t tu tNext) tz D σ H := q_when h (fun hb H1 e => h1 hb H1 e fin) fun hb H1 e => fin _ _ (h2 hb H1 e)
/-- a, b, c = a tuple of three -/
theorem q_tup3 {i j l : Nat} {a : Addr} {x y z : V} (h : Ev te σ H (.ref a)) (hx : SqT K H a [x, y, z]) (k : ∀ H1, Ex H H1 → tz D (((σ.set i (some x)).set j (some y)).set l (some z)) H1) :
    tSeq (tAsg te (gTup K 3 (gCons (gName i) (gCons (gName j) (gCons (gName l) gNil))))) tz D σ H := h H (Ex.refl H) _ fun H1 e => ⟨a, [x, y, z], rfl, ex_t e hx, rfl, x, _, rfl, y, _, rfl, z, _, rfl, rfl, k H1 e⟩
/-- a for over enumerate of a tuple made on the way -/
theorem q_forEnumT {k0 : Int} {i j : Nat} {xs : List V} (h : EvP tr σ H (fun vs H => ∃ v r, vs = v :: r ∧ TupAt K xs v H ∧ r = [.int k0])) (hk : 0 ≤ k0 ∧ k0 ≤ 10) (Pv : Addr → Nat → L2.St → Hp → Prop) (h0 : ∀ a H1, Ex H H1 → SqT K H1 a xs → Pv a 0 σ H1) (hG : ∀ a m σ' H', Pv a m σ' H' → SqT K H' a xs)
    (hs : ∀ a m x σ' H1, xs[m]? = some x → Pv a m σ' H1 → ∀ T, H1 T = none → tu { D with nx := Pv a (m + 1), ct := Pv a (m + 1), bk := tz D } ((σ'.set i (some (.int (k0 + (m : Int))))).set j (some x)) (upd H1 T (.tup [.int (k0 + (m : Int)), x]))) (hd : ∀ a σ' H', Pv a xs.length σ' H' → tz D σ' H') :
    tSeq (tFor (iEnumK K k0 tr) (gTup K 2 (gCons (gName i) (gCons (gName j) gNil))) tu) tz D σ H :=
  h H (Ex.refl H) _ fun vs H1 e ⟨v, r, e1, ⟨a, ea, hT⟩, e2⟩ => by
    subst e1 ea e2
    refine ⟨false, a, xs, rfl, hT, by omega, for_it (D := { D with nx := tz D }) (walk_enumK (k := false) (xs := xs)) (Pv a) (h0 a H1 e hT) (fun m σ' H' _ p => hG a m σ' H' p) (fun m x σ' H2 H3 hm p y => ?_) (hd a)⟩
    obtain ⟨T, x1, x2, rfl, hT2, rfl, hx1, hx2⟩ := y
    have e3 : x1 = .int (k0 + (m : Int)) := (Option.some.inj hx1).symm
    subst e3
    exact ⟨T, _, rfl, st_of upd_same, rfl, _, _, rfl, _, _, rfl, rfl, hs a m x2 σ' H2 hx2 p T hT2⟩
/-- .. of a list made on the way -/
theorem q_forEnumL {i j : Nat} {xs : List V} (h : EvP tr σ H (fun vs H' => ∃ p r, vs = .ref p :: r ∧ H p = none ∧ H' p = some (.lst xs) ∧ r = [])) (Pv : Addr → Nat → L2.St → Hp → Prop) (h0 : ∀ a H1, Ex H H1 → H a = none → H1 a = some (.lst xs) → Pv a 0 σ H1) (hG : ∀ a m σ' H', Pv a m σ' H' → H' a = some (.lst xs))
    (hs : ∀ a m x σ' H1, xs[m]? = some x → Pv a m σ' H1 → ∀ T, H1 T = none → tu { D with nx := Pv a (m + 1), ct := Pv a (m + 1), bk := tz D } ((σ'.set i (some (.int (m : Int)))).set j (some x)) (upd H1 T (.tup [.int (m : Int), x]))) (hd : ∀ a σ' H', Pv a xs.length σ' H' → tz D σ' H') :
    tSeq (tFor (iEnum1 K tr) (gTup K 2 (gCons (gName i) (gCons (gName j) gNil))) tu) tz D σ H :=
  h H (Ex.refl H) _ fun vs H1 e ⟨a, r, e1, hf, hT, e2⟩ => by
    subst e1 e2
    refine ⟨true, a, xs, rfl, sq_of hT, for_it (D := { D with nx := tz D }) (walk_enumK (k := true) (xs := xs)) (Pv a) (h0 a H1 e hf hT) (fun m σ' H' _ p => sq_of (hG a m σ' H' p)) (fun m x σ' H2 H3 hm p y => ?_) (hd a)⟩
    obtain ⟨T, x1, x2, rfl, hT2, rfl, hx1, hx2⟩ := y
    have e3 : x1 = .int (m : Int) := by
      have := (Option.some.inj hx1).symm
      rw [Int.zero_add] at this
      exact this
    subst e3
    exact ⟨T, _, rfl, st_of upd_same, rfl, _, _, rfl, _, _, rfl, rfl, hs a m x2 σ' H2 hx2 p T hT2⟩
/-- .. enumerate of a list that stands -/
theorem s_forEnum {i j : Nat} {a : Addr} {xs : List V} (h : EvA tr σ H [.ref a]) (hx : SqL K H a xs) (Pv : Nat → L2.St → Hp → Prop) (h0 : ∀ H1, Ex H H1 → Pv 0 σ H1) (hG : ∀ m σ' H', Pv m σ' H' → SqL K H' a xs)
    (hs : ∀ m x σ' H1, xs[m]? = some x → Pv m σ' H1 → ∀ T, H1 T = none → tu { D with nx := Pv (m + 1), ct := Pv (m + 1), bk := D.nx } ((σ'.set i (some (.int (m : Int)))).set j (some x)) (upd H1 T (.tup [.int (m : Int), x]))) (hd : ∀ σ' H', Pv xs.length σ' H' → D.nx σ' H') :
    tFor (iEnum1 K tr) (gTup K 2 (gCons (gName i) (gCons (gName j) gNil))) tu D σ H :=
  h H (Ex.refl H) _ fun H1 e => by
    refine ⟨true, a, xs, rfl, ex_l e hx, for_it (walk_enumK (k := true) (xs := xs)) Pv (h0 H1 e) (fun m σ' H' _ p => hG m σ' H' p) (fun m x σ' H2 H3 hm p y => ?_) hd⟩
    obtain ⟨T, x1, x2, rfl, hT2, rfl, hx1, hx2⟩ := y
    have e3 : x1 = .int (m : Int) := by
      have := (Option.some.inj hx1).symm
      rw [Int.zero_add] at this
      exact this
    subst e3
    exact ⟨T, _, rfl, st_of upd_same, rfl, _, _, rfl, _, _, rfl, rfl, hs m x2 σ' H2 hx2 p T hT2⟩
theorem s_forEnumT1 {i j : Nat} {a : Addr} {xs : List V} (h : EvA tr σ H [.ref a]) (hx : SqT K H a xs) (Pv : Nat → L2.St → Hp → Prop) (h0 : ∀ H1, Ex H H1 → Pv 0 σ H1) (hG : ∀ m σ' H', Pv m σ' H' → SqT K H' a xs)
    (hs : ∀ m x σ' H1, xs[m]? = some x → Pv m σ' H1 → ∀ T, H1 T = none → tu { D with nx := Pv (m + 1), ct := Pv (m + 1), bk := D.nx } ((σ'.set i (some (.int (m : Int)))).set j (some x)) (upd H1 T (.tup [.int (m : Int), x]))) (hd : ∀ σ' H', Pv xs.length σ' H' → D.nx σ' H') :
    tFor (iEnum1 K tr) (gTup K 2 (gCons (gName i) (gCons (gName j) gNil))) tu D σ H :=
  h H (Ex.refl H) _ fun H1 e => by
    refine ⟨false, a, xs, rfl, ex_t e hx, for_it (walk_enumK (k := false) (xs := xs)) Pv (h0 H1 e) (fun m σ' H' _ p => hG m σ' H' p) (fun m x σ' H2 H3 hm p y => ?_) hd⟩
    obtain ⟨T, x1, x2, rfl, hT2, rfl, hx1, hx2⟩ := y
    have e3 : x1 = .int (m : Int) := by
      have := (Option.some.inj hx1).symm
      rw [Int.zero_add] at this
      exact this
    subst e3
    exact ⟨T, _, rfl, st_of upd_same, rfl, _, _, rfl, _, _, rfl, rfl, hs m x2 σ' H2 hx2 p T hT2⟩
/-- a list of own lists of ints -/
structure Mat (B H : Hp) (p : Addr) (as : List Addr) (M : List (List Int)) : Prop where
  base : Ex B H
  p0 : B p = none
  top : H p = some (.lst (as.map V.ref))
  nd : as.Nodup
  pn : p ∉ as
  a0 : ∀ a ∈ as, B a = none
  len : as.length = M.length
  row : ∀ (i : Nat) (a : Addr), as[i]? = some a → ∃ xs : List Int, M[i]? = some xs ∧ H a = some (.lst (iV xs))
theorem Mat.ext {B : Hp} {p : Addr} {as : List Addr} {M : List (List Int)} (m : Mat B H p as M) (e : Ex H H') : Mat B H' p as M :=
  ⟨m.base.trans e, m.p0, e _ _ m.top, m.nd, m.pn, m.a0, m.len, fun i a h => by
    obtain ⟨xs, h1, h2⟩ := m.row i a h
    exact ⟨xs, h1, e _ _ h2⟩⟩
theorem nodup_at {as : List Addr} (h : as.Nodup) {i j : Nat} {a : Addr} (hi : as[i]? = some a) (hj : as[j]? = some a) : i = j := by
  obtain ⟨l1, e1⟩ := List.getElem?_eq_some_iff.mp hi
  obtain ⟨l2, e2⟩ := List.getElem?_eq_some_iff.mp hj
  have h' := List.pairwise_iff_getElem.mp h
  by_cases hlt : i < j
  · exact absurd (e1.trans e2.symm) (h' i j l1 l2 hlt)
  · by_cases hgt : j < i
    · exact absurd (e2.trans e1.symm) (h' j i l2 l1 hgt)
    · omega
theorem Mat.set {B : Hp} {p : Addr} {as : List Addr} {M : List (List Int)} (m : Mat B H p as M) {i : Nat} {a : Addr} (hi : as[i]? = some a) (xs : List Int) : Mat B (upd H a (.lst (iV xs))) p as (M.set i xs) := by
  have ha := List.mem_of_getElem? hi
  refine ⟨Ex.mut m.base (m.a0 a ha), m.p0, ?_, m.nd, m.pn, m.a0, by rw [List.length_set]; exact m.len, fun j b hb => ?_⟩
  · rw [upd_ne (show p ≠ a from fun e => m.pn (by rw [e]; exact ha))]; exact m.top
  · by_cases hab : b = a
    · subst hab
      have := nodup_at m.nd hi hb
      subst this
      have hl := (List.getElem?_eq_some_iff.mp hi).1
      rw [m.len] at hl
      exact ⟨xs, by rw [List.getElem?_set_self hl], upd_same⟩
    · obtain ⟨ys, h1, h2⟩ := m.row j b hb
      have hij : i ≠ j := fun e => by
        subst e
        rw [hi] at hb
        exact hab (Option.some.inj hb).symm
      exact ⟨ys, by rw [List.getElem?_set_ne hij]; exact h1, by rw [upd_ne hab]; exact h2⟩
/-- x = [a new list for ..] -/
theorem q_asgM {i : Nat} {vs : List Nat} {j : Nat} {lo : Int} (h : EvI wi σ H n (YFn fun i => .int (lo + (i : Nat)))) (row : Nat → List Int) (hn : n ≤ 100000) (hw : ∀ x, wipe ((wipe σ vs).set j (some x)) vs = wipe σ vs)
    (he : ∀ (m : Nat) H1, m < n → Ex H H1 → EvL te ((wipe σ vs).set j (some (.int (lo + (m : Nat))))) H1 (iV (row m))) (k : ∀ p as H1, Mat H H1 p as ((List.range n).map row) → tz D (σ.set i (some (.ref p))) H1) :
    tSeq (tAsg (tLc wi (gName j) tYes te vs) (gName i)) tz D σ H :=
  h H (Ex.refl H) _ fun J H2 e2 w Dl hD => lc_it w (fun m H' => Ex H2 H' ∧ m ≤ n ∧ ∃ as : List Addr, Mat H2 H' Dl as ((List.range m).map row)) ⟨Ex.new hD, by omega, [], Ex.new hD, hD, upd_same, List.nodup_nil, List.not_mem_nil, (fun a ha => nomatch ha), rfl, (fun i a ha => by simp at ha)⟩ (fun m H' hm p => p.1) (fun m x H' H3 hm p y => by
      obtain ⟨p1, p2, as, M⟩ := p
      obtain ⟨rfl, rfl⟩ := y
      refine ⟨hw _, ?_⟩
      unfold tYes
      dsimp only
      rw [if_pos rfl]
      refine he m H3 hm (e2.trans p1) H3 (Ex.refl _) _ fun a H5 ha e5 h5 => ⟨as.map V.ref, e5 _ _ M.top, ?_, ?_⟩
      · have hl := M.len
        rw [List.length_map, List.length_range] at hl
        rw [List.length_map]
        exact sz_lt (by omega)
      have hne : ∀ b ∈ as, H3 b ≠ none := fun b hb => by
        obtain ⟨q, hq⟩ := List.mem_iff_getElem?.mp hb
        obtain ⟨xs, _, h2⟩ := M.row q b hq
        rw [h2]
        exact fun z => nomatch z
      have haD : a ≠ Dl := fun e => by
        rw [e, M.top] at ha
        cases ha
      have haas : a ∉ as := fun hm => hne a hm ha
      have hl : as.length = m := by rw [M.len]; simp
      refine ⟨Ex.mut (p1.trans e5) hD, hm, as ++ [a], Ex.mut (p1.trans e5) hD, hD, by rw [upd_same, List.map_append]; rfl, ?_, ?_, ?_, ?_, ?_⟩
      · rw [List.nodup_append]
        refine ⟨M.nd, by simp, fun b hb c hc => ?_⟩
        have : c = a := by simpa using hc
        subst this
        exact fun e => haas (e ▸ hb)
      · intro hm
        rcases List.mem_append.mp hm with hm | hm
        · exact M.pn hm
        · exact haD (by simpa using hm : Dl = a).symm
      · intro b hb
        rcases List.mem_append.mp hb with hb | hb
        · exact M.a0 b hb
        · have : b = a := by simpa using hb
          subst this
          exact fresh_back p1 ha
      · rw [List.length_append, M.len]
        simp
      · intro q b hq
        rw [List.range_succ, List.map_append]
        by_cases hqm : q < m
        · rw [List.getElem?_append_left (by omega)] at hq
          obtain ⟨xs, h1, h2⟩ := M.row q b hq
          refine ⟨xs, by rw [List.getElem?_append_left (by simp; exact hqm)]; exact h1, ?_⟩
          rw [upd_ne (show b ≠ Dl from fun e => M.pn (by rw [← e]; exact List.mem_of_getElem? hq))]
          exact e5 _ _ h2
        · have hb := (List.getElem?_eq_some_iff.mp hq).1
          rw [List.length_append, hl] at hb
          have hqe : q = m := by simp at hb; omega
          subst hqe
          rw [List.getElem?_append_right (by omega), hl] at hq
          have : b = a := by simpa using hq.symm
          subst this
          exact ⟨row q, by simp, by rw [upd_ne haD]; exact h5⟩)
    (fun H' ⟨p1, _, as, M⟩ => k Dl as H' ⟨e2.trans p1, fresh_back e2 M.p0, M.top, M.nd, M.pn, fun a ha => fresh_back e2 (M.a0 a ha), M.len, M.row⟩)
end
end SC

/-! part W4 -/
set_option Elab.async false
set_option linter.all false
set_option maxRecDepth 100000
set_option maxHeartbeats 4000000
namespace SC
open PySem PySem.Spec PyProof.Rows L2 Evl
section
variable {K : PySem.W.Frag} {σ : L2.St} {H H' : Hp} {ta tb tc te tx to ti tl : TE} {tr : TA} {t u : TT} {x y z v : V} {P : V → Hp → Prop} {PP : List V → Hp → Prop} {D : Ends} {tz tu : TS} {wi : TI} {n : Nat} {Y : Nat → Hp → V → Hp → Prop} {g : TG}
/-- xs.append(e), e of which a word is known -/
theorem s_appX {l : Addr} {xs : List V} (hl : H l = some (.lst xs)) (ha : Ev ta σ H (.ref l)) (h : EvX te σ H P) (hz : xs.length < 100000) (k : ∀ v H1, Ex H H1 → P v H1 → D.nx σ (upd H1 l (.lst (xs ++ [v])))) :
    tDrop (tBM K "list" rAppend ta (tCons te tNil)) D σ H := ha H (Ex.refl H) _ fun H1 e1 =>
  ⟨Or.inl ⟨rfl, xs, sq_of (e1 l _ hl)⟩, h H1 e1 _ fun v H2 e2 h2 => ⟨l, xs, v, rfl, rfl, e2 l _ (e1 l _ hl), sz_lt hz, k v H2 (e1.trans e2) h2⟩⟩
theorem q_appX {l : Addr} {xs : List V} (hl : H l = some (.lst xs)) (ha : Ev ta σ H (.ref l)) (h : EvX te σ H P) (hz : xs.length < 100000) (k : ∀ v H1, Ex H H1 → P v H1 → tz D σ (upd H1 l (.lst (xs ++ [v])))) :
    tSeq (tDrop (tBM K "list" rAppend ta (tCons te tNil))) tz D σ H := s_appX (D := { D with nx := tz D }) hl ha h hz k
theorem Mat.push {B : Hp} {p : Addr} {as : List Addr} {M : List (List Int)} (m : Mat B H p as M) {a : Addr} {xs : List Int} (e : Ex H H') (ha : H a = none) (hx : H' a = some (.lst (iV xs))) : Mat B (upd H' p (.lst (as.map V.ref ++ [.ref a]))) p (as ++ [a]) (M ++ [xs]) := by
  have hap : a ≠ p := fun z => by rw [z, m.top] at ha; cases ha
  have haas : a ∉ as := fun hm => by
    obtain ⟨q, hq⟩ := List.mem_iff_getElem?.mp hm
    obtain ⟨ys, _, h2⟩ := m.row q a hq
    rw [h2] at ha
    cases ha
  refine ⟨Ex.mut (m.base.trans e) m.p0, m.p0, by rw [upd_same, List.map_append]; rfl, ?_, ?_, ?_, ?_, ?_⟩
  · rw [List.nodup_append]
    refine ⟨m.nd, by simp, fun b hb c hc => ?_⟩
    have : c = a := by simpa using hc
    subst this
    exact fun e => haas (e ▸ hb)
  · intro hm
    rcases List.mem_append.mp hm with hm | hm
    · exact m.pn hm
    · exact hap (by simpa using hm : p = a).symm
  · intro b hb
    rcases List.mem_append.mp hb with hb | hb
    · exact m.a0 b hb
    · have : b = a := by simpa using hb
      subst this
      exact fresh_back m.base ha
  · rw [List.length_append, m.len]
    simp
  · intro q b hq
    by_cases hqm : q < as.length
    · rw [List.getElem?_append_left hqm] at hq
      obtain ⟨ys, h1, h2⟩ := m.row q b hq
      refine ⟨ys, by rw [List.getElem?_append_left (by rw [← m.len]; exact hqm)]; exact h1, ?_⟩
      rw [upd_ne (show b ≠ p from fun z => m.pn (by rw [← z]; exact List.mem_of_getElem? hq))]
      exact e _ _ h2
    · have hb := (List.getElem?_eq_some_iff.mp hq).1
      rw [List.length_append] at hb
      have hqe : q = as.length := by simp at hb; omega
      subst hqe
      rw [List.getElem?_append_right (by omega)] at hq
      have : b = a := by simpa using hq.symm
      subst this
      exact ⟨xs, by rw [List.getElem?_append_right (by rw [m.len]; omega), m.len]; simp, by rw [upd_ne hap]; exact hx⟩
theorem Mat.nil {p : Addr} {e : Ex H H'} (hp : H p = none) (h : H' p = some (.lst [])) : Mat H H' p [] [] := ⟨e, hp, h, List.nodup_nil, List.not_mem_nil, (fun a ha => nomatch ha), rfl, (fun i a ha => by simp at ha)⟩
/-- a new list + a raw list of tuples -/
theorem ex_catRaw {a : Addr} {xs : List Int} {xss : List (List Int)} (h1 : EvL ta σ H [.ref a]) (ha : SqT K H a (iV xs)) (h2 : EvX tb σ H (RawT K xss)) (hz : xss.length ≤ 90000) : EvX (tOp rCat ta tb) σ H (LTAt K (xs :: xss)) := fun H1 e Q q =>
  h1 H1 e _ fun p H2 hp e2 hx => h2 H2 (e.trans e2) _ fun v H3 e3 ⟨b, as, eb, hb, hA⟩ => by
    subst eb
    have hl := hA.length
    refine ⟨p, b, _, _, rfl, rfl, e3 _ _ hx, hb, sz_of (by rw [List.length_map, hl]; simp; omega), fun l hl => q _ _ ((e2.trans e3).trans (Ex.new hl)) ⟨l, rfl, a :: as, sq_of (by rw [upd_same]; rfl), ?_, ?_⟩⟩
    · exact ex_t (((e.trans e2).trans e3).trans (Ex.new hl)) ha
    · exact hA.mono (Ex.new hl)
theorem q_tup3X {i j l : Nat} (h : EvX te σ H (fun v H => ∃ p vs, v = .ref p ∧ H p = some (.tup vs) ∧ PP vs H)) (k : ∀ vs H1, Ex H H1 → PP vs H1 → ∃ x y z, vs = [x, y, z] ∧ tz D (((σ.set i (some x)).set j (some y)).set l (some z)) H1) :
    tSeq (tAsg te (gTup K 3 (gCons (gName i) (gCons (gName j) (gCons (gName l) gNil))))) tz D σ H := h H (Ex.refl H) _ fun v H1 e ⟨p, vs, ep, hp, hP⟩ => by
  obtain ⟨x, y, z, rfl, hz⟩ := k vs H1 e hP
  exact ⟨p, _, ep, st_of hp, rfl, x, _, rfl, y, _, rfl, z, _, rfl, rfl, hz⟩
theorem q_forEnumT1 {i j : Nat} {a : Addr} {xs : List V} (h : EvA tr σ H [.ref a]) (hx : SqT K H a xs) (Pv : Nat → L2.St → Hp → Prop) (h0 : ∀ H1, Ex H H1 → Pv 0 σ H1) (hG : ∀ m σ' H', Pv m σ' H' → SqT K H' a xs)
    (hs : ∀ m x σ' H1, xs[m]? = some x → Pv m σ' H1 → ∀ T, H1 T = none → tu { D with nx := Pv (m + 1), ct := Pv (m + 1), bk := tz D } ((σ'.set i (some (.int (m : Int)))).set j (some x)) (upd H1 T (.tup [.int (m : Int), x]))) (hd : ∀ σ' H', Pv xs.length σ' H' → tz D σ' H') :
    tSeq (tFor (iEnum1 K tr) (gTup K 2 (gCons (gName i) (gCons (gName j) gNil))) tu) tz D σ H := s_forEnumT1 (D := { D with nx := tz D }) h hx Pv h0 hG hs hd
/-- int(a truth value) -/
theorem ev_intB {b : Bool} (ha : Ev ta σ H (.bl b)) : Ev (tCB (fun xs H Q => (∃ i, xs = [V.int i] ∧ Q (V.int i) H) ∨ ∃ k, xs = [V.bl k] ∧ Q (.int (if k then 1 else 0)) H) (tCons ta tNil)) σ H (.int (if b then 1 else 0)) := fun H1 e Q q =>
  ha H1 e _ fun H2 e2 => Or.inr ⟨b, rfl, q H2 e2⟩
/-- where a value stands first -/
theorem first_at : ∀ {ns : List Int} {m : Int}, m ∈ ns → ∃ j : Nat, ns[j]? = some m ∧ ∀ (i : Nat) (z : Int), i < j → ns[i]? = some z → z ≠ m
  | a :: ns, m, h => by
    by_cases e : a = m
    · exact ⟨0, by rw [e]; rfl, fun i z hi => by omega⟩
    · have hm : m ∈ ns := by
        rcases List.mem_cons.mp h with h | h
        · exact absurd h.symm e
        · exact h
      obtain ⟨j, h1, h2⟩ := first_at hm
      refine ⟨j + 1, h1, fun i z hi hz => ?_⟩
      cases i with
      | zero =>
        have : a = z := Option.some.inj hz
        rw [← this]
        exact e
      | succ i => exact h2 i z (by omega) hz
theorem flat_iV (xs : List Int) : (iV xs).all flatV = true := by
  rw [List.all_eq_true]
  intro v hv
  obtain ⟨x, _, rfl⟩ := List.mem_map.mp hv
  rfl
theorem eq_iV (i j : Int) : eqV (.int i) (.int j) = decide (i = j) := by
  show (i == j) = decide (i = j)
  by_cases h : i = j <;> simp [h]
/-- xs.index(a value of xs) -/
theorem ex_index {p : Addr} {ns : List Int} {m : Int} (ho : Ev to σ H (.ref p)) (hx : SqL K H p (iV ns)) (hv : ∀ H1, Ex H H1 → ∀ Q : VK, (∀ H2, Ex H1 H2 → Q (.int m) H2) → te σ H1 Q) (hm : m ∈ ns) :
    EvX (tBM K "list" (rIndex K) to (tCons te tNil)) σ H (fun v _ => ∃ j : Nat, v = .int (j : Int) ∧ ns[j]? = some m) := fun H1 e Q q =>
  ho H1 e _ fun H2 e2 => ⟨Or.inl ⟨rfl, iV ns, ex_l (e.trans e2) hx⟩, hv H2 (e.trans e2) _ fun H3 e3 => by
    obtain ⟨j, h1, h2⟩ := first_at hm
    exact ⟨p, iV ns, .int m, j, .int m, rfl, rfl, ex_l ((e.trans e2).trans e3) hx, rfl, flat_iV ns, iV_at h1, by rw [eq_iV]; exact decide_eq_true rfl, fun i z hi hz => by
      obtain ⟨y, hy, rfl⟩ := iV_get hz
      rw [eq_iV]
      exact decide_eq_false (h2 i y hi hy), q _ H3 (e2.trans e3) ⟨j, rfl, h1⟩⟩⟩
/-- min(xs), max(xs): they are in xs, and none is less, more -/
theorem exists_min : ∀ {ns : List Int}, ns ≠ [] → ∃ m, m ∈ ns ∧ ∀ y ∈ ns, m ≤ y
  | [], h => absurd rfl h
  | [a], _ => ⟨a, List.mem_cons_self, fun y hy => by have : y = a := by simpa using hy
                                                     omega⟩
  | a :: b :: r, _ => by
    obtain ⟨m, h1, h2⟩ := exists_min (ns := b :: r) (by simp)
    by_cases h : a ≤ m
    · exact ⟨a, List.mem_cons_self, fun y hy => by
        rcases List.mem_cons.mp hy with rfl | hy
        · omega
        · have := h2 y hy; omega⟩
    · exact ⟨m, List.mem_cons_of_mem _ h1, fun y hy => by
        rcases List.mem_cons.mp hy with rfl | hy
        · omega
        · exact h2 y hy⟩
theorem exists_max : ∀ {ns : List Int}, ns ≠ [] → ∃ m, m ∈ ns ∧ ∀ y ∈ ns, y ≤ m
  | [], h => absurd rfl h
  | [a], _ => ⟨a, List.mem_cons_self, fun y hy => by have : y = a := by simpa using hy
                                                     omega⟩
  | a :: b :: r, _ => by
    obtain ⟨m, h1, h2⟩ := exists_max (ns := b :: r) (by simp)
    by_cases h : m ≤ a
    · exact ⟨a, List.mem_cons_self, fun y hy => by
        rcases List.mem_cons.mp hy with rfl | hy
        · omega
        · have := h2 y hy; omega⟩
    · exact ⟨m, List.mem_cons_of_mem _ h1, fun y hy => by
        rcases List.mem_cons.mp hy with rfl | hy
        · omega
        · exact h2 y hy⟩
theorem ev_minL {p : Addr} {ns : List Int} {m : Int} (ha : Ev ta σ H (.ref p)) (h : SqL K H p (iV ns)) (hm : m ∈ ns) (hl : ∀ y ∈ ns, m ≤ y) : Ev (tCB (rMin K) (tCons ta tNil)) σ H (.int m) := fun H1 e Q q =>
  ha H1 e _ fun H2 e2 => ⟨p, ns, rfl, ex_l (e.trans e2) h, List.length_pos_of_mem hm, fun m' h1 h2 => by
    have : m' = m := by have a := h2 m hm; have b := hl m' h1; omega
    rw [this]
    exact q H2 e2⟩
theorem ev_maxL {p : Addr} {ns : List Int} {m : Int} (ha : Ev ta σ H (.ref p)) (h : SqL K H p (iV ns)) (hm : m ∈ ns) (hl : ∀ y ∈ ns, y ≤ m) : Ev (tCB (rMax K) (tCons ta tNil)) σ H (.int m) := fun H1 e Q q =>
  ha H1 e _ fun H2 e2 => ⟨p, ns, rfl, ex_l (e.trans e2) h, List.length_pos_of_mem hm, fun m' h1 h2 => by
    have : m' = m := by have a := h2 m hm; have b := hl m' h1; omega
    rw [this]
    exact q H2 e2⟩
theorem getD_at {gs : List (List Int)} {rs : List Int} {j : Nat} {m : Int} (h : (gs.map (sw rs))[j]? = some m) : j < gs.length ∧ sw rs (gs.getD j []) = m := by
  have hj := (List.getElem?_eq_some_iff.mp h).1
  rw [List.length_map] at hj
  rw [List.getElem?_map, List.getElem?_eq_getElem hj] at h
  refine ⟨hj, ?_⟩
  have : gs.getD j [] = gs[j] := by simp [hj]
  rw [this]
  exact Option.some.inj h
end
end SC

/-! part F3 -/
set_option Elab.async false
set_option linter.all false
set_option maxRecDepth 100000
set_option maxHeartbeats 4000000
namespace SC
open PySem PySem.Spec PyProof.Rows L2 Evl
section
variable {P : Program} {w : World} {K : PySem.W.Frag} {mg : Str → Option Value} {base : Heap}
def ClimbAt (K : PySem.W.Frag) (cs : List Int) : V → Hp → Prop := fun v H => ∃ p q, v = .ref p ∧ H p = some (.tup [.int (climb cs).1, .ref q]) ∧ SqT K H q (iV (climb cs).2)
theorem sc_climbed : FnScope ["group"] ["group"] (defScope s_climbed) := ⟨rfl, rfl, rfl, by decide +kernel, rfl, by decide +kernel, by decide +kernel⟩
def spClimbed (K : PySem.W.Frag) : Sp := fun vs H Q _ => ∃ (a : Addr) (cs : List Int), vs = [.ref a] ∧ SqT K H a (iV cs) ∧ cs.length ≤ 200 ∧ ∀ v H', Ex H H' → ClimbAt K cs v H' → Q v H'
theorem ok_climbed (T : Tx K mg) : Ok P w K mg base 1 "climbed" ["group"] (spClimbed K) := by
  obtain ⟨fd, F⟩ := T.d_climbed
  refine ⟨fd, F.ok sc_climbed (fun vs H Q E h => ?_) (fun cdv A outer s H vs Q E hr h => ?_), F.bindsN (fun _ _ _ _ _ _ us hl => match us, hl with | [_], _ => rfl), F.kp, T.g_climbed⟩
  · obtain ⟨a, cs, rfl, _⟩ := h
    rfl
  · obtain ⟨a, cs, rfl, hT, hl, q⟩ := h
    refine ⟨_, PSs.nox (pss_one (ps_ret (pe_ifExp (pt_cmpR op_gt (pe_callB call_lenK (by rfl) T.f_len bb_len (pa_cons (pv 0) pa_nil)) pe_int (nomark _)) (pe_tup (pa_cons (pe_ix ix_tupK (pv 0) pe_int (fun _ _ => rfl)) (pa_cons (pe_op op_catAK (pe_slice sl_tupK (pv 0) (po_some pe_int) po_none) (pe_tup (pa_cons pe_int pa_nil))) pa_nil))) (pe_tup (pa_cons pe_int (pa_cons (pe_tup pa_nil) pa_nil)))))), ?_⟩
    have hc : cutV (iV cs) (some 1) none = (iV cs).drop 1 := cut_from (iV cs) 1
    refine s_retX (ex_if (b := decide ((((iV cs).length : Nat) : Int) > 0)) (et_test (ev_op (ev_lenT (ev_var rfl) hT) ev_c rv_I0)) (fun hb => ?_) fun hb => ?_) q
    · rw [iV_len] at hb
      have hb' : 0 < cs.length := by have := of_decide_eq_true hb; omega
      refine ex_weak (ex_tupP (ep_cons (v := .int (climb cs).1) (ev_ixT (j := 0) (ev_var rfl) ev_c hT ?_) (ep_consX (ex_catT (xs := (iV cs).drop 1) (ys := [.int 0]) (by rw [← hc]; exact ex_slT (ev_var rfl) (eo_some ev_c) eo_none hT) (ex_tupU (eu_tup (ea_cons ev_c ea_nil) (by decide))) ?_) TupAt.mono ep_nil)) ?_ ?_) ?_
      · cases cs with
        | nil => simp at hb'
        | cons c cs => rfl
      · rw [List.length_drop, iV_len]; simp; omega
      · rintro vs H1 ⟨r, rfl, v, r2, rfl, _, rfl⟩
        simp
      · rintro vs H1 H2 e ⟨r, rfl, v, r2, rfl, h, rfl⟩
        exact ⟨_, rfl, v, _, rfl, TupAt.mono _ _ _ e h, rfl⟩
      · rintro v H1 e ⟨p, vs, rfl, hp, r, rfl, v, r2, rfl, ⟨b, rfl, hb2⟩, rfl⟩
        refine ⟨p, b, rfl, hp, ?_⟩
        cases cs with
        | nil => simp at hb'
        | cons c cs => 
          show SqT K H1 b (iV (cs ++ [0]))
          rw [iV_append]
          exact hb2
    · rw [iV_len] at hb
      have hb' : cs = [] := List.eq_nil_of_length_eq_zero (by have := of_decide_eq_false hb; omega)
      subst hb'
      refine ex_weak (ex_tupP (ep_cons ev_c (ep_consX (ex_tupU (K := K) (eu_tup ea_nil (by decide))) TupAt.mono ep_nil)) ?_ ?_) ?_
      · rintro vs H1 ⟨r, rfl, v, r2, rfl, _, rfl⟩
        simp
      · rintro vs H1 H2 e ⟨r, rfl, v, r2, rfl, h, rfl⟩
        exact ⟨_, rfl, v, _, rfl, TupAt.mono _ _ _ e h, rfl⟩
      · rintro v H1 e ⟨p, vs, rfl, hp, r, rfl, v, r2, rfl, ⟨b, rfl, hb2⟩, rfl⟩
        exact ⟨p, b, rfl, hp, hb2⟩
theorem x_climbed {a : Addr} {cs : List Int} {H : Hp} (hT : SqT K H a (iV cs)) (hl : cs.length ≤ 200) : SpX (spClimbed K) [.ref a] H (ClimbAt K cs) := fun H1 e Q q E => ⟨a, cs, rfl, ex_t e hT, hl, q⟩
abbrev SCOPE_require_split_index : Scope := { kind := .function, names := [(Str.ofString ".0", .local), (Str.ofString "index", .cell), (Str.ofString "sum", .globalImplicit), (Str.ofString "split", .cell)], isGenerator := false, isCoroutine := false }
theorem sc_require_split : FnScope ["schedule", "counts", "split", "index", "group"] ["schedule", "counts", "split"] (defScope s_require_split) := ⟨rfl, rfl, rfl, by decide +kernel, rfl, by decide +kernel, by decide +kernel⟩
def spReqSplit (K : PySem.W.Frag) : Sp := fun vs H Q _ => ∃ (a b c : Addr) (r : Int) (rs cs : List Int) (gs : List (List Int)), vs = [.ref a, .ref b, .ref c] ∧ SqL K H a (iV (r :: rs)) ∧ SqT K H b (iV cs) ∧ LT K H c gs ∧ Sched (r :: rs) ∧ rs.length ≤ 8 ∧
  NN cs ∧ cs.length ≤ 200 ∧ (gs.length : Int) = r ∧ IsSplit gs cs ∧ ∀ H', Ex H H' → Q .non H'
theorem allT_get {H : Hp} {as : List Addr} {gs : List (List Int)} (h : AllT K H as gs) {i : Nat} {v : V} (hv : (as.map V.ref)[i]? = some v) : ∃ a g, v = .ref a ∧ gs[i]? = some g ∧ SqT K H a (iV g) := by
  obtain ⟨a, ha, rfl⟩ := ref_get hv
  obtain ⟨g, hg, hT⟩ := h.get ha
  exact ⟨a, g, rfl, hg, hT⟩
theorem ok_require_split (T : Tx K mg) : Ok P w K mg base 5 "require_split" ["schedule", "counts", "split"] (spReqSplit K) := by
  have O_require_rounds := ok_require_rounds (P := P) (w := w) (base := base) T
  have O_require_counts := ok_require_counts (P := P) (w := w) (base := base) T
  have O_require_small_round := ok_require_small_round (P := P) (w := w) (base := base) T
  have O_is_group := ok_is_group (P := P) (w := w) (base := base) T
  obtain ⟨fd, F⟩ := T.d_require_split
  refine ⟨fd, F.ok sc_require_split (fun vs H Q E h => ?_) (fun cdv A outer s H vs Q E hr h => ?_), F.bindsN (fun _ _ _ _ _ _ us hl => match us, hl with | [_, _, _], _ => rfl), F.kp, T.g_require_split⟩
  · obtain ⟨a, b, c, r, rs, cs, gs, rfl, _⟩ := h
    rfl
  · obtain ⟨a, b, c, r, rs, cs, gs, rfl, hS, hT, hG, hs, hsl, hnn, hl, hgr, hsp, q⟩ := h
    have hr0 := hs r List.mem_cons_self
    obtain ⟨as, hA, hal, hAll⟩ := hG.at
    refine ⟨_, PSs.nox (pss_cons (ps_expr (pe_ok O_require_rounds (hr.mono (by decide)) (by rfl) (pa_cons (pv 0) pa_nil)))
      (pss_cons (ps_expr (pe_ok O_require_counts (hr.mono (by decide)) (by rfl) (pa_cons (pv 1) pa_nil)))
      (pss_cons (ps_expr (pe_ok O_require_small_round (hr.mono (by decide)) (by rfl) (pa_cons (pv 0) pa_nil)))
      (pss_cons (ps_if (pw_or (pt_not (pt_val (pe_callB call_isiK (by rfl) T.f_isinstance bb_isinstance (pa_cons (pv 2) (pa_cons (pe_bltn (v := .ty "list") (by rfl) T.f_list bb_list rfl) pa_nil))))) (pw_or1 (pt_cmpR op_ne (pe_callB call_lenK (by rfl) T.f_len bb_len (pa_cons (pv 2) pa_nil)) (pe_ix ix_listK (pv 0) pe_int (fun _ _ => rfl)) (nomark _)))).pt (pss_one ps_never) pss_nil)
      (pss_cons (ps_for PassesOwn.never rfl (pi_enum1K (by rfl) T.f_enumerate (pa_cons (pv 2) pa_nil)) (pg_tupK (n := 2) rfl (pgs_cons (pg_name (i := 3) sc_require_split.nd rfl (.inl rfl)) (pgs_cons (pg_name (i := 4) sc_require_split.nd rfl (.inl rfl)) pgs_nil))) (pss_one (ps_if (pt_not (pt_val (pe_ok O_is_group (hr.mono (by decide)) (by rfl) (pa_cons (pv 4) (pa_cons (pe_callB call_lenK (by rfl) T.f_len bb_len (pa_cons (pv 1) pa_nil)) pa_nil))))) (pss_one ps_never) pss_nil)))
      (pss_one (ps_if (pt_cmpR (op_neDK hr.units) (pe_lc (own := [("index", 3)]) rfl sc_require_split.nd (pi_range1 (by rfl) T.f_range (pa_cons (pe_callB call_lenK (by rfl) T.f_len bb_len (pa_cons (pv 1) pa_nil)) pa_nil)) (blkOk_by (N := ["schedule", "counts", "split", "index", "group"]) (sc := defScope s_require_split) (own := [("index", 3)]) (by decide +kernel)) (fun _ _ _ _ _ => (pg_name (i := 3) sc_require_split.nd rfl (.inr rfl))) (fun _ _ _ _ _ => pts_nil) (fun _ _ _ _ _ => (pe_callB (cr_sumK rfl) (by rfl) T.f_sum bb_sum (pa_cons (pe_lc (own := [("group", 4)]) rfl sc_require_split.nd (pi_listK (pv 2)) (blkOk_by (N := ["schedule", "counts", "split", "index", "group"]) (sc := SCOPE_require_split_index) (own := [("group", 4)]) (by decide +kernel)) (fun _ _ _ _ _ => (pg_name (i := 4) sc_require_split.nd rfl (.inl rfl))) (fun _ _ _ _ _ => pts_nil) (fun _ _ _ _ _ => (pe_ix ix_tupK (pv 4) (pv 3) (fun _ _ => rfl)))) pa_nil)))) (pe_callTy call_listK (by rfl) T.f_list bb_list (pa_cons (pv 1) pa_nil)) (nomark _)) (pss_one ps_never) pss_nil))))))), ?_⟩
    refine q_drop (ev_call (ea_cons (ev_var rfl) ea_nil) (v_reqRounds hS (by simp) (by simp; omega) fun x hx => (hs x hx).1)) fun H1 e1 => ?_
    refine q_drop (ev_call (ea_cons (ev_var rfl) ea_nil) (v_reqCounts (ex_t e1 hT) hl hnn)) fun H2 e2 => ?_
    refine q_drop (ev_call (ea_cons (ev_var rfl) ea_nil) (v_reqSmall (ex_l (e1.trans e2) hS) (by omega))) fun H3 e3 => ?_
    have e := (e1.trans e2).trans e3
    refine q_when (b := false) (et_is (et_or (et_not (et_B (ev_isi (ev_var rfl) (fun H1 e' => tyx_list (ex_l (e.trans e') hA)) k_ll))) fun _ => et_test (ev_op (ev_lenL (ev_var rfl) (ex_l e hA)) (ev_ixL (j := 0) (ev_var rfl) ev_c (ex_l e hS) rfl) (rv_ne rfl))) ?_) (fun hb => nomatch hb) fun _ H4 e4 => ?_
    · rw [List.length_map, hal, hgr]
      simp
    have e5 : Ex H H4 := e.trans e4
    refine q_for (evj_enum1 (k := true) (ea_cons (ev_var rfl) ea_nil) (ex_l e5 hA)) (walk_enumK (xs := as.map V.ref)) (fun i σ' H' => ∃ y z, σ' = [some (.ref a), some (.ref b), some (.ref c), y, z] ∧ Ex H H') (fun H6 e6 => ⟨_, _, rfl, e5.trans e6⟩) (fun i σ' H' hi p => ?_) (fun i x σ' H6 H7 hi p y => ?_) fun σ' H' p => ?_
    · obtain ⟨_, _, _, e⟩ := p
      exact ex_l e hA
    · obtain ⟨_, _, rfl, e⟩ := p
      obtain ⟨T, x1, x2, rfl, hT2, rfl, hx1, hx2⟩ := y
      obtain ⟨ga, g, rfl, hg, hgT⟩ := allT_get hAll hx2
      have hgm := List.mem_of_getElem? hg
      have hgl := hsp.len g hgm
      refine ⟨T, [x1, .ref ga], rfl, st_of upd_same, rfl, x1, _, rfl, _, [], rfl, rfl, ?_⟩
      have e8 := e.trans (Ex.new (o := .tup [x1, .ref ga]) hT2)
      refine s_when (b := false) (et_is (et_not (et_B (ev_call (ea_cons (ev_var rfl) (ea_cons (ev_lenT (ev_var rfl) (ex_t e8 hT)) ea_nil)) (v_isGroup (ex_t e8 hgT) (by rw [iV_len, hgl]) (by omega) (hsp.nn g hgm))))) (by rfl)) (fun hb => nomatch hb) fun _ H9 e9 => ?_
      exact ⟨_, _, rfl, e8.trans e9⟩
    · obtain ⟨_, _, rfl, e⟩ := p
      refine s_when (b := false) (et_test (ev_opLL (xs := iV cs) (ys := iV cs) (el_lcr (lo := 0) (n := cs.length) ((evj_rng1 (ea_cons (ev_lenT (ev_var rfl) (ex_t e hT)) ea_nil) (by omega) (by rw [iV_len]; omega)).evi (n := cs.length) (by rw [iV_len]; exact walk_range) fun _ _ => trivial) _ (iV_len _) (by omega) (fun _ => rfl) fun i H6 hi e6 => ?_) (el_listT (ev_var rfl) (ex_t e hT)) fun p1 p2 H6 h1 h2 _ => rv_neSame (sq_of h1) (sq_of h2))) (fun hb => nomatch hb) fun _ H6 e6 => q H6 (e.trans e6)
      refine ⟨.int (at0 cs i), iV_at (at0_some hi), ev_is (ev_sumN (ns := gs.map fun g => at0 g i) (el_lcn ((evj_list (ev_var rfl) (ex_l (e.trans e6) hA)).evi (walk_list (xs := as.map V.ref)) fun H7 e7 => ex_l ((e.trans e6).trans e7) hA) _ (by rw [List.length_map, List.length_map, List.length_map, hal]) (by rw [List.length_map]; omega) (fun _ => rfl) fun j x H7 e7 hx => ?_)) ?_⟩
      · obtain ⟨ga, g, rfl, hg, hgT⟩ := allT_get hAll hx
        have hgl := hsp.len g (List.mem_of_getElem? hg)
        refine ⟨.int (at0 g i), by rw [List.getElem?_map, List.getElem?_map, hg]; rfl, ev_ixT (j := i) (ev_var rfl) (ev_is (ev_var rfl) (by rw [Int.zero_add])) (ex_t ((e.trans e6).trans e7) hgT) (iV_at (at0_some (by omega)))⟩
      · exact congrArg V.int (hsp.sum i hi)
theorem v_reqSplit {a b c : Addr} {r : Int} {rs cs : List Int} {gs : List (List Int)} {H : Hp} (hS : SqL K H a (iV (r :: rs))) (hT : SqT K H b (iV cs)) (hG : LT K H c gs) (hs : Sched (r :: rs)) (hl : rs.length ≤ 8) (hn : NN cs) (hcl : cs.length ≤ 200) (hr : (gs.length : Int) = r) (hsp : IsSplit gs cs) :
    SpV (spReqSplit K) [.ref a, .ref b, .ref c] H .non := fun H1 e Q q E => ⟨a, b, c, r, rs, cs, gs, rfl, ex_l e hS, ex_t e hT, hG.mono e, hs, hl, hn, hcl, hr, hsp, q⟩
end
end SC

/-! part F4 -/
set_option Elab.async false
set_option linter.all false
set_option maxRecDepth 100000
set_option maxHeartbeats 4000000
namespace SC
open PySem PySem.Spec PyProof.Rows L2 Evl
section
variable {P : Program} {w : World} {K : PySem.W.Frag} {mg : Str → Option Value} {base : Heap}
theorem sc_is_row : FnScope ["sizes", "value", "distance", "first", "count", "entry"] ["sizes", "value"] (defScope s_is_row) := ⟨rfl, rfl, rfl, by decide +kernel, rfl, by decide +kernel, by decide +kernel⟩
def spIsRow (K : PySem.W.Frag) : Sp := fun vs H Q _ => ∃ (a b : Addr) (rs : List Int) (r : Row), vs = [.ref a, .ref b] ∧ SqL K H a (iV (pl rs rs.length)) ∧ SqT K H b (iV (rowL r)) ∧ RowOk rs r ∧ ∀ H', Ex H H' → Q (.bl true) H'
theorem ok_is_row (T : Tx K mg) : Ok P w K mg base 2 "is_row" ["sizes", "value"] (spIsRow K) := by
  have O_is_integer := ok_is_integer (P := P) (w := w) (base := base) T
  obtain ⟨fd, F⟩ := T.d_is_row
  refine ⟨fd, F.ok sc_is_row (fun vs H Q E h => ?_) (fun cdv A outer s H vs Q E hr h => ?_), F.bindsN (fun _ _ _ _ _ _ us hl => match us, hl with | [_, _], _ => rfl), F.kp, T.g_is_row⟩
  · obtain ⟨a, b, rs, r, rfl, _⟩ := h
    rfl
  · obtain ⟨a, b, rs, ⟨d, f, c⟩, rfl, hS, hT, ⟨r1, r2, r3, r4, r5⟩, q⟩ := h
    simp only at r1 r2 r3 r4 r5
    refine ⟨_, PSs.nox (pss_cons (ps_if (pw_or (pt_not (pt_val (pe_callB call_isiK (by rfl) T.f_isinstance bb_isinstance (pa_cons (pv 1) (pa_cons (pe_bltn (v := .ty "tuple") (by rfl) T.f_tuple bb_tuple rfl) pa_nil))))) (pw_or (pt_cmpR op_ne (pe_callB call_lenK (by rfl) T.f_len bb_len (pa_cons (pv 1) pa_nil)) pe_int (nomark _)) (pw_or1 (pt_not (pt_val (pe_callB (cr_allK rfl) (by rfl) T.f_all bb_all (pa_cons (pe_lc (own := [("entry", 5)]) rfl sc_is_row.nd (pi_tupK (pv 1)) (blkOk_by (N := ["sizes", "value", "distance", "first", "count", "entry"]) (sc := defScope s_is_row) (own := [("entry", 5)]) (by decide +kernel)) (fun _ _ _ _ _ => (pg_name (i := 5) sc_is_row.nd rfl (.inl rfl))) (fun _ _ _ _ _ => pts_nil) (fun _ _ _ _ _ => (pe_ok O_is_integer (hr.mono (by decide)) (by rfl) (pa_cons (pv 5) pa_nil)))) pa_nil))))))).pt (pss_one (ps_ret pe_bl)) pss_nil)
      (pss_cons (ps_asg (pv 1) (pg_tupK (n := 3) rfl (pgs_cons (pg_name (i := 2) sc_is_row.nd rfl (.inl rfl)) (pgs_cons (pg_name (i := 3) sc_is_row.nd rfl (.inl rfl)) (pgs_cons (pg_name (i := 4) sc_is_row.nd rfl (.inl rfl)) pgs_nil)))))
      (pss_one (ps_ret (pe_and (pe_chain op_le op_lt pe_int (pv 2) (pe_callB call_lenK (by rfl) T.f_len bb_len (pa_cons (pv 0) pa_nil))) (pe_and (pe_chain op_le op_lt pe_int (pv 3) (pe_ix ix_listK (pv 0) (pv 2) (fun _ _ => rfl))) (pe_one (pe_cmpR op_ge (pv 4) pe_int (nomark _))))))))), ?_⟩
    refine q_when (b := false) (et_is (et_or (et_not (et_B (ev_isi (ev_var rfl) (fun H1 e => tyx_tup (ex_t e hT)) k_tt))) fun _ => et_or (et_test (ev_op (ev_lenT (ev_var rfl) hT) ev_c (rv_ne rfl))) fun _ => et_not (et_B (ev_allN (bs := [true, true, true]) (el_lcn ((evj_tup (ev_var rfl) hT).evi (walk_tup (xs := iV (rowL (d, f, c)))) fun H1 e => ex_t e hT) _ (by rfl) (by show 3 ≤ 100000; decide) (fun _ => rfl) fun i x H1 e hx => ?_)))) (by rfl)) (fun hb => nomatch hb) fun _ H1 e1 => ?_
    · obtain ⟨y, hy, rfl⟩ := iV_get hx
      refine ⟨.bl true, ?_, ev_call (ea_cons (ev_var rfl) ea_nil) v_isInt⟩
      match i, hx with
      | 0, _ => rfl
      | 1, _ => rfl
      | 2, _ => rfl
    refine q_tup3 (ev_var rfl) (ex_t e1 hT) fun H2 e2 => ?_
    have hz : (iV (pl rs rs.length))[d]? = some (.int (pp rs d)) := iV_at (pl_get r2)
    refine s_ret (ev_is (ev_andV (ev_chain ev_c (ev_var rfl) rv_I0 (fun _ => ev_lenL (ev_var rfl) (ex_l (e1.trans e2) hS)) fun _ => rv_I0) fun _ => ev_andV (ev_chain ev_c (ev_var rfl) rv_I0 (fun _ => ev_ixL (ev_var rfl) (ev_var rfl) (ex_l (e1.trans e2) hS) hz) fun _ => rv_I0) fun _ => ev_op (ev_var rfl) ev_c rv_I0) ?_) fun H3 e3 => q H3 ((e1.trans e2).trans e3)
    rw [iV_len, pl_len]
    simp
    omega
theorem v_isRow {a b : Addr} {rs : List Int} {r : Row} {H : Hp} (hS : SqL K H a (iV (pl rs rs.length))) (hT : SqT K H b (iV (rowL r))) (ok : RowOk rs r) : SpV (spIsRow K) [.ref a, .ref b] H (.bl true) := fun H1 e Q q E => ⟨a, b, rs, r, rfl, ex_l e hS, ex_t e hT, ok, q⟩
theorem sc_require_plan : FnScope ["schedule", "plan", "sizes", "index", "row"] ["schedule", "plan"] (defScope s_require_plan) := ⟨rfl, rfl, rfl, by decide +kernel, rfl, by decide +kernel, by decide +kernel⟩
def spReqPlan (K : PySem.W.Frag) : Sp := fun vs H Q _ => ∃ (a b : Addr) (rs : List Int) (rows : List Row), vs = [.ref a, .ref b] ∧ SqL K H a (iV rs) ∧ LT K H b (rows.map rowL) ∧ Sched rs ∧ rs.length ≤ 200 ∧ (∀ r ∈ rows, RowOk rs r) ∧ ∀ H', Ex H H' → Q .non H'
theorem allT_row {H : Hp} {as : List Addr} {rows : List Row} (h : AllT K H as (rows.map rowL)) {i : Nat} {v : V} (hv : (as.map V.ref)[i]? = some v) : ∃ a r, v = .ref a ∧ rows[i]? = some r ∧ SqT K H a (iV (rowL r)) := by
  obtain ⟨a, g, rfl, hg, hT⟩ := allT_get h hv
  rw [List.getElem?_map] at hg
  cases e : rows[i]? with
  | none => rw [e] at hg; cases hg
  | some r =>
    rw [e] at hg
    have : rowL r = g := Option.some.inj hg
    subst this
    exact ⟨a, r, rfl, rfl, hT⟩
theorem ok_require_plan (T : Tx K mg) : Ok P w K mg base 3 "require_plan" ["schedule", "plan"] (spReqPlan K) := by
  have O_products := ok_products (P := P) (w := w) (base := base) T
  have O_is_row := ok_is_row (P := P) (w := w) (base := base) T
  obtain ⟨fd, F⟩ := T.d_require_plan
  refine ⟨fd, F.ok sc_require_plan (fun vs H Q E h => ?_) (fun cdv A outer s H vs Q E hr h => ?_), F.bindsN (fun _ _ _ _ _ _ us hl => match us, hl with | [_, _], _ => rfl), F.kp, T.g_require_plan⟩
  · obtain ⟨a, b, rs, rows, rfl, _⟩ := h
    rfl
  · obtain ⟨a, b, rs, rows, rfl, hS, hL, hs, hl, hok, q⟩ := h
    obtain ⟨as, hA, hal, hAll⟩ := hL.at
    refine ⟨_, PSs.nox (pss_cons (ps_if (pt_not (pt_val (pe_callB call_isiTK (by rfl) T.f_isinstance bb_isinstance (pa_cons (pv 1) (pa_cons (pe_tup (pa_cons (pe_bltn (v := .ty "list") (by rfl) T.f_list bb_list rfl) (pa_cons (pe_bltn (v := .ty "tuple") (by rfl) T.f_tuple bb_tuple rfl) pa_nil))) pa_nil))))) (pss_one ps_never) pss_nil)
      (pss_cons (ps_set (i := 2) sc_require_plan.nd rfl (.inl rfl) (pe_ok O_products (hr.mono (by decide)) (by rfl) (pa_cons (pv 0) pa_nil)))
      (pss_one (ps_for PassesOwn.never rfl (pi_enum1K (by rfl) T.f_enumerate (pa_cons (pv 1) pa_nil)) (pg_tupK (n := 2) rfl (pgs_cons (pg_name (i := 3) sc_require_plan.nd rfl (.inl rfl)) (pgs_cons (pg_name (i := 4) sc_require_plan.nd rfl (.inl rfl)) pgs_nil))) (pss_one (ps_if (pt_not (pt_val (pe_ok O_is_row (hr.mono (by decide)) (by rfl) (pa_cons (pv 2) (pa_cons (pv 4) pa_nil))))) (pss_one ps_never) pss_nil)))))), ?_⟩
    refine q_when (b := false) (et_is (et_not (et_B (ev_isT (b := true) (ev_var rfl) (fun H1 e => tyx_list (ex_l e hA)) k_llt))) (by rfl)) (fun hb => nomatch hb) fun _ H1 e1 => ?_
    refine q_asgL (el_call (ea_cons (ev_var rfl) ea_nil) (l_products (ex_l e1 hS) hs hl)) fun p H2 hp e2 h2 => ?_
    refine s_forEnum (ea_cons (ev_var rfl) ea_nil) (ex_l (e1.trans e2) hA) (fun i σ' H' => ∃ y z, σ' = [some (.ref a), some (.ref b), some (.ref p), y, z] ∧ Ex H H' ∧ H' p = some (.lst (iV (pl rs rs.length)))) (fun H3 e3 => ⟨_, _, rfl, (e1.trans e2).trans e3, e3 _ _ h2⟩) (fun m σ' H' z => ?_) (fun m x σ' H3 hx z T hT => ?_) fun σ' H' z => ?_
    · obtain ⟨_, _, _, e, _⟩ := z
      exact ex_l e hA
    · obtain ⟨_, _, rfl, e, h3⟩ := z
      obtain ⟨ra, r, rfl, hrr, hrT⟩ := allT_row hAll hx
      have e4 := e.trans (Ex.new (o := .tup [.int (m : Int), .ref ra]) hT)
      have h4 := Ex.new (o := .tup [.int (m : Int), .ref ra]) hT _ _ h3
      refine s_when (b := false) (et_is (et_not (et_B (ev_call (ea_cons (ev_var rfl) (ea_cons (ev_var rfl) ea_nil)) (v_isRow (sq_of h4) (ex_t e4 hrT) (hok r (List.mem_of_getElem? hrr)))))) (by rfl)) (fun hb => nomatch hb) fun _ H5 e5 => ?_
      exact ⟨_, _, rfl, e4.trans e5, e5 _ _ h4⟩
    · obtain ⟨_, _, rfl, e, h3⟩ := z
      exact q H' e
theorem v_reqPlan {a b : Addr} {rs : List Int} {rows : List Row} {H : Hp} (hS : SqL K H a (iV rs)) (hL : LT K H b (rows.map rowL)) (hs : Sched rs) (hl : rs.length ≤ 200) (ok : ∀ r ∈ rows, RowOk rs r) : SpV (spReqPlan K) [.ref a, .ref b] H .non := fun H1 e Q q E => ⟨a, b, rs, rows, rfl, ex_l e hS, hL.mono e, hs, hl, ok, q⟩
theorem sc_require_choices : FnScope ["schedule", "choices", "limit", "index", "chosen"] ["schedule", "choices", "limit"] (defScope s_require_choices) := ⟨rfl, rfl, rfl, by decide +kernel, rfl, by decide +kernel, by decide +kernel⟩
def spReqChoices (K : PySem.W.Frag) : Sp := fun vs H Q _ => ∃ (a b : Addr) (rs hist : List Int) (l : Int), vs = [.ref a, .ref b, .int l] ∧ SqL K H a (iV rs) ∧ SqL K H b (iV hist) ∧ HistOk rs hist ∧ (hist.length : Int) ≤ l ∧ ∀ H', Ex H H' → Q .non H'
theorem ok_require_choices (T : Tx K mg) : Ok P w K mg base 3 "require_choices" ["schedule", "choices", "limit"] (spReqChoices K) := by
  have O_is_between := ok_is_between (P := P) (w := w) (base := base) T
  obtain ⟨fd, F⟩ := T.d_require_choices
  refine ⟨fd, F.ok sc_require_choices (fun vs H Q E h => ?_) (fun cdv A outer s H vs Q E hr h => ?_), F.bindsN (fun _ _ _ _ _ _ us hl => match us, hl with | [_, _, _], _ => rfl), F.kp, T.g_require_choices⟩
  · obtain ⟨a, b, rs, hist, l, rfl, _⟩ := h
    rfl
  · obtain ⟨a, b, rs, hist, l, rfl, hS, hC, hh, hl, q⟩ := h
    refine ⟨_, PSs.nox (pss_cons (ps_if (pw_or (pt_not (pt_val (pe_callB call_isiTK (by rfl) T.f_isinstance bb_isinstance (pa_cons (pv 1) (pa_cons (pe_tup (pa_cons (pe_bltn (v := .ty "list") (by rfl) T.f_list bb_list rfl) (pa_cons (pe_bltn (v := .ty "tuple") (by rfl) T.f_tuple bb_tuple rfl) pa_nil))) pa_nil))))) (pw_or1 (pt_cmpR op_gt (pe_callB call_lenK (by rfl) T.f_len bb_len (pa_cons (pv 1) pa_nil)) (pv 2) (nomark _)))).pt (pss_one ps_never) pss_nil)
      (pss_one (ps_for PassesOwn.never rfl (pi_enum1K (by rfl) T.f_enumerate (pa_cons (pv 1) pa_nil)) (pg_tupK (n := 2) rfl (pgs_cons (pg_name (i := 3) sc_require_choices.nd rfl (.inl rfl)) (pgs_cons (pg_name (i := 4) sc_require_choices.nd rfl (.inl rfl)) pgs_nil))) (pss_one (ps_if (pt_not (pt_val (pe_ok O_is_between (hr.mono (by decide)) (by rfl) (pa_cons (pv 4) (pa_cons pe_int (pa_cons (pe_op op_sub (pe_ix ix_listK (pv 0) (pv 3) (fun _ _ => rfl)) pe_int) pa_nil)))))) (pss_one ps_never) pss_nil))))), ?_⟩
    refine q_when (b := false) (et_is (et_or (et_not (et_B (ev_isT (b := true) (ev_var rfl) (fun H1 e => tyx_list (ex_l e hC)) k_llt))) fun _ => et_test (ev_op (ev_lenL (ev_var rfl) hC) (ev_var rfl) rv_I0)) ?_) (fun hb => nomatch hb) fun _ H1 e1 => ?_
    · rw [iV_len]
      simp
      omega
    refine s_forEnum (ea_cons (ev_var rfl) ea_nil) (ex_l e1 hC) (fun i σ' H' => ∃ y z, σ' = [some (.ref a), some (.ref b), some (.int l), y, z] ∧ Ex H H') (fun H3 e3 => ⟨_, _, rfl, e1.trans e3⟩) (fun m σ' H' z => ?_) (fun m x σ' H3 hx z T hT => ?_) fun σ' H' z => ?_
    · obtain ⟨_, _, _, e⟩ := z
      exact ex_l e hC
    · obtain ⟨_, _, rfl, e⟩ := z
      obtain ⟨c, hc, rfl⟩ := iV_get hx
      have e4 := e.trans (Ex.new (o := .tup [.int (m : Int), .int c]) hT)
      have hm := (List.getElem?_eq_some_iff.mp hc).1
      have h0 := hh.lo m hm
      have h1 := hh.hi m hm
      have hlen := hh.len
      rw [at0_get hc] at h0 h1
      refine s_when (b := false) (et_is (et_not (et_B (ev_call (ea_cons (ev_var rfl) (ea_cons ev_c (ea_cons (ev_op (ev_ixL (j := m) (ev_var rfl) (ev_var rfl) (ex_l e4 hS) (iV_at (at0_some (by omega)))) ev_c rv_I0) ea_nil))) v_between))) ?_) (fun hb => nomatch hb) fun _ H5 e5 => ?_
      · have b1 : decide (0 ≤ c) = true := decide_eq_true h0
        have b2 : decide (c ≤ at0 rs m - 1) = true := decide_eq_true (by omega)
        rw [b1, b2]
        rfl
      · exact ⟨_, _, rfl, e4.trans e5⟩
    · obtain ⟨_, _, rfl, e⟩ := z
      exact q H' e
theorem v_reqChoices {a b : Addr} {rs hist : List Int} {l : Int} {H : Hp} (hS : SqL K H a (iV rs)) (hC : SqL K H b (iV hist)) (hh : HistOk rs hist) (hl : (hist.length : Int) ≤ l) : SpV (spReqChoices K) [.ref a, .ref b, .int l] H .non := fun H1 e Q q E => ⟨a, b, rs, hist, l, rfl, ex_l e hS, ex_l e hC, hh, hl, q⟩
def wn (rs hist : List Int) (n : Nat) : List Int := (List.range (n + 1)).map (tT rs hist)
theorem wn_snoc (rs hist : List Int) (n : Nat) : wn rs hist (n + 1) = wn rs hist n ++ [tT rs hist (n + 1)] := by simp [wn, List.range_succ]
theorem wn_len (rs hist : List Int) (n : Nat) : (wn rs hist n).length = n + 1 := by simp [wn]
theorem wn_last (rs hist : List Int) (n : Nat) : atI (iV (wn rs hist n)) (-1) = some (.int (tT rs hist n)) := by
  cases n with
  | zero => rfl
  | succ n =>
    rw [wn_snoc, iV_append]
    exact atI_end
theorem sc_word_numbers : FnScope ["schedule", "choices", "found", "entry", "chosen"] ["schedule", "choices"] (defScope s_word_numbers) := ⟨rfl, rfl, rfl, by decide +kernel, rfl, by decide +kernel, by decide +kernel⟩
def spWordNumbers (K : PySem.W.Frag) : Sp := fun vs H Q _ => ∃ (a b : Addr) (rs hist : List Int), vs = [.ref a, .ref b] ∧ SqL K H a (iV rs) ∧ SqL K H b (iV hist) ∧ Sched rs ∧ hist.length ≤ rs.length ∧ rs.length ≤ 200 ∧ ∀ p H', H p = none → Ex H H' → H' p = some (.lst (iV (wn rs hist hist.length))) → Q (.ref p) H'
theorem ok_word_numbers (T : Tx K mg) : Ok P w K mg base 1 "word_numbers" ["schedule", "choices"] (spWordNumbers K) := by
  obtain ⟨fd, F⟩ := T.d_word_numbers
  refine ⟨fd, F.ok sc_word_numbers (fun vs H Q E h => ?_) (fun cdv A outer s H vs Q E hr h => ?_), F.bindsN (fun _ _ _ _ _ _ us hl => match us, hl with | [_, _], _ => rfl), F.kp, T.g_word_numbers⟩
  · obtain ⟨a, b, rs, hist, rfl, _⟩ := h
    rfl
  · obtain ⟨a, b, rs, hist, rfl, hS, hC, hs, hl, hl2, q⟩ := h
    refine ⟨_, PSs.nox (pss_cons (ps_set (i := 2) sc_word_numbers.nd rfl (.inl rfl) (pe_lst (pa_cons pe_int pa_nil)))
      (pss_cons (ps_for PassesOwn.never rfl (pi_zipFK (by rfl) T.f_zip (pa_cons (pv 0) (pa_cons (pv 1) pa_nil))) (pg_tupK (n := 2) rfl (pgs_cons (pg_name (i := 3) sc_word_numbers.nd rfl (.inl rfl)) (pgs_cons (pg_name (i := 4) sc_word_numbers.nd rfl (.inl rfl)) pgs_nil))) (pss_one (ps_expr (pe_bmK PySem.F.plainAttrs_list PySem.F.slot_list_append PySem.F.type_list_append mt_append (pv 2) (pa_cons (pe_op op_add (pe_op op_mul (pe_ix ix_listK (pv 2) (pe_un un_neg pe_int) (fun _ _ => rfl)) (pv 3)) (pv 4)) pa_nil)))))
      (pss_one (ps_ret (pv 2))))), ?_⟩
    refine q_asgL (el_lst (ea_cons ev_c ea_nil) (by decide)) fun p H1 hp e1 h1 => ?_
    refine q_for (evj_zip2 (k1 := true) (k2 := true) (ea_cons (ev_var rfl) (ea_cons (ev_var rfl) ea_nil)) (ex_l e1 hS) (ex_l e1 hC)) (walk_zipK (n := hist.length) (xs := iV rs) (ys := iV hist) (by rw [iV_len, iV_len]; omega)) (fun i σ' H' => ∃ y z, σ' = [some (.ref a), some (.ref b), some (.ref p), y, z] ∧ Ex H H' ∧ H' p = some (.lst (iV (wn rs hist i)))) (fun H2 e2 => ⟨_, _, rfl, e1.trans e2, e2 _ _ h1⟩)
      (fun i σ' H' hi z => ?_) (fun i x σ' H2 H3 hi z y => ?_) fun σ' H' z => ?_
    · obtain ⟨_, _, _, e, _⟩ := z
      exact ⟨ex_l e hS, ex_l e hC⟩
    · obtain ⟨_, _, rfl, e, h2⟩ := z
      obtain ⟨T, x1, x2, rfl, hT2, rfl, hx1, hx2⟩ := y
      obtain ⟨r, hr1, rfl⟩ := iV_get hx1
      obtain ⟨c, hc1, rfl⟩ := iV_get hx2
      have hb := hs r (List.mem_of_getElem? hr1)
      refine ⟨T, [.int r, .int c], rfl, st_of upd_same, rfl, .int r, _, rfl, _, [], rfl, rfl, ?_⟩
      have e4 := Ex.new (o := .tup [.int r, .int c]) hT2
      refine s_app (e4 _ _ h2) (ev_var rfl) (ev_op (ev_op (ev_op (ev_var rfl) (ev_un ev_c ru_neg) (rv_ixL (v := .int (tT rs hist i)) (sq_of (e4 _ _ h2)) (wn_last _ _ _))) (ev_var rfl) (rv_mul (.inr ⟨by omega, by omega⟩))) (ev_var rfl) rv_I0) ?_ fun H5 e5 => ⟨_, _, rfl, ?_, ?_⟩
      · rw [iV_len, wn_len]; omega
      · exact Ex.mut ((e.trans e4).trans e5) hp
      · rw [upd_same, wn_snoc, iV_append]
        show _ = some (HO.lst (iV (wn rs hist i) ++ [V.int (tT rs hist i * at0 rs i + at0 hist i)]))
        rw [at0_get hr1, at0_get hc1]
    · obtain ⟨_, _, rfl, e, h2⟩ := z
      exact s_ret (ev_var rfl) fun H2 e2 => q p H2 hp (e.trans e2) (e2 _ _ h2)
theorem l_wordNumbers {a b : Addr} {rs hist : List Int} {H : Hp} (hS : SqL K H a (iV rs)) (hC : SqL K H b (iV hist)) (hs : Sched rs) (hl : hist.length ≤ rs.length) (hl2 : rs.length ≤ 200) : SpL (spWordNumbers K) [.ref a, .ref b] H (iV (wn rs hist hist.length)) := fun H1 e Q q E => ⟨a, b, rs, hist, rfl, ex_l e hS, ex_l e hC, hs, hl, hl2, q⟩
theorem sc_climbers_between : FnScope ["size", "row", "start", "length", "distance", "first", "count", "turns", "rest", "place", "inside"] ["size", "row", "start", "length"] (defScope s_climbers_between) := ⟨rfl, rfl, rfl, by decide +kernel, rfl, by decide +kernel, by decide +kernel⟩
def spBetw (K : PySem.W.Frag) : Sp := fun vs H Q _ => ∃ (b : Addr) (size start L : Int) (r : Row), vs = [.int size, .ref b, .int start, .int L] ∧ SqT K H b (iV (rowL r)) ∧ 0 < size ∧ size < 1073741824 ∧ 0 ≤ L ∧ L < 1073741824 ∧ ∀ H', Ex H H' → Q (.int (cbF size r.2.1 r.2.2 start L)) H'
theorem ok_climbers_between (T : Tx K mg) : Ok P w K mg base 1 "climbers_between" ["size", "row", "start", "length"] (spBetw K) := by
  obtain ⟨fd, F⟩ := T.d_climbers_between
  refine ⟨fd, F.ok sc_climbers_between (fun vs H Q E h => ?_) (fun cdv A outer s H vs Q E hr h => ?_), F.bindsN (fun _ _ _ _ _ _ us hl => match us, hl with | [_, _, _, _], _ => rfl), F.kp, T.g_climbers_between⟩
  · obtain ⟨b, size, start, L, r, rfl, _⟩ := h
    rfl
  · obtain ⟨b, size, start, L, ⟨d, f, c⟩, rfl, hT, h0, h1, l0, l1, q⟩ := h
    refine ⟨_, PSs.nox (pss_cons (ps_asg (pv 1) (pg_tupK (n := 3) rfl (pgs_cons (pg_name (i := 4) sc_climbers_between.nd rfl (.inl rfl)) (pgs_cons (pg_name (i := 5) sc_climbers_between.nd rfl (.inl rfl)) (pgs_cons (pg_name (i := 6) sc_climbers_between.nd rfl (.inl rfl)) pgs_nil)))))
      (pss_cons (ps_par (i := 7) (j := 8) rfl sc_climbers_between.nd rfl rfl (by decide) rfl rfl (pa_cons (pe_op op_fdiv (pv 6) (pv 0)) (pa_cons (pe_op op_mod (pv 6) (pv 0)) pa_nil)) (by rfl))
      (pss_cons (ps_set (i := 9) sc_climbers_between.nd rfl (.inl rfl) (pe_op op_mod (pe_op op_sub (pv 2) (pv 5)) (pv 0)))
      (pss_cons (ps_set (i := 10) sc_climbers_between.nd rfl (.inl rfl) (pe_callB (call_max2 rfl) (by rfl) T.f_max bb_max (pa_cons pe_int (pa_cons (pe_op op_sub (pe_callB (call_min2 rfl) (by rfl) T.f_min bb_min (pa_cons (pv 8) (pa_cons (pe_op op_add (pv 9) (pv 3)) pa_nil))) (pv 9)) pa_nil))))
      (pss_one (ps_ret (pe_op op_add (pe_op op_add (pe_op op_mul (pv 7) (pv 3)) (pv 10)) (pe_callB (call_max2 rfl) (by rfl) T.f_max bb_max (pa_cons pe_int (pa_cons (pe_callB (call_min2 rfl) (by rfl) T.f_min bb_min (pa_cons (pv 8) (pa_cons (pe_op op_sub (pe_op op_add (pv 9) (pv 3)) (pv 0)) pa_nil))) pa_nil)))))))))), ?_⟩
    refine q_tup3 (ev_var rfl) hT fun H1 e1 => ?_
    refine q_par (ea_cons (ev_op (ev_var rfl) (ev_var rfl) (rv_div h0 h1)) (ea_cons (ev_op (ev_var rfl) (ev_var rfl) (rv_mod h0)) ea_nil)) fun H2 e2 => ?_
    refine q_asg (ev_op (ev_op (ev_var rfl) (ev_var rfl) rv_I0) (ev_var rfl) (rv_mod h0)) fun H3 e3 => ?_
    refine q_asg (ev_max ev_c (ev_op (ev_min (ev_var rfl) (ev_op (ev_var rfl) (ev_var rfl) rv_I0)) (ev_var rfl) rv_I0)) fun H4 e4 => ?_
    exact s_ret (ev_op (ev_op (ev_op (ev_var rfl) (ev_var rfl) (rv_mul (.inr ⟨by omega, by omega⟩))) (ev_var rfl) rv_I0) (ev_max ev_c (ev_min (ev_var rfl) (ev_op (ev_op (ev_var rfl) (ev_var rfl) rv_I0) (ev_var rfl) rv_I0))) rv_I0) fun H5 e5 => q H5 ((((e1.trans e2).trans e3).trans e4).trans e5)
theorem v_betw {b : Addr} {size start L : Int} {r : Row} {H : Hp} (hT : SqT K H b (iV (rowL r))) (h0 : 0 < size) (h1 : size < 1073741824) (l0 : 0 ≤ L) (l1 : L < 1073741824) : SpV (spBetw K) [.int size, .ref b, .int start, .int L] H (.int (cbF size r.2.1 r.2.2 start L)) :=
  fun H1 e Q q E => ⟨b, size, start, L, r, rfl, ex_t e hT, h0, h1, l0, l1, q⟩
end
end SC

/-! part F5 -/
set_option Elab.async false
set_option linter.all false
set_option maxRecDepth 100000
set_option maxHeartbeats 4000000
namespace SC
open PySem PySem.Spec PyProof.Rows L2 Evl
section
variable {P : Program} {w : World} {K : PySem.W.Frag} {mg : Str → Option Value} {base : Heap}
theorem mod_step {t p r : Int} (hp : 0 < p) (h : 0 < r) : t % p * r % (p * r) = t * r % (p * r) := by
  rw [(scale_mod (t := t) hp h).2]
  have h1 := Int.emod_nonneg t (show p ≠ 0 by omega)
  have h2 := Int.emod_lt_of_pos t hp
  exact Int.emod_eq_of_lt (Int.mul_nonneg h1 (by omega)) (Int.mul_lt_mul_of_pos_right h2 h)
theorem cut_len (cs : List Int) (n : Nat) : cutV (iV cs) none (some (n : Int)) = iV (cs.take n) := by rw [cut_to]; show (cs.map V.int).take n = (cs.take n).map V.int; rw [List.map_take]
theorem rt_snoc {rs cs : List Int} {m : Nat} : mkRows rs cs (m + 1) = mkRows rs cs m ++ if 0 < at0 cs m then [(m + 1, tT rs cs m * at0 rs m % pp rs (m + 1), at0 cs m)] else [] := rfl
theorem sc_make_plan : FnScope ["schedule", "counts", "sizes", "found", "first", "distance", "count"] ["schedule", "counts"] (defScope s_make_plan) := ⟨rfl, rfl, rfl, by decide +kernel, rfl, by decide +kernel, by decide +kernel⟩
def spMakePlan (K : PySem.W.Frag) : Sp := fun vs H Q _ => ∃ (a b : Addr) (rs cs : List Int), vs = [.ref a, .ref b] ∧ SqL K H a (iV rs) ∧ SqT K H b (iV cs) ∧ Sched rs ∧ rs.length ≤ 8 ∧ NN cs ∧ cs.length ≤ 200 ∧ ∀ v H', Ex H H' → LTAt K ((mkAll rs cs).map rowL) v H' → Q v H'
theorem ok_make_plan (T : Tx K mg) : Ok P w K mg base 5 "make_plan" ["schedule", "counts"] (spMakePlan K) := by
  have O_require_schedule := ok_require_schedule (P := P) (w := w) (base := base) T
  have O_require_counts := ok_require_counts (P := P) (w := w) (base := base) T
  have O_products := ok_products (P := P) (w := w) (base := base) T
  obtain ⟨fd, F⟩ := T.d_make_plan
  refine ⟨fd, F.ok sc_make_plan (fun vs H Q E h => ?_) (fun cdv A outer s H vs Q E hr h => ?_), F.bindsN (fun _ _ _ _ _ _ us hl => match us, hl with | [_, _], _ => rfl), F.kp, T.g_make_plan⟩
  · obtain ⟨a, b, rs, cs, rfl, _⟩ := h
    rfl
  · obtain ⟨a, b, rs, cs, rfl, hS, hT, hs, hl, hnn, hcl, q⟩ := h
    refine ⟨_, PSs.nox (pss_cons (ps_expr (pe_ok O_require_schedule (hr.mono (by decide)) (by rfl) (pa_cons (pv 0) pa_nil)))
      (pss_cons (ps_expr (pe_ok O_require_counts (hr.mono (by decide)) (by rfl) (pa_cons (pv 1) pa_nil)))
      (pss_cons (ps_set (i := 2) sc_make_plan.nd rfl (.inl rfl) (pe_ok O_products (hr.mono (by decide)) (by rfl) (pa_cons (pv 0) pa_nil)))
      (pss_cons (ps_par (i := 3) (j := 4) rfl sc_make_plan.nd rfl rfl (by decide) rfl rfl (pa_cons (pe_lst pa_nil) (pa_cons pe_int pa_nil)) (by rfl))
      (pss_cons (ps_for PassesOwn.never rfl (pi_enum2K (k0 := 1) (by rfl) T.f_enumerate (pa_cons (pe_slice sl_tupK (pv 1) po_none (po_some (pe_callB call_lenK (by rfl) T.f_len bb_len (pa_cons (pv 0) pa_nil)))) (pa_cons pe_int pa_nil))) (pg_tupK (n := 2) rfl (pgs_cons (pg_name (i := 5) sc_make_plan.nd rfl (.inl rfl)) (pgs_cons (pg_name (i := 6) sc_make_plan.nd rfl (.inl rfl)) pgs_nil))) (pss_cons (ps_set (i := 4) sc_make_plan.nd rfl (.inl rfl) (pe_op op_mod (pe_op op_mul (pv 4) (pe_ix ix_listK (pv 0) (pe_op op_sub (pv 5) pe_int) (fun _ _ => rfl))) (pe_ix ix_listK (pv 2) (pv 5) (fun _ _ => rfl))))
      (pss_cons (ps_if (pt_cmpR op_gt (pv 6) pe_int (nomark _)) (pss_one (ps_expr (pe_bmK PySem.F.plainAttrs_list PySem.F.slot_list_append PySem.F.type_list_append mt_append (pv 3) (pa_cons (pe_tup (pa_cons (pv 5) (pa_cons (pv 4) (pa_cons (pv 6) pa_nil)))) pa_nil)))) pss_nil)
      (pss_one (ps_set (i := 4) sc_make_plan.nd rfl (.inl rfl) (pe_op op_mod (pe_op op_add (pv 4) (pv 6)) (pe_ix ix_listK (pv 2) (pv 5) (fun _ _ => rfl))))))))
      (pss_one (ps_ret (pv 3)))))))), ?_⟩
    refine q_drop (ev_call (ea_cons (ev_var rfl) ea_nil) (v_reqSched hS (by omega) fun x hx => (hs x hx).1)) fun H1 e1 => ?_
    refine q_drop (ev_call (ea_cons (ev_var rfl) ea_nil) (v_reqCounts (ex_t e1 hT) hcl hnn)) fun H2 e2 => ?_
    refine q_asgL (el_call (ea_cons (ev_var rfl) ea_nil) (l_products (ex_l (e1.trans e2) hS) hs (by omega))) fun p H3 hp e3 h3 => ?_
    refine q_parP (ep_consL (el_lst ea_nil (by decide)) (ep_cons ev_c ep_nil)) fun vs H4 e4 z => ?_
    obtain ⟨f, r0, rfl, hf0, hf, r1, rfl, rfl⟩ := z
    refine ⟨_, _, rfl, ?_⟩
    have e := ((e1.trans e2).trans e3).trans e4
    have hf1 : H f = none := fresh_back ((e1.trans e2).trans e3) hf0
    have hpf : p ≠ f := fun z => by rw [z, hf0] at h3; cases h3
    have hxl : (cs.take rs.length).length = min cs.length rs.length := by rw [List.length_take, Nat.min_comm]
    refine q_forEnumT (k0 := 1) (xs := iV (cs.take rs.length)) (fun H5 e5 Q qq => ep_consX (ex_slT (ev_var rfl) eo_none (eo_some (ev_lenL (ev_var rfl) (ex_l e hS))) (ex_t e hT)) TupAt.mono (ep_cons ev_c ep_nil) H5 e5 Q fun vs H6 e6 z => qq vs H6 e6 ?_) (by omega)
      (fun a' m σ' H' => ∃ y z as, σ' = [some (.ref a), some (.ref b), some (.ref p), some (.ref f), some (.int (tT rs cs m % pp rs m)), y, z] ∧ Ex H H' ∧ H' p = some (.lst (iV (pl rs rs.length))) ∧ H' f = some (.lst (as.map V.ref)) ∧ AllT K H' as ((mkRows rs cs m).map rowL) ∧ SqT K H' a' (iV (cs.take rs.length))) (fun a' H5 e5 hT5 => ?_) (fun a' m σ' H' z => ?_) (fun a' m x σ' H5 hx z T hT5 => ?_) fun a' σ' H' z => ?_
    · obtain ⟨v, r, rfl, hv, r2, rfl, rfl⟩ := z
      refine ⟨v, _, rfl, ?_, rfl⟩
      rw [iV_len, cut_len] at hv
      exact hv
    · exact ⟨_, _, [], rfl, e.trans e5, e5 _ _ (e4 _ _ h3), e5 _ _ hf, trivial, hT5⟩
    · obtain ⟨_, _, _, _, _, _, _, _, hT5⟩ := z
      exact hT5
    · obtain ⟨_, _, as, rfl, e6, hp6, hf6, hA6, hT6⟩ := z
      obtain ⟨c, hc, rfl⟩ := iV_get hx
      have hm := (List.getElem?_eq_some_iff.mp hc).1
      rw [hxl] at hm
      have hcm : at0 cs m = c := by
        rw [List.getElem?_take_of_lt (by omega)] at hc
        exact at0_get hc
      have hb := hs _ (at0_mem (show m < rs.length by omega))
      have hP := pp_pos hs m
      have hP1 := pp_pos hs (m + 1)
      have eT := Ex.new (o := .tup [.int (1 + (m : Int)), .int c]) hT5
      have hl6 : as.length ≤ 8 := by
        rw [hA6.length, List.length_map]
        have := mkRows_len rs cs m
        omega
      refine q_asg (v := .int (tT rs cs m * at0 rs m % pp rs (m + 1))) (ev_is (ev_op (ev_op (ev_var rfl) (ev_ixL (j := m) (ev_var rfl) (ev_is (ev_op (ev_var rfl) ev_c rv_I0) (by congr 1; omega)) (ex_l (e6.trans eT) hS) (iV_at (at0_some (by omega)))) (rv_mul (.inr ⟨by omega, by omega⟩))) (ev_ixL (j := m + 1) (ev_var rfl) (ev_is (ev_var rfl) (by congr 1; omega)) (sq_of (eT _ _ hp6)) (iV_at (pl_get (by omega)))) (rv_mod hP1)) ?_) fun H7 e7 => ?_
      · show V.int (tT rs cs m % pp rs m * at0 rs m % pp rs (m + 1)) = _
        rw [pp_succ (by omega), mod_step hP (by omega)]
      have hn : (tT rs cs m * at0 rs m % pp rs (m + 1) + c) % pp rs (m + 1) = tT rs cs (m + 1) % pp rs (m + 1) := by
        rw [Int.emod_add_emod, ← hcm]
        rfl
      have e8 := eT.trans e7
      refine q_if (b := decide (c > 0)) (et_test (ev_op (ev_var rfl) ev_c rv_I0)) (fun hb2 H8 e9 => ?_) (fun hb2 H8 e9 => ?_)
      · have hc0 := of_decide_eq_true hb2
        have e10 := e8.trans e9
        refine s_appU (xs := as.map V.ref) (ys := iV (rowL (m + 1, tT rs cs m * at0 rs m % pp rs (m + 1), c))) (e10 _ _ hf6) (ev_var rfl) (eu_tup (ea_cons (ev_is (ev_var rfl) (by congr 1; omega)) (ea_cons (ev_var rfl) (ea_cons (ev_var rfl) ea_nil))) (by simp)) (by rw [List.length_map]; omega) fun p2 H9 hp2 e11 h9 => ?_
        have e12 := e10.trans e11
        have hne : p ≠ f := hpf
        refine s_asg (ev_is (ev_op (ev_op (ev_var rfl) (ev_var rfl) rv_I0) (ev_ixL (j := m + 1) (ev_var rfl) (ev_is (ev_var rfl) (by congr 1; omega)) (sq_of (by rw [upd_ne hne]; exact e12 _ _ hp6)) (iV_at (pl_get (by omega)))) (rv_mod hP1)) (by rw [hn])) fun H10 e13 => ?_
        refine ⟨_, _, as ++ [p2], rfl, (Ex.mut (e6.trans e12) hf1).trans e13, ?_, ?_, ?_, ?_⟩
        · exact e13 _ _ (by rw [upd_ne hne]; exact e12 _ _ hp6)
        · exact e13 _ _ (by rw [upd_same, List.map_append]; rfl)
        · rw [rt_snoc, if_pos (by omega), List.map_append, hcm]
          exact ((allT_upd (e12 _ _ hf6) ((hA6.mono e12).snoc (st_of h9))).mono e13)
        · exact ex_t e13 (sqT_upd (ex_t e12 hT6) (e12 _ _ hf6))
      · have hc0 := of_decide_eq_false hb2
        have e10 := e8.trans e9
        refine s_asg (ev_is (ev_op (ev_op (ev_var rfl) (ev_var rfl) rv_I0) (ev_ixL (j := m + 1) (ev_var rfl) (ev_is (ev_var rfl) (by congr 1; omega)) (sq_of (e10 _ _ hp6)) (iV_at (pl_get (by omega)))) (rv_mod hP1)) (by rw [hn])) fun H10 e13 => ?_
        refine ⟨_, _, as, rfl, (e6.trans e10).trans e13, (e10.trans e13) _ _ hp6, (e10.trans e13) _ _ hf6, ?_, ex_t (e10.trans e13) hT6⟩
        rw [rt_snoc, if_neg (by omega), List.append_nil]
        exact hA6.mono (e10.trans e13)
    · obtain ⟨_, _, as, rfl, e6, hp6, hf6, hA6, hT6⟩ := z
      rw [iV_len, hxl] at hA6
      exact s_ret (ev_var rfl) fun H7 e7 => q _ H7 (e6.trans e7) ⟨f, rfl, as, sq_of (e7 _ _ hf6), hA6.mono e7⟩
theorem x_makePlan {a b : Addr} {rs cs : List Int} {H : Hp} (hS : SqL K H a (iV rs)) (hT : SqT K H b (iV cs)) (hs : Sched rs) (hl : rs.length ≤ 8) (hn : NN cs) (hcl : cs.length ≤ 200) : SpX (spMakePlan K) [.ref a, .ref b] H (LTAt K ((mkAll rs cs).map rowL)) :=
  fun H1 e Q q E => ⟨a, b, rs, cs, rfl, ex_l e hS, ex_t e hT, hs, hl, hn, hcl, q⟩
theorem sc_check_plan : FnScope ["schedule", "counts", "plan", "totals", "distance", "first", "count", "due"] ["schedule", "counts", "plan"] (defScope s_check_plan) := ⟨rfl, rfl, rfl, by decide +kernel, rfl, by decide +kernel, by decide +kernel⟩
def spCheckPlan (K : PySem.W.Frag) : Sp := fun vs H Q _ => ∃ (a b c : Addr) (rs cs : List Int) (rows : List Row), vs = [.ref a, .ref b, .ref c] ∧ SqL K H a (iV rs) ∧ SqT K H b (iV cs) ∧ LT K H c (rows.map rowL) ∧ Sched rs ∧ rs.length ≤ 200 ∧ NN cs ∧ cs.length ≤ 200 ∧ PlanOk rs cs rows ∧ ∀ H', Ex H H' → Q .non H'
def totL (rs : List Int) (rows : List Row) : List Int := (List.range rs.length).map fun j => totR rows (j + 1)
theorem totL_len (rs : List Int) (rows : List Row) : (totL rs rows).length = rs.length := by simp [totL]
theorem totL_get {rs : List Int} {rows : List Row} {j : Nat} (h : j < rs.length) : (totL rs rows)[j]? = some (totR rows (j + 1)) := by simp [totL, h]
theorem totR_snoc (rows : List Row) (r : Row) (d : Nat) : totR (rows ++ [r]) d = totR rows d + if r.1 = d then r.2.2 else 0 := by
  unfold totR
  rw [List.map_append, List.sum_append]
  simp
theorem totL_set {rs : List Int} {rows : List Row} {r : Row} (ok : RowOk rs r) : (totL rs rows).set (r.1 - 1) (totR rows r.1 + r.2.2) = totL rs (rows ++ [r]) := by
  apply List.ext_getElem?
  intro j
  have h1 := ok.1
  have h2 := ok.2.1
  by_cases hj : j < rs.length
  · rw [totL_get hj, totR_snoc]
    by_cases e : r.1 - 1 = j
    · have e2 : r.1 = j + 1 := by omega
      rw [if_pos e2, ← e, List.getElem?_set_self (by rw [totL_len]; omega), e2]
      rfl
    · rw [if_neg (by omega), List.getElem?_set_ne e, totL_get hj, Int.add_zero]
  · rw [List.getElem?_eq_none (by rw [List.length_set, totL_len]; omega), List.getElem?_eq_none (by rw [totL_len]; omega)]
theorem totL_all {rs cs : List Int} {rows : List Row} (p : PlanOk rs cs rows) : totL rs rows = cs.take rs.length ++ List.replicate (rs.length - (cs.take rs.length).length) 0 := by
  apply ext_getD
  · rw [totL_len, List.length_append, List.length_replicate, List.length_take]; omega
  · intro i hi
    rw [totL_len] at hi
    have h1 : (totL rs rows).getD i 0 = at0 cs i := by
      show at0 (totL rs rows) i = _
      rw [at0_get (totL_get hi), p.tot (i + 1) (by omega) (by omega)]
      rfl
    rw [h1]
    show _ = at0 (cs.take rs.length ++ _) i
    by_cases hc : i < cs.length
    · rw [at0_append_l (by rw [List.length_take]; omega)]
      unfold at0
      rw [List.getD_eq_getElem?_getD, List.getD_eq_getElem?_getD, List.getElem?_take_of_lt hi]
    · rw [at0_out (by omega)]
      unfold at0
      rw [List.getD_eq_getElem?_getD, List.getElem?_append_right (by rw [List.length_take]; omega), List.getElem?_replicate]
      split <;> rfl
theorem ok_check_plan (T : Tx K mg) : Ok P w K mg base 5 "check_plan" ["schedule", "counts", "plan"] (spCheckPlan K) := by
  have O_require_schedule := ok_require_schedule (P := P) (w := w) (base := base) T
  have O_require_counts := ok_require_counts (P := P) (w := w) (base := base) T
  have O_require_plan := ok_require_plan (P := P) (w := w) (base := base) T
  obtain ⟨fd, F⟩ := T.d_check_plan
  refine ⟨fd, F.ok sc_check_plan (fun vs H Q E h => ?_) (fun cdv A outer s H vs Q E hr h => ?_), F.bindsN (fun _ _ _ _ _ _ us hl => match us, hl with | [_, _, _], _ => rfl), F.kp, T.g_check_plan⟩
  · obtain ⟨a, b, c, rs, cs, rows, rfl, _⟩ := h
    rfl
  · obtain ⟨a, b, c, rs, cs, rows, rfl, hS, hT, hR, hs, hl, hnn, hcl, ok, q⟩ := h
    obtain ⟨as, hA, hal, hAll⟩ := hR.at
    refine ⟨_, PSs.nox (pss_cons (ps_expr (pe_ok O_require_schedule (hr.mono (by decide)) (by rfl) (pa_cons (pv 0) pa_nil)))
      (pss_cons (ps_expr (pe_ok O_require_counts (hr.mono (by decide)) (by rfl) (pa_cons (pv 1) pa_nil)))
      (pss_cons (ps_expr (pe_ok O_require_plan (hr.mono (by decide)) (by rfl) (pa_cons (pv 0) (pa_cons (pv 2) pa_nil))))
      (pss_cons (ps_set (i := 3) sc_check_plan.nd rfl (.inl rfl) (pe_op op_rep (pe_lst (pa_cons pe_int pa_nil)) (pe_callB call_lenK (by rfl) T.f_len bb_len (pa_cons (pv 0) pa_nil))))
      (pss_cons (ps_for PassesOwn.never rfl (pi_listK (pv 2)) (pg_tupK (n := 3) rfl (pgs_cons (pg_name (i := 4) sc_check_plan.nd rfl (.inl rfl)) (pgs_cons (pg_name (i := 5) sc_check_plan.nd rfl (.inl rfl)) (pgs_cons (pg_name (i := 6) sc_check_plan.nd rfl (.inl rfl)) pgs_nil)))) (pss_one (ps_augS (pv 3) (pe_op op_sub (pv 4) pe_int) pget_listK (pv 6) ip_add set_list)))
      (pss_cons (ps_set (i := 7) sc_check_plan.nd rfl (.inl rfl) (pe_callTy call_listK (by rfl) T.f_list bb_list (pa_cons (pe_slice sl_tupK (pv 1) po_none (po_some (pe_callB call_lenK (by rfl) T.f_len bb_len (pa_cons (pv 0) pa_nil)))) pa_nil)))
      (pss_one (ps_if (pt_cmpR (op_neDK hr.units) (pv 3) (pe_op op_cat (pv 7) (pe_op op_rep (pe_lst (pa_cons pe_int pa_nil)) (pe_op op_sub (pe_callB call_lenK (by rfl) T.f_len bb_len (pa_cons (pv 0) pa_nil)) (pe_callB call_lenK (by rfl) T.f_len bb_len (pa_cons (pv 7) pa_nil))))) (nomark _)) (pss_one ps_never) pss_nil)))))))), ?_⟩
    refine q_drop (ev_call (ea_cons (ev_var rfl) ea_nil) (v_reqSched hS (by omega) fun x hx => (hs x hx).1)) fun H1 e1 => ?_
    refine q_drop (ev_call (ea_cons (ev_var rfl) ea_nil) (v_reqCounts (ex_t e1 hT) hcl hnn)) fun H2 e2 => ?_
    refine q_drop (ev_call (ea_cons (ev_var rfl) (ea_cons (ev_var rfl) ea_nil)) (v_reqPlan (ex_l (e1.trans e2) hS) (hR.mono (e1.trans e2)) hs hl ok.row)) fun H3 e3 => ?_
    have e0 := (e1.trans e2).trans e3
    have e := e0
    refine q_asgL (el_rep1 (el_lst (ea_cons ev_c ea_nil) (by decide)) (ev_lenL (ev_var rfl) (ex_l e hS)) (by omega) (by rw [iV_len]; omega)) fun t H4 ht e4 h4 => ?_
    have h4' : H4 t = some (.lst (iV (totL rs []))) := by
      rw [h4, iV_len, Int.toNat_natCast, iV_rep]
      congr 3
      apply List.ext_getElem?
      intro j
      by_cases hj : j < rs.length
      · rw [totL_get hj]; simp [hj, totR]
      · rw [List.getElem?_eq_none (by simp; omega), List.getElem?_eq_none (by rw [totL_len]; omega)]
    refine q_for (evj_list (ev_var rfl) (ex_l (e.trans e4) hA)) (walk_list (xs := as.map V.ref)) (fun i σ' H' => ∃ y z w, σ' = [some (.ref a), some (.ref b), some (.ref c), some (.ref t), y, z, w, none] ∧ Ex H H' ∧ H' t = some (.lst (iV (totL rs (rows.take i))))) (fun H5 e5 => ⟨_, _, _, rfl, (e.trans e4).trans e5, e5 _ _ h4'⟩)
      (fun i σ' H' hi z => ?_) (fun i x σ' H5 H6 hi z y => ?_) fun σ' H' z => ?_
    · obtain ⟨_, _, _, _, e, _⟩ := z
      exact ex_l e hA
    · obtain ⟨_, _, _, rfl, e, h5⟩ := z
      obtain ⟨rfl, hx⟩ := y
      obtain ⟨ra, r, rfl, hrr, hrT⟩ := allT_row hAll hx
      have hok := ok.row r (List.mem_of_getElem? hrr)
      have h1 := hok.1
      have h2 := hok.2.1
      refine ⟨ra, iV (rowL r), rfl, ex_t e hrT, rfl, _, _, rfl, _, _, rfl, _, _, rfl, rfl, ?_⟩
      refine s_augL (j := r.1 - 1) (a := totR (rows.take i) r.1) (b := r.2.2) (ev_var rfl) h5 (ev_is (ev_op (ev_var rfl) ev_c rv_I0) ?_) ?_ (ev_var rfl) fun H7 e7 => ⟨_, _, _, rfl, ?_, ?_⟩
      · show V.int ((r.1 : Int) - 1) = V.int ((r.1 - 1 : Nat) : Int)
        congr 1
        omega
      · rw [totL_get (by omega)]
        congr 2
        omega
      · exact Ex.mut (e.trans e7) (fresh_back e0 ht)
      · rw [upd_same, totL_set hok, List.take_add_one, hrr]
        rfl
    · obtain ⟨_, _, _, rfl, e, h5⟩ := z
      have hrl : (as.map V.ref).length = rows.length := by rw [List.length_map, hal, List.length_map]
      rw [hrl, List.take_length] at h5
      refine q_asgL (xs := iV (cs.take rs.length)) (el_is (el_listX (ex_slT (ev_var rfl) eo_none (eo_some (ev_lenL (ev_var rfl) (ex_l e hS))) (ex_t e hT))) (by rw [iV_len, cut_len])) fun u H6 hu e6 h6 => ?_
      have hS6 := ex_l (e.trans e6) hS
      have h5' := e6 _ _ h5
      refine s_when (b := false) (et_test (ev_opL (ev_var rfl) (el_catVL (ev_var rfl) h6 (el_rep1 (el_lst (ea_cons ev_c ea_nil) (by decide)) (ev_op (ev_lenL (ev_var rfl) hS6) (ev_lenL (ev_var rfl) (sq_of h6)) rv_I0) ?_ ?_) ?_) fun p2 H7 hp2 e7 => rv_neSame (xs := totL rs rows) (sq_of (e7 _ _ h5')) (sq_of ?_))) (fun hb => nomatch hb) fun _ H7 e7 => q H7 ((e.trans e6).trans e7)
      · rw [iV_len, iV_len, List.length_take]; omega
      · rw [iV_len, iV_len, List.length_take]; omega
      · rw [List.length_replicate, iV_len, iV_len, List.length_take]; omega
      · rw [hp2, totL_all ok, iV_append, iV_rep, iV_len, iV_len]
        have : ((rs.length : Int) - ((cs.take rs.length).length : Int)).toNat = rs.length - (cs.take rs.length).length := by omega
        rw [this]
theorem v_checkPlan {a b c : Addr} {rs cs : List Int} {rows : List Row} {H : Hp} (hS : SqL K H a (iV rs)) (hT : SqT K H b (iV cs)) (hR : LT K H c (rows.map rowL)) (hs : Sched rs) (hl : rs.length ≤ 200) (hn : NN cs) (hcl : cs.length ≤ 200) (ok : PlanOk rs cs rows) : SpV (spCheckPlan K) [.ref a, .ref b, .ref c] H .non :=
  fun H1 e Q q E => ⟨a, b, c, rs, cs, rows, rfl, ex_l e hS, ex_t e hT, hR.mono e, hs, hl, hn, hcl, ok, q⟩
end
end SC

/-! part F6 -/
set_option Elab.async false
set_option linter.all false
set_option maxRecDepth 100000
set_option maxHeartbeats 4000000
namespace SC
open PySem PySem.Spec PyProof.Rows L2 Evl
section
variable {P : Program} {w : World} {K : PySem.W.Frag} {mg : Str → Option Value} {base : Heap}
theorem iV_drop (xs : List Int) (n : Nat) : (iV xs).drop n = iV (xs.drop n) := by show (xs.map V.int).drop n = (xs.drop n).map V.int; rw [List.map_drop]
theorem evi_n {wi : TI} {σ : L2.St} {H : Hp} {m n : Nat} {Y : Nat → Hp → V → Hp → Prop} (h : EvI wi σ H m Y) (e : m = n) : EvI wi σ H n Y := by subst e; exact h
theorem sc_split_of : FnScope ["schedule", "counts", "plan", "choices", "done", "sizes", "numbers", "found", "row", "length", "group", "entries", "start", "index", "chosen"] ["schedule", "counts", "plan", "choices"] (defScope s_split_of) := ⟨rfl, rfl, rfl, by decide +kernel, rfl, by decide +kernel, by decide +kernel⟩
def spSplitOf (K : PySem.W.Frag) : Sp := fun vs H Q _ => ∃ (a b c d : Addr) (rs cs hist : List Int) (rows : List Row), vs = [.ref a, .ref b, .ref c, .ref d] ∧ SqL K H a (iV rs) ∧ SqT K H b (iV cs) ∧ LT K H c (rows.map rowL) ∧ SqL K H d (iV hist) ∧
  Sched rs ∧ rs.length ≤ 8 ∧ NN cs ∧ cs.length ≤ 200 ∧ PlanOk rs cs rows ∧ HistOk rs hist ∧ hist.length < rs.length ∧ ∀ v H', Ex H H' → LTAt K (planS rs cs rows hist) v H' → Q v H'
theorem ok_split_of (T : Tx K mg) : Ok P w K mg base 6 "split_of" ["schedule", "counts", "plan", "choices"] (spSplitOf K) := by
  have O_require_rounds := ok_require_rounds (P := P) (w := w) (base := base) T
  have O_check_plan := ok_check_plan (P := P) (w := w) (base := base) T
  have O_require_choices := ok_require_choices (P := P) (w := w) (base := base) T
  have O_require_small_round := ok_require_small_round (P := P) (w := w) (base := base) T
  have O_word_numbers := ok_word_numbers (P := P) (w := w) (base := base) T
  have O_products := ok_products (P := P) (w := w) (base := base) T
  have O_climbers_between := ok_climbers_between (P := P) (w := w) (base := base) T
  obtain ⟨fd, F⟩ := T.d_split_of
  refine ⟨fd, F.ok sc_split_of (fun vs H Q E h => ?_) (fun cdv A outer s H vs Q E hr h => ?_), F.bindsN (fun _ _ _ _ _ _ us hl => match us, hl with | [_, _, _, _], _ => rfl), F.kp, T.g_split_of⟩
  · obtain ⟨a, b, c, d, rs, cs, hist, rows, rfl, _⟩ := h
    rfl
  · obtain ⟨a, b, c, d, rs, cs, hist, rows, rfl, hS, hT, hR, hC, hs, hl, hnn, hcl, ok, hh, hlt, q⟩ := h
    obtain ⟨ras, hA, hal, hAll⟩ := hR.at
    have hk := hs _ (at0_mem hlt)
    have hkd : rs.drop hist.length = at0 rs hist.length :: rs.drop (hist.length + 1) := drop_eq hlt
    refine ⟨_, PSs.nox (pss_cons (ps_expr (pe_ok O_require_rounds (hr.mono (by decide)) (by rfl) (pa_cons (pv 0) pa_nil)))
      (pss_cons (ps_expr (pe_ok O_check_plan (hr.mono (by decide)) (by rfl) (pa_cons (pv 0) (pa_cons (pv 1) (pa_cons (pv 2) pa_nil)))))
      (pss_cons (ps_expr (pe_ok O_require_choices (hr.mono (by decide)) (by rfl) (pa_cons (pv 0) (pa_cons (pv 3) (pa_cons (pe_op op_sub (pe_callB call_lenK (by rfl) T.f_len bb_len (pa_cons (pv 0) pa_nil)) pe_int) pa_nil)))))
      (pss_cons (ps_set (i := 4) sc_split_of.nd rfl (.inl rfl) (pe_callB call_lenK (by rfl) T.f_len bb_len (pa_cons (pv 3) pa_nil)))
      (pss_cons (ps_expr (pe_ok O_require_small_round (hr.mono (by decide)) (by rfl) (pa_cons (pe_slice sl_listK (pv 0) (po_some (pv 4)) po_none) pa_nil)))
      (pss_cons (ps_par (i := 5) (j := 6) rfl sc_split_of.nd rfl rfl (by decide) rfl rfl (pa_cons (pe_ok O_products (hr.mono (by decide)) (by rfl) (pa_cons (pv 0) pa_nil)) (pa_cons (pe_ok O_word_numbers (hr.mono (by decide)) (by rfl) (pa_cons (pv 0) (pa_cons (pv 3) pa_nil))) pa_nil)) (by rfl))
      (pss_cons (ps_setLc (i := 7) (own := [("group", 10)]) rfl sc_split_of.nd rfl rfl (sw_true rfl rfl rfl (by decide +kernel)) (pi_range1 (by rfl) T.f_range (pa_cons (pe_ix ix_listK (pv 0) (pv 4) (fun _ _ => rfl)) pa_nil)) (blkOk_by (N := ["schedule", "counts", "plan", "choices", "done", "sizes", "numbers", "found", "row", "length", "group", "entries", "start", "index", "chosen"]) (sc := defScope s_split_of) (own := [("group", 10)]) (by decide +kernel)) (fun _ _ _ _ _ => (pg_name (i := 10) sc_split_of.nd rfl (.inl rfl))) (fun _ _ _ _ _ => pts_nil) (fun _ _ _ _ _ => (pe_op op_rep (pe_lst (pa_cons pe_int pa_nil)) (pe_callB call_lenK (by rfl) T.f_len bb_len (pa_cons (pv 1) pa_nil)))))
      (pss_cons (ps_for PassesOwn.never rfl (pi_listK (pv 2)) (pg_name (i := 8) sc_split_of.nd rfl (.inl rfl)) (pss_one (ps_if (pt_cmpR op_gt (pe_ix ix_tupK (pv 8) pe_int (fun _ _ => rfl)) (pv 4) (nomark _)) (pss_cons (ps_set (i := 9) sc_split_of.nd rfl (.inl rfl) (pe_op op_fdiv (pe_ix ix_listK (pv 5) (pe_ix ix_tupK (pv 8) pe_int (fun _ _ => rfl)) (fun _ _ => rfl)) (pe_ix ix_listK (pv 5) (pe_op op_add (pv 4) pe_int) (fun _ _ => rfl))))
      (pss_one (ps_for PassesOwn.never rfl (pi_enum1K (by rfl) T.f_enumerate (pa_cons (pv 7) pa_nil)) (pg_tupK (n := 2) rfl (pgs_cons (pg_name (i := 10) sc_split_of.nd rfl (.inl rfl)) (pgs_cons (pg_name (i := 11) sc_split_of.nd rfl (.inl rfl)) pgs_nil))) (pss_cons (ps_set (i := 12) sc_split_of.nd rfl (.inl rfl) (pe_op op_mul (pe_op op_add (pe_op op_mul (pe_ix ix_listK (pv 6) (pe_un un_neg pe_int) (fun _ _ => rfl)) (pe_ix ix_listK (pv 0) (pv 4) (fun _ _ => rfl))) (pv 10)) (pv 9)))
      (pss_one (ps_augS (pv 11) (pe_op op_sub (pe_op op_sub (pe_ix ix_tupK (pv 8) pe_int (fun _ _ => rfl)) (pv 4)) pe_int) pget_listK (pe_ok O_climbers_between (hr.mono (by decide)) (by rfl) (pa_cons (pe_ix ix_listK (pv 5) (pe_ix ix_tupK (pv 8) pe_int (fun _ _ => rfl)) (fun _ _ => rfl)) (pa_cons (pv 8) (pa_cons (pv 12) (pa_cons (pv 9) pa_nil))))) ip_add set_list)))))) pss_nil)))
      (pss_cons (ps_if (pt_val (pe_callB (cr_allK rfl) (by rfl) T.f_all bb_all (pa_cons (pe_lc (own := [("chosen", 14)]) rfl sc_split_of.nd (pi_listK (pv 3)) (blkOk_by (N := ["schedule", "counts", "plan", "choices", "done", "sizes", "numbers", "found", "row", "length", "group", "entries", "start", "index", "chosen"]) (sc := defScope s_split_of) (own := [("chosen", 14)]) (by decide +kernel)) (fun _ _ _ _ _ => (pg_name (i := 14) sc_split_of.nd rfl (.inl rfl))) (fun _ _ _ _ _ => pts_nil) (fun _ _ _ _ _ => (pe_cmpR op_eq (pv 14) pe_int (nomark _)))) pa_nil))) (pss_one (ps_for PassesOwn.never rfl (pi_range2 (by rfl) T.f_range (pa_cons (pe_callB call_lenK (by rfl) T.f_len bb_len (pa_cons (pv 0) pa_nil)) (pa_cons (pe_callB call_lenK (by rfl) T.f_len bb_len (pa_cons (pv 1) pa_nil)) pa_nil))) (pg_name (i := 13) sc_split_of.nd rfl (.inl rfl)) (pss_one (ps_augS (pe_ix ix_listK (pv 7) pe_int (fun _ _ => rfl)) (pe_op op_sub (pv 13) (pv 4)) pget_listK (pe_ix ix_tupK (pv 1) (pv 13) (fun _ _ => rfl)) ip_add set_list)))) pss_nil)
      (pss_one (ps_ret (pe_lc (own := [("entries", 11)]) rfl sc_split_of.nd (pi_listK (pv 7)) (blkOk_by (N := ["schedule", "counts", "plan", "choices", "done", "sizes", "numbers", "found", "row", "length", "group", "entries", "start", "index", "chosen"]) (sc := defScope s_split_of) (own := [("entries", 11)]) (by decide +kernel)) (fun _ _ _ _ _ => (pg_name (i := 11) sc_split_of.nd rfl (.inl rfl))) (fun _ _ _ _ _ => pts_nil) (fun _ _ _ _ _ => (pe_callTy call_tupK (by rfl) T.f_tuple bb_tuple (pa_cons (pv 11) pa_nil))))))))))))))), ?_⟩
    refine q_drop (ev_call (ea_cons (ev_var rfl) ea_nil) (v_reqRounds hS (by intro z; rw [z] at hlt; simp at hlt) (by omega) fun x hx => (hs x hx).1)) fun H1 e1 => ?_
    refine q_drop (ev_call (ea_cons (ev_var rfl) (ea_cons (ev_var rfl) (ea_cons (ev_var rfl) ea_nil))) (v_checkPlan (ex_l e1 hS) (ex_t e1 hT) (hR.mono e1) hs (by omega) hnn hcl ok)) fun H2 e2 => ?_
    have e12 := e1.trans e2
    refine q_drop (ev_call (ea_cons (ev_var rfl) (ea_cons (ev_var rfl) (ea_cons (ev_op (ev_lenL (ev_var rfl) (ex_l e12 hS)) ev_c rv_I0) ea_nil))) (v_reqChoices (ex_l e12 hS) (ex_l e12 hC) hh (by rw [iV_len]; omega))) fun H3 e3 => ?_
    have e13 := e12.trans e3
    refine q_asg (v := .int (hist.length : Int)) (ev_is (ev_lenL (ev_var rfl) (ex_l e13 hC)) (by rw [iV_len])) fun H4 e4 => ?_
    have e14 := e13.trans e4
    refine q_drop (v := .non) (ev_callP (z := .non) (ep_consL (xs := iV (rs.drop hist.length)) (el_is (el_sl (ev_var rfl) (eo_some (ev_var rfl)) eo_none (ex_l e14 hS)) (by rw [cut_from, iV_drop])) ep_nil) fun vs H5 e5 z => ?_) fun H5 e5 => ?_
    · obtain ⟨p, r, rfl, _, hp, rfl⟩ := z
      rw [hkd] at hp
      exact v_reqSmall (sq_of hp) (by omega)
    have e15 := e14.trans e5
    refine q_parP (ep_consL (el_call (ea_cons (ev_var rfl) ea_nil) (l_products (ex_l e15 hS) hs (by omega))) (ep_consL (el_call (ea_cons (ev_var rfl) (ea_cons (ev_var rfl) ea_nil)) (l_wordNumbers (ex_l e15 hS) (ex_l e15 hC) hs (by omega) (by omega))) ep_nil)) fun vs H6 e6 z => ?_
    obtain ⟨sz, r0, rfl, _, hsz, nb, r1, rfl, _, hnb, rfl⟩ := z
    refine ⟨_, _, rfl, ?_⟩
    have e16 := e15.trans e6
    have hRn : (((at0 rs hist.length).toNat : Nat) : Int) = at0 rs hist.length := by omega
    refine q_asgM (lo := 0) (n := (at0 rs hist.length).toNat) ((evj_rng1 (m := at0 rs hist.length) (ea_cons (ev_ixL (j := hist.length) (ev_var rfl) (ev_var rfl) (ex_l e16 hS) (iV_at (at0_some hlt))) ea_nil) (by omega) (by omega)).evi walk_range fun _ _ => trivial) (fun g => (List.range cs.length).map (pE rs hist [] g)) (by omega) (fun _ => rfl)
      (fun m H7 hm e7 => el_is (el_rep1 (el_lst (vs := [.int 0]) (ea_cons ev_c ea_nil) (by decide)) (ev_lenT (ev_var rfl) (ex_t (e16.trans e7) hT)) (by omega) (by rw [iV_len]; omega)) ?_) fun p as H7 M0 => ?_
    · rw [iV_len, Int.toNat_natCast, iV_rep]
      congr 1
      apply List.ext_getElem?
      intro j
      by_cases hj : j < cs.length
      · rw [row_get hj]; simp [hj, pE]
      · rw [List.getElem?_eq_none (by simp; omega), List.getElem?_eq_none (by simp; omega)]
    have hasl : as.length = (at0 rs hist.length).toNat := by rw [M0.len]; simp
    have L1 : ∀ {H'} , Ex H6 H' → SqL K H' a (iV rs) := fun e => ex_l (e16.trans e) hS
    have L3 : ∀ {H'} , Ex H6 H' → SqL K H' sz (iV (pl rs rs.length)) := fun e => sq_of (e _ _ hsz)
    have L4 : ∀ {H'} , Ex H6 H' → SqL K H' nb (iV (wn rs hist hist.length)) := fun e => sq_of (e _ _ hnb)
    refine q_for (evj_list (ev_var rfl) (ex_l (e16.trans M0.base) hA)) (walk_list (xs := ras.map V.ref)) (fun i σ' H' => ∃ y8 y9 y10 y11 y12, σ' = [some (.ref a), some (.ref b), some (.ref c), some (.ref d), some (.int (hist.length : Int)), some (.ref sz), some (.ref nb), some (.ref p), y8, y9, y10, y11, y12, none, none] ∧
      Mat H6 H' p as (mf (at0 rs hist.length).toNat cs.length (pE rs hist (rows.take i)))) (fun H8 e8 => ⟨_, _, _, _, _, rfl, M0.ext e8⟩) (fun i σ' H' hi z => ?_) (fun i x σ' H8 H9 hi z y => ?_) fun σ' H' z => ?_
    · obtain ⟨_, _, _, _, _, _, M⟩ := z
      exact ex_l (e16.trans M.base) hA
    · obtain ⟨_, _, _, _, _, rfl, M⟩ := z
      obtain ⟨rfl, hx⟩ := y
      obtain ⟨ra, r, rfl, hrr, hrT⟩ := allT_row hAll hx
      have hok := ok.row r (List.mem_of_getElem? hrr)
      have h1 := hok.1
      have h2 := hok.2.1
      have hsh := ok.short (List.mem_of_getElem? hrr)
      have htk : rows.take (i + 1) = rows.take i ++ [r] := by rw [List.take_add_one, hrr]; rfl
      have L5 : ∀ {H'} , Ex H6 H' → SqT K H' ra (iV (rowL r)) := fun e => ex_t (e16.trans e) hrT
      show tIfS _ _ _ _ _ _
      refine s_if (b := decide ((r.1 : Int) > (hist.length : Int))) (et_test (ev_op (ev_ixT (j := 0) (ev_var rfl) ev_c (L5 M.base) rfl) (ev_var rfl) rv_I0)) (fun hb H10 e10 => ?_) (fun hb H10 e10 => ?_)
      · have hb' : hist.length < r.1 := by have := of_decide_eq_true hb; omega
        have M1 := M.ext e10
        have hp0 := pp_pos hs (hist.length + 1)
        have hll := ll_pos hs (k := hist.length + 1) (d := r.1) (by omega)
        have hlu : ll rs (hist.length + 1) r.1 ≤ pp rs r.1 := Int.ediv_le_self _ (by have := pp_pos hs r.1; omega)
        have hpu : pp rs r.1 ≤ 214358881 := Int.le_trans (prd_dvd_le hs r.1) (prd_lt hs hl)
        have hpu1 : pp rs (hist.length + 1) ≤ 214358881 := Int.le_trans (prd_dvd_le hs _) (prd_lt hs hl)
        refine q_asg (v := .int (ll rs (hist.length + 1) r.1)) (ev_op (ev_ixL (j := r.1) (ev_var rfl) (ev_ixT (j := 0) (ev_var rfl) ev_c (L5 M1.base) rfl) (L3 M1.base) (iV_at (pl_get h2))) (ev_ixL (j := hist.length + 1) (ev_var rfl) (ev_op (ev_var rfl) ev_c rv_I0) (L3 M1.base) (iV_at (pl_get (by omega)))) (rv_div hp0 (Int.lt_of_le_of_lt hpu1 (by decide)))) fun H11 e11 => ?_
        have M2 := M1.ext e11
        refine s_forEnum (ea_cons (ev_var rfl) ea_nil) (sq_of M2.top) (fun m σ' H' => ∃ y10 y11 y12, σ' = [some (.ref a), some (.ref b), some (.ref c), some (.ref d), some (.int (hist.length : Int)), some (.ref sz), some (.ref nb), some (.ref p), some (.ref ra), some (.int (ll rs (hist.length + 1) r.1)), y10, y11, y12, none, none] ∧
          Mat H6 H' p as (mf (at0 rs hist.length).toNat cs.length fun g e => pE rs hist (if g < m then rows.take (i + 1) else rows.take i) g e)) (fun H12 e12 => ⟨_, _, _, rfl, M2.ext e12⟩) (fun m σ' H' z => ?_) (fun m x σ' H12 hx z T hTn => ?_) fun σ' H' z => ?_
        · obtain ⟨_, _, _, _, M⟩ := z
          exact sq_of M.top
        · obtain ⟨_, _, _, rfl, M3⟩ := z
          obtain ⟨ag, hag, rfl⟩ := ref_get hx
          have hmR : m < (at0 rs hist.length).toNat := by rw [← hasl]; exact (List.getElem?_eq_some_iff.mp hag).1
          have M4 := M3.ext (Ex.new (o := .tup [.int (m : Int), .ref ag]) hTn)
          obtain ⟨xs, hxs, hH⟩ := M4.row m ag hag
          rw [mf_get hmR] at hxs
          have hxs' := (Option.some.inj hxs).symm
          have hself : (List.range cs.length).map (fun e => pE rs hist (if m < m then rows.take (i + 1) else rows.take i) m e) = (List.range cs.length).map (pE rs hist (rows.take i) m) := by rw [if_neg (Nat.lt_irrefl m)]
          rw [hself] at hxs'
          subst hxs'
          refine q_asg (v := .int ((nm rs hist * at0 rs hist.length + (m : Int)) * ll rs (hist.length + 1) r.1)) (ev_op (ev_op (ev_op (ev_op (ev_var rfl) (ev_un ev_c ru_neg) (rv_ixL (v := .int (nm rs hist)) (L4 M4.base) (wn_last _ _ _))) (ev_ixL (j := hist.length) (ev_var rfl) (ev_var rfl) (L1 M4.base) (iV_at (at0_some hlt))) (rv_mul (.inr ⟨by omega, by omega⟩))) (ev_var rfl) rv_I0) (ev_var rfl) (rv_mul (.inr ⟨by omega, by omega⟩))) fun H13 e13 => ?_
          have M5 := M4.ext e13
          refine s_augL (j := r.1 - hist.length - 1) (a := pE rs hist (rows.take i) m (r.1 - hist.length - 1)) (b := cbR rs (nm rs hist * at0 rs hist.length + (m : Int)) (hist.length + 1) r) (ev_var rfl) (e13 _ _ hH) (ev_is (ev_op (ev_op (ev_ixT (j := 0) (ev_var rfl) ev_c (L5 M5.base) rfl) (ev_var rfl) rv_I0) ev_c rv_I0) ?_) (row_get (by omega))
            (ev_call (ea_cons (ev_ixL (j := r.1) (ev_var rfl) (ev_ixT (j := 0) (ev_var rfl) ev_c (L5 M5.base) rfl) (L3 M5.base) (iV_at (pl_get h2))) (ea_cons (ev_var rfl) (ea_cons (ev_var rfl) (ea_cons (ev_var rfl) ea_nil)))) (v_betw (L5 M5.base) (pp_pos hs _) (Int.lt_of_le_of_lt hpu (by decide)) (by omega) (by omega))) fun H14 e14 => ⟨_, _, _, rfl, ?_⟩
          · congr 1
            omega
          · have M6 := (M5.ext e14).set hag (((List.range cs.length).map (pE rs hist (rows.take i) m)).set (r.1 - hist.length - 1) (pE rs hist (rows.take i) m (r.1 - hist.length - 1) + cbR rs (nm rs hist * at0 rs hist.length + (m : Int)) (hist.length + 1) r))
            rw [row_set (show r.1 - hist.length - 1 < cs.length by omega), mf_set hmR] at M6
            rw [row_set (show r.1 - hist.length - 1 < cs.length by omega)]
            refine (mf_congr fun g e _ _ => ?_) ▸ M6
            by_cases hgm : g = m
            · subst hgm
              rw [if_pos rfl, if_pos (show g < g + 1 by omega), htk, pE_snoc]
              by_cases he : e = r.1 - hist.length - 1
              · rw [if_pos he, if_pos (by omega), he]
              · rw [if_neg he, if_neg (by omega), Int.add_zero]
            · rw [if_neg hgm]
              by_cases hlt2 : g < m
              · rw [if_pos hlt2, if_pos (by omega)]
              · rw [if_neg hlt2, if_neg (by omega)]
        · obtain ⟨_, _, _, rfl, M3⟩ := z
          rw [List.length_map, hasl] at M3
          refine ⟨_, _, _, _, _, rfl, (mf_congr fun g e hg _ => ?_) ▸ M3⟩
          rw [if_pos hg]
      · have hb' : r.1 ≤ hist.length := by have := of_decide_eq_false hb; omega
        refine ⟨_, _, _, _, _, rfl, (mf_congr fun g e _ _ => ?_) ▸ M.ext e10⟩
        rw [htk, pE_snoc, if_neg (by omega), Int.add_zero]
    · obtain ⟨_, _, _, _, _, rfl, M⟩ := z
      have hrl : (ras.map V.ref).length = rows.length := by rw [List.length_map, hal, List.length_map]
      rw [hrl, List.take_length] at M
      have eB := e16.trans M.base
      refine q_ifM (Mid := fun σ' H' => ∃ y8 y9 y10 y11 y12 y13, σ' = [some (.ref a), some (.ref b), some (.ref c), some (.ref d), some (.int (hist.length : Int)), some (.ref sz), some (.ref nb), some (.ref p), y8, y9, y10, y11, y12, y13, none] ∧ Mat H6 H' p as (planS rs cs rows hist)) (fun σ' H' z => ?_)
        (b := hist.all fun h => decide (h = 0)) (et_B (ev_is (ev_allN (bs := hist.map fun h => decide (h = 0)) (el_lcn ((evj_list (ev_var rfl) (ex_l eB hC)).evi (walk_list (xs := iV hist)) fun H1 e => ex_l (eB.trans e) hC) _ (by rw [List.length_map, List.length_map, iV_len]) (by rw [iV_len]; omega) (fun _ => rfl) fun i x H8 e8 hx => ?_)) ?_)) (fun hb H8 e8 fin => ?_) (fun hb H8 e8 => ?_)
      · obtain ⟨_, _, _, _, _, _, rfl, M1⟩ := z
        have hpl : planS rs cs rows hist = (List.range (at0 rs hist.length).toNat).map fun g => (List.range cs.length).map fun e => pE rs hist rows g e + exE rs cs hist g e := planS_mf ok hist
        have hT2 := M1.top
        refine s_retX (P := LTAt K (planS rs cs rows hist)) ?_ fun v H9 e9 hv => q v H9 ((e16.trans M1.base).trans e9) hv
        rw [hpl]
        refine ex_lcTn (n := (at0 rs hist.length).toNat) (xs := as.map V.ref) ?_ _ (by omega) (fun _ => rfl) fun i x H9 hi e9 hx => ?_
        · exact evi_n ((evj_list (ev_var rfl) (sq_of hT2)).evi (walk_list (xs := as.map V.ref)) fun H1 e => sq_of (e _ _ hT2)) (by rw [List.length_map, hasl])
        · obtain ⟨ag, hag, rfl⟩ := ref_get hx
          obtain ⟨xs, hxs, hH⟩ := M1.row i ag hag
          rw [hpl] at hxs
          have hxs' := (mf_get (F := fun g e => pE rs hist rows g e + exE rs cs hist g e) hi).symm.trans hxs
          have := Option.some.inj hxs'
          subst this
          exact ex_tupU (eu_tupL (ev_var rfl) (sq_of (e9 _ _ hH)))
      · obtain ⟨y, hy, rfl⟩ := iV_get hx
        refine ⟨.bl (decide (y = 0)), by rw [List.getElem?_map, List.getElem?_map, hy]; rfl, ev_is (ev_op (ev_var rfl) ev_c (rv_eq rfl)) ?_⟩
        congr 1
        exact decide_eq_decide.mpr ⟨fun z => V.int.inj z, fun z => by rw [z]⟩
      · rw [List.all_map]
        rfl
      · have M1 := M.ext e8
        have hR0 : 0 < (at0 rs hist.length).toNat := by omega
        obtain ⟨a0, h0⟩ : ∃ a0, as[0]? = some a0 := ⟨as[0], by simp⟩
        have hall : (hist.all fun h => decide (h = 0)) = true := hb
        have eB8 := e16.trans M1.base
        refine s_forR2 (lo := (rs.length : Int)) (n := (cs.length : Int)) (ea_cons (ev_is (ev_lenL (ev_var rfl) (ex_l eB8 hS)) (by rw [iV_len])) (ea_cons (ev_is (ev_lenT (ev_var rfl) (ex_t eB8 hT)) (by rw [iV_len])) ea_nil)) ⟨by omega, by omega, by omega, by omega⟩
          (fun m σ' H' => ∃ y8 y9 y10 y11 y12 y13, σ' = [some (.ref a), some (.ref b), some (.ref c), some (.ref d), some (.int (hist.length : Int)), some (.ref sz), some (.ref nb), some (.ref p), y8, y9, y10, y11, y12, y13, none] ∧ Mat H6 H' p as (mf (at0 rs hist.length).toNat cs.length fun g e => pE rs hist rows g e + if g = 0 ∧ rs.length ≤ e + hist.length ∧ e + hist.length < rs.length + m then at0 cs (e + hist.length) else 0))
          (fun H9 e9 => ⟨_, _, _, _, _, _, rfl, ?_⟩) (fun m σ' H' hm z => ?_) fun σ' H' z => ?_
        · refine (mf_congr fun g e _ _ => ?_) ▸ M1.ext e9
          rw [if_neg (by omega), Int.add_zero]
        · obtain ⟨_, _, _, _, _, _, rfl, M2⟩ := z
          obtain ⟨xs, hxs, hH⟩ := M2.row 0 a0 h0
          rw [mf_get hR0] at hxs
          have hxs' := (Option.some.inj hxs).symm
          subst hxs'
          have eB9 := e16.trans M2.base
          refine s_augL (j := rs.length + m - hist.length) (b := at0 cs (rs.length + m)) (ev_ixL (j := 0) (ev_var rfl) ev_c (sq_of M2.top) (by rw [List.getElem?_map, h0]; rfl)) hH (ev_is (ev_op (ev_var rfl) (ev_var rfl) rv_I0) ?_) (row_get (by omega)) (ev_ixT (j := rs.length + m) (ev_var rfl) (ev_is (ev_var rfl) (by congr 1)) (ex_t eB9 hT) (iV_at (at0_some (by omega)))) fun H9 e9 => ⟨_, _, _, _, _, _, rfl, ?_⟩
          · congr 1
            omega
          · rw [row_set (by omega)]
            have M3 := (M2.ext e9).set h0 ((List.range cs.length).map fun e => if e = rs.length + m - hist.length then pE rs hist rows 0 (rs.length + m - hist.length) + (if 0 = 0 ∧ rs.length ≤ rs.length + m - hist.length + hist.length ∧ rs.length + m - hist.length + hist.length < rs.length + m then at0 cs (rs.length + m - hist.length + hist.length) else 0) + at0 cs (rs.length + m) else pE rs hist rows 0 e + if 0 = 0 ∧ rs.length ≤ e + hist.length ∧ e + hist.length < rs.length + m then at0 cs (e + hist.length) else 0)
            rw [mf_set hR0] at M3
            refine (mf_congr fun g e _ _ => ?_) ▸ M3
            by_cases hg : g = 0
            · subst hg
              rw [if_pos rfl]
              by_cases he : e = rs.length + m - hist.length
              · rw [if_pos he, he, if_neg (by omega), if_pos (by omega)]
                have : rs.length + m - hist.length + hist.length = rs.length + m := by omega
                rw [this]
                omega
              · rw [if_neg he]
                by_cases hc : 0 = 0 ∧ rs.length ≤ e + hist.length ∧ e + hist.length < rs.length + m
                · rw [if_pos hc, if_pos (by omega)]
                · rw [if_neg hc, if_neg (by omega)]
            · rw [if_neg hg, if_neg (by omega), if_neg (by omega)]
        · obtain ⟨_, _, _, _, _, _, rfl, M2⟩ := z
          refine fin _ _ ⟨_, _, _, _, _, _, rfl, ?_⟩
          rw [planS_mf ok]
          refine (mf_congr fun g e _ he => ?_) ▸ M2
          unfold exE
          rw [hall]
          by_cases hc : g = 0 ∧ rs.length ≤ e + hist.length
          · rw [if_pos (show true = true ∧ g = 0 ∧ rs.length ≤ e + hist.length from ⟨rfl, hc⟩)]
            by_cases hc2 : e + hist.length < cs.length
            · rw [if_pos (by omega)]
            · rw [if_neg (by omega), at0_out (xs := cs) (by omega)]
          · rw [if_neg (by omega), if_neg (by intro z; exact hc z.2)]
      · refine ⟨_, _, _, _, _, _, rfl, ?_⟩
        rw [planS_mf ok]
        refine (mf_congr fun g e _ _ => ?_) ▸ M.ext e8
        unfold exE
        rw [if_neg (by intro z; rw [hb] at z; exact absurd z.1 (by decide)), Int.add_zero]
theorem x_splitOf {a b c d : Addr} {rs cs hist : List Int} {rows : List Row} {H : Hp} (hS : SqL K H a (iV rs)) (hT : SqT K H b (iV cs)) (hR : LT K H c (rows.map rowL)) (hC : SqL K H d (iV hist)) (hs : Sched rs) (hl : rs.length ≤ 8) (hn : NN cs) (hcl : cs.length ≤ 200) (ok : PlanOk rs cs rows) (hh : HistOk rs hist) (hlt : hist.length < rs.length) :
    SpX (spSplitOf K) [.ref a, .ref b, .ref c, .ref d] H (LTAt K (planS rs cs rows hist)) := fun H1 e Q q E => ⟨a, b, c, d, rs, cs, hist, rows, rfl, ex_l e hS, ex_t e hT, hR.mono e, ex_l e hC, hs, hl, hn, hcl, ok, hh, hlt, q⟩
end
end SC

/-! part F7 -/
set_option Elab.async false
set_option linter.all false
set_option maxRecDepth 100000
set_option maxHeartbeats 4000000
namespace SC
open PySem PySem.Spec PyProof.Rows L2 Evl
section
variable {P : Program} {w : World} {K : PySem.W.Frag} {mg : Str → Option Value} {base : Heap}
theorem sc_group_weights : FnScope ["schedule", "split", "group"] ["schedule", "split"] (defScope s_group_weights) := ⟨rfl, rfl, rfl, by decide +kernel, rfl, by decide +kernel, by decide +kernel⟩
def spWeights (K : PySem.W.Frag) : Sp := fun vs H Q _ => ∃ (a b : Addr) (rs : List Int) (gs : List (List Int)), vs = [.ref a, .ref b] ∧ SqL K H a (iV rs) ∧ LT K H b gs ∧ Sched rs ∧ rs.length ≤ 8 ∧ gs.length ≤ 1000 ∧ (∀ g ∈ gs, g.length ≤ 200) ∧ ∀ p H', H p = none → Ex H H' → H' p = some (.lst (iV (gs.map (sw rs)))) → Q (.ref p) H'
theorem ok_group_weights (T : Tx K mg) : Ok P w K mg base 3 "group_weights" ["schedule", "split"] (spWeights K) := by
  have O_scaled_weight := ok_scaled_weight (P := P) (w := w) (base := base) T
  obtain ⟨fd, F⟩ := T.d_group_weights
  refine ⟨fd, F.ok sc_group_weights (fun vs H Q E h => ?_) (fun cdv A outer s H vs Q E hr h => ?_), F.bindsN (fun _ _ _ _ _ _ us hl => match us, hl with | [_, _], _ => rfl), F.kp, T.g_group_weights⟩
  · obtain ⟨a, b, rs, gs, rfl, _⟩ := h
    rfl
  · obtain ⟨a, b, rs, gs, rfl, hS, hG, hs, hl, hgl, hgg, q⟩ := h
    obtain ⟨as, hA, hal, hAll⟩ := hG.at
    refine ⟨_, PSs.nox (pss_one (ps_ret (pe_lc (own := [("group", 2)]) rfl sc_group_weights.nd (pi_listK (pv 1)) (blkOk_by (N := ["schedule", "split", "group"]) (sc := defScope s_group_weights) (own := [("group", 2)]) (by decide +kernel)) (fun _ _ _ _ _ => (pg_name (i := 2) sc_group_weights.nd rfl (.inl rfl))) (fun _ _ _ _ _ => pts_nil) (fun _ _ _ _ _ => (pe_ok O_scaled_weight (hr.mono (by decide)) (by rfl) (pa_cons (pv 0) (pa_cons (pv 2) pa_nil))))))), ?_⟩
    refine s_retL (el_lcn ((evj_list (ev_var rfl) hA).evi (walk_list (xs := as.map V.ref)) fun H1 e => ex_l e hA) (iV (gs.map (sw rs))) (by rw [iV_len, List.length_map, List.length_map, hal]) (by rw [List.length_map]; omega) (fun _ => rfl) fun i x H1 e hx => ?_) q
    obtain ⟨ga, g, rfl, hg, hgT⟩ := allT_get hAll hx
    exact ⟨.int (sw rs g), iV_at (by rw [List.getElem?_map, hg]; rfl), ev_call (ea_cons (ev_var rfl) (ea_cons (ev_var rfl) ea_nil)) (v_scaled (ex_l e hS) (ex_t e hgT) hs hl (hgg g (List.mem_of_getElem? hg)))⟩
theorem l_weights {a b : Addr} {rs : List Int} {gs : List (List Int)} {H : Hp} (hS : SqL K H a (iV rs)) (hG : LT K H b gs) (hs : Sched rs) (hl : rs.length ≤ 8) (h1 : gs.length ≤ 1000) (h2 : ∀ g ∈ gs, g.length ≤ 200) : SpL (spWeights K) [.ref a, .ref b] H (iV (gs.map (sw rs))) :=
  fun H1 e Q q E => ⟨a, b, rs, gs, rfl, ex_l e hS, hG.mono e, hs, hl, h1, h2, q⟩
theorem sc_lightest_group : FnScope ["schedule", "counts", "split", "weights"] ["schedule", "counts", "split"] (defScope s_lightest_group) := ⟨rfl, rfl, rfl, by decide +kernel, rfl, by decide +kernel, by decide +kernel⟩
def ChAt (C : ChR) (i : Nat) (rs : List Int) (gs : List (List Int)) : V → Hp → Prop := fun v _ => ∃ j : Nat, v = .int (j : Int) ∧ j < gs.length ∧ C i rs gs j
def spChoose (K : PySem.W.Frag) (C : ChR) : Sp := fun vs H Q _ => ∃ (a b c : Addr) (r : Int) (rs cs : List Int) (gs : List (List Int)), vs = [.ref a, .ref b, .ref c] ∧ SqL K H a (iV (r :: rs)) ∧ SqT K H b (iV cs) ∧ LT K H c gs ∧ Sched (r :: rs) ∧ rs.length ≤ 7 ∧
  NN cs ∧ cs.length ≤ 200 ∧ (gs.length : Int) = r ∧ IsSplit gs cs ∧ ∀ v H', Ex H H' → ChAt C 0 (r :: rs) gs v H' → Q v H'
theorem ok_lightest_group (T : Tx K mg) : Ok P w K mg base 6 "lightest_group" ["schedule", "counts", "split"] (spChoose K IsLight) := by
  have O_require_split := ok_require_split (P := P) (w := w) (base := base) T
  have O_group_weights := ok_group_weights (P := P) (w := w) (base := base) T
  obtain ⟨fd, F⟩ := T.d_lightest_group
  refine ⟨fd, F.ok sc_lightest_group (fun vs H Q E h => ?_) (fun cdv A outer s H vs Q E hr h => ?_), F.bindsN (fun _ _ _ _ _ _ us hl => match us, hl with | [_, _, _], _ => rfl), F.kp, T.g_lightest_group⟩
  · obtain ⟨a, b, c, r, rs, cs, gs, rfl, _⟩ := h
    rfl
  · obtain ⟨a, b, c, r, rs, cs, gs, rfl, hS, hT, hG, hs, hsl, hnn, hl, hgr, hsp, q⟩ := h
    have hr0 := hs r List.mem_cons_self
    refine ⟨_, PSs.nox (pss_cons (ps_expr (pe_ok O_require_split (hr.mono (by decide)) (by rfl) (pa_cons (pv 0) (pa_cons (pv 1) (pa_cons (pv 2) pa_nil)))))
      (pss_cons (ps_set (i := 3) sc_lightest_group.nd rfl (.inl rfl) (pe_ok O_group_weights (hr.mono (by decide)) (by rfl) (pa_cons (pv 0) (pa_cons (pv 2) pa_nil))))
      (pss_one (ps_ret (pe_bmK PySem.F.plainAttrs_list PySem.F.slot_list_index PySem.F.type_list_index mt_indexK (pv 3) (pa_cons (pe_callB (cr_minK' rfl) (by rfl) T.f_min bb_min (pa_cons (pv 3) pa_nil)) pa_nil)))))), ?_⟩
    refine q_drop (ev_call (ea_cons (ev_var rfl) (ea_cons (ev_var rfl) (ea_cons (ev_var rfl) ea_nil))) (v_reqSplit hS hT hG hs (by omega) hnn hl hgr hsp)) fun H1 e1 => ?_
    refine q_asgL (el_call (ea_cons (ev_var rfl) (ea_cons (ev_var rfl) ea_nil)) (l_weights (ex_l e1 hS) (hG.mono e1) hs (by simp; omega) (by omega) fun g hg => by rw [hsp.len g hg]; exact hl)) fun p H2 hp e2 h2 => ?_
    obtain ⟨m, hm, hml⟩ := exists_min (ns := gs.map (sw (r :: rs))) (by intro z; rw [List.map_eq_nil_iff.mp z] at hgr; simp at hgr; omega)
    refine s_retX (ex_index (ev_var rfl) (sq_of h2) (fun H3 e3 => ev_minL (ev_var rfl) (sq_of h2) hm hml H3 e3) hm) fun v H3 e3 ⟨j, ej, hj⟩ => q v H3 ((e1.trans e2).trans e3) ?_
    obtain ⟨hj1, hj2⟩ := getD_at hj
    exact ⟨j, ej, hj1, fun g hg => by rw [hj2]; exact hml _ (List.mem_map.mpr ⟨g, hg, rfl⟩)⟩
theorem sc_heaviest_group : FnScope ["schedule", "counts", "split", "weights"] ["schedule", "counts", "split"] (defScope s_heaviest_group) := ⟨rfl, rfl, rfl, by decide +kernel, rfl, by decide +kernel, by decide +kernel⟩
theorem ok_heaviest_group (T : Tx K mg) : Ok P w K mg base 6 "heaviest_group" ["schedule", "counts", "split"] (spChoose K IsHeavy) := by
  have O_require_split := ok_require_split (P := P) (w := w) (base := base) T
  have O_group_weights := ok_group_weights (P := P) (w := w) (base := base) T
  obtain ⟨fd, F⟩ := T.d_heaviest_group
  refine ⟨fd, F.ok sc_heaviest_group (fun vs H Q E h => ?_) (fun cdv A outer s H vs Q E hr h => ?_), F.bindsN (fun _ _ _ _ _ _ us hl => match us, hl with | [_, _, _], _ => rfl), F.kp, T.g_heaviest_group⟩
  · obtain ⟨a, b, c, r, rs, cs, gs, rfl, _⟩ := h
    rfl
  · obtain ⟨a, b, c, r, rs, cs, gs, rfl, hS, hT, hG, hs, hsl, hnn, hl, hgr, hsp, q⟩ := h
    have hr0 := hs r List.mem_cons_self
    refine ⟨_, PSs.nox (pss_cons (ps_expr (pe_ok O_require_split (hr.mono (by decide)) (by rfl) (pa_cons (pv 0) (pa_cons (pv 1) (pa_cons (pv 2) pa_nil)))))
      (pss_cons (ps_set (i := 3) sc_heaviest_group.nd rfl (.inl rfl) (pe_ok O_group_weights (hr.mono (by decide)) (by rfl) (pa_cons (pv 0) (pa_cons (pv 2) pa_nil))))
      (pss_one (ps_ret (pe_bmK PySem.F.plainAttrs_list PySem.F.slot_list_index PySem.F.type_list_index mt_indexK (pv 3) (pa_cons (pe_callB (cr_maxK rfl) (by rfl) T.f_max bb_max (pa_cons (pv 3) pa_nil)) pa_nil)))))), ?_⟩
    refine q_drop (ev_call (ea_cons (ev_var rfl) (ea_cons (ev_var rfl) (ea_cons (ev_var rfl) ea_nil))) (v_reqSplit hS hT hG hs (by omega) hnn hl hgr hsp)) fun H1 e1 => ?_
    refine q_asgL (el_call (ea_cons (ev_var rfl) (ea_cons (ev_var rfl) ea_nil)) (l_weights (ex_l e1 hS) (hG.mono e1) hs (by simp; omega) (by omega) fun g hg => by rw [hsp.len g hg]; exact hl)) fun p H2 hp e2 h2 => ?_
    obtain ⟨m, hm, hml⟩ := exists_max (ns := gs.map (sw (r :: rs))) (by intro z; rw [List.map_eq_nil_iff.mp z] at hgr; simp at hgr; omega)
    refine s_retX (ex_index (ev_var rfl) (sq_of h2) (fun H3 e3 => ev_maxL (ev_var rfl) (sq_of h2) hm hml H3 e3) hm) fun v H3 e3 ⟨j, ej, hj⟩ => q v H3 ((e1.trans e2).trans e3) ?_
    obtain ⟨hj1, hj2⟩ := getD_at hj
    exact ⟨j, ej, hj1, fun g hg => by rw [hj2]; exact hml _ (List.mem_map.mpr ⟨g, hg, rfl⟩)⟩
theorem x_choose {C : ChR} {a b c : Addr} {r : Int} {rs cs : List Int} {gs : List (List Int)} {H : Hp} (hS : SqL K H a (iV (r :: rs))) (hT : SqT K H b (iV cs)) (hG : LT K H c gs) (hs : Sched (r :: rs)) (hl : rs.length ≤ 7) (hn : NN cs) (hcl : cs.length ≤ 200) (hr : (gs.length : Int) = r) (hsp : IsSplit gs cs) :
    SpX (spChoose K C) [.ref a, .ref b, .ref c] H (ChAt C 0 (r :: rs) gs) := fun H1 e Q q E => ⟨a, b, c, r, rs, cs, gs, rfl, ex_l e hS, ex_t e hT, hG.mono e, hs, hl, hn, hcl, hr, hsp, q⟩
theorem sc_shared_out : FnScope ["count", "first", "length", "groups", "turns", "rest", "found", "number", "start", "inside", "wrapped"] ["count", "first", "length", "groups"] (defScope s_shared_out) := ⟨rfl, rfl, rfl, by decide +kernel, rfl, by decide +kernel, by decide +kernel⟩
def shL (c f L : Int) (r : Int) (n : Nat) : List Int := (List.range n).map fun (g : Nat) => cbF (L * r) f c ((g : Int) * L) L
def spShared : Sp := fun vs H Q _ => ∃ c f L r : Int, vs = [.int c, .int f, .int L, .int r] ∧ 0 < L ∧ 0 < r ∧ r ≤ 1000 ∧ L * r < 1073741824 ∧ ∀ p H', H p = none → Ex H H' → H' p = some (.lst (iV (shL c f L r r.toNat))) → Q (.ref p) H'
theorem shL_snoc (c f L r : Int) (n : Nat) : shL c f L r (n + 1) = shL c f L r n ++ [cbF (L * r) f c ((n : Int) * L) L] := by simp [shL, List.range_succ]
theorem ok_shared_out (T : Tx K mg) : Ok P w K mg base 1 "shared_out" ["count", "first", "length", "groups"] spShared := by
  obtain ⟨fd, F⟩ := T.d_shared_out
  refine ⟨fd, F.ok sc_shared_out (fun vs H Q E h => ?_) (fun cdv A outer s H vs Q E hr h => ?_), F.bindsN (fun _ _ _ _ _ _ us hl => match us, hl with | [_, _, _, _], _ => rfl), F.kp, T.g_shared_out⟩
  · obtain ⟨c, f, L, r, rfl, _⟩ := h
    rfl
  · obtain ⟨c, f, L, r, rfl, l0, r0, r1, lr, q⟩ := h
    have hz : 0 < L * r := Int.mul_pos l0 r0
    have hL1 : L * 1 ≤ L * r := Int.mul_le_mul_of_nonneg_left (by omega) (by omega)
    refine ⟨_, PSs.nox (pss_cons (ps_par (i := 4) (j := 5) rfl sc_shared_out.nd rfl rfl (by decide) rfl rfl (pa_cons (pe_op op_fdiv (pv 0) (pe_op op_mul (pv 2) (pv 3))) (pa_cons (pe_op op_mod (pv 0) (pe_op op_mul (pv 2) (pv 3))) pa_nil)) (by rfl))
      (pss_cons (ps_set (i := 6) sc_shared_out.nd rfl (.inl rfl) (pe_lst pa_nil))
      (pss_cons (ps_for PassesOwn.never rfl (pi_range1 (by rfl) T.f_range (pa_cons (pv 3) pa_nil)) (pg_name (i := 7) sc_shared_out.nd rfl (.inl rfl)) (pss_cons (ps_set (i := 8) sc_shared_out.nd rfl (.inl rfl) (pe_op op_mod (pe_op op_sub (pe_op op_mul (pv 7) (pv 2)) (pv 1)) (pe_op op_mul (pv 2) (pv 3))))
      (pss_cons (ps_set (i := 9) sc_shared_out.nd rfl (.inl rfl) (pe_callB (call_max2 rfl) (by rfl) T.f_max bb_max (pa_cons pe_int (pa_cons (pe_op op_sub (pe_callB (call_min2 rfl) (by rfl) T.f_min bb_min (pa_cons (pv 5) (pa_cons (pe_op op_add (pv 8) (pv 2)) pa_nil))) (pv 8)) pa_nil))))
      (pss_cons (ps_set (i := 10) sc_shared_out.nd rfl (.inl rfl) (pe_callB (call_max2 rfl) (by rfl) T.f_max bb_max (pa_cons pe_int (pa_cons (pe_callB (call_min2 rfl) (by rfl) T.f_min bb_min (pa_cons (pv 5) (pa_cons (pe_op op_sub (pe_op op_add (pv 8) (pv 2)) (pe_op op_mul (pv 2) (pv 3))) pa_nil))) pa_nil))))
      (pss_one (ps_expr (pe_bmK PySem.F.plainAttrs_list PySem.F.slot_list_append PySem.F.type_list_append mt_append (pv 6) (pa_cons (pe_op op_add (pe_op op_add (pe_op op_mul (pv 4) (pv 2)) (pv 9)) (pv 10)) pa_nil))))))))
      (pss_one (ps_ret (pv 6)))))), ?_⟩
    refine q_par (ea_cons (ev_op (ev_var rfl) (ev_op (ev_var rfl) (ev_var rfl) (rv_mul (.inr ⟨by omega, by omega⟩))) (rv_div hz lr)) (ea_cons (ev_op (ev_var rfl) (ev_op (ev_var rfl) (ev_var rfl) (rv_mul (.inr ⟨by omega, by omega⟩))) (rv_mod hz)) ea_nil)) fun H1 e1 => ?_
    refine q_asgL (el_lst ea_nil (by decide)) fun p H2 hp e2 h2 => ?_
    refine q_forR1 (n := r) (ea_cons (ev_var rfl) ea_nil) ⟨by omega, by omega⟩ (fun i σ' H' => ∃ y z w u, σ' = [some (.int c), some (.int f), some (.int L), some (.int r), some (.int (c / (L * r))), some (.int (c % (L * r))), some (.ref p), y, z, w, u] ∧ Ex H H' ∧ H' p = some (.lst (iV (shL c f L r i)))) (fun H3 e3 => ⟨_, _, _, _, rfl, (e1.trans e2).trans e3, e3 _ _ h2⟩) (fun i σ' H' hi z => ?_) fun σ' H' z => ?_
    · obtain ⟨_, _, _, _, rfl, e, h3⟩ := z
      refine q_asg (ev_op (ev_op (ev_op (ev_var rfl) (ev_var rfl) (rv_mul (.inr ⟨by omega, by omega⟩))) (ev_var rfl) rv_I0) (ev_op (ev_var rfl) (ev_var rfl) (rv_mul (.inr ⟨by omega, by omega⟩))) (rv_mod hz)) fun H4 e4 => ?_
      refine q_asg (ev_max ev_c (ev_op (ev_min (ev_var rfl) (ev_op (ev_var rfl) (ev_var rfl) rv_I0)) (ev_var rfl) rv_I0)) fun H5 e5 => ?_
      refine q_asg (ev_max ev_c (ev_min (ev_var rfl) (ev_op (ev_op (ev_var rfl) (ev_var rfl) rv_I0) (ev_op (ev_var rfl) (ev_var rfl) (rv_mul (.inr ⟨by omega, by omega⟩))) rv_I0))) fun H6 e6 => ?_
      have e46 := (e4.trans e5).trans e6
      refine s_app (v := .int (cbF (L * r) f c ((i : Int) * L) L)) (e46 _ _ h3) (ev_var rfl) (ev_op (ev_op (ev_op (ev_var rfl) (ev_var rfl) (rv_mul (.inr ⟨by omega, by omega⟩))) (ev_var rfl) rv_I0) (ev_var rfl) rv_I0) (by rw [iV_len]; simp [shL]; omega) fun H7 e7 => ⟨_, _, _, _, rfl, ?_, ?_⟩
      · exact Ex.mut ((e.trans e46).trans e7) (fresh_back e1 hp)
      · rw [upd_same, shL_snoc, iV_append]
        rfl
    · obtain ⟨_, _, _, _, rfl, e, h3⟩ := z
      exact s_ret (ev_var rfl) fun H4 e4 => q p H4 (fresh_back e1 hp) (e.trans e4) (e4 _ _ h3)
theorem l_shared {c f L r : Int} {H : Hp} (l0 : 0 < L) (r0 : 0 < r) (r1 : r ≤ 1000) (lr : L * r < 1073741824) : SpL spShared [.int c, .int f, .int L, .int r] H (iV (shL c f L r r.toNat)) := fun H1 e Q q E => ⟨c, f, L, r, rfl, l0, r0, r1, lr, q⟩
abbrev SCOPE_balanced_split_number : Scope := { kind := .function, names := [(Str.ofString ".0", .local), (Str.ofString "number", .cell), (Str.ofString "tuple", .globalImplicit), (Str.ofString "columns", .cell)], isGenerator := false, isCoroutine := false }
theorem sc_balanced_split : FnScope ["schedule", "counts", "found", "groups", "first", "columns", "index", "count", "number", "column"] ["schedule", "counts"] (defScope s_balanced_split) := ⟨rfl, rfl, rfl, by decide +kernel, rfl, by decide +kernel, by decide +kernel⟩
def spPos (K : PySem.W.Frag) (F : List Int → List Int → List (List Int)) : Sp := fun vs H Q _ => ∃ (a b : Addr) (rs cs : List Int), vs = [.ref a, .ref b] ∧ SqL K H a (iV rs) ∧ SqT K H b (iV cs) ∧ Sched rs ∧ 0 < rs.length ∧ rs.length ≤ 8 ∧ NN cs ∧ cs.length ≤ 200 ∧ ∀ v H', Ex H H' → LTAt K (F rs cs) v H' → Q v H'
def balC (rs cs : List Int) (i : Nat) : List Int := (List.range (at0 rs 0).toNat).map (balE rs cs i)
theorem balC_in {rs cs : List Int} (hs : Sched rs) {i : Nat} (hi : i < rs.length) : shL (at0 cs i) (tT rs cs i * at0 rs i % pp rs (i + 1)) (pp rs (i + 1) / at0 rs 0) (at0 rs 0) (at0 rs 0).toNat = balC rs cs i := by
  unfold shL balC
  refine row_congr fun g _ => ?_
  unfold balE
  rw [if_pos hi]
  have h0 := head_pos hs (show 0 < rs.length by omega)
  have : pp rs (i + 1) / at0 rs 0 * at0 rs 0 = pp rs (i + 1) := by
    rw [pp_quot hs (by omega) i, pp_first (by omega) i, Int.mul_comm]
  rw [this]
theorem balC_out {rs cs : List Int} (hs : Sched rs) (h : 0 < rs.length) {i : Nat} (hi : rs.length ≤ i) : at0 cs i :: List.replicate ((at0 rs 0).toNat - 1) 0 = balC rs cs i := by
  have h0 := head_pos hs h
  apply List.ext_getElem?
  intro j
  unfold balC
  by_cases hj : j < (at0 rs 0).toNat
  · rw [row_get hj]
    unfold balE
    rw [if_neg (by omega)]
    cases j with
    | zero => rfl
    | succ j =>
      rw [if_neg (by omega), List.getElem?_cons_succ, List.getElem?_replicate, if_pos (by omega)]
  · rw [List.getElem?_eq_none (by rw [List.length_cons, List.length_replicate]; omega), List.getElem?_eq_none (by rw [List.length_map, List.length_range]; omega)]
theorem ok_balanced_split (T : Tx K mg) : Ok P w K mg base 5 "balanced_split" ["schedule", "counts"] (spPos K balS) := by
  have O_require_rounds := ok_require_rounds (P := P) (w := w) (base := base) T
  have O_require_counts := ok_require_counts (P := P) (w := w) (base := base) T
  have O_require_small_round := ok_require_small_round (P := P) (w := w) (base := base) T
  have O_products := ok_products (P := P) (w := w) (base := base) T
  have O_shared_out := ok_shared_out (P := P) (w := w) (base := base) T
  obtain ⟨fd, F⟩ := T.d_balanced_split
  refine ⟨fd, F.ok sc_balanced_split (fun vs H Q E h => ?_) (fun cdv A outer s H vs Q E hr h => ?_), F.bindsN (fun _ _ _ _ _ _ us hl => match us, hl with | [_, _], _ => rfl), F.kp, T.g_balanced_split⟩
  · obtain ⟨a, b, rs, cs, rfl, _⟩ := h
    rfl
  · obtain ⟨a, b, rs, cs, rfl, hS, hT, hs, hn0, hl, hnn, hcl, q⟩ := h
    have h0 := head_pos hs hn0
    have hrd : rs = at0 rs 0 :: rs.drop 1 := by have := drop_eq hn0; rw [List.drop_zero] at this; exact this
    refine ⟨_, PSs.nox (pss_cons (ps_expr (pe_ok O_require_rounds (hr.mono (by decide)) (by rfl) (pa_cons (pv 0) pa_nil)))
      (pss_cons (ps_expr (pe_ok O_require_counts (hr.mono (by decide)) (by rfl) (pa_cons (pv 1) pa_nil)))
      (pss_cons (ps_expr (pe_ok O_require_small_round (hr.mono (by decide)) (by rfl) (pa_cons (pv 0) pa_nil)))
      (pss_cons (ps_set (i := 2) sc_balanced_split.nd rfl (.inl rfl) (pe_ok O_products (hr.mono (by decide)) (by rfl) (pa_cons (pv 0) pa_nil)))
      (pss_cons (ps_asg (pe_tup (pa_cons (pe_ix ix_listK (pv 0) pe_int (fun _ _ => rfl)) (pa_cons pe_int (pa_cons (pe_lst pa_nil) pa_nil)))) (pg_tupK (n := 3) rfl (pgs_cons (pg_name (i := 3) sc_balanced_split.nd rfl (.inl rfl)) (pgs_cons (pg_name (i := 4) sc_balanced_split.nd rfl (.inl rfl)) (pgs_cons (pg_name (i := 5) sc_balanced_split.nd rfl (.inr rfl)) pgs_nil)))))
      (pss_cons (ps_for PassesOwn.never rfl (pi_enum1K (by rfl) T.f_enumerate (pa_cons (pv 1) pa_nil)) (pg_tupK (n := 2) rfl (pgs_cons (pg_name (i := 6) sc_balanced_split.nd rfl (.inl rfl)) (pgs_cons (pg_name (i := 7) sc_balanced_split.nd rfl (.inl rfl)) pgs_nil))) (pss_one (ps_if (pt_cmpR op_lt (pv 6) (pe_callB call_lenK (by rfl) T.f_len bb_len (pa_cons (pv 0) pa_nil)) (nomark _)) (pss_cons (ps_set (i := 4) sc_balanced_split.nd rfl (.inl rfl) (pe_op op_mod (pe_op op_mul (pv 4) (pe_ix ix_listK (pv 0) (pv 6) (fun _ _ => rfl))) (pe_ix ix_listK (pv 2) (pe_op op_add (pv 6) pe_int) (fun _ _ => rfl))))
      (pss_cons (ps_expr (pe_bmK PySem.F.plainAttrs_list PySem.F.slot_list_append PySem.F.type_list_append mt_append (pv 5) (pa_cons (pe_ok O_shared_out (hr.mono (by decide)) (by rfl) (pa_cons (pv 7) (pa_cons (pv 4) (pa_cons (pe_op op_fdiv (pe_ix ix_listK (pv 2) (pe_op op_add (pv 6) pe_int) (fun _ _ => rfl)) (pv 3)) (pa_cons (pv 3) pa_nil))))) pa_nil)))
      (pss_one (ps_set (i := 4) sc_balanced_split.nd rfl (.inl rfl) (pe_op op_mod (pe_op op_add (pv 4) (pv 7)) (pe_ix ix_listK (pv 2) (pe_op op_add (pv 6) pe_int) (fun _ _ => rfl))))))) (pss_one (ps_expr (pe_bmK PySem.F.plainAttrs_list PySem.F.slot_list_append PySem.F.type_list_append mt_append (pv 5) (pa_cons (pe_op op_cat (pe_lst (pa_cons (pv 7) pa_nil)) (pe_op op_rep (pe_lst (pa_cons pe_int pa_nil)) (pe_op op_sub (pv 3) pe_int))) pa_nil)))))))
      (pss_one (ps_ret (pe_lc (own := [("number", 8)]) rfl sc_balanced_split.nd (pi_range1 (by rfl) T.f_range (pa_cons (pv 3) pa_nil)) (blkOk_by (N := ["schedule", "counts", "found", "groups", "first", "columns", "index", "count", "number", "column"]) (sc := defScope s_balanced_split) (own := [("number", 8)]) (by decide +kernel)) (fun _ _ _ _ _ => (pg_name (i := 8) sc_balanced_split.nd rfl (.inr rfl))) (fun _ _ _ _ _ => pts_nil) (fun _ _ _ _ _ => (pe_callTy call_tupK (by rfl) T.f_tuple bb_tuple (pa_cons (pe_lc (own := [("column", 9)]) rfl sc_balanced_split.nd (pi_listK (pv 5)) (blkOk_by (N := ["schedule", "counts", "found", "groups", "first", "columns", "index", "count", "number", "column"]) (sc := SCOPE_balanced_split_number) (own := [("column", 9)]) (by decide +kernel)) (fun _ _ _ _ _ => (pg_name (i := 9) sc_balanced_split.nd rfl (.inl rfl))) (fun _ _ _ _ _ => pts_nil) (fun _ _ _ _ _ => (pe_ix ix_listK (pv 9) (pv 8) (fun _ _ => rfl)))) pa_nil)))))))))))), ?_⟩
    refine q_drop (ev_call (ea_cons (ev_var rfl) ea_nil) (v_reqRounds hS (by intro z; rw [z] at hn0; simp at hn0) (by omega) fun x hx => (hs x hx).1)) fun H1 e1 => ?_
    refine q_drop (ev_call (ea_cons (ev_var rfl) ea_nil) (v_reqCounts (ex_t e1 hT) hcl hnn)) fun H2 e2 => ?_
    refine q_drop (ev_call (ea_cons (ev_var rfl) ea_nil) (v_reqSmall (r := at0 rs 0) (rs := rs.drop 1) (by rw [← hrd]; exact ex_l (e1.trans e2) hS) (by omega))) fun H3 e3 => ?_
    have e13 := (e1.trans e2).trans e3
    refine q_asgL (el_call (ea_cons (ev_var rfl) ea_nil) (l_products (ex_l e13 hS) hs (by omega))) fun fd2 H4 hfd e4 h4 => ?_
    have e14 := e13.trans e4
    have hpu : ∀ d, pp rs d ≤ 214358881 := fun d => Int.le_trans (prd_dvd_le hs d) (prd_lt hs hl)
    have hRn : (((at0 rs 0).toNat : Nat) : Int) = at0 rs 0 := by omega
    refine q_tup3X (ex_tupP (ep_cons (ev_ixL (j := 0) (v := .int (at0 rs 0)) (ev_var rfl) ev_c (ex_l e14 hS) (iV_at (at0_some hn0))) (ep_cons ev_c (ep_consL (el_lst ea_nil (by decide)) ep_nil))) ?_ ?_) fun vs H5 e5 z => ?_
    · rintro vs H1 ⟨r, rfl, r2, rfl, c, r3, rfl, _, _, rfl⟩
      simp
    · rintro vs H1 H2 e ⟨r, rfl, r2, rfl, c, r3, rfl, h1, h2, rfl⟩
      exact ⟨_, rfl, _, rfl, c, _, rfl, h1, e _ _ h2, rfl⟩
    obtain ⟨r, rfl, r2, rfl, cp, r3, rfl, hc1, hc2, rfl⟩ := z
    refine ⟨_, _, _, rfl, ?_⟩
    have M0 : Mat H4 H5 cp [] [] := Mat.nil (e := e5) hc1 hc2
    have L1 : ∀ {H'} , Ex H4 H' → SqL K H' a (iV rs) := fun e => ex_l (e14.trans e) hS
    have L3 : ∀ {H'} , Ex H4 H' → SqL K H' fd2 (iV (pl rs rs.length)) := fun e => sq_of (e _ _ h4)
    refine q_forEnumT1 (ea_cons (ev_var rfl) ea_nil) (ex_t (e14.trans e5) hT) (fun i σ' H' => ∃ y z as, σ' = [some (.ref a), some (.ref b), some (.ref fd2), some (.int (at0 rs 0)), some (.int (tT rs cs (min i rs.length) % pp rs (min i rs.length))), some (.ref cp), y, z, none, none] ∧ Mat H4 H' cp as ((List.range i).map (balC rs cs))) (fun H6 e6 => ⟨none, none, [], ?_, M0.ext e6⟩) (fun i σ' H' z => ?_) (fun m x σ' H6 hx z T hTn => ?_) fun σ' H' z => ?_
    · rw [Nat.zero_min]
      rfl
    · obtain ⟨_, _, _, _, M⟩ := z
      exact ex_t (e14.trans M.base) hT
    · obtain ⟨_, _, as, rfl, M⟩ := z
      obtain ⟨c, hc, rfl⟩ := iV_get hx
      have hm := (List.getElem?_eq_some_iff.mp hc).1
      have hcm := at0_get hc
      have M1 := M.ext (Ex.new (o := .tup [.int (m : Int), .int c]) hTn)
      have hal : as.length = m := by rw [M.len]; simp
      have hsn : (List.range (m + 1)).map (balC rs cs) = (List.range m).map (balC rs cs) ++ [balC rs cs m] := by rw [List.range_succ, List.map_append]; rfl
      refine s_if (b := decide ((m : Int) < (rs.length : Int))) (et_is (et_test (ev_op (ev_var rfl) (ev_lenL (ev_var rfl) (L1 M1.base)) rv_I0)) (by rw [iV_len])) (fun hb H7 e7 => ?_) (fun hb H7 e7 => ?_)
      · have hmr : m < rs.length := by have := of_decide_eq_true hb; omega
        have M2 := M1.ext e7
        have hb2 := hs _ (at0_mem hmr)
        have hP := pp_pos hs m
        have hP1 := pp_pos hs (m + 1)
        have hq := pp_quot hs hn0 m
        have hqp := ((tail_sched hs).take m).prd_pos
        rw [← hq] at hqp
        have hq2 : pp rs (m + 1) / at0 rs 0 * at0 rs 0 = pp rs (m + 1) := by rw [hq, pp_first hn0 m, Int.mul_comm]
        rw [Nat.min_eq_left (show m ≤ rs.length by omega)]
        refine q_asg (v := .int (tT rs cs m * at0 rs m % pp rs (m + 1))) (ev_is (ev_op (ev_op (ev_var rfl) (ev_ixL (j := m) (ev_var rfl) (ev_var rfl) (L1 M2.base) (iV_at (at0_some hmr))) (rv_mul (.inr ⟨by omega, by omega⟩))) (ev_ixL (j := m + 1) (ev_var rfl) (ev_op (ev_var rfl) ev_c rv_I0) (L3 M2.base) (iV_at (pl_get (by omega)))) (rv_mod hP1)) ?_) fun H8 e8 => ?_
        · show V.int (tT rs cs m % pp rs m * at0 rs m % pp rs (m + 1)) = _
          rw [pp_succ hmr, mod_step hP (by omega)]
        have M3 := M2.ext e8
        refine q_appL (K := K) (xs := as.map V.ref) (ys := iV (balC rs cs m)) M3.top (ev_var rfl) (el_is (el_call (ea_cons (ev_var rfl) (ea_cons (ev_var rfl) (ea_cons (ev_op (ev_ixL (j := m + 1) (ev_var rfl) (ev_op (ev_var rfl) ev_c rv_I0) (L3 M3.base) (iV_at (pl_get (by omega)))) (ev_var rfl) (rv_div (by omega) (by omega))) (ea_cons (ev_var rfl) ea_nil)))) (l_shared hqp (by omega) (by omega) (by rw [hq2]; exact Int.lt_of_le_of_lt (hpu _) (by decide)))) ?_) (by rw [List.length_map]; omega) fun p H9 hp e9 h9 => ?_
        · show iV (shL c (tT rs cs m * at0 rs m % pp rs (m + 1)) (pp rs (m + 1) / at0 rs 0) (at0 rs 0) (at0 rs 0).toNat) = _
          rw [← hcm, balC_in hs hmr]
        have M4 := M3.push e9 hp h9
        refine s_asg (v := .int (tT rs cs (m + 1) % pp rs (m + 1))) (ev_is (ev_op (ev_op (ev_var rfl) (ev_var rfl) rv_I0) (ev_ixL (j := m + 1) (ev_var rfl) (ev_op (ev_var rfl) ev_c rv_I0) (L3 M4.base) (iV_at (pl_get (by omega)))) (rv_mod hP1)) ?_) fun H10 e10 => ⟨some (.int (m : Int)), some (.int c), as ++ [p], ?_, ?_⟩
        · show V.int ((tT rs cs m * at0 rs m % pp rs (m + 1) + c) % pp rs (m + 1)) = _
          rw [Int.emod_add_emod, ← hcm]
          rfl
        · rw [Nat.min_eq_left (show m + 1 ≤ rs.length by omega)]
          rfl
        · rw [hsn]
          exact M4.ext e10
      · have hmr : rs.length ≤ m := by have := of_decide_eq_false hb; omega
        have M2 := M1.ext e7
        refine s_appL (K := K) (xs := as.map V.ref) (ys := iV (balC rs cs m)) M2.top (ev_var rfl) (el_is (el_cat (el_lst (vs := [.int c]) (ea_cons (ev_var rfl) ea_nil) (by simp)) (el_rep1 (el_lst (ea_cons ev_c ea_nil) (by decide)) (ev_op (ev_var rfl) ev_c rv_I0) (by omega) (by omega)) (by rw [List.length_replicate]; show 1 + _ ≤ _; omega)) ?_) (by rw [List.length_map]; omega) fun p H9 hp e9 h9 => ⟨some (.int (m : Int)), some (.int c), as ++ [p], ?_, ?_⟩
        · rw [← balC_out hs hn0 hmr, hcm, iV_rep]
          have : (at0 rs 0 - 1).toNat = (at0 rs 0).toNat - 1 := by omega
          rw [this]
          rfl
        · rw [Nat.min_eq_right (show rs.length ≤ m by omega), Nat.min_eq_right (show rs.length ≤ m + 1 by omega)]
          rfl
        · rw [hsn]
          exact M2.push e9 hp h9
    · obtain ⟨_, _, as, rfl, M⟩ := z
      rw [iV_len] at M
      have hal : as.length = cs.length := by rw [M.len]; simp
      refine s_retX (P := LTAt K (balS rs cs)) ?_ fun v H9 e9 hv => q v H9 ((e14.trans M.base).trans e9) hv
      refine ex_lcTr (lo := 0) (n := (at0 rs 0).toNat) ((evj_rng1 (m := at0 rs 0) (ea_cons (ev_var rfl) ea_nil) (by omega) (by omega)).evi walk_range fun _ _ => trivial) (fun g => (List.range cs.length).map fun i => balE rs cs i g) (by omega) (fun _ => rfl) fun i H9 hi e9 => ?_
      have M1 := M.ext e9
      refine ex_tupU (eu_tupN (el_lcn (evi_n ((evj_list (ev_var rfl) (sq_of M1.top)).evi (walk_list (xs := as.map V.ref)) fun H1 e => sq_of (e _ _ M1.top)) (by rw [List.length_map, hal])) _ (by rw [iV_len]; simp) (by omega) (fun _ => rfl) fun j x H10 e10 hx => ?_))
      obtain ⟨ac, hac, rfl⟩ := ref_get hx
      obtain ⟨xs, hxs, hH⟩ := M1.row j ac hac
      have hj : j < cs.length := by rw [← hal]; exact (List.getElem?_eq_some_iff.mp hac).1
      have hxs2 : ((List.range cs.length).map (balC rs cs))[j]? = some (balC rs cs j) := by simp [hj]
      have := Option.some.inj (hxs2.symm.trans hxs)
      subst this
      refine ⟨.int (balE rs cs j i), iV_at (row_get hj), ev_ixL (j := i) (ev_var rfl) (ev_is (ev_var rfl) (by rw [Int.zero_add])) (sq_of (e10 _ _ hH)) (iV_at (row_get hi))⟩
end
end SC

/-! part F8 -/
set_option Elab.async false
set_option linter.all false
set_option maxRecDepth 100000
set_option maxHeartbeats 4000000
namespace SC
open PySem PySem.Spec PyProof.Rows L2 Evl
section
variable {P : Program} {w : World} {K : PySem.W.Frag} {mg : Str → Option Value} {base : Heap}
theorem x_bal {F : List Int → List Int → List (List Int)} {a b : Addr} {rs cs : List Int} {H : Hp} (hS : SqL K H a (iV rs)) (hT : SqT K H b (iV cs)) (hs : Sched rs) (h0 : 0 < rs.length) (hl : rs.length ≤ 8) (hn : NN cs) (hcl : cs.length ≤ 200) : SpX (spPos K F) [.ref a, .ref b] H (LTAt K (F rs cs)) :=
  fun H1 e Q q E => ⟨a, b, rs, cs, rfl, ex_l e hS, ex_t e hT, hs, h0, hl, hn, hcl, q⟩
theorem sc_even_split : FnScope ["schedule", "counts", "groups", "found", "number", "count"] ["schedule", "counts"] (defScope s_even_split) := ⟨rfl, rfl, rfl, by decide +kernel, rfl, by decide +kernel, by decide +kernel⟩
theorem ok_even_split (T : Tx K mg) : Ok P w K mg base 1 "even_split" ["schedule", "counts"] (spPos K evenS) := by
  obtain ⟨fd, F⟩ := T.d_even_split
  refine ⟨fd, F.ok sc_even_split (fun vs H Q E h => ?_) (fun cdv A outer s H vs Q E hr h => ?_), F.bindsN (fun _ _ _ _ _ _ us hl => match us, hl with | [_, _], _ => rfl), F.kp, T.g_even_split⟩
  · obtain ⟨a, b, rs, cs, rfl, _⟩ := h
    rfl
  · obtain ⟨a, b, rs, cs, rfl, hS, hT, hs, hn0, hl, hnn, hcl, q⟩ := h
    have h0 := head_pos hs hn0
    refine ⟨_, PSs.nox (pss_cons (ps_set (i := 2) sc_even_split.nd rfl (.inr rfl) (pe_ix ix_listK (pv 0) pe_int (fun _ _ => rfl)))
      (pss_cons (ps_set (i := 3) sc_even_split.nd rfl (.inl rfl) (pe_lst pa_nil))
      (pss_cons (ps_for PassesOwn.never rfl (pi_range1 (by rfl) T.f_range (pa_cons (pv 2) pa_nil)) (pg_name (i := 4) sc_even_split.nd rfl (.inr rfl)) (pss_one (ps_expr (pe_bmK PySem.F.plainAttrs_list PySem.F.slot_list_append PySem.F.type_list_append mt_append (pv 3) (pa_cons (pe_callTy call_tupK (by rfl) T.f_tuple bb_tuple (pa_cons (pe_lc (own := [("count", 5)]) rfl sc_even_split.nd (pi_tupK (pv 1)) (blkOk_by (N := ["schedule", "counts", "groups", "found", "number", "count"]) (sc := defScope s_even_split) (own := [("count", 5)]) (by decide +kernel)) (fun _ _ _ _ _ => (pg_name (i := 5) sc_even_split.nd rfl (.inl rfl))) (fun _ _ _ _ _ => pts_nil) (fun _ _ _ _ _ => (pe_op op_add (pe_op op_fdiv (pv 5) (pv 2)) (pe_callTy call_int1 (by rfl) T.f_int bb_int (pa_cons (pe_cmpR op_lt (pv 4) (pe_op op_mod (pv 5) (pv 2)) (nomark _)) pa_nil))))) pa_nil)) pa_nil)))))
      (pss_one (ps_ret (pv 3)))))), ?_⟩
    refine q_asg (v := .int (at0 rs 0)) (ev_ixL (j := 0) (ev_var rfl) ev_c hS (iV_at (at0_some hn0))) fun H1 e1 => ?_
    refine q_asgL (el_lst ea_nil (by decide)) fun p H2 hp e2 h2 => ?_
    have hp0 : H p = none := fresh_back e1 hp
    refine q_forR1 (n := at0 rs 0) (ea_cons (ev_var rfl) ea_nil) ⟨by omega, by omega⟩ (fun i σ' H' => ∃ y as, σ' = [some (.ref a), some (.ref b), some (.int (at0 rs 0)), some (.ref p), y, none] ∧ Ex H H' ∧ H' p = some (.lst (as.map V.ref)) ∧ AllT K H' as ((List.range i).map fun (g : Nat) => cs.map fun c => c / at0 rs 0 + if (g : Int) < c % at0 rs 0 then 1 else 0)) (fun H3 e3 => ⟨_, [], rfl, (e1.trans e2).trans e3, e3 _ _ h2, trivial⟩) (fun i σ' H' hi z => ?_) fun σ' H' z => ?_
    · obtain ⟨_, as, rfl, e, h3, hA⟩ := z
      have hal : as.length = i := by rw [hA.length]; simp
      refine s_appX h3 (ev_var rfl) (P := TupAt K (iV (cs.map fun c => c / at0 rs 0 + if (i : Int) < c % at0 rs 0 then 1 else 0))) (ex_tupU (eu_tupN (el_lcn ((evj_tup (ev_var rfl) (ex_t e hT)).evi (walk_tup (xs := iV cs)) fun H1 e' => ex_t (e.trans e') hT) _ (by rw [iV_len, List.length_map, iV_len]) (by rw [iV_len]; omega) (fun _ => rfl) fun j x H4 e4 hx => ?_))) (by rw [List.length_map]; omega) fun v H4 e4 hv => ?_
      · obtain ⟨c, hc, rfl⟩ := iV_get hx
        refine ⟨.int (c / at0 rs 0 + if (i : Int) < c % at0 rs 0 then 1 else 0), iV_at (by rw [List.getElem?_map, hc]; rfl), ev_is (ev_op (ev_op (ev_var rfl) (ev_var rfl) (rv_div (by omega) (by omega))) (ev_intB (ev_op (ev_var rfl) (ev_op (ev_var rfl) (ev_var rfl) (rv_mod (by omega))) rv_I0)) rv_I0) ?_⟩
        congr 2
        simp
      · obtain ⟨q2, rfl, hq⟩ := hv
        refine ⟨_, as ++ [q2], rfl, Ex.mut (e.trans e4) hp0, by rw [upd_same, List.map_append]; rfl, ?_⟩
        rw [List.range_succ, List.map_append]
        exact allT_upd (e4 _ _ h3) ((hA.mono e4).snoc hq)
    · obtain ⟨_, as, rfl, e, h3, hA⟩ := z
      exact s_ret (ev_var rfl) fun H3 e3 => q _ H3 (e.trans e3) ⟨p, rfl, as, sq_of (e3 _ _ h3), hA.mono e3⟩
theorem sc_joint_split : FnScope ["schedule", "counts", "number"] ["schedule", "counts"] (defScope s_joint_split) := ⟨rfl, rfl, rfl, by decide +kernel, rfl, by decide +kernel, by decide +kernel⟩
theorem ok_joint_split (T : Tx K mg) : Ok P w K mg base 1 "joint_split" ["schedule", "counts"] (spPos K jointS) := by
  obtain ⟨fd, F⟩ := T.d_joint_split
  refine ⟨fd, F.ok sc_joint_split (fun vs H Q E h => ?_) (fun cdv A outer s H vs Q E hr h => ?_), F.bindsN (fun _ _ _ _ _ _ us hl => match us, hl with | [_, _], _ => rfl), F.kp, T.g_joint_split⟩
  · obtain ⟨a, b, rs, cs, rfl, _⟩ := h
    rfl
  · obtain ⟨a, b, rs, cs, rfl, hS, hT, hs, hn0, hl, hnn, hcl, q⟩ := h
    have h0 := head_pos hs hn0
    refine ⟨_, PSs.nox (pss_one (ps_ret (pe_op op_cat (pe_lst (pa_cons (pv 1) pa_nil)) (pe_lc (own := [("number", 2)]) rfl sc_joint_split.nd (pi_range2 (by rfl) T.f_range (pa_cons pe_int (pa_cons (pe_ix ix_listK (pv 0) pe_int (fun _ _ => rfl)) pa_nil))) (blkOk_by (N := ["schedule", "counts", "number"]) (sc := defScope s_joint_split) (own := [("number", 2)]) (by decide +kernel)) (fun _ _ _ _ _ => (pg_name (i := 2) sc_joint_split.nd rfl (.inl rfl))) (fun _ _ _ _ _ => pts_nil) (fun _ _ _ _ _ => (pe_op op_rep1K (pe_tup (pa_cons pe_int pa_nil)) (pe_callB call_lenK (by rfl) T.f_len bb_len (pa_cons (pv 1) pa_nil)))))))), ?_⟩
    refine s_retX (P := LTAt K (jointS rs cs)) (ex_catRaw (el_lst (ea_cons (ev_var rfl) ea_nil) (by simp)) hT (ex_lcTR (n := (at0 rs 0).toNat - 1) (evi_n ((evj_rng2 (lo := 1) (m := at0 rs 0) (ea_cons ev_c (ea_cons (ev_ixL (j := 0) (ev_var rfl) ev_c hS (iV_at (at0_some hn0))) ea_nil)) (by omega) (by omega) (by omega) (by omega)).evi walk_range fun _ _ => trivial) (by omega)) (fun _ => List.replicate cs.length 0) (by omega) (fun i x H1 H2 hi e y => ?_) mono_name) (by rw [List.length_map, List.length_range]; omega)) q
    obtain ⟨rfl, rfl⟩ := y
    refine ⟨rfl, rfl, Ex.refl _, ex_is (ex_rep1 (ex_tupU (eu_tup (ea_cons ev_c ea_nil) (by decide))) (ev_lenT (ev_var rfl) (ex_t e hT)) (by omega) (by rw [iV_len]; omega)) ?_⟩
    rw [iV_len, Int.toNat_natCast, iV_rep]
theorem sc_is_word : FnScope ["value", "words"] ["value", "words"] (defScope s_is_word) := ⟨rfl, rfl, rfl, by decide +kernel, rfl, by decide +kernel, by decide +kernel⟩
def spIsWord (K : PySem.W.Frag) : Sp := fun vs H Q _ => ∃ (v : V) (t : Addr) (ws : List Str), vs = [v, .ref t] ∧ SqT K H t (ws.map V.str) ∧ ((∃ s, v = .str s ∧ ∀ H', Ex H H' → Q (.bl (ws.any fun y => y == s)) H') ∨ ∃ (p : Addr) (xs : List V), v = .ref p ∧ SqL K H p xs ∧ ∀ H', Ex H H' → Q (.bl false) H')
theorem ok_is_word (T : Tx K mg) : Ok P w K mg base 1 "is_word" ["value", "words"] (spIsWord K) := by
  obtain ⟨fd, F⟩ := T.d_is_word
  refine ⟨fd, F.ok sc_is_word (fun vs H Q E h => ?_) (fun cdv A outer s H vs Q E hr h => ?_), F.bindsN (fun _ _ _ _ _ _ us hl => match us, hl with | [_, _], _ => rfl), F.kp, T.g_is_word⟩
  · obtain ⟨v, t, ws, rfl, _⟩ := h
    rfl
  · obtain ⟨v, t, ws, rfl, hT, h⟩ := h
    refine ⟨_, PSs.nox (pss_one (ps_ret (pe_and (pe_callB call_isiK (by rfl) T.f_isinstance bb_isinstance (pa_cons (pv 0) (pa_cons (pe_bltn (v := .ty "str") (by rfl) T.f_str bb_str rfl) pa_nil))) (pe_one (pe_cmpR op_inK (pv 0) (pv 1) (by rfl)))))), ?_⟩
    rcases h with ⟨s0, rfl, q⟩ | ⟨p, xs, rfl, hS, q⟩
    · refine s_ret (ev_is (ev_andV (ev_isi (ev_var rfl) (fun _ _ => .base (.str _)) k_ss) fun _ => ev_op (ev_var rfl) (ev_var rfl) (rv_isT hT rfl ?_)) ?_) q
      · rw [List.all_map, List.all_eq_true]
        intro _ _
        rfl
      · show V.bl (true && inV (.str s0) (ws.map V.str)) = _
        unfold inV
        rw [List.any_map]
        rfl
    · exact s_ret (ev_andV (b := true) (ev_isi (ev_var rfl) (fun _ e => tyx_list (ex_l e hS)) k_ls) fun hb => nomatch hb) q
theorem v_isWord {s : Str} {t : Addr} {ws : List Str} {H : Hp} (hT : SqT K H t (ws.map V.str)) : SpV (spIsWord K) [.str s, .ref t] H (.bl (ws.any fun y => y == s)) := fun H1 e Q q E => ⟨.str s, t, ws, rfl, ex_t e hT, .inl ⟨s, rfl, q⟩⟩
theorem v_isWordL {p t : Addr} {xs : List V} {ws : List Str} {H : Hp} (hT : SqT K H t (ws.map V.str)) (hS : SqL K H p xs) : SpV (spIsWord K) [.ref p, .ref t] H (.bl false) := fun H1 e Q q E => ⟨.ref p, t, ws, rfl, ex_t e hT, .inr ⟨p, xs, rfl, ex_l e hS, q⟩⟩
theorem sc_is_sequence : FnScope ["value"] ["value"] (defScope s_is_sequence) := ⟨rfl, rfl, rfl, by decide +kernel, rfl, by decide +kernel, by decide +kernel⟩
def spIsSeq (K : PySem.W.Frag) : Sp := fun vs H Q _ => (∃ s, vs = [.str s] ∧ ∀ H', Ex H H' → Q (.bl false) H') ∨ ∃ (p : Addr) (xs : List V), vs = [.ref p] ∧ SqL K H p xs ∧ ∀ H', Ex H H' → Q (.bl true) H'
theorem ok_is_sequence (T : Tx K mg) : Ok P w K mg base 1 "is_sequence" ["value"] (spIsSeq K) := by
  obtain ⟨fd, F⟩ := T.d_is_sequence
  refine ⟨fd, F.ok sc_is_sequence (fun vs H Q E h => ?_) (fun cdv A outer s H vs Q E hr h => ?_), F.bindsN (fun _ _ _ _ _ _ us hl => match us, hl with | [_], _ => rfl), F.kp, T.g_is_sequence⟩
  · rcases h with ⟨s0, rfl, _⟩ | ⟨p, xs, rfl, _⟩ <;> rfl
  · skip
    refine ⟨_, PSs.nox (pss_one (ps_ret (pe_callB call_isiTK (by rfl) T.f_isinstance bb_isinstance (pa_cons (pv 0) (pa_cons (pe_tup (pa_cons (pe_bltn (v := .ty "list") (by rfl) T.f_list bb_list rfl) (pa_cons (pe_bltn (v := .ty "tuple") (by rfl) T.f_tuple bb_tuple rfl) pa_nil))) pa_nil))))), ?_⟩
    rcases h with ⟨s0, rfl, q⟩ | ⟨p, xs, rfl, hS, q⟩
    · exact s_ret (ev_isT (ev_var rfl) (fun _ _ => .base (.str _)) k_slt) q
    · exact s_ret (ev_isT (ev_var rfl) (fun _ e => tyx_list (ex_l e hS)) k_llt) q
theorem v_isSeqS {s : Str} {H : Hp} : SpV (spIsSeq K) [.str s] H (.bl false) := fun H1 e Q q E => .inl ⟨s, rfl, q⟩
theorem v_isSeqL {p : Addr} {xs : List V} {H : Hp} (hS : SqL K H p xs) : SpV (spIsSeq K) [.ref p] H (.bl true) := fun H1 e Q q E => .inr ⟨p, xs, rfl, ex_l e hS, q⟩
theorem sc_require_small_rounds : FnScope ["schedule", "entry"] ["schedule"] (defScope s_require_small_rounds) := ⟨rfl, rfl, rfl, by decide +kernel, rfl, by decide +kernel, by decide +kernel⟩
def spReqSmalls (K : PySem.W.Frag) : Sp := fun vs H Q _ => ∃ (a : Addr) (rs : List Int), vs = [.ref a] ∧ SqL K H a (iV rs) ∧ (∀ r ∈ rs, r ≤ 1000) ∧ rs.length ≤ 200 ∧ ∀ H', Ex H H' → Q .non H'
theorem ok_require_small_rounds (T : Tx K mg) : Ok P w K mg base 1 "require_small_rounds" ["schedule"] (spReqSmalls K) := by
  obtain ⟨fd, F⟩ := T.d_require_small_rounds
  refine ⟨fd, F.ok sc_require_small_rounds (fun vs H Q E h => ?_) (fun cdv A outer s H vs Q E hr h => ?_), F.bindsN (fun _ _ _ _ _ _ us hl => match us, hl with | [_], _ => rfl), F.kp, T.g_require_small_rounds⟩
  · obtain ⟨a, rs, rfl, _⟩ := h
    rfl
  · obtain ⟨a, rs, rfl, hS, hr2, hl, q⟩ := h
    refine ⟨_, PSs.nox (pss_one (ps_if (pt_val (pe_callB (cr_anyK rfl) (by rfl) T.f_any bb_any (pa_cons (pe_lc (own := [("entry", 1)]) rfl sc_require_small_rounds.nd (pi_listK (pv 0)) (blkOk_by (N := ["schedule", "entry"]) (sc := defScope s_require_small_rounds) (own := [("entry", 1)]) (by decide +kernel)) (fun _ _ _ _ _ => (pg_name (i := 1) sc_require_small_rounds.nd rfl (.inl rfl))) (fun _ _ _ _ _ => pts_nil) (fun _ _ _ _ _ => (pe_cmpR op_gt (pv 1) (pe_gint T.i_MAX_GROUPS (by rfl)) (nomark _)))) pa_nil))) (pss_one ps_never) pss_nil)), ?_⟩
    refine s_when (b := false) (et_is (et_B (ev_anyN (bs := rs.map fun r => decide (r > 1000)) (el_lcn ((evj_list (ev_var rfl) hS).evi (walk_list (xs := iV rs)) fun H1 e => ex_l e hS) _ (by simp) (by rw [iV_len]; omega) (fun _ => rfl) fun i x H1 e hx => ?_))) ?_) (fun hb => nomatch hb) fun _ H1 e1 => q H1 e1
    · obtain ⟨r, hr1, rfl⟩ := iV_get hx
      exact ⟨.bl (decide (r > 1000)), by simp [hr1], ev_op (ev_var rfl) ev_c rv_I0⟩
    · rw [List.any_eq_false]
      intro b hb
      obtain ⟨r, hrm, rfl⟩ := List.mem_map.mp hb
      have := hr2 r hrm
      simp
      omega
theorem v_reqSmalls {a : Addr} {rs : List Int} {H : Hp} (hS : SqL K H a (iV rs)) (h : ∀ r ∈ rs, r ≤ 1000) (hl : rs.length ≤ 200) : SpV (spReqSmalls K) [.ref a] H .non := fun H1 e Q q E => ⟨a, rs, rfl, ex_l e hS, h, hl, q⟩
end
end SC

/-! part W5 -/
set_option Elab.async false
set_option linter.all false
set_option maxRecDepth 100000
set_option maxHeartbeats 4000000
namespace SC
open PySem PySem.Spec PyProof.Rows L2 Evl
def InstAt (K : PySem.W.Frag) (cls : Str) (H : Hp) (x : Addr) (v : V) : Prop := ∃ dx, H x = some (.ins (He.ga K cls) dx [("strategy", v)])
section
variable {K : PySem.W.Frag} {σ : L2.St} {H H' : Hp} {ta tb tc te tx to ti tl : TE} {tr : TA} {t u : TT} {x y z v : V} {P : V → Hp → Prop} {PP : List V → Hp → Prop} {D : Ends} {tz tu : TS}
theorem InstAt.mono {cls : Str} {x : Addr} (e : Ex H H') (h : InstAt K cls H x v) : InstAt K cls H' x v := by
  obtain ⟨dx, h⟩ := h
  exact ⟨dx, e _ _ h⟩
theorem ev_fld {cls : Str} {a : Addr} (ha : Ev ta σ H (.ref a)) (hi : InstAt K cls H a v) (c : Cls K (He.ga K cls)) (n : NoAttr K (He.ga K cls) "strategy") : Ev (tFld K ta "strategy") σ H v := fun H1 e Q q =>
  ha H1 e _ fun H2 e2 => by
    obtain ⟨dx, h⟩ := hi.mono (e.trans e2)
    exact ⟨a, _, dx, _, v, rfl, h, c, n, rfl, q H2 e2⟩
theorem ev_meth {cls m : Str} {sp : Sp} {dvs vs : List V} {E : XK} {a : Addr} (ha : Ev ta σ H (.ref a)) (hi : InstAt K cls H a v) (hm : ([("strategy", v)] : List (Str × V)).lookup m = none) (h : EvA tr σ H vs) (hs : SpV sp (.ref a :: (vs ++ dvs)) H z) : Ev (tMeth (He.ga K cls) m sp dvs E ta tr) σ H z := fun H1 e Q q =>
  ha H1 e _ fun H2 e2 => by
    obtain ⟨dx, hI⟩ := hi.mono (e.trans e2)
    exact ⟨a, dx, _, rfl, hI, hm, h H2 (e.trans e2) _ fun H3 e3 => hs H3 ((e.trans e2).trans e3) Q (fun H4 e4 => q H4 ((e2.trans e3).trans e4)) E⟩
theorem ex_methP {cls m : Str} {sp : Sp} {dvs : List V} {E : XK} {a : Addr} (ha : Ev ta σ H (.ref a)) (hi : InstAt K cls H a v) (hm : ([("strategy", v)] : List (Str × V)).lookup m = none) (h : EvP tr σ H PP) (hs : ∀ vs H2, Ex H H2 → PP vs H2 → SpX sp (.ref a :: (vs ++ dvs)) H2 P) : EvX (tMeth (He.ga K cls) m sp dvs E ta tr) σ H P := fun H1 e Q q =>
  ha H1 e _ fun H2 e2 => by
    obtain ⟨dx, hI⟩ := hi.mono (e.trans e2)
    exact ⟨a, dx, _, rfl, hI, hm, h H2 (e.trans e2) _ fun vs H3 e3 hP => hs vs H3 ((e.trans e2).trans e3) hP H3 (Ex.refl _) Q (fun w H4 e4 hw => q w H4 ((e2.trans e3).trans e4) hw) E⟩
theorem lk_no {m : Str} (h : (m == ("strategy" : Str)) = false := by decide) : ([("strategy", v)] : List (Str × V)).lookup m = none := by
  rw [List.lookup_cons, h]
  rfl
/-- what an instance's change leaves -/
theorem sqT_updI {l : Addr} {C : Addr} {dx : Addr} {fs : List (Str × V)} {o : HO} {q : Addr} {xs : List V} (h : SqT K H q xs) (hl : H l = some (.ins C dx fs)) : SqT K (upd H l o) q xs := by
  rcases h with h | h
  · refine Or.inl ?_
    rcases h with h | ⟨o2, h⟩
    · refine Or.inl ?_
      have : q ≠ l := fun e => by rw [e, hl] at h; cases h
      rw [upd_ne this]; exact h
    · refine Or.inr ⟨o2, ?_⟩
      have : q ≠ l := fun e => by rw [e, hl] at h; cases h
      rw [upd_ne this]; exact h
  · exact Or.inr h
theorem sqL_updI {l : Addr} {C : Addr} {dx : Addr} {fs : List (Str × V)} {o : HO} {q : Addr} {xs : List V} (h : SqL K H q xs) (hl : H l = some (.ins C dx fs)) : SqL K (upd H l o) q xs := by
  rcases h with h | h
  · refine Or.inl ?_
    rcases h with h | ⟨o2, h⟩
    · refine Or.inl ?_
      have : q ≠ l := fun e => by rw [e, hl] at h; cases h
      rw [upd_ne this]; exact h
    · refine Or.inr ⟨o2, ?_⟩
      have : q ≠ l := fun e => by rw [e, hl] at h; cases h
      rw [upd_ne this]; exact h
  · exact Or.inr h
theorem allT_updI {l : Addr} {C : Addr} {dx : Addr} {fs : List (Str × V)} {o : HO} (hl : H l = some (.ins C dx fs)) : ∀ {as : List Addr} {xss : List (List Int)}, AllT K H as xss → AllT K (upd H l o) as xss
  | [], [], _ => trivial
  | p :: ps, xs :: xss, h => ⟨sqT_updI h.1 hl, allT_updI hl h.2⟩
  | [], _ :: _, h => h.elim
  | _ :: _, [], h => h.elim
theorem lt_updI {l : Addr} {C : Addr} {dx : Addr} {fs : List (Str × V)} {o : HO} {q : Addr} {xss : List (List Int)} (h : LT K H q xss) (hl : H l = some (.ins C dx fs)) : LT K (upd H l o) q xss := by
  obtain ⟨as, h1, h2⟩ := h
  exact ⟨as, sqL_updI h1 hl, allT_updI hl h2⟩
/-- self.strategy = .. -/
theorem s_fldX {cls : Str} {a dx : Addr} (hv : EvX te σ H P) (ho : Ev to σ H (.ref a)) (hi : H a = some (.ins (He.ga K cls) dx [])) (c : Cls K (He.ga K cls)) (n : NoAttr K (He.ga K cls) "strategy") (hm : ∀ v H H', Ex H H' → P v H → P v H')
    (k : ∀ v H1, Ex H H1 → P v H1 → D.nx σ (upd H1 a (.ins (He.ga K cls) dx [("strategy", v)]))) : sFld K to te "strategy" D σ H := hv H (Ex.refl _) _ fun v H1 e1 h1 => ho H1 e1 _ fun H2 e2 =>
  ⟨a, _, dx, [], rfl, (e1.trans e2) _ _ hi, c, n, by show 0 < 1000; omega, k v H2 (e1.trans e2) (hm _ _ _ e2 h1)⟩
theorem make_ex {H : Hp} {x dx : Addr} {o1 o2 : HO} (hx : H x = none) (hd : H dx = none) (hne : dx ≠ x) : Ex H (upd (upd H dx o1) x o2) := (Ex.new hd).trans (Ex.new (by rw [upd_ne hne.symm]; exact hx))
/-- C(..) -/
theorem ex_make {C : Addr} {sp : Sp} {dvs vs : List V} {E : XK} (h : EvA tr σ H vs) (hs : ∀ H1 x dx, Ex H H1 → H1 x = none → Ex H1 (upd (upd H1 dx (.own x)) x (.ins C dx [])) → ∀ Q : VK, (∀ H2, Ex H1 H2 → P (.ref x) H2 → Q .non H2) → sp (.ref x :: (vs ++ dvs)) (upd (upd H1 dx (.own x)) x (.ins C dx [])) Q E) : EvX (tMake C sp dvs E tr) σ H P := fun H1 e Q q =>
  h H1 e _ fun H2 e2 x dx hx hd hne => hs H2 x dx (e.trans e2) hx (make_ex hx hd hne) _ fun H3 e3 hP => ⟨rfl, q _ H3 (e2.trans e3) hP⟩
end
/-! strategies, as they lie -/
def StgV (K : PySem.W.Frag) (H : Hp) : Stg → V → Prop
  | .bal, v => v = .str "balanced"
  | .even, v => v = .str "even"
  | .joint, v => v = .str "together"
  | .plan rows, v => ∃ p, v = .ref p ∧ LT K H p (rows.map rowL)
def isPlan : Stg → Bool
  | .plan _ => true
  | _ => false
inductive Chs
  | light
  | heavy
  | path (xs : List Int)
def ChsV (K : PySem.W.Frag) (H : Hp) : Chs → V → Prop
  | .light, v => v = .str "lightest"
  | .heavy, v => v = .str "heaviest"
  | .path xs, v => ∃ p, v = .ref p ∧ SqL K H p (iV xs)
def isPath : Chs → Bool
  | .path _ => true
  | _ => false
def CR : Chs → ChR
  | .light => IsLight
  | .heavy => IsHeavy
  | .path xs => fun i _ _ j => xs[i]? = some (j : Int)
def ChsOk (rs : List Int) : Chs → Prop
  | .path xs => xs.length = rs.length ∧ xs.length ≤ 1000 ∧ NN xs ∧ ∀ i, i < rs.length → at0 xs i < at0 rs i
  | _ => True
section
variable {K : PySem.W.Frag} {H H' : Hp} {v : V}
theorem StgV.mono (e : Ex H H') : ∀ {s : Stg}, StgV K H s v → StgV K H' s v
  | .bal, h => h
  | .even, h => h
  | .joint, h => h
  | .plan rows, ⟨p, e1, h⟩ => ⟨p, e1, h.mono e⟩
theorem ChsV.mono (e : Ex H H') : ∀ {s : Chs}, ChsV K H s v → ChsV K H' s v
  | .light, h => h
  | .heavy, h => h
  | .path xs, ⟨p, e1, h⟩ => ⟨p, e1, ex_l e h⟩
theorem StgV.cases {s : Stg} (h : StgV K H s v) : (∃ w, v = .str w ∧ isPlan s = false ∧ (["balanced", "even", "together"].any fun y => y == w) = true ∧ ∀ H', StgV K H' s v) ∨ ∃ rows p, s = .plan rows ∧ v = .ref p ∧ LT K H p (rows.map rowL) := by
  cases s with
  | bal => exact .inl ⟨_, h, rfl, by decide, fun _ => h⟩
  | even => exact .inl ⟨_, h, rfl, by decide, fun _ => h⟩
  | joint => exact .inl ⟨_, h, rfl, by decide, fun _ => h⟩
  | plan rows =>
    obtain ⟨p, e1, h⟩ := h
    exact .inr ⟨rows, p, rfl, e1, h⟩
theorem ChsV.cases {s : Chs} (h : ChsV K H s v) : (∃ w, v = .str w ∧ isPath s = false ∧ (["lightest", "heaviest"].any fun y => y == w) = true ∧ ∀ H', ChsV K H' s v) ∨ ∃ xs p, s = .path xs ∧ v = .ref p ∧ SqL K H p (iV xs) := by
  cases s with
  | light => exact .inl ⟨_, h, rfl, by decide, fun _ => h⟩
  | heavy => exact .inl ⟨_, h, rfl, by decide, fun _ => h⟩
  | path xs =>
    obtain ⟨p, e1, h⟩ := h
    exact .inr ⟨xs, p, rfl, e1, h⟩
end
end SC

/-! part F9 -/
set_option Elab.async false
set_option linter.all false
set_option maxRecDepth 100000
set_option maxHeartbeats 4000000
namespace SC
open PySem PySem.Spec PyProof.Rows L2 Evl
section
variable {P : Program} {w : World} {K : PySem.W.Frag} {mg : Str → Option Value} {base : Heap}
theorem words3 {σ : L2.St} {H : Hp} {a b c : Str} : EvX (tTup (tCons (tC (.str a)) (tCons (tC (.str b)) (tCons (tC (.str c)) tNil)))) σ H (TupAt K ([a, b, c].map V.str)) := ex_tupU (eu_tup (ea_cons ev_c (ea_cons ev_c (ea_cons ev_c ea_nil))) (by simp))
theorem words2 {σ : L2.St} {H : Hp} {a b : Str} : EvX (tTup (tCons (tC (.str a)) (tCons (tC (.str b)) tNil))) σ H (TupAt K ([a, b].map V.str)) := ex_tupU (eu_tup (ea_cons ev_c (ea_cons ev_c ea_nil)) (by simp))
theorem sc_S_init : FnScope ["self", "strategy"] ["self", "strategy"] (defScope s_S_init) := ⟨rfl, rfl, rfl, by decide +kernel, rfl, by decide +kernel, by decide +kernel⟩
def spSInit (K : PySem.W.Frag) : Sp := fun vs H Q _ => ∃ (x dx : Addr) (v : V) (B : Hp) (s : Stg), vs = [.ref x, v] ∧ B x = none ∧ Ex B H ∧ H x = some (.ins (He.ga K "Splitter") dx []) ∧ StgV K B s v ∧ ∀ v' H', Ex B H' → InstAt K "Splitter" H' x v' → StgV K H' s v' → Q .non H'
theorem ok_S_init (T : Tx K mg) : OkM P w K mg base 2 "Splitter" "__init__" ["self", "strategy"] (spSInit K) := by
  have O_is_sequence := ok_is_sequence (P := P) (w := w) (base := base) T
  have O_is_word := ok_is_word (P := P) (w := w) (base := base) T
  obtain ⟨fd, F⟩ := T.d_S_init
  refine ⟨fd, F.ok sc_S_init (fun vs H Q E h => ?_) (fun cdv A outer s H vs Q E hr h => ?_), F.bindsN (fun _ _ _ _ _ _ us hl => match us, hl with | [_, _], _ => rfl)⟩
  · obtain ⟨x, dx, v, B, s, rfl, _⟩ := h
    rfl
  · obtain ⟨x, dx, v, B, g, rfl, hB, eB, hx, hg, q⟩ := h
    refine ⟨_, PSs.nox (pss_cons (ps_if (pw_and (pt_not (pt_val (pe_ok O_is_word (hr.mono (by decide)) (by rfl) (pa_cons (pv 1) (pa_cons (pe_tup (pa_cons (pe_gstr T.s_BALANCED (by rfl)) (pa_cons (pe_gstr T.s_EVEN (by rfl)) (pa_cons (pe_gstr T.s_TOGETHER (by rfl)) pa_nil)))) pa_nil))))) (pw_and1 (pt_not (pt_val (pe_ok O_is_sequence (hr.mono (by decide)) (by rfl) (pa_cons (pv 1) pa_nil)))))).pt (pss_one ps_never) pss_nil)
      (pss_one (ps_fldK (pv 0) (pe_ifExp (pt_val (pe_ok O_is_sequence (hr.mono (by decide)) (by rfl) (pa_cons (pv 1) pa_nil))) (pe_callTy call_listK (by rfl) T.f_list bb_list (pa_cons (pv 1) pa_nil)) (pv 1)) rfl))), ?_⟩
    rcases hg.cases with ⟨z, rfl, _, hw, hall⟩ | ⟨rows, p, rfl, rfl, hL⟩
    · refine q_when (b := false) (et_is (et_and (b := true) (et_not (et_B (ev_callP (z := .bl (["balanced", "even", "together"].any fun y => y == z)) (ep_cons (ev_var rfl) (ep_consX (words3 (K := K)) TupAt.mono ep_nil)) fun vs H2 e2 hz => ?_))) (fun hb => ?_)) ?_) (fun hb => nomatch hb) fun _ H1 e1 => ?_
      · obtain ⟨r, rfl, v, r2, rfl, ⟨t, rfl, ht⟩, rfl⟩ := hz
        exact v_isWord ht
      · rw [hw] at hb
        cases hb
      · rw [hw]
        rfl
      · refine s_fldX (P := fun v _ => v = .str z) (ex_if (b := false) (et_B (ev_call (ea_cons (ev_var rfl) ea_nil) v_isSeqS)) (fun hb => nomatch hb) fun _ => ex_of (ev_var rfl)) (ev_var rfl) (e1 _ _ hx) T.cls_Splitter T.noat_Splitter (fun _ _ _ _ h => h) fun v H2 e2 hv => ?_
        subst hv
        exact q _ _ (Ex.mut ((eB.trans e1).trans e2) hB) ⟨dx, upd_same⟩ (hall _)
    · obtain ⟨as, hA, hal, hAll⟩ := (hL.mono eB).at
      refine q_when (b := false) (et_is (et_and (b := false) (et_not (et_B (ev_callP (z := .bl false) (ep_cons (ev_var rfl) (ep_consX (words3 (K := K)) TupAt.mono ep_nil)) fun vs H2 e2 hz => ?_))) (fun hb => et_is (et_not (et_B (ev_call (ea_cons (ev_var rfl) ea_nil) (v_isSeqL hA)))) rfl)) (by rfl)) (fun hb => nomatch hb) fun _ H1 e1 => ?_
      · obtain ⟨r, rfl, v, r2, rfl, ⟨t, rfl, ht⟩, rfl⟩ := hz
        exact v_isWordL ht (ex_l e2 hA)
      · refine s_fldX (P := fun v H => ∃ p, v = .ref p ∧ H p = some (.lst (as.map V.ref))) (ex_if (b := true) (et_B (ev_call (ea_cons (ev_var rfl) ea_nil) (v_isSeqL (ex_l e1 hA)))) (fun _ => ex_new (el_list (ev_var rfl) (ex_l e1 hA))) fun hb => nomatch hb) (ev_var rfl) (e1 _ _ hx) T.cls_Splitter T.noat_Splitter (fun v H1 H2 e => fun ⟨p, ep, h⟩ => ⟨p, ep, e _ _ h⟩) fun v H2 e2 hv => ?_
        obtain ⟨p2, rfl, hp2⟩ := hv
        refine q _ _ (Ex.mut ((eB.trans e1).trans e2) hB) ⟨dx, upd_same⟩ ⟨p2, rfl, lt_updI ⟨as, sq_of hp2, hAll.mono (e1.trans e2)⟩ ((e1.trans e2) _ _ hx)⟩
theorem sc_S_has_plan : FnScope ["self"] ["self"] (defScope s_S_has_plan) := ⟨rfl, rfl, rfl, by decide +kernel, rfl, by decide +kernel, by decide +kernel⟩
def spHasPlan (K : PySem.W.Frag) : Sp := fun vs H Q _ => ∃ (x : Addr) (v : V) (s : Stg), vs = [.ref x] ∧ InstAt K "Splitter" H x v ∧ StgV K H s v ∧ ∀ H', Ex H H' → Q (.bl (isPlan s)) H'
theorem ok_S_has_plan (T : Tx K mg) : OkM P w K mg base 1 "Splitter" "has_plan" ["self"] (spHasPlan K) := by
  obtain ⟨fd, F⟩ := T.d_S_has_plan
  refine ⟨fd, F.ok sc_S_has_plan (fun vs H Q E h => ?_) (fun cdv A outer s H vs Q E hr h => ?_), F.bindsN (fun _ _ _ _ _ _ us hl => match us, hl with | [_], _ => rfl)⟩
  · obtain ⟨x, v, s, rfl, _⟩ := h
    rfl
  · obtain ⟨x, v, g, rfl, hI, hg, q⟩ := h
    refine ⟨_, PSs.nox (pss_one (ps_ret (pe_callB call_isiK (by rfl) T.f_isinstance bb_isinstance (pa_cons (pe_fldK (pv 0) rfl) (pa_cons (pe_bltn (v := .ty "list") (by rfl) T.f_list bb_list rfl) pa_nil))))), ?_⟩
    rcases hg.cases with ⟨z, rfl, hp, hw, hall⟩ | ⟨rows, p, rfl, rfl, hL⟩
    · rw [hp] at q
      exact s_ret (ev_isi (ev_fld (ev_var rfl) hI T.cls_Splitter T.noat_Splitter) (fun _ _ => .base (.str _)) k_sl) q
    · obtain ⟨as, hA, hal, hAll⟩ := hL.at
      exact s_ret (ev_isi (ev_fld (ev_var rfl) hI T.cls_Splitter T.noat_Splitter) (fun _ e => tyx_list (ex_l e hA)) k_ll) q
theorem v_hasPlan {x : Addr} {v : V} {s : Stg} {H : Hp} (hI : InstAt K "Splitter" H x v) (hg : StgV K H s v) : SpV (spHasPlan K) [.ref x] H (.bl (isPlan s)) := fun H1 e Q q E => ⟨x, v, s, rfl, hI.mono e, hg.mono e, q⟩
theorem sc_S_fits : FnScope ["self", "schedule", "counts"] ["self", "schedule", "counts"] (defScope s_S_fits) := ⟨rfl, rfl, rfl, by decide +kernel, rfl, by decide +kernel, by decide +kernel⟩
def spSFits (K : PySem.W.Frag) : Sp := fun vs H Q _ => ∃ (x a b : Addr) (v : V) (s : Stg) (rs cs : List Int), vs = [.ref x, .ref a, .ref b] ∧ InstAt K "Splitter" H x v ∧ StgV K H s v ∧ SqL K H a (iV rs) ∧ SqT K H b (iV cs) ∧ Sched rs ∧ rs.length ≤ 200 ∧ NN cs ∧ cs.length ≤ 200 ∧ StgOk rs cs s ∧ ∀ H', Ex H H' → Q (.bl true) H'
theorem ok_S_fits (T : Tx K mg) : OkM P w K mg base 6 "Splitter" "fits" ["self", "schedule", "counts"] (spSFits K) := by
  have O_S_has_plan := ok_S_has_plan (P := P) (w := w) (base := base) T
  have O_check_plan := ok_check_plan (P := P) (w := w) (base := base) T
  obtain ⟨fd, F⟩ := T.d_S_fits
  refine ⟨fd, F.ok sc_S_fits (fun vs H Q E h => ?_) (fun cdv A outer s H vs Q E hr h => ?_), F.bindsN (fun _ _ _ _ _ _ us hl => match us, hl with | [_, _, _], _ => rfl)⟩
  · obtain ⟨x, a, b, v, s, rs, cs, rfl, _⟩ := h
    rfl
  · obtain ⟨x, a, b, v, g, rs, cs, rfl, hI, hg, hS, hT, hs, hl, hnn, hcl, ok, q⟩ := h
    refine ⟨_, PSs.nox (pss_cons (ps_if (pt_val (pe_okM0 O_S_has_plan T.cls_Splitter T.meth_Splitter_has_plan (hr.mono (by decide)) (pv 0))) (pss_one (ps_try_thru0 (pss_one (ps_expr (pe_ok O_check_plan (hr.mono (by decide)) (by rfl) (pa_cons (pv 1) (pa_cons (pv 2) (pa_cons (pe_fldK (pv 0) rfl) pa_nil)))))))) pss_nil)
      (pss_one (ps_ret pe_bl))), ?_⟩
    refine q_when (b := isPlan g) (et_B (ev_meth (ev_var rfl) hI lk_no ea_nil (v_hasPlan hI hg))) (fun hb H1 e1 => ?_) fun _ H1 e1 => s_ret ev_c fun H2 e2 => q H2 (e1.trans e2)
    rcases hg.cases with ⟨z, rfl, hp, hw, hall⟩ | ⟨rows, p, rfl, rfl, hL⟩
    · rw [hp] at hb
      cases hb
    · exact s_drop (ev_call (ea_cons (ev_var rfl) (ea_cons (ev_var rfl) (ea_cons (ev_fld (ev_var rfl) (hI.mono e1) T.cls_Splitter T.noat_Splitter) ea_nil))) (v_checkPlan (ex_l e1 hS) (ex_t e1 hT) (hL.mono e1) hs hl hnn hcl ok)) fun H2 e2 => by
        have z : tRet (tC (.bl true)) { nx := fun x H' => Q V.non H', rt := Q } (L2.start [Str.ofString "self", Str.ofString "schedule", Str.ofString "counts"] [V.ref x, V.ref a, V.ref b]) H2 := s_ret ev_c fun H3 e3 => q H3 ((e1.trans e2).trans e3)
        exact z
theorem v_sFits {x a b : Addr} {v : V} {s : Stg} {rs cs : List Int} {H : Hp} (hI : InstAt K "Splitter" H x v) (hg : StgV K H s v) (hS : SqL K H a (iV rs)) (hT : SqT K H b (iV cs)) (hs : Sched rs) (hl : rs.length ≤ 200) (hn : NN cs) (hcl : cs.length ≤ 200) (ok : StgOk rs cs s) : SpV (spSFits K) [.ref x, .ref a, .ref b] H (.bl true) :=
  fun H1 e Q q E => ⟨x, a, b, v, s, rs, cs, rfl, hI.mono e, hg.mono e, ex_l e hS, ex_t e hT, hs, hl, hn, hcl, ok, q⟩
theorem sc_S_split_position : FnScope ["self", "schedule", "counts"] ["self", "schedule", "counts"] (defScope s_S_split_position) := ⟨rfl, rfl, rfl, by decide +kernel, rfl, by decide +kernel, by decide +kernel⟩
def posF : Stg → List Int → List Int → List (List Int)
  | .bal => balS
  | .even => evenS
  | .joint => jointS
  | .plan _ => fun _ _ => []
def spSplitPos (K : PySem.W.Frag) : Sp := fun vs H Q _ => ∃ (x a b : Addr) (v : V) (s : Stg) (rs cs : List Int), vs = [.ref x, .ref a, .ref b] ∧ InstAt K "Splitter" H x v ∧ StgV K H s v ∧ isPlan s = false ∧ SqL K H a (iV rs) ∧ SqT K H b (iV cs) ∧ Sched rs ∧ 0 < rs.length ∧ rs.length ≤ 8 ∧ NN cs ∧ cs.length ≤ 200 ∧ ∀ v H', Ex H H' → LTAt K (posF s rs cs) v H' → Q v H'
theorem rv_strEq {H : Hp} {a b : Str} : RV rEq (.str a) (.str b) H (.bl (decide (a = b))) := by
  have := rv_eq (H := H) (x := .str a) (y := .str b) rfl
  have e : decide (V.str a = V.str b) = decide (a = b) := decide_eq_decide.mpr ⟨fun z => V.str.inj z, fun z => by rw [z]⟩
  rw [e] at this
  exact this
theorem ok_S_split_position (T : Tx K mg) : OkM P w K mg base 6 "Splitter" "split_position" ["self", "schedule", "counts"] (spSplitPos K) := by
  have O_balanced_split := ok_balanced_split (P := P) (w := w) (base := base) T
  have O_even_split := ok_even_split (P := P) (w := w) (base := base) T
  have O_joint_split := ok_joint_split (P := P) (w := w) (base := base) T
  obtain ⟨fd, F⟩ := T.d_S_split_position
  refine ⟨fd, F.ok sc_S_split_position (fun vs H Q E h => ?_) (fun cdv A outer s H vs Q E hr h => ?_), F.bindsN (fun _ _ _ _ _ _ us hl => match us, hl with | [_, _, _], _ => rfl)⟩
  · obtain ⟨x, a, b, v, s, rs, cs, rfl, _⟩ := h
    rfl
  · obtain ⟨x, a, b, v, g, rs, cs, rfl, hI, hg, hnp, hS, hT, hs, hn0, hl, hnn, hcl, q⟩ := h
    refine ⟨_, PSs.nox (pss_cons (ps_if (pt_cmpR op_eq (pe_fldK (pv 0) rfl) (pe_gstr T.s_BALANCED (by rfl)) (nomark _)) (pss_one (ps_ret (pe_ok O_balanced_split (hr.mono (by decide)) (by rfl) (pa_cons (pv 1) (pa_cons (pv 2) pa_nil))))) pss_nil)
      (pss_one (ps_ret (pe_ifExp (pt_cmpR op_eq (pe_fldK (pv 0) rfl) (pe_gstr T.s_EVEN (by rfl)) (nomark _)) (pe_ok O_even_split (hr.mono (by decide)) (by rfl) (pa_cons (pv 1) (pa_cons (pv 2) pa_nil))) (pe_ok O_joint_split (hr.mono (by decide)) (by rfl) (pa_cons (pv 1) (pa_cons (pv 2) pa_nil))))))), ?_⟩
    cases g with
    | bal =>
      have hv : v = .str "balanced" := hg
      subst hv
      refine q_when (b := true) (et_is (et_test (ev_op (ev_fld (ev_var rfl) hI T.cls_Splitter T.noat_Splitter) ev_c rv_strEq)) (by decide)) (fun _ H1 e1 => ?_) fun hb => nomatch hb
      exact s_retX (ex_call (ea_cons (ev_var rfl) (ea_cons (ev_var rfl) ea_nil)) (x_bal (F := balS) (ex_l e1 hS) (ex_t e1 hT) hs hn0 hl hnn hcl)) fun v H2 e2 hv => q v H2 (e1.trans e2) hv
    | even =>
      have hv : v = .str "even" := hg
      subst hv
      refine q_when (b := false) (et_is (et_test (ev_op (ev_fld (ev_var rfl) hI T.cls_Splitter T.noat_Splitter) ev_c rv_strEq)) (by decide)) (fun hb => nomatch hb) fun _ H1 e1 => ?_
      exact s_retX (ex_if (b := true) (et_is (et_test (ev_op (ev_fld (ev_var rfl) (hI.mono e1) T.cls_Splitter T.noat_Splitter) ev_c rv_strEq)) (by decide)) (fun _ => ex_call (ea_cons (ev_var rfl) (ea_cons (ev_var rfl) ea_nil)) (x_bal (F := evenS) (ex_l e1 hS) (ex_t e1 hT) hs hn0 hl hnn hcl)) fun hb => nomatch hb) fun v H2 e2 hv => q v H2 (e1.trans e2) hv
    | joint =>
      have hv : v = .str "together" := hg
      subst hv
      refine q_when (b := false) (et_is (et_test (ev_op (ev_fld (ev_var rfl) hI T.cls_Splitter T.noat_Splitter) ev_c rv_strEq)) (by decide)) (fun hb => nomatch hb) fun _ H1 e1 => ?_
      exact s_retX (ex_if (b := false) (et_is (et_test (ev_op (ev_fld (ev_var rfl) (hI.mono e1) T.cls_Splitter T.noat_Splitter) ev_c rv_strEq)) (by decide)) (fun hb => nomatch hb) fun _ => ex_call (ea_cons (ev_var rfl) (ea_cons (ev_var rfl) ea_nil)) (x_bal (F := jointS) (ex_l e1 hS) (ex_t e1 hT) hs hn0 hl hnn hcl)) fun v H2 e2 hv => q v H2 (e1.trans e2) hv
    | plan rows => cases hnp
theorem x_splitPos {x a b : Addr} {v : V} {s : Stg} {rs cs : List Int} {H : Hp} (hI : InstAt K "Splitter" H x v) (hg : StgV K H s v) (hp : isPlan s = false) (hS : SqL K H a (iV rs)) (hT : SqT K H b (iV cs)) (hs : Sched rs) (h0 : 0 < rs.length) (hl : rs.length ≤ 8) (hn : NN cs) (hcl : cs.length ≤ 200) :
    SpX (spSplitPos K) [.ref x, .ref a, .ref b] H (LTAt K (posF s rs cs)) := fun H1 e Q q E => ⟨x, a, b, v, s, rs, cs, rfl, hI.mono e, hg.mono e, hp, ex_l e hS, ex_t e hT, hs, h0, hl, hn, hcl, q⟩
theorem sc_C_init : FnScope ["self", "strategy", "is_list", "entry"] ["self", "strategy"] (defScope s_C_init) := ⟨rfl, rfl, rfl, by decide +kernel, rfl, by decide +kernel, by decide +kernel⟩
def spCInit (K : PySem.W.Frag) : Sp := fun vs H Q _ => ∃ (x dx : Addr) (v : V) (B : Hp) (s : Chs) (rs : List Int), vs = [.ref x, v] ∧ B x = none ∧ Ex B H ∧ H x = some (.ins (He.ga K "Chooser") dx []) ∧ ChsV K B s v ∧ ChsOk rs s ∧ ∀ v' H', Ex B H' → InstAt K "Chooser" H' x v' → ChsV K H' s v' → (∀ p, v' = .ref p → B p = none) → Q .non H'
theorem ok_C_init (T : Tx K mg) : OkM P w K mg base 3 "Chooser" "__init__" ["self", "strategy"] (spCInit K) := by
  have O_is_at_least := ok_is_at_least (P := P) (w := w) (base := base) T
  have O_is_sequence := ok_is_sequence (P := P) (w := w) (base := base) T
  have O_is_word := ok_is_word (P := P) (w := w) (base := base) T
  obtain ⟨fd, F⟩ := T.d_C_init
  refine ⟨fd, F.ok sc_C_init (fun vs H Q E h => ?_) (fun cdv A outer s H vs Q E hr h => ?_), F.bindsN (fun _ _ _ _ _ _ us hl => match us, hl with | [_, _], _ => rfl)⟩
  · obtain ⟨x, dx, v, B, s, rs, rfl, _⟩ := h
    rfl
  · obtain ⟨x, dx, v, B, g, rs, rfl, hB, eB, hx, hg, ok, q⟩ := h
    refine ⟨_, PSs.nox (pss_cons (ps_set (i := 2) sc_C_init.nd rfl (.inl rfl) (pe_and (pe_ok O_is_sequence (hr.mono (by decide)) (by rfl) (pa_cons (pv 1) pa_nil)) (pe_one (pe_callB (cr_allK rfl) (by rfl) T.f_all bb_all (pa_cons (pe_lc (own := [("entry", 3)]) rfl sc_C_init.nd (pi_listK (pv 1)) (blkOk_by (N := ["self", "strategy", "is_list", "entry"]) (sc := defScope s_C_init) (own := [("entry", 3)]) (by decide +kernel)) (fun _ _ _ _ _ => (pg_name (i := 3) sc_C_init.nd rfl (.inl rfl))) (fun _ _ _ _ _ => pts_nil) (fun _ _ _ _ _ => (pe_ok O_is_at_least (hr.mono (by decide)) (by rfl) (pa_cons (pv 3) (pa_cons pe_int pa_nil))))) pa_nil)))))
      (pss_cons (ps_if (pw_and (pt_not (pt_val (pe_ok O_is_word (hr.mono (by decide)) (by rfl) (pa_cons (pv 1) (pa_cons (pe_tup (pa_cons (pe_gstr T.s_LIGHTEST (by rfl)) (pa_cons (pe_gstr T.s_HEAVIEST (by rfl)) pa_nil))) pa_nil))))) (pw_and1 (pt_not (pt_val (pv 2))))).pt (pss_one ps_never) pss_nil)
      (pss_one (ps_fldK (pv 0) (pe_ifExp (pt_val (pv 2)) (pe_callTy call_listK (by rfl) T.f_list bb_list (pa_cons (pv 1) pa_nil)) (pv 1)) rfl)))), ?_⟩
    rcases hg.cases with ⟨z, rfl, _, hw, hall⟩ | ⟨xs, p, rfl, rfl, hL⟩
    · refine q_asg (v := .bl false) (ev_andV (b := true) (ev_call (ea_cons (ev_var rfl) ea_nil) v_isSeqS) fun hb => nomatch hb) fun H1 e1 => ?_
      refine q_when (b := false) (et_is (et_and (b := true) (et_not (et_B (ev_callP (z := .bl (["lightest", "heaviest"].any fun y => y == z)) (ep_cons (ev_var rfl) (ep_consX (words2 (K := K)) TupAt.mono ep_nil)) fun vs H2 e2 hz => ?_))) (fun hb => ?_)) ?_) (fun hb => nomatch hb) fun _ H2 e2 => ?_
      · obtain ⟨r, rfl, v, r2, rfl, ⟨t, rfl, ht⟩, rfl⟩ := hz
        exact v_isWord ht
      · rw [hw] at hb
        cases hb
      · rw [hw]
        rfl
      · refine s_fldX (P := fun v _ => v = .str z) (ex_if (b := false) (et_B (ev_var rfl)) (fun hb => nomatch hb) fun _ => ex_of (ev_var rfl)) (ev_var rfl) ((e1.trans e2) _ _ hx) T.cls_Chooser T.noat_Chooser (fun _ _ _ _ h => h) fun v H3 e3 hv => ?_
        subst hv
        exact q _ _ (Ex.mut (((eB.trans e1).trans e2).trans e3) hB) ⟨dx, upd_same⟩ (hall _) fun p hp => nomatch hp
    · have hA := ex_l eB hL
      obtain ⟨ok1, ok2, ok3, ok4⟩ := ok
      refine q_asg (v := .bl true) (ev_is (ev_andV (ev_call (ea_cons (ev_var rfl) ea_nil) (v_isSeqL hA)) fun _ => ev_allN (bs := xs.map fun c => decide (0 ≤ c)) (el_lcn ((evj_list (ev_var rfl) hA).evi (walk_list (xs := iV xs)) fun H1 e => ex_l e hA) _ (by simp) (by rw [iV_len]; omega) (fun _ => rfl) fun i x H1 e hx => ?_)) ?_) fun H1 e1 => ?_
      · obtain ⟨c, hc, rfl⟩ := iV_get hx
        exact ⟨.bl (decide (0 ≤ c)), by simp [hc], ev_call (ea_cons (ev_var rfl) (ea_cons ev_c ea_nil)) v_atLeast⟩
      · have h2 : (xs.map fun c => decide (0 ≤ c)).all id = true := by
          rw [List.all_eq_true]
          intro b hb
          obtain ⟨c, hc, rfl⟩ := List.mem_map.mp hb
          exact decide_eq_true (ok3 c hc)
        rw [h2]
        rfl
      have hA1 := ex_l e1 hA
      refine q_when (b := false) (et_is (et_and (b := false) (et_not (et_B (ev_callP (z := .bl false) (ep_cons (ev_var rfl) (ep_consX (words2 (K := K)) TupAt.mono ep_nil)) fun vs H2 e2 hz => ?_))) (fun hb => et_is (et_not (et_B (ev_var rfl))) rfl)) (by rfl)) (fun hb => nomatch hb) fun _ H2 e2 => ?_
      · obtain ⟨r, rfl, v, r2, rfl, ⟨t, rfl, ht⟩, rfl⟩ := hz
        exact v_isWordL ht (ex_l e2 hA1)
      · refine s_fldX (P := fun v H' => ∃ p, v = .ref p ∧ H2 p = none ∧ H' p = some (.lst (iV xs))) (ex_if (b := true) (et_B (ev_var rfl)) (fun _ => ex_newF (el_list (ev_var rfl) (ex_l e2 hA1))) fun hb => nomatch hb) (ev_var rfl) ((e1.trans e2) _ _ hx) T.cls_Chooser T.noat_Chooser (fun v H1 H2 e => fun ⟨p, ep, hf, h⟩ => ⟨p, ep, hf, e _ _ h⟩) fun v H3 e3 hv => ?_
        obtain ⟨p2, rfl, hf2, hp2⟩ := hv
        exact q _ _ (Ex.mut (((eB.trans e1).trans e2).trans e3) hB) ⟨dx, upd_same⟩ ⟨p2, rfl, sqL_updI (sq_of hp2) (((e1.trans e2).trans e3) _ _ hx)⟩ fun p hp => by
          have := V.ref.inj hp
          subst this
          exact fresh_back ((eB.trans e1).trans e2) hf2
theorem sc_C_has_list : FnScope ["self"] ["self"] (defScope s_C_has_list) := ⟨rfl, rfl, rfl, by decide +kernel, rfl, by decide +kernel, by decide +kernel⟩
def spHasList (K : PySem.W.Frag) : Sp := fun vs H Q _ => ∃ (x : Addr) (v : V) (s : Chs), vs = [.ref x] ∧ InstAt K "Chooser" H x v ∧ ChsV K H s v ∧ ∀ H', Ex H H' → Q (.bl (isPath s)) H'
theorem ok_C_has_list (T : Tx K mg) : OkM P w K mg base 1 "Chooser" "has_list" ["self"] (spHasList K) := by
  obtain ⟨fd, F⟩ := T.d_C_has_list
  refine ⟨fd, F.ok sc_C_has_list (fun vs H Q E h => ?_) (fun cdv A outer s H vs Q E hr h => ?_), F.bindsN (fun _ _ _ _ _ _ us hl => match us, hl with | [_], _ => rfl)⟩
  · obtain ⟨x, v, s, rfl, _⟩ := h
    rfl
  · obtain ⟨x, v, g, rfl, hI, hg, q⟩ := h
    refine ⟨_, PSs.nox (pss_one (ps_ret (pe_callB call_isiK (by rfl) T.f_isinstance bb_isinstance (pa_cons (pe_fldK (pv 0) rfl) (pa_cons (pe_bltn (v := .ty "list") (by rfl) T.f_list bb_list rfl) pa_nil))))), ?_⟩
    rcases hg.cases with ⟨z, rfl, hp, hw, hall⟩ | ⟨xs, p, rfl, rfl, hL⟩
    · rw [hp] at q
      exact s_ret (ev_isi (ev_fld (ev_var rfl) hI T.cls_Chooser T.noat_Chooser) (fun _ _ => .base (.str _)) k_sl) q
    · exact s_ret (ev_isi (ev_fld (ev_var rfl) hI T.cls_Chooser T.noat_Chooser) (fun _ e => tyx_list (ex_l e hL)) k_ll) q
theorem v_hasList {x : Addr} {v : V} {s : Chs} {H : Hp} (hI : InstAt K "Chooser" H x v) (hg : ChsV K H s v) : SpV (spHasList K) [.ref x] H (.bl (isPath s)) := fun H1 e Q q E => ⟨x, v, s, rfl, hI.mono e, hg.mono e, q⟩
theorem sc_C_fits : FnScope ["self", "schedule", "group", "entry"] ["self", "schedule"] (defScope s_C_fits) := ⟨rfl, rfl, rfl, by decide +kernel, rfl, by decide +kernel, by decide +kernel⟩
def spCFits (K : PySem.W.Frag) : Sp := fun vs H Q _ => ∃ (x a : Addr) (v : V) (s : Chs) (rs : List Int), vs = [.ref x, .ref a] ∧ InstAt K "Chooser" H x v ∧ ChsV K H s v ∧ SqL K H a (iV rs) ∧ ChsOk rs s ∧ ∀ H', Ex H H' → Q (.bl true) H'
theorem ok_C_fits (T : Tx K mg) : OkM P w K mg base 2 "Chooser" "fits" ["self", "schedule"] (spCFits K) := by
  have O_C_has_list := ok_C_has_list (P := P) (w := w) (base := base) T
  obtain ⟨fd, F⟩ := T.d_C_fits
  refine ⟨fd, F.ok sc_C_fits (fun vs H Q E h => ?_) (fun cdv A outer s H vs Q E hr h => ?_), F.bindsN (fun _ _ _ _ _ _ us hl => match us, hl with | [_, _], _ => rfl)⟩
  · obtain ⟨x, a, v, s, rs, rfl, _⟩ := h
    rfl
  · obtain ⟨x, a, v, g, rs, rfl, hI, hg, hS, ok, q⟩ := h
    refine ⟨_, PSs.nox (pss_cons (ps_if (pt_not (pt_val (pe_okM0 O_C_has_list T.cls_Chooser T.meth_Chooser_has_list (hr.mono (by decide)) (pv 0)))) (pss_one (ps_ret pe_bl)) pss_nil)
      (pss_cons (ps_if (pt_cmpR op_ne (pe_callB call_lenK (by rfl) T.f_len bb_len (pa_cons (pe_fldK (pv 0) rfl) pa_nil)) (pe_callB call_lenK (by rfl) T.f_len bb_len (pa_cons (pv 1) pa_nil)) (nomark _)) (pss_one (ps_ret pe_bl)) pss_nil)
      (pss_one (ps_ret (pe_callB (cr_allK rfl) (by rfl) T.f_all bb_all (pa_cons (pe_lc (own := [("group", 2), ("entry", 3)]) rfl sc_C_fits.nd (pi_zipSK (by rfl) T.f_zip (pa_cons (pe_fldK (pv 0) rfl) (pa_cons (pv 1) pa_nil))) (blkOk_by (N := ["self", "schedule", "group", "entry"]) (sc := defScope s_C_fits) (own := [("group", 2), ("entry", 3)]) (by decide +kernel)) (fun _ _ _ _ _ => (pg_tupK (n := 2) rfl (pgs_cons (pg_name (i := 2) sc_C_fits.nd rfl (.inl rfl)) (pgs_cons (pg_name (i := 3) sc_C_fits.nd rfl (.inl rfl)) pgs_nil)))) (fun _ _ _ _ _ => pts_nil) (fun _ _ _ _ _ => (pe_cmpR op_lt (pv 2) (pv 3) (nomark _)))) pa_nil)))))), ?_⟩
    refine q_when (b := !isPath g) (et_not (et_B (ev_meth (ev_var rfl) hI lk_no ea_nil (v_hasList hI hg)))) (fun hb H1 e1 => s_ret ev_c fun H2 e2 => q H2 (e1.trans e2)) fun hb H1 e1 => ?_
    rcases hg.cases with ⟨z, rfl, hp, hw, hall⟩ | ⟨xs, p, rfl, rfl, hL⟩
    · rw [hp] at hb
      cases hb
    · obtain ⟨ok1, ok2, ok3, ok4⟩ := ok
      refine q_when (b := false) (et_is (et_test (ev_op (ev_lenL (ev_fld (ev_var rfl) (hI.mono e1) T.cls_Chooser T.noat_Chooser) (ex_l e1 hL)) (ev_lenL (ev_var rfl) (ex_l e1 hS)) (rv_ne rfl))) ?_) (fun hb => nomatch hb) fun _ H2 e2 => ?_
      · rw [iV_len, iV_len, ok1]
        simp
      have hL2 := ex_l (e1.trans e2) hL
      have hS2 := ex_l (e1.trans e2) hS
      refine s_ret (ev_is (ev_allN (bs := (List.range rs.length).map fun i => decide (at0 xs i < at0 rs i)) (el_lcp (n := rs.length) (fx := fun i => (iV xs)[i]?) (fy := fun i => (iV rs)[i]?) ((evj_zipS (k1 := true) (k2 := true) (ea_cons (ev_fld (ev_var rfl) (hI.mono (e1.trans e2)) T.cls_Chooser T.noat_Chooser) (ea_cons (ev_var rfl) ea_nil)) hL2 hS2).evi (walk_zipS (n := rs.length) (xs := iV xs) (ys := iV rs) (by rw [iV_len, ok1]) (by rw [iV_len])) fun H1 e => ⟨ex_l e hL2, ex_l e hS2⟩) _ (by simp) (by omega) (fun _ _ => rfl) fun i x y H3 e3 hx hy => ?_)) ?_) fun H3 e3 => q H3 ((e1.trans e2).trans e3)
      · obtain ⟨c, hc, rfl⟩ := iV_get hx
        obtain ⟨r, hr1, rfl⟩ := iV_get hy
        have hi := (List.getElem?_eq_some_iff.mp hr1).1
        refine ⟨.bl (decide (c < r)), ?_, ev_op (ev_var rfl) (ev_var rfl) rv_I0⟩
        rw [List.getElem?_map, List.getElem?_map, List.getElem?_range hi]
        show some (V.bl (decide (at0 xs i < at0 rs i))) = _
        rw [at0_get hc, at0_get hr1]
      · have h2 : ((List.range rs.length).map fun i => decide (at0 xs i < at0 rs i)).all id = true := by
          rw [List.all_eq_true]
          intro b hb
          obtain ⟨i, hi, rfl⟩ := List.mem_map.mp hb
          exact decide_eq_true (ok4 i (List.mem_range.mp hi))
        rw [h2]
theorem v_cFits {x a : Addr} {v : V} {s : Chs} {rs : List Int} {H : Hp} (hI : InstAt K "Chooser" H x v) (hg : ChsV K H s v) (hS : SqL K H a (iV rs)) (ok : ChsOk rs s) : SpV (spCFits K) [.ref x, .ref a] H (.bl true) := fun H1 e Q q E => ⟨x, a, v, s, rs, rfl, hI.mono e, hg.mono e, ex_l e hS, ok, q⟩
theorem sc_C_next_choice : FnScope ["self", "schedule", "counts", "split", "index"] ["self", "schedule", "counts", "split", "index"] (defScope s_C_next_choice) := ⟨rfl, rfl, rfl, by decide +kernel, rfl, by decide +kernel, by decide +kernel⟩
def spNext (K : PySem.W.Frag) : Sp := fun vs H Q _ => ∃ (x a b c : Addr) (k : Nat) (v : V) (s : Chs) (r : Int) (rs cs : List Int) (gs : List (List Int)), vs = [.ref x, .ref a, .ref b, .ref c, .int (k : Int)] ∧ InstAt K "Chooser" H x v ∧ ChsV K H s v ∧ SqL K H a (iV (r :: rs)) ∧ SqT K H b (iV cs) ∧ LT K H c gs ∧ Sched (r :: rs) ∧ rs.length ≤ 7 ∧
  NN cs ∧ cs.length ≤ 200 ∧ (gs.length : Int) = r ∧ IsSplit gs cs ∧ (∀ xs, s = .path xs → k < xs.length ∧ 0 ≤ at0 xs k ∧ at0 xs k < r) ∧ ∀ v H', Ex H H' → ChAt (CR s) k (r :: rs) gs v H' → Q v H'
theorem ok_C_next_choice (T : Tx K mg) : OkM P w K mg base 7 "Chooser" "next_choice" ["self", "schedule", "counts", "split", "index"] (spNext K) := by
  have O_require_split := ok_require_split (P := P) (w := w) (base := base) T
  have O_C_has_list := ok_C_has_list (P := P) (w := w) (base := base) T
  have O_is_at_least := ok_is_at_least (P := P) (w := w) (base := base) T
  have O_lightest_group := ok_lightest_group (P := P) (w := w) (base := base) T
  have O_heaviest_group := ok_heaviest_group (P := P) (w := w) (base := base) T
  obtain ⟨fd, F⟩ := T.d_C_next_choice
  refine ⟨fd, F.ok sc_C_next_choice (fun vs H Q E h => ?_) (fun cdv A outer s H vs Q E hr h => ?_), F.bindsN (fun _ _ _ _ _ _ us hl => match us, hl with | [_, _, _, _, _], _ => rfl)⟩
  · obtain ⟨x, a, b, c, k, v, s, r, rs, cs, gs, rfl, _⟩ := h
    rfl
  · obtain ⟨x, a, b, c, k, v, g, r, rs, cs, gs, rfl, hI, hg, hS, hT, hG, hs, hsl, hnn, hcl, hgr, hsp, hpa, q⟩ := h
    refine ⟨_, PSs.nox (pss_cons (ps_expr (pe_ok O_require_split (hr.mono (by decide)) (by rfl) (pa_cons (pv 1) (pa_cons (pv 2) (pa_cons (pv 3) pa_nil)))))
      (pss_cons (ps_if (pw_or (pt_not (pt_val (pe_ok O_is_at_least (hr.mono (by decide)) (by rfl) (pa_cons (pv 4) (pa_cons pe_int pa_nil))))) (pw_or1 (pw_and (pt_val (pe_okM0 O_C_has_list T.cls_Chooser T.meth_Chooser_has_list (hr.mono (by decide)) (pv 0))) (pw_and1 (pt_cmpR op_ge (pv 4) (pe_callB call_lenK (by rfl) T.f_len bb_len (pa_cons (pe_fldK (pv 0) rfl) pa_nil)) (nomark _)))).pt)).pt (pss_one ps_never) pss_nil)
      (pss_cons (ps_if (pt_val (pe_okM0 O_C_has_list T.cls_Chooser T.meth_Chooser_has_list (hr.mono (by decide)) (pv 0))) (pss_cons (ps_if (pt_cmpR op_ge (pe_ix ix_listK (pe_fldK (pv 0) rfl) (pv 4) (fun _ _ => rfl)) (pe_ix ix_listK (pv 1) pe_int (fun _ _ => rfl)) (nomark _)) (pss_one ps_never) pss_nil)
      (pss_one (ps_ret (pe_ix ix_listK (pe_fldK (pv 0) rfl) (pv 4) (fun _ _ => rfl))))) pss_nil)
      (pss_cons (ps_if (pt_cmpR op_eq (pe_fldK (pv 0) rfl) (pe_gstr T.s_LIGHTEST (by rfl)) (nomark _)) (pss_one (ps_ret (pe_ok O_lightest_group (hr.mono (by decide)) (by rfl) (pa_cons (pv 1) (pa_cons (pv 2) (pa_cons (pv 3) pa_nil)))))) pss_nil)
      (pss_one (ps_ret (pe_ok O_heaviest_group (hr.mono (by decide)) (by rfl) (pa_cons (pv 1) (pa_cons (pv 2) (pa_cons (pv 3) pa_nil)))))))))), ?_⟩
    refine q_drop (ev_call (ea_cons (ev_var rfl) (ea_cons (ev_var rfl) (ea_cons (ev_var rfl) ea_nil))) (v_reqSplit hS hT hG hs (by omega) hnn hcl hgr hsp)) fun H1 e1 => ?_
    have hI1 := hI.mono e1
    have hg1 := hg.mono e1
    rcases hg1.cases with ⟨z, rfl, hp, hw, hall⟩ | ⟨xs, p, rfl, rfl, hL⟩
    · refine q_when (b := false) (et_is (et_or (et_not (et_B (ev_call (ea_cons (ev_var rfl) (ea_cons ev_c ea_nil)) v_atLeast))) fun _ => et_and (a := false) (b := true) (et_is (et_B (ev_meth (ev_var rfl) hI1 lk_no ea_nil (v_hasList hI1 hg1))) hp) fun hb => nomatch hb) ?_) (fun hb => nomatch hb) fun _ H2 e2 => ?_
      · have : decide ((0 : Int) ≤ (k : Int)) = true := decide_eq_true (by omega)
        rw [this]
        rfl
      have hI2 := hI1.mono e2
      have hg2 := hg1.mono e2
      refine q_when (b := false) (et_is (et_B (ev_meth (ev_var rfl) hI2 lk_no ea_nil (v_hasList hI2 hg2))) hp) (fun hb => nomatch hb) fun _ H3 e3 => ?_
      have hI3 := hI2.mono e3
      have e13 := (e1.trans e2).trans e3
      cases g with
      | light =>
        have hv : V.str z = .str "lightest" := hg
        have hz := V.str.inj hv
        subst hz
        refine q_when (b := true) (et_is (et_test (ev_op (ev_fld (ev_var rfl) hI3 T.cls_Chooser T.noat_Chooser) ev_c rv_strEq)) (by decide)) (fun _ H4 e4 => ?_) fun hb => nomatch hb
        have e14 := e13.trans e4
        exact s_retX (ex_call (ea_cons (ev_var rfl) (ea_cons (ev_var rfl) (ea_cons (ev_var rfl) ea_nil))) (x_choose (C := IsLight) (ex_l e14 hS) (ex_t e14 hT) (hG.mono e14) hs hsl hnn hcl hgr hsp)) fun v H5 e5 hv => q v H5 (e14.trans e5) hv
      | heavy =>
        have hv : V.str z = .str "heaviest" := hg
        have hz := V.str.inj hv
        subst hz
        refine q_when (b := false) (et_is (et_test (ev_op (ev_fld (ev_var rfl) hI3 T.cls_Chooser T.noat_Chooser) ev_c rv_strEq)) (by decide)) (fun hb => nomatch hb) fun _ H4 e4 => ?_
        have e14 := e13.trans e4
        exact s_retX (ex_call (ea_cons (ev_var rfl) (ea_cons (ev_var rfl) (ea_cons (ev_var rfl) ea_nil))) (x_choose (C := IsHeavy) (ex_l e14 hS) (ex_t e14 hT) (hG.mono e14) hs hsl hnn hcl hgr hsp)) fun v H5 e5 hv => q v H5 (e14.trans e5) hv
      | path xs => cases hp
    · obtain ⟨hk, hx0, hx1⟩ := hpa xs rfl
      refine q_when (b := false) (et_is (et_or (et_not (et_B (ev_call (ea_cons (ev_var rfl) (ea_cons ev_c ea_nil)) v_atLeast))) fun _ => et_and (et_B (ev_meth (ev_var rfl) hI1 lk_no ea_nil (v_hasList hI1 hg1))) fun _ => et_test (ev_op (ev_var rfl) (ev_lenL (ev_fld (ev_var rfl) hI1 T.cls_Chooser T.noat_Chooser) hL) rv_I0)) ?_) (fun hb => nomatch hb) fun _ H2 e2 => ?_
      · have h1 : decide ((0 : Int) ≤ (k : Int)) = true := decide_eq_true (by omega)
        have h2 : decide ((k : Int) ≥ (((iV xs).length : Nat) : Int)) = false := decide_eq_false (by rw [iV_len]; omega)
        rw [h1, h2]
        rfl
      have hI2 := hI1.mono e2
      have hg2 := hg1.mono e2
      refine q_when (b := true) (et_B (ev_meth (ev_var rfl) hI2 lk_no ea_nil (v_hasList hI2 hg2))) (fun _ H3 e3 => ?_) fun hb => nomatch hb
      have hI3 := hI2.mono e3
      have e13 := (e1.trans e2).trans e3
      have hL3 := ex_l (e2.trans e3) hL
      refine q_when (b := false) (et_is (et_test (ev_op (ev_ixL (j := k) (ev_fld (ev_var rfl) hI3 T.cls_Chooser T.noat_Chooser) (ev_var rfl) hL3 (iV_at (at0_some hk))) (ev_ixL (j := 0) (ev_var rfl) ev_c (ex_l e13 hS) rfl) rv_I0)) (decide_eq_false (by omega))) (fun hb => nomatch hb) fun _ H4 e4 => ?_
      refine s_ret (ev_ixL (j := k) (ev_fld (ev_var rfl) (hI3.mono e4) T.cls_Chooser T.noat_Chooser) (ev_var rfl) (ex_l e4 hL3) (iV_at (at0_some hk))) fun H5 e5 => q _ H5 ((e13.trans e4).trans e5) ⟨(at0 xs k).toNat, ?_, ?_, ?_⟩
      · congr 1
        omega
      · omega
      · show xs[k]? = some (((at0 xs k).toNat : Nat) : Int)
        rw [at0_some hk]
        congr 1
        omega
theorem x_next {x a b c : Addr} {k : Nat} {v : V} {s : Chs} {r : Int} {rs cs : List Int} {gs : List (List Int)} {H : Hp} (hI : InstAt K "Chooser" H x v) (hg : ChsV K H s v) (hS : SqL K H a (iV (r :: rs))) (hT : SqT K H b (iV cs)) (hG : LT K H c gs) (hs : Sched (r :: rs)) (hl : rs.length ≤ 7) (hn : NN cs) (hcl : cs.length ≤ 200) (hr : (gs.length : Int) = r) (hsp : IsSplit gs cs)
    (hpa : ∀ xs, s = .path xs → k < xs.length ∧ 0 ≤ at0 xs k ∧ at0 xs k < r) : SpX (spNext K) [.ref x, .ref a, .ref b, .ref c, .int (k : Int)] H (ChAt (CR s) k (r :: rs) gs) :=
  fun H1 e Q q E => ⟨x, a, b, c, k, v, s, r, rs, cs, gs, rfl, hI.mono e, hg.mono e, ex_l e hS, ex_t e hT, hG.mono e, hs, hl, hn, hcl, hr, hsp, hpa, q⟩
end
end SC

/-! part W6 -/
set_option Elab.async false
set_option linter.all false
set_option maxRecDepth 100000
set_option maxHeartbeats 4000000
namespace SC
open PySem PySem.Spec PyProof.Rows L2 Evl
theorem k_own {K : PySem.W.Frag} {C : Addr} : PySem.W.kitOne K (.ref C) (.ref C) = some true := by
  unfold PySem.W.kitOne
  rw [if_pos (by simp)]
section
variable {K : PySem.W.Frag} {σ : L2.St} {H H' : Hp} {ta tb tc te tx to ti tl t1 t2 t3 t4 : TE} {tr : TA} {t u : TT} {x y z v : V} {P : V → Hp → Prop} {PP : List V → Hp → Prop} {D : Ends} {tz tu : TS}
theorem q_tup4L {i j l m : Nat} {xs ys zs : List V} {c : V} (h1 : EvL t1 σ H xs) (h2 : EvL t2 σ H ys) (h3 : EvL t3 σ H zs) (h4 : Ev t4 σ H c)
    (k : ∀ p q r H1, Ex H H1 → H p = none → H q = none → H r = none → p ≠ q → p ≠ r → q ≠ r → H1 p = some (.lst xs) → H1 q = some (.lst ys) → H1 r = some (.lst zs) → tz D ((((σ.set i (some (.ref p))).set j (some (.ref q))).set l (some (.ref r))).set m (some c)) H1) :
    tSeq (tAsg (tTup (tCons t1 (tCons t2 (tCons t3 (tCons t4 tNil))))) (gTup K 4 (gCons (gName i) (gCons (gName j) (gCons (gName l) (gCons (gName m) gNil)))))) tz D σ H :=
  h1 H (Ex.refl H) _ fun p H1 hp e1 x1 => h2 H1 e1 _ fun q H2 hq e2 x2 => h3 H2 (e1.trans e2) _ fun r H3 hr e3 x3 => h4 H3 ((e1.trans e2).trans e3) _ fun H4 e4 => by
    have e := ((e1.trans e2).trans e3).trans e4
    refine ⟨by show 4 ≤ sizeLine; decide, fun T hT => ⟨T, _, rfl, st_of upd_same, rfl, _, _, rfl, _, _, rfl, _, _, rfl, _, _, rfl, rfl, k p q r _ (e.trans (Ex.new hT)) hp (fresh_back e1 hq) (fresh_back (e1.trans e2) hr) ?_ ?_ ?_ ?_ ?_ ?_⟩⟩
    · intro z; rw [← z, x1] at hq; cases hq
    · intro z; rw [← z, e2 _ _ x1] at hr; cases hr
    · intro z; rw [← z, x2] at hr; cases hr
    · exact Ex.new hT _ _ (e4 _ _ (e3 _ _ (e2 _ _ x1)))
    · exact Ex.new hT _ _ (e4 _ _ (e3 _ _ x2))
    · exact Ex.new hT _ _ (e4 _ _ x3)
theorem q_tup2X {i j : Nat} (h : EvX te σ H P) (k : ∀ v H1, Ex H H1 → P v H1 → ∃ p x y, v = .ref p ∧ SqT K H1 p [x, y] ∧ tz D ((σ.set i (some x)).set j (some y)) H1) :
    tSeq (tAsg te (gTup K 2 (gCons (gName i) (gCons (gName j) gNil)))) tz D σ H := h H (Ex.refl H) _ fun v H1 e hP => by
  obtain ⟨p, x, y, rfl, hp, hz⟩ := k v H1 e hP
  exact ⟨p, _, rfl, hp, rfl, x, _, rfl, y, _, rfl, rfl, hz⟩
theorem q_ifAsgX {i : Nat} {b : Bool} (h : EvT t σ H b) (h1 : b = true → EvX t1 σ H P) (h2 : b = false → EvX t2 σ H P) (k : ∀ v H1, Ex H H1 → P v H1 → tz D (σ.set i (some v)) H1) : tSeq (tIfS t (tAsg t1 (gName i)) (tAsg t2 (gName i))) tz D σ H :=
  q_if h (fun hb H1 e1 => s_asgX (D := { D with nx := tz D }) ((h1 hb).mono e1) fun v H2 e2 p => k v H2 (e1.trans e2) p) (fun hb H1 e1 => s_asgX (D := { D with nx := tz D }) ((h2 hb).mono e1) fun v H2 e2 p => k v H2 (e1.trans e2) p)
end
theorem SR_pos {rs cs : List Int} : ∀ {s : Stg}, isPlan s = false → ∀ hist rest pos, SR rs cs s hist rest pos (match s with | .bal => balS rest pos | .even => evenS rest pos | .joint => jointS rest pos | .plan _ => [])
  | .bal, _, _, _, _ => rfl
  | .even, _, _, _, _ => rfl
  | .joint, _, _, _, _ => rfl
end SC

/-! part F10 -/
set_option Elab.async false
set_option linter.all false
set_option maxRecDepth 100000
set_option maxHeartbeats 4000000
namespace SC
open PySem PySem.Spec PyProof.Rows L2 Evl
section
variable {P : Program} {w : World} {K : PySem.W.Frag} {mg : Str → Option Value} {base : Heap}
def PlayAt (rs cs : List Int) (s : Stg) (c : Chs) : V → Hp → Prop := fun v H => ∃ p m q x, v = .ref p ∧ H p = some (.tup [m, q, .int x]) ∧ Game (SR rs cs s) (CR c) rs [] cs x
def spPlay (K : PySem.W.Frag) : Sp := fun vs H Q _ => ∃ (a b x y : Addr) (rs cs : List Int) (v u : V) (s : Stg) (c : Chs), vs = [.ref a, .ref b, .ref x, .ref y] ∧ SqL K H a (iV rs) ∧ SqT K H b (iV cs) ∧ InstAt K "Splitter" H x v ∧ StgV K H s v ∧ InstAt K "Chooser" H y u ∧ ChsV K H c u ∧
  Sched rs ∧ rs.length ≤ 8 ∧ NN cs ∧ cs.length ≤ 200 ∧ StgOk rs cs s ∧ ChsOk rs c ∧ ∀ v H', Ex H H' → PlayAt rs cs s c v H' → Q v H'
theorem tyx_ins {T0 : Tx K mg} {H : Hp} {x : Addr} {v : V} (b : Bool) (h : InstAt K (if b then "Splitter" else "Chooser") H x v) : TyX K H (.ref x) (.ref (He.ga K (if b then "Splitter" else "Chooser"))) := by
  obtain ⟨dx, h⟩ := h
  obtain ⟨h1, h2, h3, h4⟩ := T0.inst b
  cases b with
  | true => exact .base (.ins h T0.cls_Splitter h1 h2 h3 h4)
  | false => exact .base (.ins h T0.cls_Chooser h1 h2 h3 h4)
theorem posF_SR {rs cs : List Int} : ∀ {s : Stg}, isPlan s = false → ∀ hist rest pos, SR rs cs s hist rest pos (posF s rest pos)
  | .bal, _, _, _, _ => rfl
  | .even, _, _, _, _ => rfl
  | .joint, _, _, _, _ => rfl
theorem sc_play : FnScope ["schedule", "counts", "splitter", "chooser", "moves", "positions", "choices", "arrivals", "index", "split", "group", "arrived", "position"] ["schedule", "counts", "splitter", "chooser"] (defScope s_play) := ⟨rfl, rfl, rfl, by decide +kernel, rfl, by decide +kernel, by decide +kernel⟩
theorem ok_play (T : Tx K mg) : Ok P w K mg base 8 "play" ["schedule", "counts", "splitter", "chooser"] (spPlay K) := by
  have O_require_schedule := ok_require_schedule (P := P) (w := w) (base := base) T
  have O_require_counts := ok_require_counts (P := P) (w := w) (base := base) T
  have O_S_fits := ok_S_fits (P := P) (w := w) (base := base) T
  have O_C_fits := ok_C_fits (P := P) (w := w) (base := base) T
  have O_require_small_rounds := ok_require_small_rounds (P := P) (w := w) (base := base) T
  have O_S_has_plan := ok_S_has_plan (P := P) (w := w) (base := base) T
  have O_split_of := ok_split_of (P := P) (w := w) (base := base) T
  have O_S_split_position := ok_S_split_position (P := P) (w := w) (base := base) T
  have O_C_next_choice := ok_C_next_choice (P := P) (w := w) (base := base) T
  have O_climbed := ok_climbed (P := P) (w := w) (base := base) T
  obtain ⟨fd, F⟩ := T.d_play
  refine ⟨fd, F.ok sc_play (fun vs H Q E h => ?_) (fun cdv A outer s H vs Q E hr h => ?_), F.bindsN (fun _ _ _ _ _ _ us hl => match us, hl with | [_, _, _, _], _ => rfl), F.kp, T.g_play⟩
  · obtain ⟨a, b, x, y, rs, cs, v, u, s, c, rfl, _⟩ := h
    rfl
  · obtain ⟨a, b, x, y, rs, cs, v, u, g, c, rfl, hS, hT, hI, hg, hJ, hc, hs, hl, hnn, hcl, ok, okc, q⟩ := h
    have F := fair hs hnn g ok
    refine ⟨_, PSs.nox (pss_cons (ps_expr (pe_ok O_require_schedule (hr.mono (by decide)) (by rfl) (pa_cons (pv 0) pa_nil)))
      (pss_cons (ps_expr (pe_ok O_require_counts (hr.mono (by decide)) (by rfl) (pa_cons (pv 1) pa_nil)))
      (pss_cons (ps_if (pw_or (pt_not (pt_val (pe_callB call_isiK (by rfl) T.f_isinstance bb_isinstance (pa_cons (pv 2) (pa_cons (pe_glob (v := .ref (He.ga K "Splitter")) (by rfl) T.g_Splitter rfl) pa_nil))))) (pw_or1 (pt_not (pt_val (pe_okM O_S_fits T.cls_Splitter T.meth_Splitter_fits (hr.mono (by decide)) (pv 2) (pa_cons (pv 0) (pa_cons (pv 1) pa_nil))))))).pt (pss_one ps_never) pss_nil)
      (pss_cons (ps_if (pw_or (pt_not (pt_val (pe_callB call_isiK (by rfl) T.f_isinstance bb_isinstance (pa_cons (pv 3) (pa_cons (pe_glob (v := .ref (He.ga K "Chooser")) (by rfl) T.g_Chooser rfl) pa_nil))))) (pw_or1 (pt_not (pt_val (pe_okM O_C_fits T.cls_Chooser T.meth_Chooser_fits (hr.mono (by decide)) (pv 3) (pa_cons (pv 0) pa_nil)))))).pt (pss_one ps_never) pss_nil)
      (pss_cons (ps_expr (pe_ok O_require_small_rounds (hr.mono (by decide)) (by rfl) (pa_cons (pv 0) pa_nil)))
      (pss_cons (ps_asg (pe_tup (pa_cons (pe_lst pa_nil) (pa_cons (pe_lst (pa_cons (pv 1) pa_nil)) (pa_cons (pe_lst pa_nil) (pa_cons pe_int pa_nil))))) (pg_tupK (n := 4) rfl (pgs_cons (pg_name (i := 4) sc_play.nd rfl (.inl rfl)) (pgs_cons (pg_name (i := 5) sc_play.nd rfl (.inl rfl)) (pgs_cons (pg_name (i := 6) sc_play.nd rfl (.inl rfl)) (pgs_cons (pg_name (i := 7) sc_play.nd rfl (.inl rfl)) pgs_nil))))))
      (pss_cons (ps_for PassesOwn.never rfl (pi_range1 (by rfl) T.f_range (pa_cons (pe_callB call_lenK (by rfl) T.f_len bb_len (pa_cons (pv 0) pa_nil)) pa_nil)) (pg_name (i := 8) sc_play.nd rfl (.inl rfl)) (pss_cons (ps_if (pt_val (pe_okM0 O_S_has_plan T.cls_Splitter T.meth_Splitter_has_plan (hr.mono (by decide)) (pv 2))) (pss_one (ps_set (i := 9) sc_play.nd rfl (.inl rfl) (pe_ok O_split_of (hr.mono (by decide)) (by rfl) (pa_cons (pv 0) (pa_cons (pv 1) (pa_cons (pe_fldK (pv 2) rfl) (pa_cons (pv 6) pa_nil))))))) (pss_one (ps_set (i := 9) sc_play.nd rfl (.inl rfl) (pe_okM O_S_split_position T.cls_Splitter T.meth_Splitter_split_position (hr.mono (by decide)) (pv 2) (pa_cons (pe_slice sl_listK (pv 0) (po_some (pv 8)) po_none) (pa_cons (pe_ix ix_listK (pv 5) (pe_un un_neg pe_int) (fun _ _ => rfl)) pa_nil))))))
      (pss_cons (ps_set (i := 10) sc_play.nd rfl (.inl rfl) (pe_okM O_C_next_choice T.cls_Chooser T.meth_Chooser_next_choice (hr.mono (by decide)) (pv 3) (pa_cons (pe_slice sl_listK (pv 0) (po_some (pv 8)) po_none) (pa_cons (pe_ix ix_listK (pv 5) (pe_un un_neg pe_int) (fun _ _ => rfl)) (pa_cons (pv 9) (pa_cons (pv 8) pa_nil))))))
      (pss_cons (ps_asg (pe_ok O_climbed (hr.mono (by decide)) (by rfl) (pa_cons (pe_ix ix_listK (pv 9) (pv 10) (fun _ _ => rfl)) pa_nil)) (pg_tupK (n := 2) rfl (pgs_cons (pg_name (i := 11) sc_play.nd rfl (.inl rfl)) (pgs_cons (pg_name (i := 12) sc_play.nd rfl (.inl rfl)) pgs_nil))))
      (pss_cons (ps_expr (pe_bmK PySem.F.plainAttrs_list PySem.F.slot_list_append PySem.F.type_list_append mt_append (pv 6) (pa_cons (pv 10) pa_nil)))
      (pss_cons (ps_expr (pe_bmK PySem.F.plainAttrs_list PySem.F.slot_list_append PySem.F.type_list_append mt_append (pv 4) (pa_cons (pe_tup (pa_cons (pv 9) (pa_cons (pv 10) pa_nil))) pa_nil)))
      (pss_cons (ps_expr (pe_bmK PySem.F.plainAttrs_list PySem.F.slot_list_append PySem.F.type_list_append mt_append (pv 5) (pa_cons (pv 12) pa_nil)))
      (pss_one (ps_aug (i := 7) sc_play.nd rfl (.inl rfl) (pv 11) ip_add)))))))))
      (pss_one (ps_ret (pe_tup (pa_cons (pv 4) (pa_cons (pv 5) (pa_cons (pv 7) pa_nil))))))))))))), ?_⟩
    refine q_drop (ev_call (ea_cons (ev_var rfl) ea_nil) (v_reqSched hS (by omega) fun x hx => (hs x hx).1)) fun H1 e1 => ?_
    refine q_drop (ev_call (ea_cons (ev_var rfl) ea_nil) (v_reqCounts (ex_t e1 hT) hcl hnn)) fun H2 e2 => ?_
    have e12 := e1.trans e2
    refine q_when (b := false) (et_is (et_or (et_not (et_B (ev_isiC (ev_var rfl) (fun H3 e3 => tyx_ins (T0 := T) true (hI.mono (e12.trans e3))) k_own))) fun _ => et_not (et_B (ev_meth (ev_var rfl) (hI.mono e12) lk_no (ea_cons (ev_var rfl) (ea_cons (ev_var rfl) ea_nil)) (v_sFits (hI.mono e12) (hg.mono e12) (ex_l e12 hS) (ex_t e12 hT) hs (by omega) hnn hcl ok)))) (by rfl)) (fun hb => nomatch hb) fun _ H3 e3 => ?_
    have e13 := e12.trans e3
    refine q_when (b := false) (et_is (et_or (et_not (et_B (ev_isiC (ev_var rfl) (fun H4 e4 => tyx_ins (T0 := T) false (hJ.mono (e13.trans e4))) k_own))) fun _ => et_not (et_B (ev_meth (ev_var rfl) (hJ.mono e13) lk_no (ea_cons (ev_var rfl) ea_nil) (v_cFits (hJ.mono e13) (hc.mono e13) (ex_l e13 hS) okc)))) (by rfl)) (fun hb => nomatch hb) fun _ H4 e4 => ?_
    have e14 := e13.trans e4
    refine q_drop (ev_call (ea_cons (ev_var rfl) ea_nil) (v_reqSmalls (ex_l e14 hS) (fun r hrm => by have := hs r hrm; omega) (by omega))) fun H5 e5 => ?_
    have e15 := e14.trans e5
    refine q_tup4L (el_lst ea_nil (by simp)) (el_lst (ea_cons (ev_var rfl) ea_nil) (by simp)) (el_lst ea_nil (by simp)) ev_c fun mv po ch H6 e6 fm fp fc nmp nmc npc hm hp hch => ?_
    refine q_forR1 (n := (rs.length : Int)) (ea_cons (ev_is (ev_lenL (ev_var rfl) (ex_l (e15.trans e6) hS)) (by rw [iV_len])) ea_nil) ⟨by omega, by omega⟩ (fun k σ' H' => ∃ hist pos arr pa mvs pre y8 y9 y10 y11 y12, σ' = [some (.ref a), some (.ref b), some (.ref x), some (.ref y), some (.ref mv), some (.ref po), some (.ref ch), some (.int arr), y8, y9, y10, y11, y12] ∧
      Ex H5 H' ∧ H' mv = some (.lst mvs) ∧ mvs.length = k ∧ H' po = some (.lst (pre ++ [.ref pa])) ∧ pre.length = k ∧ H' ch = some (.lst (iV hist)) ∧ hist.length = k ∧ SqT K H' pa (iV pos) ∧ JR rs cs g hist (rs.drop k) pos ∧ ∀ z, Game (SR rs cs g) (CR c) (rs.drop k) hist pos z → Game (SR rs cs g) (CR c) rs [] cs (arr + z))
      (fun H7 e7 => ⟨[], cs, 0, b, [], [], _, _, _, _, _, rfl, e6.trans e7, e7 _ _ hm, rfl, e7 _ _ hp, rfl, e7 _ _ hch, rfl, ex_t ((e15.trans e6).trans e7) hT, ?_, fun z hz => ?_⟩) (fun k σ' H' hk z => ?_) fun σ' H' z => ?_
    · rw [List.drop_zero]
      exact root hs hnn hcl g ok
    · rw [List.drop_zero] at hz
      rw [Int.zero_add]
      exact hz
    · obtain ⟨hist, pos, arr, pa, mvs, pre, y8, y9, y10, y11, y12, rfl, e, hm, hml, hp, hpl, hch, hhl, hpa, hjr, hgame⟩ := z
      have hk' : k < rs.length := by omega
      have hrd : rs.drop k = at0 rs k :: rs.drop (k + 1) := drop_eq hk'
      have hb := hs _ (at0_mem hk')
      have eH := e15.trans e
      rw [hrd] at hjr hgame
      have hsd : Sched (at0 rs k :: rs.drop (k + 1)) := by rw [← hrd]; exact hs.drop k
      have hdl : (rs.drop (k + 1)).length ≤ 7 := by rw [List.length_drop]; omega
      obtain ⟨hpn, hpl2⟩ := jr_pos hs hnn hcl g ok _ _ _ hjr
      refine q_ifAsgX (P := fun v H => ∃ gs, SR rs cs g hist (at0 rs k :: rs.drop (k + 1)) pos gs ∧ LTAt K gs v H) (b := isPlan g) (et_B (ev_meth (ev_var rfl) (hI.mono eH) lk_no ea_nil (v_hasPlan (hI.mono eH) (hg.mono eH)))) (fun hb => ?_) (fun hb => ?_) fun v H7 e7 hv => ?_
      · rcases (hg.mono eH).cases with ⟨z, rfl, hpp, hw, hall⟩ | ⟨rows, p, rfl, rfl, hL⟩
        · rw [hpp] at hb
          cases hb
        · have hj2 : JP rs cs rows hist (at0 rs k :: rs.drop (k + 1)) pos := hjr
          exact ex_weak (ex_call (ea_cons (ev_var rfl) (ea_cons (ev_var rfl) (ea_cons (ev_fld (ev_var rfl) (hI.mono eH) T.cls_Splitter T.noat_Splitter) (ea_cons (ev_var rfl) ea_nil)))) (x_splitOf (ex_l eH hS) (ex_t eH hT) hL (sq_of hch) hs hl hnn hcl ok hj2.1 (by omega))) fun v H7 _ hv => ⟨_, rfl, hv⟩
      · exact ex_weak (ex_methP (ev_var rfl) (hI.mono eH) lk_no (ep_consL (xs := iV (at0 rs k :: rs.drop (k + 1))) (el_is (el_sl (ev_var rfl) (eo_some (ev_var rfl)) eo_none (ex_l eH hS)) (by rw [cut_from, iV_drop, hrd])) (ep_cons (ev_op (ev_var rfl) (ev_un ev_c ru_neg) (rv_ixL (v := .ref pa) (sq_of hp) atI_end)) ep_nil)) fun vs H7 e7 z => by
          obtain ⟨p1, r1, rfl, _, hp1, r2, rfl, rfl⟩ := z
          exact x_splitPos (hI.mono (eH.trans e7)) (hg.mono (eH.trans e7)) hb (sq_of hp1) (ex_t e7 hpa) hsd (by simp) (by simp; omega) hpn hpl2) fun v H7 _ hv => ⟨_, posF_SR hb _ _ _, hv⟩
      obtain ⟨gs, hSR, ⟨sp, rfl, hgs⟩⟩ := hv
      have hgl := F.len _ _ _ _ _ hjr hSR
      have hsplit := F.split _ _ _ _ _ hjr hSR
      have e7H := eH.trans e7
      refine q_asgX (P := ChAt (CR c) k (at0 rs k :: rs.drop (k + 1)) gs) (ex_methP (ev_var rfl) (hJ.mono e7H) lk_no (ep_consL (xs := iV (at0 rs k :: rs.drop (k + 1))) (el_is (el_sl (ev_var rfl) (eo_some (ev_var rfl)) eo_none (ex_l e7H hS)) (by rw [cut_from, iV_drop, hrd])) (ep_cons (ev_op (ev_var rfl) (ev_un ev_c ru_neg) (rv_ixL (v := .ref pa) (sq_of (e7 _ _ hp)) atI_end)) (ep_cons (ev_var rfl) (ep_cons (ev_var rfl) ep_nil)))) fun vs H8 e8 z => ?_) fun v H8 e8 hv => ?_
      · obtain ⟨p1, r1, rfl, _, hp1, r2, rfl, r3, rfl, r4, rfl, rfl⟩ := z
        refine x_next (hJ.mono (e7H.trans e8)) (hc.mono (e7H.trans e8)) (sq_of hp1) (ex_t (e7.trans e8) hpa) (hgs.mono e8) hsd hdl hpn hpl2 hgl hsplit fun xs hxs => ?_
        subst hxs
        obtain ⟨o1, o2, o3, o4⟩ := okc
        exact ⟨by omega, at0_nn o3 k, o4 k hk'⟩
      obtain ⟨j, rfl, hj, hCR⟩ := hv
      have e8H := e7H.trans e8
      obtain ⟨as, hA, hal, hAll⟩ := (hgs.mono e8).at
      obtain ⟨ga, hga⟩ : ∃ ga, as[j]? = some ga := ⟨as[j], by simp⟩
      obtain ⟨gg, hgg, hgT⟩ := hAll.get hga
      have hggd : gs.getD j [] = gg := by rw [List.getD_eq_getElem?_getD, hgg]; rfl
      have hggl : gg.length ≤ 200 := by rw [hsplit.len gg (List.mem_of_getElem? hgg)]; exact hpl2
      refine q_tup2X (P := ClimbAt K gg) (ex_call (ea_cons (ev_ixL (j := j) (v := .ref ga) (ev_var rfl) (ev_var rfl) hA (by rw [List.getElem?_map, hga]; rfl)) ea_nil) (x_climbed hgT hggl)) fun v H9 e9 hv => ?_
      obtain ⟨cp, cq, rfl, hcp, hcq⟩ := hv
      refine ⟨cp, _, _, rfl, st_of hcp, ?_⟩
      have e79 := (e7.trans e8).trans e9
      have fm' : H5 mv = none := fm
      refine q_app (e79 _ _ hch) (ev_var rfl) (ev_var rfl) (by rw [iV_len]; omega) fun H10 e10 => ?_
      have hm10 : upd H10 ch (.lst (iV hist ++ [.int (j : Int)])) mv = some (.lst mvs) := by rw [upd_ne nmc]; exact (e79.trans e10) _ _ hm
      refine q_appU hm10 (ev_var rfl) (eu_tup (ea_cons (ev_var rfl) (ea_cons (ev_var rfl) ea_nil)) (by simp)) (by omega) fun p2 H11 hp2 e11 h11 => ?_
      have hp11 : upd H11 mv (.lst (mvs ++ [.ref p2])) po = some (.lst (pre ++ [.ref pa])) := by
        rw [upd_ne nmp.symm]
        refine e11 _ _ ?_
        rw [upd_ne npc]
        exact (e79.trans e10) _ _ hp
      refine q_app hp11 (ev_var rfl) (ev_var rfl) (by rw [List.length_append]; simp; omega) fun H12 e12' => ?_
      have key := F.step _ _ _ _ _ j hjr hSR (by omega)
      rw [hggd] at key
      have hq9 : SqT K H12 cq (iV (climb gg).2) := ex_t e12' (sqT_upd (ex_t e11 (sqT_upd (ex_t e10 hcq) (e10 _ _ (e79 _ _ hch)))) (e11 _ _ hm10))
      refine s_aug (a := arr) (b := (climb gg).1) rfl (ev_var rfl) fun H13 e13' => ⟨hist ++ [(j : Int)], (climb gg).2, arr + (climb gg).1, cq, mvs ++ [.ref p2], pre ++ [.ref pa], _, _, _, _, _, rfl, ?_, ?_, ?_, ?_, ?_, ?_, ?_, ?_, ?_, ?_⟩
      · exact (Ex.mut ((Ex.mut ((Ex.mut ((e.trans e79).trans e10) fc).trans e11) fm).trans e12') fp).trans e13'
      · refine e13' _ _ ?_
        rw [upd_ne nmp]
        exact e12' _ _ upd_same
      · rw [List.length_append, hml]; rfl
      · exact e13' _ _ upd_same
      · rw [List.length_append, hpl]; rfl
      · refine e13' _ _ ?_
        rw [upd_ne npc.symm]
        refine e12' _ _ ?_
        rw [upd_ne nmc.symm]
        refine e11 _ _ ?_
        rw [upd_same, iV_append]
        rfl
      · rw [List.length_append, hhl]; rfl
      · exact ex_t e13' (sqT_upd hq9 (e12' _ _ hp11))
      · exact key
      · intro z hz
        have hG := Game.cons (S := SR rs cs g) (C := CR c) hSR (by rw [hhl]; exact hCR) (by omega) (by rw [hggd]; exact hz)
        rw [hggd] at hG
        have := hgame _ hG
        rw [Int.add_assoc]
        exact this
    · obtain ⟨hist, pos, arr, pa, mvs, pre, y8, y9, y10, y11, y12, rfl, e, hm, hml, hp, hpl, hch, hhl, hpa, hjr, hgame⟩ := z
      refine s_retU (eu_tup (ea_cons (ev_var rfl) (ea_cons (ev_var rfl) (ea_cons (ev_var rfl) ea_nil))) (by simp)) fun p2 H7 hp2 e7 h7 => q _ H7 ((e15.trans e).trans e7) ⟨p2, _, _, arr, rfl, h7, ?_⟩
      have := hgame 0 (by
        rw [Int.toNat_natCast, List.drop_eq_nil_of_le (Nat.le_refl _)]
        exact Game.nil _ _)
      rw [Int.add_zero] at this
      exact this
theorem x_play {a b x y : Addr} {rs cs : List Int} {v u : V} {s : Stg} {c : Chs} {H : Hp} (hS : SqL K H a (iV rs)) (hT : SqT K H b (iV cs)) (hI : InstAt K "Splitter" H x v) (hg : StgV K H s v) (hJ : InstAt K "Chooser" H y u) (hc : ChsV K H c u) (hs : Sched rs) (hl : rs.length ≤ 8) (hn : NN cs) (hcl : cs.length ≤ 200) (ok : StgOk rs cs s) (okc : ChsOk rs c) :
    SpX (spPlay K) [.ref a, .ref b, .ref x, .ref y] H (PlayAt rs cs s c) := fun H1 e Q q E => ⟨a, b, x, y, rs, cs, v, u, s, c, rfl, ex_l e hS, ex_t e hT, hI.mono e, hg.mono e, hJ.mono e, hc.mono e, hs, hl, hn, hcl, ok, okc, q⟩
end
end SC

/-! part W7 -/
set_option Elab.async false
set_option linter.all false
set_option maxRecDepth 100000
set_option maxHeartbeats 4000000
namespace SC
open PySem PySem.Spec PyProof.Rows L2 Evl
/-! the source, a list that changes -/
def SrcAt (H : Hp) (s : Addr) : Prop := ∃ a b c : Int, H s = some (.lst [.int a, .int b, .int c])
def rm (H : Hp) (s : Addr) : Hp := fun a => if a = s then none else H a
def Ey (s : Addr) (H H' : Hp) : Prop := Ex (rm H s) H' ∧ SrcAt H' s
section
variable {K : PySem.W.Frag} {H H' H1 H2 H3 : Hp} {s p : Addr} {o : HO} {xs : List V}
theorem rm_sub : Ex (rm H s) H := fun a o h => by
  unfold rm at h
  split at h
  · cases h
  · exact h
theorem rm_at (hp : p ≠ s) (h : H p = some o) : rm H s p = some o := by unfold rm; rw [if_neg hp]; exact h
theorem rm_none (h : H p = none) : rm H s p = none := by unfold rm; split <;> first | rfl | exact h
theorem rm_self : rm H s s = none := by unfold rm; rw [if_pos rfl]
theorem rm_ex (e : Ex H H') : Ex (rm H s) (rm H' s) := fun a o h => by
  have := rm_sub a o h
  unfold rm at h
  split at h
  · cases h
  · rename_i hne
    exact rm_at hne (e a o h)
theorem rm_lift (e : Ex (rm H s) H') : Ex (rm H s) (rm H' s) := fun a o h => by
  have h2 := e a o h
  unfold rm at h
  split at h
  · cases h
  · rename_i hne
    exact rm_at hne h2
theorem Ey.rm (e : Ey s H H') : Ex (rm H s) (SC.rm H' s) := rm_lift e.1
theorem Ey.refl (h : SrcAt H s) : Ey s H H := ⟨rm_sub, h⟩
theorem Ey.trans (e : Ey s H H1) (e2 : Ey s H1 H2) : Ey s H H2 := ⟨e.rm.trans e2.1, e2.2⟩
theorem SrcAt.ex (h : SrcAt H s) (e : Ex H H') : SrcAt H' s := by
  obtain ⟨a, b, c, h⟩ := h
  exact ⟨a, b, c, e _ _ h⟩
theorem Ey.of (h : SrcAt H s) (e : Ex H H') : Ey s H H' := ⟨rm_sub.trans e, h.ex e⟩
theorem SrcAt.ne (h : SrcAt H s) (hp : H p = none) : p ≠ s := by
  intro e
  obtain ⟨a, b, c, h⟩ := h
  rw [e, h] at hp
  cases hp
theorem Ey.fresh (e : Ey s H H') (hs : SrcAt H s) (h : H' p = none) : H p = none := by
  have hne := e.2.ne h
  cases hp : H p with
  | none => rfl
  | some o =>
    rw [e.1 p o (rm_at hne hp)] at h
    cases h
theorem SrcAt.upd (h : SrcAt H s) (hp : p ≠ s) : SrcAt (upd H p o) s := by
  obtain ⟨a, b, c, h⟩ := h
  exact ⟨a, b, c, by rw [upd_ne hp.symm]; exact h⟩
/-- an own list, not known to the base, may change -/
theorem Ey.mut (e : Ey s H H') (hp : H p = none) (hne : p ≠ s) : Ey s H (L2.upd H' p o) := ⟨Ex.mut e.1 (rm_none hp), e.2.upd hne⟩
theorem tup_ne (h : SrcAt H s) (hT : H p = some (.tup xs)) : p ≠ s := by
  intro e
  obtain ⟨a, b, c, h⟩ := h
  rw [e, h] at hT
  cases hT
theorem sqT_rm (hs : SrcAt H s) (h : SqT K H p xs) : SqT K (rm H s) p xs := by
  obtain ⟨a, b, c, hs⟩ := hs
  rcases h with h | h
  · refine Or.inl ?_
    rcases h with h | ⟨o, h⟩
    · exact Or.inl (rm_at (fun e => by rw [e, hs] at h; cases h) h)
    · exact Or.inr ⟨o, rm_at (fun e => by rw [e, hs] at h; cases h) h⟩
  · exact Or.inr h
theorem sqL_rm (hne : p ≠ s) (h : SqL K H p xs) : SqL K (rm H s) p xs := by
  rcases h with h | h
  · refine Or.inl ?_
    rcases h with h | ⟨o, h⟩
    · exact Or.inl (rm_at hne h)
    · exact Or.inr ⟨o, rm_at hne h⟩
  · exact Or.inr h
theorem allT_rm (hs : SrcAt H s) : ∀ {as : List Addr} {xss : List (List Int)}, AllT K H as xss → AllT K (rm H s) as xss
  | [], [], _ => trivial
  | p :: ps, xs :: xss, h => ⟨sqT_rm hs h.1, allT_rm hs h.2⟩
  | [], _ :: _, h => h.elim
  | _ :: _, [], h => h.elim
theorem lt_rm {xss : List (List Int)} (hs : SrcAt H s) (hne : p ≠ s) (h : LT K H p xss) : LT K (rm H s) p xss := by
  obtain ⟨as, h1, h2⟩ := h
  exact ⟨as, sqL_rm hne h1, allT_rm hs h2⟩
end
/-! evaluation that may change the source -/
def EvS (te : TE) (σ : L2.St) (s : Addr) (H : Hp) (P : V → Hp → Prop) : Prop := ∀ H1, Ey s H H1 → ∀ Q : VK, (∀ v H2, Ey s H1 H2 → P v H2 → Q v H2) → te σ H1 Q
def EaS (ta : TA) (σ : L2.St) (s : Addr) (H : Hp) (P : List V → Hp → Prop) : Prop := ∀ H1, Ey s H H1 → ∀ Q : List V → Hp → Prop, (∀ vs H2, Ey s H1 H2 → P vs H2 → Q vs H2) → ta σ H1 Q
def EtS (tt : TT) (σ : L2.St) (s : Addr) (H : Hp) (b : Bool) : Prop := ∀ H1, Ey s H H1 → ∀ Q : Bool → Hp → Prop, (∀ H2, Ey s H1 H2 → Q b H2) → tt σ H1 Q
def SpS (sp : Sp) (vs : List V) (s : Addr) (H : Hp) (P : V → Hp → Prop) : Prop := ∀ H1, Ey s H H1 → ∀ Q : VK, (∀ v H2, Ey s H1 H2 → P v H2 → Q v H2) → ∀ E : XK, sp vs H1 Q E
/-- n turns, N of n -/
def EiS (wi : TI) (σ : L2.St) (s : Addr) (H : Hp) (N : Nat → Prop) (Y : Nat → Hp → V → Hp → Prop) : Prop := ∀ H1, Ey s H H1 → ∀ R : It → Hp → Prop, (∀ J n H2, Ey s H1 H2 → N n → Walk J n (fun H3 => Ey s H2 H3) Y → R J H2) → wi σ H1 R
section
variable {K : PySem.W.Frag} {σ : L2.St} {H H' : Hp} {s : Addr} {ta tb tc te tx to ti tl : TE} {tr : TA} {t u : TT} {x y z v : V} {P P2 : V → Hp → Prop} {PP : List V → Hp → Prop} {D : Ends} {tz tu : TS} {wi : TI} {g : TG} {N : Nat → Prop} {Y : Nat → Hp → V → Hp → Prop}
theorem es_pure (h : EvX te σ (rm H s) P) : EvS te σ s H P := fun H1 e Q q => h H1 e.1 Q fun v H2 e2 p => q v H2 (Ey.of e.2 e2) p
theorem es_v (h : Ev te σ (rm H s) v) : EvS te σ s H (fun x _ => x = v) := es_pure (ex_of h)
theorem EvS.mono (e : Ey s H H') (h : EvS te σ s H P) : EvS te σ s H' P := fun H1 a Q q => h H1 (e.trans a) Q q
theorem es_weak (h : EvS te σ s H P) (f : ∀ v H1, Ey s H H1 → P v H1 → P2 v H1) : EvS te σ s H P2 := fun H1 e Q q => h H1 e Q fun v H2 e2 p => q v H2 e2 (f v H2 (e.trans e2) p)
theorem ea_nilS : EaS tNil σ s H (fun vs _ => vs = []) := fun H1 e Q q => q [] H1 (Ey.refl e.2) rfl
theorem ea_consS (h : EvS te σ s H P) (hm : ∀ v H1 H2, Ey s H1 H2 → P v H1 → P v H2) (hr : EaS tr σ s H PP) : EaS (tCons te tr) σ s H (fun vs H => ∃ v r, vs = v :: r ∧ P v H ∧ PP r H) := fun H1 e Q q =>
  h H1 e _ fun v H2 e2 h2 => hr H2 (e.trans e2) _ fun r H3 e3 pp => q _ H3 (e2.trans e3) ⟨v, r, rfl, hm _ _ _ e3 h2, pp⟩
theorem ea_consV (h : Ev te σ (rm H s) v) (hr : EaS tr σ s H PP) : EaS (tCons te tr) σ s H (fun vs H => ∃ r, vs = v :: r ∧ PP r H) := fun H1 e Q q =>
  h H1 e.1 _ fun H2 e2 => hr H2 (e.trans (Ey.of e.2 e2)) _ fun r H3 e3 pp => q _ H3 ((Ey.of e.2 e2).trans e3) ⟨r, rfl, pp⟩
theorem es_call {sp : Sp} {dvs : List V} {E : XK} (h : EaS tr σ s H PP) (hs : ∀ vs H2, Ey s H H2 → PP vs H2 → SpS sp (vs ++ dvs) s H2 P) : EvS (tCall sp dvs E tr) σ s H P := fun H1 e Q q =>
  h H1 e _ fun vs H2 e2 pp => hs vs H2 (e.trans e2) pp H2 (Ey.refl e2.2) Q (fun v H3 e3 h3 => q v H3 (e2.trans e3) h3) E
theorem es_callV {sp : Sp} {dvs vs : List V} {E : XK} (h : EvA tr σ (rm H s) vs) (hs : SpS sp (vs ++ dvs) s H P) : EvS (tCall sp dvs E tr) σ s H P := fun H1 e Q q =>
  h H1 e.1 _ fun H2 e2 => hs H2 (e.trans (Ey.of e.2 e2)) Q (fun v H3 e3 h3 => q v H3 ((Ey.of e.2 e2).trans e3) h3) E
/-- a new list of such values -/
theorem es_lst (h : EaS tr σ s H PP) (hl : ∀ vs H, PP vs H → vs.length ≤ 100000) (hm : ∀ vs H1 H2, Ey s H1 H2 → PP vs H1 → PP vs H2) : EvS (tLst tr) σ s H (fun v H' => ∃ p vs, v = .ref p ∧ p ≠ s ∧ H' p = some (.lst vs) ∧ PP vs H') := fun H1 e Q q =>
  h H1 e _ fun vs H2 e2 h2 => ⟨sz_of (hl _ _ h2), fun p hp => q _ _ (e2.trans (Ey.of e2.2 (Ex.new hp))) ⟨p, vs, rfl, e2.2.ne hp, upd_same, hm _ _ _ (Ey.of e2.2 (Ex.new hp)) h2⟩⟩
theorem es_op {g : Int → Int → V} {i : Int} {p : Int → Prop} (ha : Ev ta σ (rm H s) (.int i)) (hb : EvS tb σ s H (fun v _ => ∃ j, v = .int j ∧ p j)) : EvS (tOp (rI0 g) ta tb) σ s H (fun v _ => ∃ j, v = g i j ∧ p j) := fun H1 e Q q =>
  ha H1 e.1 _ fun H2 e2 => hb H2 (e.trans (Ey.of e.2 e2)) _ fun v H3 e3 ⟨j, ej, pj⟩ => ⟨i, j, rfl, ej, q _ H3 ((Ey.of e.2 e2).trans e3) ⟨j, rfl, pj⟩⟩
theorem etS_B {b : Bool} (h : EvS te σ s H (fun v _ => v = .bl b)) : EtS (tB te) σ s H b := fun H1 e Q q => h H1 e _ fun v H2 e2 hv => ⟨b, hv, q H2 e2⟩
theorem etS_not {b : Bool} (h : EtS t σ s H b) : EtS (tNot t) σ s H (!b) := fun H1 e Q q => h H1 e _ fun H2 e2 => q H2 e2
theorem q_whenS {b : Bool} (hS : SrcAt H s) (h : EtS t σ s H b) (h1 : b = true → ∀ H1, Ey s H H1 → tu { D with nx := tz D } σ H1) (h2 : b = false → ∀ H1, Ey s H H1 → tz D σ H1) : tSeq (tIfS t tu tNext) tz D σ H := h H (Ey.refl hS) _ fun H1 e => by
  cases b with
  | true =>
    show tu { D with nx := tz D } σ H1
    exact h1 rfl H1 e
  | false =>
    show tz D σ H1
    exact h2 rfl H1 e
theorem s_whenS {b : Bool} (hS : SrcAt H s) (h : EtS t σ s H b) (h1 : b = true → ∀ H1, Ey s H H1 → tu D σ H1) (h2 : b = false → ∀ H1, Ey s H H1 → D.nx σ H1) : tIfS t tu tNext D σ H := h H (Ey.refl hS) _ fun H1 e => by
  cases b with
  | true =>
    show tu D σ H1
    exact h1 rfl H1 e
  | false =>
    show D.nx σ H1
    exact h2 rfl H1 e
theorem q_asgS {i : Nat} (hS : SrcAt H s) (h : EvS te σ s H P) (k : ∀ v H1, Ey s H H1 → P v H1 → tz D (σ.set i (some v)) H1) : tSeq (tAsg te (gName i)) tz D σ H := h H (Ey.refl hS) _ fun v H1 e p => k v H1 e p
theorem s_retS (hS : SrcAt H s) (h : EvS te σ s H P) (k : ∀ v H1, Ey s H H1 → P v H1 → D.rt v H1) : tRet te D σ H := h H (Ey.refl hS) _ fun v H1 e p => k v H1 e p
/-- xs.append(e) -/
theorem s_appS {l : Addr} {xs : List V} (hS : SrcAt H s) (hl : H l = some (.lst xs)) (hne : l ≠ s) (ha : Ev ta σ H (.ref l)) (h : EvS te σ s H P) (hz : xs.length < 100000) (k : ∀ v H1, Ey s H H1 → P v H1 → D.nx σ (upd H1 l (.lst (xs ++ [v])))) :
    tDrop (tBM K "list" rAppend ta (tCons te tNil)) D σ H := ha H (Ex.refl H) _ fun H1 e1 =>
  ⟨Or.inl ⟨rfl, xs, sq_of (e1 l _ hl)⟩, h H1 (Ey.of hS e1) _ fun v H2 e2 h2 => ⟨l, xs, v, rfl, rfl, e2.1 _ _ (rm_at hne (e1 l _ hl)), sz_lt hz, k v H2 ((Ey.of hS e1).trans e2) h2⟩⟩
theorem q_appS {l : Addr} {xs : List V} (hS : SrcAt H s) (hl : H l = some (.lst xs)) (hne : l ≠ s) (ha : Ev ta σ H (.ref l)) (h : EvS te σ s H P) (hz : xs.length < 100000) (k : ∀ v H1, Ey s H H1 → P v H1 → tz D σ (upd H1 l (.lst (xs ++ [v])))) :
    tSeq (tDrop (tBM K "list" rAppend ta (tCons te tNil))) tz D σ H := s_appS (D := { D with nx := tz D }) hS hl hne ha h hz k
/-- for i in range(..) -/
theorem q_forR1S {j : Nat} {bd : Int} (hS : SrcAt H s) (h : EaS tr σ s H (fun vs _ => ∃ i : Int, vs = [.int i] ∧ 0 ≤ i ∧ i ≤ bd)) (hb : bd ≤ 100000) (Pv : Nat → L2.St → Hp → Prop) (h0 : ∀ H1, Ey s H H1 → Pv 0 σ H1)
    (hs : ∀ (i : Nat) σ' H', (i : Int) < bd → Pv i σ' H' → tu { D with nx := Pv (i + 1), ct := Pv (i + 1), bk := tz D } (σ'.set j (some (.int (i : Int)))) H') (hd : ∀ (i : Nat) σ' H', (i : Int) ≤ bd → Pv i σ' H' → tz D σ' H') : tSeq (tFor (iRng1 tr) (gName j) tu) tz D σ H :=
  h H (Ey.refl hS) _ fun vs H1 e ⟨n, en, n0, n1⟩ => ⟨n, en, by omega, by omega, for_range (D := { D with nx := tz D }) (lo := 0) (n := n.toNat) Pv (h0 H1 e) (fun i σ' H' hi p => by
    have e0 : (0 : Int) + (i : Int) = (i : Int) := Int.zero_add _
    show tu _ (σ'.set j (some (.int ((0 : Int) + (i : Int))))) H'
    rw [e0]
    exact hs i σ' H' (by omega) p) fun σ' H' p => hd n.toNat σ' H' (by omega) p⟩
theorem eiS_rng1 {bd : Int} (h : EaS tr σ s H (fun vs _ => ∃ i : Int, vs = [.int i] ∧ 0 ≤ i ∧ i ≤ bd)) (hb : bd ≤ 100000) : EiS (iRng1 tr) σ s H (fun n => (n : Int) ≤ bd) (YFn fun i => .int (0 + (i : Nat))) := fun H1 e R q =>
  h H1 e _ fun vs H2 e2 ⟨n, en, n0, n1⟩ => ⟨n, en, by omega, by omega, q _ n.toNat H2 e2 (by omega) (walk_range.mono (fun _ _ => trivial) fun _ _ _ _ _ _ y => y)⟩
theorem eiS_list {a : Addr} {xs : List V} (h : Ev tl σ (rm H s) (.ref a)) (hx : SqL K (rm H s) a xs) : EiS (iList K tl) σ s H (fun n => n = xs.length) (YAt xs) := fun H1 e R q =>
  h H1 e.1 _ fun H2 e2 => ⟨a, rfl, ⟨xs, ex_l (e.1.trans e2) hx⟩, q _ xs.length H2 (Ey.of e.2 e2) rfl (walk_list.mono (fun H3 e3 => ex_l ((e.trans ((Ey.of e.2 e2).trans e3)).1) hx) fun _ _ _ _ _ _ y => y)⟩
theorem eiS_listN {xs : List V} (h : EvL tl σ (rm H s) xs) : EiS (iList K tl) σ s H (fun n => n = xs.length) (YAt xs) := fun H1 e R q =>
  h H1 e.1 _ fun p H2 hp e2 h2 => by
    have hne := e.2.ne hp
    exact ⟨p, rfl, ⟨xs, sq_of h2⟩, q _ xs.length H2 (Ey.of e.2 e2) rfl (walk_list.mono (fun H3 e3 => sq_of (e3.1 _ _ (rm_at hne h2))) fun _ _ _ _ _ _ y => y)⟩
/-- a comprehension of ints -/
def IntsAt (N : Nat → Prop) (p : Nat → Int → Prop) : V → Hp → Prop := fun v H => ∃ l xs, v = .ref l ∧ H l = some (.lst (iV xs)) ∧ N xs.length ∧ ∀ (i : Nat) x, xs[i]? = some x → p i x
theorem es_lc {vs : List Nat} (hi : EiS wi σ s H N Y) (hN : ∀ n, N n → n ≤ 1000) (p : Nat → Int → Prop)
    (he : ∀ (i : Nat) x H1 H2, Ey s H H1 → Y i H1 x H2 → g x (wipe σ vs) H2 fun σ2 H3 => H3 = H2 ∧ wipe σ2 vs = wipe σ vs ∧ Ex H1 H2 ∧ EvS te σ2 s H2 (fun v _ => ∃ x, v = .int x ∧ p i x))
    (mono : ∀ x σ' H' (Q Q' : L2.St → Hp → Prop), (∀ s h, Q s h → Q' s h) → g x σ' H' Q → g x σ' H' Q') : EvS (tLc wi g tYes te vs) σ s H (fun v H' => IntsAt N p v H' ∧ v ≠ .ref s) := fun H0 e Q q =>
  hi H0 e _ fun J n H2 e2 hn w Dl hD => by
    have hne := e2.2.ne hD
    refine lc_it w (fun i H' => Ey s H2 H' ∧ i ≤ n ∧ ∃ xs, H' Dl = some (.lst (iV xs)) ∧ xs.length = i ∧ ∀ (j : Nat) x, xs[j]? = some x → p j x) ⟨Ey.of e2.2 (Ex.new hD), by omega, [], upd_same, rfl, fun j x h => by simp at h⟩ (fun i H' _ z => z.1) (fun i x H' H3 hin z y => ?_) (fun H' z => ?_)
    · obtain ⟨e3, hle, xs, h1, h2, h3⟩ := z
      refine mono _ _ _ _ _ ?_ (he i x H' H3 ((e.trans e2).trans e3) y)
      rintro σ2 H4 ⟨rfl, hw, hx, hv⟩
      refine ⟨hw, ?_⟩
      unfold tYes
      dsimp only
      rw [if_pos rfl]
      have e4 : Ey s H' H4 := Ey.of e3.2 hx
      refine hv H4 (Ey.refl e4.2) _ fun v H5 e5 ⟨c, ec, pc⟩ => ⟨iV xs, e5.1 _ _ (rm_at hne (hx _ _ h1)), ?_, ?_, hin, xs ++ [c], ?_, ?_, ?_⟩
      · have := hN n hn
        rw [iV_len]
        exact sz_lt (by omega)
      · exact Ey.mut ((e3.trans e4).trans e5) hD hne
      · rw [upd_same, iV_append, ec]
        rfl
      · rw [List.length_append, h2]; rfl
      · intro j y hy
        by_cases hj : j < xs.length
        · rw [List.getElem?_append_left hj] at hy
          exact h3 j y hy
        · have hb := (List.getElem?_eq_some_iff.mp hy).1
          rw [List.length_append] at hb
          have hje : j = xs.length := by simp at hb; omega
          subst hje
          rw [List.getElem?_append_right (Nat.le_refl _), Nat.sub_self] at hy
          have : c = y := Option.some.inj hy
          rw [← this, h2]
          exact pc
    · obtain ⟨e3, hle, xs, h1, h2, h3⟩ := z
      exact q _ H' (e2.trans e3) ⟨⟨Dl, xs, rfl, h1, by rw [h2]; exact hn, h3⟩, fun z => hne (V.ref.inj z)⟩
theorem es_lcr {vs : List Nat} {j : Nat} (hi : EiS wi σ s H N (YFn fun i => .int (0 + (i : Nat)))) (hN : ∀ n, N n → n ≤ 1000) (p : Nat → Int → Prop) (hw : ∀ x, wipe ((wipe σ vs).set j (some x)) vs = wipe σ vs)
    (he : ∀ (i : Nat) H1, Ey s H H1 → EvS te ((wipe σ vs).set j (some (.int (0 + (i : Nat))))) s H1 (fun v _ => ∃ x, v = .int x ∧ p i x)) : EvS (tLc wi (gName j) tYes te vs) σ s H (fun v H' => IntsAt N p v H' ∧ v ≠ .ref s) :=
  es_lc hi hN p (fun i x H1 H2 e y => by
    obtain ⟨rfl, rfl⟩ := y
    exact ⟨rfl, hw _, Ex.refl _, he i H2 e⟩) mono_name
theorem es_lcl {vs : List Nat} {j : Nat} {xs : List V} (hi : EiS wi σ s H N (YAt xs)) (hN : ∀ n, N n → n ≤ 1000) (p : Nat → Int → Prop) (hw : ∀ x, wipe ((wipe σ vs).set j (some x)) vs = wipe σ vs)
    (he : ∀ (i : Nat) x H1, Ey s H H1 → xs[i]? = some x → EvS te ((wipe σ vs).set j (some x)) s H1 (fun v _ => ∃ x, v = .int x ∧ p i x)) : EvS (tLc wi (gName j) tYes te vs) σ s H (fun v H' => IntsAt N p v H' ∧ v ≠ .ref s) :=
  es_lc hi hN p (fun i x H1 H2 e y => by
    obtain ⟨rfl, hx⟩ := y
    exact ⟨rfl, hw _, Ex.refl _, he i x H2 e hx⟩) mono_name
end
end SC

/-! part F11 -/
set_option Elab.async false
set_option linter.all false
set_option maxRecDepth 100000
set_option maxHeartbeats 4000000
namespace SC
open PySem PySem.Spec PyProof.Rows L2 Evl
section
variable {P : Program} {w : World} {K : PySem.W.Frag} {mg : Str → Option Value} {base : Heap}
theorem sc_l_cell_at : FnScope ["_law_script", "_law_k"] ["_law_script", "_law_k"] (defScope s_l_cell_at) := ⟨rfl, rfl, rfl, by decide +kernel, rfl, by decide +kernel, by decide +kernel⟩
def spCell (K : PySem.W.Frag) : Sp := fun vs H Q _ => ∃ (a : Addr) (ns : List Int), vs = [.ref a, .int 0] ∧ SqL K H a (iV ns) ∧ ∀ H', Ex H H' → Q (.int (at0 ns 0)) H'
theorem ok_l_cell_at (T : Tx K mg) : Ok P w K mg base 1 "_law_cell_at" ["_law_script", "_law_k"] (spCell K) := by
  obtain ⟨fd, F⟩ := T.d_l_cell_at
  refine ⟨fd, F.ok sc_l_cell_at (fun vs H Q E h => ?_) (fun cdv A outer s H vs Q E hr h => ?_), F.bindsN (fun _ _ _ _ _ _ us hl => match us, hl with | [_, _], _ => rfl), F.kp, T.g__law_cell_at⟩
  · obtain ⟨a, ns, rfl, _⟩ := h
    rfl
  · obtain ⟨a, ns, rfl, hS, q⟩ := h
    refine ⟨_, PSs.nox (pss_cons (ps_if (pt_cmpR op_lt (pv 1) (pe_callB call_lenK (by rfl) T.f_len bb_len (pa_cons (pv 0) pa_nil)) (nomark _)) (pss_one (ps_ret (pe_ix ix_listK (pv 0) (pv 1) (fun _ _ => rfl)))) pss_nil)
      (pss_one (ps_ret pe_int))), ?_⟩
    refine q_when (b := decide ((0 : Int) < (((iV ns).length : Nat) : Int))) (et_test (ev_op (ev_var rfl) (ev_lenL (ev_var rfl) hS) rv_I0)) (fun hb H1 e1 => ?_) fun hb H1 e1 => ?_
    · have h0 : 0 < ns.length := by have := of_decide_eq_true hb; rw [iV_len] at this; omega
      exact s_ret (ev_ixL (j := 0) (ev_var rfl) (ev_var rfl) (ex_l e1 hS) (iV_at (at0_some h0))) fun H2 e2 => q H2 (e1.trans e2)
    · have h0 : ns.length = 0 := by have := of_decide_eq_false hb; rw [iV_len] at this; omega
      rw [at0_out (by omega)] at q
      exact s_ret ev_c fun H2 e2 => q H2 (e1.trans e2)
theorem v_cell {a : Addr} {ns : List Int} {H : Hp} (hS : SqL K H a (iV ns)) : SpV (spCell K) [.ref a, .int 0] H (.int (at0 ns 0)) := fun H1 e Q q E => ⟨a, ns, rfl, ex_l e hS, q⟩
theorem sc_l_source : FnScope ["_law_cell"] ["_law_cell"] (defScope s_l_source) := ⟨rfl, rfl, rfl, by decide +kernel, rfl, by decide +kernel, by decide +kernel⟩
def spSource : Sp := fun vs H Q _ => ∃ c : Int, vs = [.int c] ∧ ∀ p H', H p = none → Ex H H' → SrcAt H' p → Q (.ref p) H'
theorem ok_l_source (T : Tx K mg) : Ok P w K mg base 1 "_law_source" ["_law_cell"] spSource := by
  obtain ⟨fd, F⟩ := T.d_l_source
  refine ⟨fd, F.ok sc_l_source (fun vs H Q E h => ?_) (fun cdv A outer s H vs Q E hr h => ?_), F.bindsN (fun _ _ _ _ _ _ us hl => match us, hl with | [_], _ => rfl), F.kp, T.g__law_source⟩
  · obtain ⟨c, rfl, _⟩ := h
    rfl
  · obtain ⟨c, rfl, q⟩ := h
    refine ⟨_, PSs.nox (pss_one (ps_ret (pe_lst (pa_cons (pe_op op_mul (pv 0) (pe_callTy call_int1 (by rfl) T.f_int bb_int (pa_cons (pe_cmpR op_ge (pv 0) (pe_op op_pow pe_int pe_int) (nomark _)) pa_nil))) (pa_cons (pe_op op_mod (pv 0) pe_int) (pa_cons pe_int pa_nil)))))), ?_⟩
    refine s_retL (el_lst (ea_cons (ev_op (ev_var rfl) (ev_intB (ev_op (ev_var rfl) (ev_op ev_c ev_c (rv_I ⟨by omega, by omega, by decide⟩)) rv_I0)) (rv_mul (.inr ?_))) (ea_cons (ev_op (ev_var rfl) ev_c (rv_mod (by omega))) (ea_cons ev_c ea_nil))) (by simp)) fun p H1 hp e1 h1 => q p H1 hp e1 ⟨_, _, _, h1⟩
    split <;> exact ⟨by decide, by decide⟩
theorem sc_l_take : FnScope ["_law_source_here", "_law_bound", "_law_digit", "_law_mixed"] ["_law_source_here", "_law_bound"] (defScope s_l_take) := ⟨rfl, rfl, rfl, by decide +kernel, rfl, by decide +kernel, by decide +kernel⟩
def TakeAt (m : Int) : V → Hp → Prop := fun v _ => ∃ i : Int, v = .int i ∧ 0 ≤ i ∧ i < m
def spTake : Sp := fun vs H Q _ => ∃ (s : Addr) (m : Int), vs = [.ref s, .int m] ∧ SrcAt H s ∧ 0 < m ∧ m < 2 ^ 100 ∧ ∀ v H', Ey s H H' → TakeAt m v H' → Q v H'
theorem log_lt {m : Int} (h0 : 0 < m) (h : m < 2 ^ 100) : m.natAbs.log2 < 9000 := by
  have h1 : m.natAbs < 2 ^ 100 := by omega
  have h2 := (Nat.log2_lt (by omega)).mpr h1
  omega
theorem ok_l_take (T : Tx K mg) : Ok P w K mg base 1 "_law_take" ["_law_source_here", "_law_bound"] spTake := by
  obtain ⟨fd, F⟩ := T.d_l_take
  refine ⟨fd, F.ok sc_l_take (fun vs H Q E h => ?_) (fun cdv A outer s H vs Q E hr h => ?_), F.bindsN (fun _ _ _ _ _ _ us hl => match us, hl with | [_, _], _ => rfl), F.kp, T.g__law_take⟩
  · obtain ⟨a, m, rfl, _⟩ := h
    rfl
  · obtain ⟨a, m, rfl, hs, m0, m1, q⟩ := h
    obtain ⟨x0, x1, x2, h0⟩ := id hs
    refine ⟨_, PSs.nox (pss_cons (ps_if (pt_cmpR op_gt (pe_ix ix_listK (pv 0) pe_int (fun _ _ => rfl)) pe_int (nomark _)) (pss_cons (ps_set (i := 2) sc_l_take.nd rfl (.inl rfl) (pe_op op_mod (pe_ix ix_listK (pv 0) pe_int (fun _ _ => rfl)) (pv 1)))
      (pss_cons (ps_asg (pe_op op_fdivW (pe_ix ix_listK (pv 0) pe_int (fun _ _ => rfl)) (pv 1)) (pg_sub (pv 0) pe_int set_list))
      (pss_one (ps_ret (pv 2))))) pss_nil)
      (pss_cons (ps_asg (pe_op op_add (pe_ix ix_listK (pv 0) pe_int (fun _ _ => rfl)) pe_int) (pg_sub (pv 0) pe_int set_list))
      (pss_cons (ps_set (i := 3) sc_l_take.nd rfl (.inl rfl) (pe_op op_mod (pe_op op_mul (pe_op op_add (pe_op op_add (pe_ix ix_listK (pv 0) pe_int (fun _ _ => rfl)) (pe_op op_mul pe_int (pe_ix ix_listK (pv 0) pe_int (fun _ _ => rfl)))) pe_int) pe_int) pe_int))
      (pss_cons (ps_set (i := 3) sc_l_take.nd rfl (.inl rfl) (pe_op op_mod (pe_op op_mul (pv 3) (pe_op op_add (pe_op op_fdiv (pv 3) pe_int) pe_int)) pe_int))
      (pss_one (ps_ret (pe_op op_mod (pe_op op_fdiv (pe_op op_mod (pe_op op_mul (pv 3) (pe_op op_add (pe_op op_fdiv (pv 3) pe_int) pe_int)) pe_int) pe_int) (pv 1)))))))), ?_⟩
    refine q_when (b := decide (x0 > 0)) (et_test (ev_op (ev_ixL (j := 0) (v := .int x0) (ev_var rfl) ev_c (sq_of h0) rfl) ev_c rv_I0)) (fun hb H1 e1 => ?_) fun hb H1 e1 => ?_
    · refine q_asg (v := .int (x0 % m)) (ev_op (ev_ixL (j := 0) (v := .int x0) (ev_var rfl) ev_c (sq_of (e1 _ _ h0)) rfl) (ev_var rfl) (rv_mod m0)) fun H2 e2 => ?_
      have h2 := (e1.trans e2) _ _ h0
      refine q_setL (j := 0) (v := .int (x0 / m)) h2 (ev_op (ev_ixL (j := 0) (v := .int x0) (ev_var rfl) ev_c (sq_of h2) rfl) (ev_var rfl) (rv_I (C := CDivW) (g := fun i j => .int (i / j)) ⟨m0, log_lt m0 m1⟩)) (ev_var rfl) ev_c (by simp) fun H3 e3 => ?_
      have ey : Ey a H (upd H3 a (.lst [.int (x0 / m), .int x1, .int x2])) := ⟨Ex.mut (rm_sub.trans ((e1.trans e2).trans e3)) rm_self, _, _, _, upd_same⟩
      exact s_ret (ev_var rfl) fun H4 e4 => q _ H4 (ey.trans (Ey.of ey.2 e4)) ⟨_, rfl, Int.emod_nonneg _ (by omega), Int.emod_lt_of_pos _ m0⟩
    · have h1 := e1 _ _ h0
      refine q_setL (j := 2) (v := .int (x2 + 1)) h1 (ev_op (ev_ixL (j := 2) (v := .int x2) (ev_var rfl) ev_c (sq_of h1) rfl) ev_c rv_I0) (ev_var rfl) ev_c (by simp) fun H3 e3 => ?_
      have ey : Ey a H (upd H3 a (.lst [.int x0, .int x1, .int (x2 + 1)])) := ⟨Ex.mut (rm_sub.trans (e1.trans e3)) rm_self, _, _, _, upd_same⟩
      have h3 : upd H3 a (.lst [.int x0, .int x1, .int (x2 + 1)]) a = some (.lst [.int x0, .int x1, .int (x2 + 1)]) := upd_same
      have b1 := Int.emod_nonneg ((x1 + 32452843 * (x2 + 1) + 1) * 48271) (show (2147483647 : Int) ≠ 0 by decide)
      have b2 := Int.emod_lt_of_pos ((x1 + 32452843 * (x2 + 1) + 1) * 48271) (show (0 : Int) < 2147483647 by decide)
      refine q_asg (v := .int ((x1 + 32452843 * (x2 + 1) + 1) * 48271 % 2147483647)) (ev_op (ev_op (ev_op (ev_op (ev_ixL (j := 1) (v := .int x1) (ev_var rfl) ev_c (sq_of h3) rfl) (ev_op ev_c (ev_ixL (j := 2) (v := .int (x2 + 1)) (ev_var rfl) ev_c (sq_of h3) rfl) (rv_mul (.inl ⟨by decide, by decide⟩))) rv_I0) ev_c rv_I0) ev_c (rv_mul (.inr ⟨by decide, by decide⟩))) ev_c (rv_mod (by decide))) fun H4 e4 => ?_
      generalize (x1 + 32452843 * (x2 + 1) + 1) * 48271 % 2147483647 = y at b1 b2 ⊢
      have c1 := Int.emod_nonneg (y * (y / 1021 + 69621)) (show (2147483629 : Int) ≠ 0 by decide)
      have c2 := Int.emod_lt_of_pos (y * (y / 1021 + 69621)) (show (0 : Int) < 2147483629 by decide)
      refine q_asg (v := .int (y * (y / 1021 + 69621) % 2147483629)) (ev_op (ev_op (ev_var rfl) (ev_op (ev_op (ev_var rfl) ev_c (rv_div (by decide) (by decide))) ev_c rv_I0) (rv_mul (.inl ⟨by omega, by omega⟩))) ev_c (rv_mod (by decide))) fun H5 e5 => ?_
      generalize y * (y / 1021 + 69621) % 2147483629 = z at c1 c2 ⊢
      refine s_ret (v := .int (z * (z / 2053 + 40692) % 2147483399 / 3 % m)) (ev_op (ev_op (ev_op (ev_op (ev_var rfl) (ev_op (ev_op (ev_var rfl) ev_c (rv_div (by decide) (by decide))) ev_c rv_I0) (rv_mul (.inl ⟨by omega, by omega⟩))) ev_c (rv_mod (by decide))) ev_c (rv_div (by decide) (by decide))) (ev_var rfl) (rv_mod m0)) fun H6 e6 => q _ H6 (ey.trans (Ey.of ey.2 ((e4.trans e5).trans e6))) ⟨_, rfl, Int.emod_nonneg _ (by omega), Int.emod_lt_of_pos _ m0⟩
theorem s_take {s : Addr} {m : Int} {H : Hp} (m0 : 0 < m) (m1 : m < 2 ^ 100) : SpS spTake [.ref s, .int m] s H (TakeAt m) := fun H1 e Q q E => ⟨s, m, rfl, e.2, m0, m1, q⟩
theorem sc_l_pick : FnScope ["_law_source_here", "_law_items"] ["_law_source_here", "_law_items"] (defScope s_l_pick) := ⟨rfl, rfl, rfl, by decide +kernel, rfl, by decide +kernel, by decide +kernel⟩
def PickAt (xs : List Int) : V → Hp → Prop := fun v _ => ∃ x, v = .int x ∧ x ∈ xs
def spPick (K : PySem.W.Frag) : Sp := fun vs H Q _ => ∃ (s p : Addr) (xs : List Int), vs = [.ref s, .ref p] ∧ SrcAt H s ∧ SqL K (rm H s) p (iV xs) ∧ 0 < xs.length ∧ xs.length ≤ 1000 ∧ ∀ v H', Ey s H H' → PickAt xs v H' → Q v H'
theorem es_ixL {σ : L2.St} {s p : Addr} {H : Hp} {ta tb : TE} {xs : List Int} (ha : Ev ta σ (rm H s) (.ref p)) (hx : SqL K (rm H s) p (iV xs)) (hb : EvS tb σ s H (TakeAt (xs.length : Int))) : EvS (tOp (rIxL K) ta tb) σ s H (PickAt xs) := fun H1 e Q q =>
  ha H1 e.1 _ fun H2 e2 => hb H2 (e.trans (Ey.of e.2 e2)) _ fun v H3 e3 ⟨j, ej, j0, j1⟩ => by
    subst ej
    have hl : j.toNat < xs.length := by omega
    refine ⟨p, iV xs, j, .int (at0 xs j.toNat), rfl, rfl, ex_l ((e.trans (Ey.of e.2 e2)).trans e3).1 hx, ?_, q _ H3 ((Ey.of e.2 e2).trans e3) ⟨_, rfl, at0_mem hl⟩⟩
    have := atI_nat (iV_at (at0_some hl))
    rw [show ((j.toNat : Nat) : Int) = j by omega] at this
    exact this
theorem ok_l_pick (T : Tx K mg) : Ok P w K mg base 2 "_law_pick" ["_law_source_here", "_law_items"] (spPick K) := by
  have O_l_take := ok_l_take (P := P) (w := w) (base := base) T
  obtain ⟨fd, F⟩ := T.d_l_pick
  refine ⟨fd, F.ok sc_l_pick (fun vs H Q E h => ?_) (fun cdv A outer s H vs Q E hr h => ?_), F.bindsN (fun _ _ _ _ _ _ us hl => match us, hl with | [_, _], _ => rfl), F.kp, T.g__law_pick⟩
  · obtain ⟨a, p, xs, rfl, _⟩ := h
    rfl
  · obtain ⟨a, p, xs, rfl, hs, hS, x0, x1, q⟩ := h
    refine ⟨_, PSs.nox (pss_one (ps_ret (pe_ix ix_listK (pv 1) (pe_ok O_l_take (hr.mono (by decide)) (by rfl) (pa_cons (pv 0) (pa_cons (pe_callB call_lenK (by rfl) T.f_len bb_len (pa_cons (pv 1) pa_nil)) pa_nil))) (fun _ _ => rfl)))), ?_⟩
    exact s_retS hs (es_ixL (ev_var rfl) hS (es_callV (ea_cons (ev_var rfl) (ea_cons (ev_is (ev_lenL (ev_var rfl) hS) (by rw [iV_len])) ea_nil)) (s_take (by omega) (by omega)))) q
theorem s_pick {s p : Addr} {xs : List Int} {H : Hp} (hS : SqL K (rm H s) p (iV xs)) (h0 : 0 < xs.length) (h1 : xs.length ≤ 1000) : SpS (spPick K) [.ref s, .ref p] s H (PickAt xs) := fun H1 e Q q E => ⟨s, p, xs, rfl, e.2, ex_l e.rm hS, h0, h1, q⟩
theorem sc_l_rounds : FnScope ["_law_source_here", "_law_most", "_law_result", "_law_k"] ["_law_source_here", "_law_most"] (defScope s_l_rounds) := ⟨rfl, rfl, rfl, by decide +kernel, rfl, by decide +kernel, by decide +kernel⟩
def RoundsAt (s : Addr) (l : Int) : V → Hp → Prop := fun v H => ∃ p rs, v = .ref p ∧ p ≠ s ∧ H p = some (.lst (iV rs)) ∧ (rs.length : Int) ≤ l ∧ ∀ r ∈ rs, 2 ≤ r ∧ r ≤ 7
def spRounds : Sp := fun vs H Q _ => ∃ (s : Addr) (l : Int), vs = [.ref s, .int l] ∧ SrcAt H s ∧ 0 ≤ l ∧ l ≤ 100 ∧ ∀ v H', Ey s H H' → RoundsAt s l v H' → Q v H'
theorem take_mono {s : Addr} {m : Int} : ∀ v H1 H2, Ey s H1 H2 → TakeAt m v H1 → TakeAt m v H2 := fun _ _ _ _ h => h
theorem ok_l_rounds (T : Tx K mg) : Ok P w K mg base 3 "_law_rounds" ["_law_source_here", "_law_most"] spRounds := by
  have O_l_take := ok_l_take (P := P) (w := w) (base := base) T
  have O_l_pick := ok_l_pick (P := P) (w := w) (base := base) T
  obtain ⟨fd, F⟩ := T.d_l_rounds
  refine ⟨fd, F.ok sc_l_rounds (fun vs H Q E h => ?_) (fun cdv A outer s H vs Q E hr h => ?_), F.bindsN (fun _ _ _ _ _ _ us hl => match us, hl with | [_, _], _ => rfl), F.kp, T.g__law_rounds⟩
  · obtain ⟨a, l, rfl, _⟩ := h
    rfl
  · obtain ⟨a, l, rfl, hs, l0, l1, q⟩ := h
    refine ⟨_, PSs.nox (pss_cons (ps_set (i := 2) sc_l_rounds.nd rfl (.inl rfl) (pe_lst pa_nil))
      (pss_cons (ps_for PassesOwn.never rfl (pi_range1 (by rfl) T.f_range (pa_cons (pe_ok O_l_take (hr.mono (by decide)) (by rfl) (pa_cons (pv 0) (pa_cons (pe_op op_add (pv 1) pe_int) pa_nil))) pa_nil)) (pg_name (i := 3) sc_l_rounds.nd rfl (.inl rfl)) (pss_one (ps_expr (pe_bmK PySem.F.plainAttrs_list PySem.F.slot_list_append PySem.F.type_list_append mt_append (pv 2) (pa_cons (pe_ok O_l_pick (hr.mono (by decide)) (by rfl) (pa_cons (pv 0) (pa_cons (pe_lst (pa_cons pe_int (pa_cons pe_int (pa_cons pe_int (pa_cons pe_int (pa_cons pe_int (pa_cons pe_int (pa_cons (pe_op op_add pe_int (pe_ok O_l_take (hr.mono (by decide)) (by rfl) (pa_cons (pv 0) (pa_cons pe_int pa_nil)))) pa_nil)))))))) pa_nil))) pa_nil)))))
      (pss_one (ps_ret (pv 2))))), ?_⟩
    refine q_asgL (el_lst ea_nil (by simp)) fun p H1 hp e1 h1 => ?_
    have hne := hs.ne hp
    have hs1 := hs.ex e1
    refine q_forR1S (bd := l) hs1 (fun H2 e2 Q2 q2 => ea_consS (es_callV (ea_cons (ev_var rfl) (ea_cons (ev_op (ev_var rfl) ev_c rv_I0) ea_nil)) (s_take (m := l + 1) (by omega) (by omega))) take_mono ea_nilS H2 e2 Q2 fun vs H3 e3 z => q2 vs H3 e3 ?_) (by omega)
      (fun i σ' H' => ∃ rs y, σ' = [some (.ref a), some (.int l), some (.ref p), y] ∧ Ey a H H' ∧ H' p = some (.lst (iV rs)) ∧ rs.length = i ∧ ∀ r ∈ rs, 2 ≤ r ∧ r ≤ 7) (fun H2 e2 => ⟨[], _, rfl, (Ey.of hs e1).trans e2, e2.1 _ _ (rm_at hne h1), rfl, fun r h => nomatch h⟩) (fun i σ' H' hi z => ?_) (fun i σ' H' hi z => ?_)
    · obtain ⟨v, r, rfl, ⟨i, rfl, i0, i1⟩, rfl⟩ := z
      exact ⟨i, rfl, i0, by omega⟩
    · obtain ⟨rs, y, rfl, e, hp2, hl, hr2⟩ := z
      refine s_appS (P := fun v _ => ∃ x, v = .int x ∧ 2 ≤ x ∧ x ≤ 7) e.2 hp2 hne (ev_var rfl) (es_call (P := fun v _ => ∃ x, v = .int x ∧ 2 ≤ x ∧ x ≤ 7) (ea_consV (ev_var rfl) (ea_consS (es_lst (ea_consV ev_c (ea_consV ev_c (ea_consV ev_c (ea_consV ev_c (ea_consV ev_c (ea_consV ev_c (ea_consS (es_op (p := fun j => 0 ≤ j ∧ j < 6) ev_c (es_callV (ea_cons (ev_var rfl) (ea_cons ev_c ea_nil)) (s_take (by decide) (by decide)))) (fun _ _ _ _ h => h) ea_nilS))))))) ?_ (fun _ _ _ _ h => h)) ?_ ea_nilS)) fun vs H2 e2 z => ?_) (by rw [iV_len]; omega) fun v H2 e2 hv => ?_
      · rintro vs _ ⟨_, rfl, _, rfl, _, rfl, _, rfl, _, rfl, _, rfl, _, _, rfl, _, rfl⟩
        simp
      · rintro v H2 H3 e ⟨p2, vs, rfl, hne2, hp2, hP⟩
        exact ⟨p2, vs, rfl, hne2, e.1 _ _ (rm_at hne2 hp2), hP⟩
      · obtain ⟨_, rfl, _, _, rfl, ⟨p2, vs2, rfl, hne2, hp2, ⟨_, rfl, _, rfl, _, rfl, _, rfl, _, rfl, _, rfl, _, _, rfl, ⟨j, rfl, j0, j1⟩, rfl⟩⟩, rfl⟩ := z
        intro H3 e3 Q3 q3 E3
        refine s_pick (K := K) (xs := [2, 2, 2, 3, 3, 4, 2 + j]) (sq_of (rm_at hne2 hp2)) (by simp) (by simp) H3 e3 Q3 (fun v H4 e4 hv => q3 v H4 e4 ?_) E3
        obtain ⟨x, rfl, hx⟩ := hv
        refine ⟨x, rfl, ?_⟩
        simp only [List.mem_cons, List.not_mem_nil, or_false] at hx
        omega
      · obtain ⟨x, rfl, hx⟩ := hv
        refine ⟨rs ++ [x], _, rfl, (e.trans e2).mut hp hne, by rw [upd_same, iV_append]; rfl, by rw [List.length_append, hl]; rfl, fun r hrm => ?_⟩
        rcases List.mem_append.mp hrm with h | h
        · exact hr2 r h
        · have : r = x := by simpa using h
          omega
    · obtain ⟨rs, y, rfl, e, hp2, hl, hr2⟩ := z
      exact s_ret (ev_var rfl) fun H3 e3 => q _ H3 (e.trans (Ey.of e.2 e3)) ⟨p, rs, rfl, hne, e3 _ _ hp2, by omega, hr2⟩
theorem s_rounds {s : Addr} {l : Int} {H : Hp} (l0 : 0 ≤ l) (l1 : l ≤ 100) : SpS spRounds [.ref s, .int l] s H (RoundsAt s l) := fun H1 e Q q E => ⟨s, l, rfl, e.2, l0, l1, q⟩
end
end SC

/-! part F12 -/
set_option Elab.async false
set_option linter.all false
set_option maxRecDepth 100000
set_option maxHeartbeats 4000000
namespace SC
open PySem PySem.Spec PyProof.Rows L2 Evl
section
variable {P : Program} {w : World} {K : PySem.W.Frag} {mg : Str → Option Value} {base : Heap}
theorem sc_l_crowd : FnScope ["_law_source_here", "_law_length", "_law_wide", "_law_k"] ["_law_source_here", "_law_length", "_law_wide"] (defScope s_l_crowd) := ⟨rfl, rfl, rfl, by decide +kernel, rfl, by decide +kernel, by decide +kernel⟩
def CrowdAt (K : PySem.W.Frag) (l wide : Int) : V → Hp → Prop := fun v H => ∃ cs, TupAt K (iV cs) v H ∧ (cs.length : Int) ≤ l ∧ ∀ c ∈ cs, 0 ≤ c ∧ (c ≤ 1 ∨ c < wide)
def spCrowd (K : PySem.W.Frag) : Sp := fun vs H Q _ => ∃ (s : Addr) (l wide : Int), vs = [.ref s, .int l, .int wide] ∧ SrcAt H s ∧ 0 ≤ l ∧ l ≤ 100 ∧ 0 < wide ∧ wide < 2 ^ 100 ∧ ∀ v H', Ey s H H' → CrowdAt K l wide v H' → Q v H'
theorem es_tupI {σ : L2.St} {s : Addr} {H : Hp} {te : TE} {N : Nat → Prop} {p : Nat → Int → Prop} (h : EvS te σ s H (fun v H' => IntsAt N p v H' ∧ v ≠ .ref s)) : EvS (tCB (rTupS K) (tCons te tNil)) σ s H (fun v H' => ∃ xs, TupAt K (iV xs) v H' ∧ N xs.length ∧ ∀ (i : Nat) x, xs[i]? = some x → p i x) := fun H1 e Q q =>
  h H1 e _ fun v H2 e2 ⟨⟨l, xs, ev, hl, hN, hp⟩, _⟩ => ⟨l, iV xs, by rw [ev], Or.inl ⟨sq_of hl, fun t ht => q _ _ (e2.trans (Ey.of e2.2 (Ex.new ht))) ⟨xs, ⟨t, rfl, st_of upd_same⟩, hN, hp⟩⟩⟩
theorem ok_l_crowd (T : Tx K mg) : Ok P w K mg base 3 "_law_crowd" ["_law_source_here", "_law_length", "_law_wide"] (spCrowd K) := by
  have O_l_take := ok_l_take (P := P) (w := w) (base := base) T
  have O_l_pick := ok_l_pick (P := P) (w := w) (base := base) T
  obtain ⟨fd, F⟩ := T.d_l_crowd
  refine ⟨fd, F.ok sc_l_crowd (fun vs H Q E h => ?_) (fun cdv A outer s H vs Q E hr h => ?_), F.bindsN (fun _ _ _ _ _ _ us hl => match us, hl with | [_, _, _], _ => rfl), F.kp, T.g__law_crowd⟩
  · obtain ⟨a, l, wide, rfl, _⟩ := h
    rfl
  · obtain ⟨a, l, wide, rfl, hs, l0, l1, w0, w1, q⟩ := h
    refine ⟨_, PSs.nox (pss_one (ps_ret (pe_callTy call_tupK (by rfl) T.f_tuple bb_tuple (pa_cons (pe_lc (own := [("_law_k", 3)]) rfl sc_l_crowd.nd (pi_range1 (by rfl) T.f_range (pa_cons (pe_ok O_l_take (hr.mono (by decide)) (by rfl) (pa_cons (pv 0) (pa_cons (pe_op op_add (pv 1) pe_int) pa_nil))) pa_nil)) (blkOk_by (N := ["_law_source_here", "_law_length", "_law_wide", "_law_k"]) (sc := defScope s_l_crowd) (own := [("_law_k", 3)]) (by decide +kernel)) (fun _ _ _ _ _ => (pg_name (i := 3) sc_l_crowd.nd rfl (.inl rfl))) (fun _ _ _ _ _ => pts_nil) (fun _ _ _ _ _ => (pe_ok O_l_pick (hr.mono (by decide)) (by rfl) (pa_cons (pv 0) (pa_cons (pe_lst (pa_cons pe_int (pa_cons pe_int (pa_cons (pe_ok O_l_take (hr.mono (by decide)) (by rfl) (pa_cons (pv 0) (pa_cons (pv 2) pa_nil))) pa_nil)))) pa_nil))))) pa_nil)))), ?_⟩
    refine s_retS (P := CrowdAt K l wide) hs (es_weak (es_tupI (es_lcr (N := fun n => (n : Int) ≤ l) (p := fun _ x => 0 ≤ x ∧ (x ≤ 1 ∨ x < wide)) (eiS_rng1 (bd := l) (fun H2 e2 Q2 q2 => ea_consS (es_callV (ea_cons (ev_var rfl) (ea_cons (ev_op (ev_var rfl) ev_c rv_I0) ea_nil)) (s_take (m := l + 1) (by omega) (by omega))) take_mono ea_nilS H2 e2 Q2 fun vs H3 e3 z => q2 vs H3 e3 ?_) (by omega)) (fun n hn => by omega) (fun _ => rfl) fun i H1 e1 => ?_)) fun v H1 _ z => ?_) q
    · obtain ⟨v, r, rfl, ⟨i, rfl, i0, i1⟩, rfl⟩ := z
      exact ⟨i, rfl, i0, by omega⟩
    · refine es_call (ea_consV (ev_var rfl) (ea_consS (es_lst (ea_consV ev_c (ea_consV ev_c (ea_consS (es_callV (ea_cons (ev_var rfl) (ea_cons (ev_var rfl) ea_nil)) (s_take w0 w1)) take_mono ea_nilS))) ?_ (fun _ _ _ _ h => h)) ?_ ea_nilS)) fun vs H2 e2 z => ?_
      · rintro vs _ ⟨_, rfl, _, rfl, _, _, rfl, _, rfl⟩
        simp
      · rintro v H2 H3 e ⟨p2, vs, rfl, hne2, hp2, hP⟩
        exact ⟨p2, vs, rfl, hne2, e.1 _ _ (rm_at hne2 hp2), hP⟩
      · obtain ⟨_, rfl, _, _, rfl, ⟨p2, vs2, rfl, hne2, hp2, ⟨_, rfl, _, rfl, _, _, rfl, ⟨j, rfl, j0, j1⟩, rfl⟩⟩, rfl⟩ := z
        intro H3 e3 Q3 q3 E3
        refine s_pick (K := K) (xs := [0, 1, j]) (sq_of (rm_at hne2 hp2)) (by simp) (by simp) H3 e3 Q3 (fun v H4 e4 hv => q3 v H4 e4 ?_) E3
        obtain ⟨x, rfl, hx⟩ := hv
        refine ⟨x, rfl, ?_⟩
        simp only [List.mem_cons, List.not_mem_nil, or_false] at hx
        omega
    · obtain ⟨xs, h1, h2, h3⟩ := z
      exact ⟨xs, h1, h2, fun c hc => by
        obtain ⟨i, hi⟩ := List.mem_iff_getElem?.mp hc
        exact h3 i c hi⟩
theorem s_crowd {s : Addr} {l wide : Int} {H : Hp} (l0 : 0 ≤ l) (l1 : l ≤ 100) (w0 : 0 < wide) (w1 : wide < 2 ^ 100) : SpS (spCrowd K) [.ref s, .int l, .int wide] s H (CrowdAt K l wide) := fun H1 e Q q E => ⟨s, l, wide, rfl, e.2, l0, l1, w0, w1, q⟩
theorem sc_l_shares : FnScope ["_law_rounds_here", "_law_result", "_law_total", "_law_entry"] ["_law_rounds_here"] (defScope s_l_shares) := ⟨rfl, rfl, rfl, by decide +kernel, rfl, by decide +kernel, by decide +kernel⟩
def sh (rs : List Int) (n : Nat) : List Int := (List.range n).map fun i => pp rs (i + 1)
theorem sh_snoc (rs : List Int) (n : Nat) : sh rs (n + 1) = sh rs n ++ [pp rs (n + 1)] := by simp [sh, List.range_succ]
theorem sh_len (rs : List Int) (n : Nat) : (sh rs n).length = n := by simp [sh]
theorem sh_get {rs : List Int} {n i : Nat} (h : i < n) : (sh rs n)[i]? = some (pp rs (i + 1)) := by simp [sh, h]
theorem sh_pl (rs : List Int) : ∀ n, 1 :: sh rs n = pl rs n
  | 0 => by simp [sh, pl, prd]
  | n + 1 => by rw [sh_snoc, ← List.cons_append, sh_pl rs n, pl_snoc]
def spShares (K : PySem.W.Frag) : Sp := fun vs H Q _ => ∃ (a : Addr) (rs : List Int), vs = [.ref a] ∧ SqL K H a (iV rs) ∧ Sched rs ∧ rs.length ≤ 200 ∧ ∀ p H', H p = none → Ex H H' → H' p = some (.lst (iV (sh rs rs.length))) → Q (.ref p) H'
theorem ok_l_shares (T : Tx K mg) : Ok P w K mg base 1 "_law_shares" ["_law_rounds_here"] (spShares K) := by
  obtain ⟨fd, F⟩ := T.d_l_shares
  refine ⟨fd, F.ok sc_l_shares (fun vs H Q E h => ?_) (fun cdv A outer s H vs Q E hr h => ?_), F.bindsN (fun _ _ _ _ _ _ us hl => match us, hl with | [_], _ => rfl), F.kp, T.g__law_shares⟩
  · obtain ⟨a, rs, rfl, _⟩ := h
    rfl
  · obtain ⟨a, rs, rfl, hS, hs, hl, q⟩ := h
    refine ⟨_, PSs.nox (pss_cons (ps_par (i := 1) (j := 2) rfl sc_l_shares.nd rfl rfl (by decide) rfl rfl (pa_cons (pe_lst pa_nil) (pa_cons pe_int pa_nil)) (by rfl))
      (pss_cons (ps_for PassesOwn.never rfl (pi_listK (pv 0)) (pg_name (i := 3) sc_l_shares.nd rfl (.inl rfl)) (pss_cons (ps_set (i := 2) sc_l_shares.nd rfl (.inl rfl) (pe_op op_mul (pv 2) (pv 3)))
      (pss_one (ps_expr (pe_bmK PySem.F.plainAttrs_list PySem.F.slot_list_append PySem.F.type_list_append mt_append (pv 1) (pa_cons (pv 2) pa_nil))))))
      (pss_one (ps_ret (pv 1))))), ?_⟩
    refine q_parP (ep_consL (el_lst ea_nil (by simp)) (ep_cons ev_c ep_nil)) fun vs H1 e1 z => ?_
    obtain ⟨p, r, rfl, hp, h1, r2, rfl, rfl⟩ := z
    refine ⟨_, _, rfl, ?_⟩
    refine q_for (evj_list (ev_var rfl) (ex_l e1 hS)) (walk_list (xs := iV rs)) (fun i σ' H' => ∃ y, σ' = [some (.ref a), some (.ref p), some (.int (pp rs i)), y] ∧ Ex H H' ∧ H' p = some (.lst (iV (sh rs i)))) (fun H2 e2 => ⟨none, by rw [pp_zero]; rfl, e1.trans e2, e2 _ _ h1⟩)
      (fun i σ' H' hi z => ?_) (fun i x σ' H2 H3 hi z y => ?_) fun σ' H' z => ?_
    · obtain ⟨_, _, e, _⟩ := z
      exact ex_l e hS
    · obtain ⟨_, rfl, e, h2⟩ := z
      obtain ⟨rfl, hx⟩ := y
      obtain ⟨r, hr1, rfl⟩ := iV_get hx
      have hi2 := (List.getElem?_eq_some_iff.mp hr1).1
      have hb := hs r (List.mem_of_getElem? hr1)
      refine q_asg (v := .int (pp rs (i + 1))) (ev_is (ev_op (ev_var rfl) (ev_var rfl) (rv_mul (.inr ⟨by omega, by omega⟩))) (by rw [pp_succ hi2, at0_get hr1])) fun H4 e4 => ?_
      refine s_app (e4 _ _ h2) (ev_var rfl) (ev_var rfl) (by rw [iV_len, sh_len]; omega) fun H5 e5 => ⟨some (.int r), rfl, Ex.mut ((e.trans e4).trans e5) hp, ?_⟩
      rw [upd_same, sh_snoc, iV_append]
      rfl
    · obtain ⟨_, rfl, e, h2⟩ := z
      rw [iV_len] at h2
      exact s_ret (ev_var rfl) fun H4 e4 => q p H4 hp (e.trans e4) (e4 _ _ h2)
theorem l_sharesL {a : Addr} {rs : List Int} {H : Hp} (hS : SqL K H a (iV rs)) (hs : Sched rs) (hl : rs.length ≤ 200) : SpL (spShares K) [.ref a] H (iV (sh rs rs.length)) := fun H1 e Q q E => ⟨a, rs, rfl, ex_l e hS, hs, hl, q⟩
theorem sc_l_scaled : FnScope ["_law_rounds_here", "_law_crowd_here", "_law_parts", "_law_whole", "_law_count_here", "_law_part"] ["_law_rounds_here", "_law_crowd_here"] (defScope s_l_scaled) := ⟨rfl, rfl, rfl, by decide +kernel, rfl, by decide +kernel, by decide +kernel⟩
def spLScaled (K : PySem.W.Frag) : Sp := fun vs H Q _ => ∃ (a b : Addr) (rs cs : List Int), vs = [.ref a, .ref b] ∧ SqL K H a (iV rs) ∧ SqT K H b (iV cs) ∧ Sched rs ∧ rs.length ≤ 8 ∧ cs.length ≤ 200 ∧ ∀ v H', Ex H H' → TupAt K [.int (sw rs cs), .int (prd rs)] v H' → Q v H'
theorem ok_l_scaled (T : Tx K mg) : Ok P w K mg base 2 "_law_scaled" ["_law_rounds_here", "_law_crowd_here"] (spLScaled K) := by
  have O_l_shares := ok_l_shares (P := P) (w := w) (base := base) T
  obtain ⟨fd, F⟩ := T.d_l_scaled
  refine ⟨fd, F.ok sc_l_scaled (fun vs H Q E h => ?_) (fun cdv A outer s H vs Q E hr h => ?_), F.bindsN (fun _ _ _ _ _ _ us hl => match us, hl with | [_, _], _ => rfl), F.kp, T.g__law_scaled⟩
  · obtain ⟨a, b, rs, cs, rfl, _⟩ := h
    rfl
  · obtain ⟨a, b, rs, cs, rfl, hS, hT, hs, hl, hcl, q⟩ := h
    refine ⟨_, PSs.nox (pss_cons (ps_set (i := 2) sc_l_scaled.nd rfl (.inl rfl) (pe_ok O_l_shares (hr.mono (by decide)) (by rfl) (pa_cons (pv 0) pa_nil)))
      (pss_cons (ps_set (i := 3) sc_l_scaled.nd rfl (.inr rfl) (pe_ix ix_listK (pe_op op_cat (pe_lst (pa_cons pe_int pa_nil)) (pv 2)) (pe_un un_neg pe_int) (fun _ _ => rfl)))
      (pss_one (ps_ret (pe_tup (pa_cons (pe_callB (cr_sumK rfl) (by rfl) T.f_sum bb_sum (pa_cons (pe_lc (own := [("_law_count_here", 4), ("_law_part", 5)]) rfl sc_l_scaled.nd (pi_zip2K (by rfl) T.f_zip (pa_cons (pv 1) (pa_cons (pv 2) pa_nil))) (blkOk_by (N := ["_law_rounds_here", "_law_crowd_here", "_law_parts", "_law_whole", "_law_count_here", "_law_part"]) (sc := defScope s_l_scaled) (own := [("_law_count_here", 4), ("_law_part", 5)]) (by decide +kernel)) (fun _ _ _ _ _ => (pg_tupK (n := 2) rfl (pgs_cons (pg_name (i := 4) sc_l_scaled.nd rfl (.inl rfl)) (pgs_cons (pg_name (i := 5) sc_l_scaled.nd rfl (.inl rfl)) pgs_nil)))) (fun _ _ _ _ _ => pts_nil) (fun _ _ _ _ _ => (pe_op op_mul (pv 4) (pe_op op_fdiv (pv 3) (pv 5))))) pa_nil)) (pa_cons (pv 3) pa_nil))))))), ?_⟩
    refine q_asgL (el_call (ea_cons (ev_var rfl) ea_nil) (l_sharesL hS hs (by omega))) fun p H1 hp e1 h1 => ?_
    refine q_asg (v := .int (prd rs)) (ev_opL1 (xs := iV (pl rs rs.length)) (el_is (el_catLV (el_lst (vs := [.int 1]) (ea_cons ev_c ea_nil) (by simp)) (ev_var rfl) h1 (by rw [iV_len, sh_len]; simp; omega)) (by rw [← sh_pl]; rfl)) (fun H2 e2 => ev_un ev_c ru_neg) fun p2 H2 h2 e2 => rv_ixL (sq_of h2) ?_) fun H2 e2 => ?_
    · obtain ⟨l, hl2⟩ := pl_last rs rs.length
      rw [hl2, iV_append, ← prd_all rs]
      exact atI_end
    have h2 := e2 _ _ h1
    have e12 := e1.trans e2
    have hP := hs.prd_pos
    refine s_retX (ex_tupU (eu_tup (ea_cons (x := .int (sw rs cs)) (ev_is (ev_sumN (ns := swL rs cs) (el_lcp (fx := fun i => (iV cs)[i]?) (fy := fun i => (iV (sh rs rs.length))[i]?) ((evj_zip2 (k1 := false) (k2 := true) (ea_cons (ev_var rfl) (ea_cons (ev_var rfl) ea_nil)) (ex_t e12 hT) (sq_of h2)).evi (walk_zipK (n := (swL rs cs).length) (xs := iV cs) (ys := iV (sh rs rs.length)) (by rw [swL_len, iV_len, iV_len, sh_len])) fun H3 e3 => ⟨ex_t (e12.trans e3) hT, sq_of (e3 _ _ h2)⟩) _ (by rw [List.length_map]) (by rw [swL_len]; omega) (fun _ _ => rfl) fun i x y H3 e3 hx hy => ?_)) (by rw [swL_sum])) (ea_cons (ev_var rfl) ea_nil)) (by simp))) fun v H3 e3 hv => q v H3 (e12.trans e3) hv
    obtain ⟨c, hc1, rfl⟩ := iV_get hx
    obtain ⟨d, hd, rfl⟩ := iV_get hy
    have hi : i < rs.length := by
      have := (List.getElem?_eq_some_iff.mp hd).1
      rw [sh_len] at this
      exact this
    rw [sh_get hi] at hd
    have hd' : pp rs (i + 1) = d := Option.some.inj hd
    have e4 : prd rs / d = prd (rs.drop (i + 1)) := by rw [← hd', quot rs hs]
    have hpos : 0 < d := by rw [← hd']; exact pp_pos hs _
    have hle : d ≤ prd rs := by rw [← hd']; exact prd_dvd_le hs _
    have hlt := prd_lt hs hl
    have hq0 := (hs.drop (i + 1)).prd_pos
    have hq1 : prd (rs.drop (i + 1)) ≤ prd rs := by
      rw [← e4]
      exact Int.ediv_le_self _ (by omega)
    refine ⟨.int (c * prd (rs.drop (i + 1))), iV_at (swL_get hc1 hi), ?_⟩
    rw [← e4] at hq0 hq1 ⊢
    exact ev_op (ev_var rfl) (ev_op (ev_var rfl) (ev_var rfl) (rv_div hpos (by omega))) (rv_mul (.inr ⟨by omega, by omega⟩))
theorem x_lScaled {a b : Addr} {rs cs : List Int} {H : Hp} (hS : SqL K H a (iV rs)) (hT : SqT K H b (iV cs)) (hs : Sched rs) (hl : rs.length ≤ 8) (hcl : cs.length ≤ 200) : SpX (spLScaled K) [.ref a, .ref b] H (TupAt K [.int (sw rs cs), .int (prd rs)]) :=
  fun H1 e Q q E => ⟨a, b, rs, cs, rfl, ex_l e hS, ex_t e hT, hs, hl, hcl, q⟩
theorem sc_l_path : FnScope ["_law_source_here", "_law_rounds_here", "_law_entry"] ["_law_source_here", "_law_rounds_here"] (defScope s_l_path) := ⟨rfl, rfl, rfl, by decide +kernel, rfl, by decide +kernel, by decide +kernel⟩
def PathAt (s : Addr) (rs : List Int) : V → Hp → Prop := fun v H => IntsAt (fun n => n = rs.length) (fun i x => 0 ≤ x ∧ x < at0 rs i) v H ∧ v ≠ .ref s
def spPath (K : PySem.W.Frag) : Sp := fun vs H Q _ => ∃ (s a : Addr) (rs : List Int), vs = [.ref s, .ref a] ∧ SrcAt H s ∧ SqL K (rm H s) a (iV rs) ∧ Sched rs ∧ rs.length ≤ 200 ∧ ∀ v H', Ey s H H' → PathAt s rs v H' → Q v H'
theorem ok_l_path (T : Tx K mg) : Ok P w K mg base 2 "_law_path" ["_law_source_here", "_law_rounds_here"] (spPath K) := by
  have O_l_take := ok_l_take (P := P) (w := w) (base := base) T
  obtain ⟨fd, F⟩ := T.d_l_path
  refine ⟨fd, F.ok sc_l_path (fun vs H Q E h => ?_) (fun cdv A outer s H vs Q E hr h => ?_), F.bindsN (fun _ _ _ _ _ _ us hl => match us, hl with | [_, _], _ => rfl), F.kp, T.g__law_path⟩
  · obtain ⟨s, a, rs, rfl, _⟩ := h
    rfl
  · obtain ⟨s, a, rs, rfl, hs, hS, hsd, hl, q⟩ := h
    refine ⟨_, PSs.nox (pss_one (ps_ret (pe_lc (own := [("_law_entry", 2)]) rfl sc_l_path.nd (pi_listK (pv 1)) (blkOk_by (N := ["_law_source_here", "_law_rounds_here", "_law_entry"]) (sc := defScope s_l_path) (own := [("_law_entry", 2)]) (by decide +kernel)) (fun _ _ _ _ _ => (pg_name (i := 2) sc_l_path.nd rfl (.inl rfl))) (fun _ _ _ _ _ => pts_nil) (fun _ _ _ _ _ => (pe_ok O_l_take (hr.mono (by decide)) (by rfl) (pa_cons (pv 0) (pa_cons (pv 2) pa_nil))))))), ?_⟩
    refine s_retS (P := PathAt s rs) hs (es_weak (es_lcl (N := fun n => n = (iV rs).length) (p := fun i x => 0 ≤ x ∧ x < at0 rs i) (eiS_list (ev_var rfl) hS) (fun n hn => by rw [hn, iV_len]; omega) (fun _ => rfl) fun i x H1 e1 hx => ?_) fun v H1 _ z => ?_) q
    · obtain ⟨r, hr1, rfl⟩ := iV_get hx
      have hb := hsd r (List.mem_of_getElem? hr1)
      rw [at0_get hr1]
      exact es_callV (ea_cons (ev_var rfl) (ea_cons (ev_var rfl) ea_nil)) (s_take (by omega) (by omega))
    · rw [iV_len] at z
      exact z
theorem s_path {s a : Addr} {rs : List Int} {H : Hp} (hS : SqL K (rm H s) a (iV rs)) (hs : Sched rs) (hl : rs.length ≤ 200) : SpS (spPath K) [.ref s, .ref a] s H (PathAt s rs) := fun H1 e Q q E => ⟨s, a, rs, rfl, e.2, ex_l e.rm hS, hs, hl, q⟩
end
end SC

/-! part W8 -/
set_option Elab.async false
set_option linter.all false
set_option maxRecDepth 100000
set_option maxHeartbeats 4000000
namespace SC
open PySem PySem.Spec PyProof.Rows L2 Evl
/-! rows on the heap, as pairs -/
abbrev Pr := Addr × Row
def pv' (ps : List Pr) : List V := ps.map fun x => V.ref x.1
theorem pr_get {ps : List Pr} {i : Nat} {v : V} (h : (pv' ps)[i]? = some v) : ∃ x, ps[i]? = some x ∧ v = .ref x.1 := by
  unfold pv' at h
  rw [List.getElem?_map] at h
  cases e : ps[i]? with
  | none => rw [e] at h; cases h
  | some x => rw [e] at h; exact ⟨x, rfl, (Option.some.inj h).symm⟩
theorem pv_len (ps : List Pr) : (pv' ps).length = ps.length := List.length_map _
theorem allT_pairs {K : PySem.W.Frag} {H : Hp} : ∀ {ps : List Pr}, (∀ x ∈ ps, SqT K H x.1 (iV (rowL x.2))) → AllT K H (ps.map fun x => x.1) ((ps.map fun x => x.2).map rowL)
  | [], _ => trivial
  | x :: ps, h => ⟨h x List.mem_cons_self, allT_pairs fun y hy => h y (List.mem_cons_of_mem _ hy)⟩
theorem lt_pairs {K : PySem.W.Frag} {H : Hp} {p : Addr} {ps : List Pr} (h1 : SqL K H p (pv' ps)) (h2 : ∀ x ∈ ps, SqT K H x.1 (iV (rowL x.2))) : LT K H p ((ps.map fun x => x.2).map rowL) :=
  ⟨ps.map fun x => x.1, by rw [List.map_map]; exact h1, allT_pairs h2⟩
theorem totR_perm {a b : List Row} (h : a.Perm b) (d : Nat) : totR a d = totR b d := by
  unfold totR
  induction h with
  | nil => rfl
  | cons x _ ih => rw [List.map_cons, List.map_cons, List.sum_cons, List.sum_cons, ih]
  | swap x y l => simp only [List.map_cons, List.sum_cons]; omega
  | trans _ _ i1 i2 => rw [i1, i2]
theorem PlanOk.perm {rs cs : List Int} {a b : List Row} (p : PlanOk rs cs a) (h : b.Perm a) : PlanOk rs cs b :=
  ⟨fun r hr => p.row r (h.mem_iff.mp hr), fun d h1 h2 => by rw [totR_perm h d]; exact p.tot d h1 h2, by rw [h.length_eq]; exact p.few⟩
section
variable {K : PySem.W.Frag} {σ : L2.St} {H H' : Hp} {s : Addr} {ta tb tc te tx to ti tl t1 t2 t3 : TE} {tr : TA} {t u : TT} {x y z v : V} {P P2 : V → Hp → Prop} {PP : List V → Hp → Prop} {D : Ends} {tz tu : TS}
theorem dpAll_pairs : ∀ {ps : List Pr}, (∀ x ∈ ps, SqT K H x.1 (iV (rowL x.2))) → DpAll K H (pv' ps) (ps.map fun x => PyData.tuple ((rowL x.2).map PyData.int))
  | [], _ => .nil
  | x :: ps, h => .cons (.tup (h x List.mem_cons_self) (dpAll_ints _)) (dpAll_pairs fun y hy => h y (List.mem_cons_of_mem _ hy))
theorem lay_pairs : ∀ ps : List Pr, PyData.canLayAll0 (ps.map fun x => PyData.tuple ((rowL x.2).map PyData.int)) = true
  | [] => rfl
  | x :: ps => by
    rw [List.map_cons, PyData.canLayAll0, lay_pairs ps, PyData.canLay0, lay_ints]
    rfl
theorem depth_pairs : ∀ ps : List Pr, PyData.depthAll (ps.map fun x => PyData.tuple ((rowL x.2).map PyData.int)) ≤ 1
  | [] => Nat.zero_le _
  | x :: ps => by
    rw [List.map_cons, PyData.depthAll, PyData.depth, depth_ints]
    have := depth_pairs ps
    omega
theorem shaped_pairs (ps : List Pr) : SeqAt.shaped (.list (ps.map fun x => PyData.tuple ((rowL x.2).map PyData.int))) = true := by
  unfold SeqAt.shaped
  have h1 : (PyData.list (ps.map fun x => PyData.tuple ((rowL x.2).map PyData.int))).canLay0 = true := by rw [PyData.canLay0]; exact lay_pairs ps
  have h2 : (PyData.list (ps.map fun x => PyData.tuple ((rowL x.2).map PyData.int))).depth ≤ 64 := by
    rw [PyData.depth]
    have := depth_pairs ps
    omega
  rw [h1, decide_eq_true h2]
  rfl
theorem rv_neNil {p q : Addr} {ps : List Pr} (h1 : SqL K H p (pv' ps)) (h2 : ∀ x ∈ ps, SqT K H x.1 (iV (rowL x.2))) (h3 : SqL K H q []) : RV (rNeD K) (.ref p) (.ref q) H (.bl (!ps.isEmpty)) := fun H1 e Q k => by
  refine ⟨.list (ps.map fun x => PyData.tuple ((rowL x.2).map PyData.int)), .list [], .lst (ex_l e h1) (dpAll_pairs fun x hx => ex_t e (h2 x hx)), .lst (ex_l e h3) .nil, shaped_pairs ps, by decide, ?_⟩
  have : PyData.eqv (.list (ps.map fun x => PyData.tuple ((rowL x.2).map PyData.int))) (.list []) = ps.isEmpty := by
    rw [PyData.eqv]
    cases ps with
    | nil => rfl
    | cons x ps => rw [List.map_cons, PyData.eqvAll]; rfl
  rw [this]
  exact k H1 (Ex.refl _)
theorem q_par2L {i j : Nat} {xs ys : List V} (h1 : EvL t1 σ H xs) (h2 : EvL t2 σ H ys) (k : ∀ p q H1, Ex H H1 → H p = none → H q = none → p ≠ q → H1 p = some (.lst xs) → H1 q = some (.lst ys) → tz D ((σ.set i (some (.ref p))).set j (some (.ref q))) H1) :
    tSeq (tPar i j (tCons t1 (tCons t2 tNil))) tz D σ H := h1 H (Ex.refl H) _ fun p H1 hp e1 x1 => h2 H1 e1 _ fun q H2 hq e2 x2 => ⟨_, _, rfl, k p q H2 (e1.trans e2) hp (fresh_back e1 hq) (fun z => by rw [← z, x1] at hq; cases hq) (e2 _ _ x1) x2⟩
/-- ys.append(xs.pop(drawn)) -/
theorem s_popApp {l r : Addr} {xs ys : List V} (hS : SrcAt H s) (hl : H l = some (.lst xs)) (hr : H r = some (.lst ys)) (ls : l ≠ s) (rs : r ≠ s) (lr : r ≠ l) (h3 : Ev t3 σ H (.ref r)) (h2 : Ev t2 σ H (.ref l)) (ht : EvS te σ s H (fun v _ => ∃ i : Int, v = .int i ∧ 0 ≤ i ∧ i < (xs.length : Int))) (hz : ys.length < 100000) (hzx : xs.length ≤ 100000)
    (k : ∀ H1 (j : Nat) y, Ey s H H1 → xs[j]? = some y → D.nx σ (upd (upd H1 l (.lst (xs.eraseIdx j))) r (.lst (ys ++ [y])))) :
    tDrop (tBM K "list" rAppend t3 (tCons (tBM K "list" rPopAt t2 (tCons te tNil)) tNil)) D σ H := h3 H (Ex.refl H) _ fun H1 e1 =>
  ⟨Or.inl ⟨rfl, ys, sq_of (e1 r _ hr)⟩, h2 H1 e1 _ fun H2 e2 => ⟨Or.inl ⟨rfl, xs, sq_of (e2 l _ (e1 l _ hl))⟩, ht H2 (Ey.of hS (e1.trans e2)) _ fun v H3 e3 ⟨i, ei, i0, i1⟩ => by
    have e13 := (Ey.of hS (e1.trans e2)).trans e3
    have hi : ixN xs.length i = some i.toNat := by
      have := ixN_nat (n := xs.length) (j := i.toNat) (by omega)
      rw [show ((i.toNat : Nat) : Int) = i by omega] at this
      exact this
    have hx : i.toNat < xs.length := by omega
    have hg : xs[i.toNat]? = some xs[i.toNat] := by simp [hx]
    refine ⟨l, xs, i, i.toNat, xs[i.toNat], rfl, by rw [ei], e13.1 _ _ (rm_at ls hl), by omega, by omega, (ixN_seq hi).1, hg, r, ys, _, rfl, rfl, ?_, sz_lt hz, k H3 _ _ e13 hg⟩
    rw [upd_ne lr]
    exact e13.1 _ _ (rm_at rs hr)⟩⟩
theorem el_slN {tl th : TO} {xs : List V} {lo hi : Option Int} (h : EvL te σ H xs) (h1 : EvO tl σ H lo) (h2 : EvO th σ H hi) : EvL (tSl (rSlL K) te tl th) σ H (cutV xs lo hi) := fun H1 e _ q =>
  h H1 e _ fun p H2 hp e2 hx => h1 H2 (e.trans e2) _ fun H3 e3 => h2 H3 ((e.trans e2).trans e3) _ fun H4 e4 =>
    ⟨p, xs, rfl, sq_of ((e3.trans e4) _ _ hx), fun l hl => q l _ (fresh_back ((e2.trans e3).trans e4) hl) (((e2.trans e3).trans e4).trans (Ex.new hl)) upd_same⟩
theorem es_tup (h : EaS tr σ s H PP) (hl : ∀ vs H, PP vs H → vs.length ≤ 100000) (hm : ∀ vs H1 H2, Ey s H1 H2 → PP vs H1 → PP vs H2) : EvS (tTup tr) σ s H (fun v H' => ∃ p vs, v = .ref p ∧ H' p = some (.tup vs) ∧ PP vs H') := fun H1 e Q q =>
  h H1 e _ fun vs H2 e2 h2 => ⟨sz_of (hl _ _ h2), fun p hp => q _ _ (e2.trans (Ey.of e2.2 (Ex.new hp))) ⟨p, vs, rfl, upd_same, hm _ _ _ (Ey.of e2.2 (Ex.new hp)) h2⟩⟩
theorem ey_t (e : Ey s H H') (hS : SrcAt H s) {a : Addr} {xs : List V} (h : SqT K H a xs) : SqT K H' a xs := ex_t e.1 (sqT_rm hS h)
end
theorem erase_map {α β : Type} (f : α → β) : ∀ (l : List α) (i : Nat), (l.map f).eraseIdx i = (l.eraseIdx i).map f
  | [], _ => rfl
  | a :: l, 0 => rfl
  | a :: l, i + 1 => by
    show f a :: (l.map f).eraseIdx i = f a :: (l.eraseIdx i).map f
    rw [erase_map f l i]
theorem erase_perm {α : Type} : ∀ {l : List α} {i : Nat} {x : α}, l[i]? = some x → l.Perm (x :: l.eraseIdx i)
  | [], i, x, h => by simp at h
  | a :: l, 0, x, h => by
    have : a = x := Option.some.inj h
    subst this
    exact List.Perm.refl _
  | a :: l, i + 1, x, h => ((erase_perm (l := l) (i := i) h).cons a).trans (List.Perm.swap x a _)
theorem erase_len {α : Type} {l : List α} {i : Nat} {x : α} (h : l[i]? = some x) : (l.eraseIdx i).length + 1 = l.length := by
  have := (erase_perm h).length_eq
  rw [List.length_cons] at this
  omega
/-! a plan as it is drawn -/
theorem totR_snoc' (rows : List Row) (r : Row) (d : Nat) : totR (rows ++ [r]) d = totR rows d + if r.1 = d then r.2.2 else 0 := by
  unfold totR
  rw [List.map_append, List.sum_append]
  simp
structure DInv (rs cs : List Int) (rows : List Row) (k : Nat) (u : Int) : Prop where
  row : ∀ r ∈ rows, RowOk rs r
  tot : ∀ d, 1 ≤ d → totR rows d = if d ≤ k then at0 cs (d - 1) else if d = k + 1 then u else 0
  few : (rows.length : Int) ≤ 20 * (k : Int) + u
theorem dinv_zero (rs cs : List Int) : DInv rs cs [] 0 0 := by
  refine ⟨(fun r h => nomatch h), (fun d h => ?_), by simp⟩
  rw [if_neg (show ¬ d ≤ 0 by omega)]
  split <;> rfl
theorem DInv.step {rs cs : List Int} {rows : List Row} {k : Nat} {u f z : Int} (D : DInv rs cs rows k u) (hk : k < rs.length) (f0 : 0 ≤ f) (f1 : f < pp rs (k + 1)) (z1 : 1 ≤ z) : DInv rs cs (rows ++ [(k + 1, f, z)]) k (u + z) := by
  refine ⟨fun r hr => ?_, fun d hd => ?_, ?_⟩
  · rcases List.mem_append.mp hr with h | h
    · exact D.row r h
    · have : r = (k + 1, f, z) := by simpa using h
      subst this
      exact ⟨by simp, hk, f0, f1, z1⟩
  · rw [totR_snoc', D.tot d hd]
    show _ + (if k + 1 = d then z else 0) = _
    by_cases h1 : d ≤ k
    · rw [if_pos h1, if_pos h1, if_neg (by omega)]; omega
    · rw [if_neg h1, if_neg h1]
      by_cases h2 : d = k + 1
      · rw [if_pos h2, if_pos h2, if_pos h2.symm]
      · rw [if_neg h2, if_neg h2, if_neg (fun z => h2 z.symm)]; omega
  · have := D.few
    rw [List.length_append]
    simp
    omega
theorem DInv.next {rs cs : List Int} {rows : List Row} {k : Nat} (D : DInv rs cs rows k (at0 cs k)) (h : at0 cs k ≤ 20) : DInv rs cs rows (k + 1) 0 := by
  refine ⟨D.row, fun d hd => ?_, ?_⟩
  · rw [D.tot d hd]
    by_cases h1 : d ≤ k
    · rw [if_pos h1, if_pos (by omega)]
    · rw [if_neg h1]
      by_cases h2 : d = k + 1
      · rw [if_pos h2, if_pos (show d ≤ k + 1 by omega), h2]
        rfl
      · rw [if_neg h2, if_neg (show ¬ d ≤ k + 1 by omega)]
        split <;> rfl
  · have := D.few
    omega
theorem DInv.plan {rs cs : List Int} {rows : List Row} (D : DInv rs cs rows (min cs.length rs.length) 0) (hl : rs.length ≤ 8) : PlanOk rs cs rows := by
  refine ⟨D.row, fun d h1 h2 => ?_, ?_⟩
  · rw [D.tot d h1]
    by_cases h : d ≤ min cs.length rs.length
    · rw [if_pos h]
    · rw [if_neg h, at0_out (xs := cs) (by omega)]
      split <;> rfl
  · have := D.few
    omega
end SC

/-! part F13 -/
set_option Elab.async false
set_option linter.all false
set_option maxRecDepth 100000
set_option maxHeartbeats 4000000
namespace SC
open PySem PySem.Spec PyProof.Rows L2 Evl
section
variable {P : Program} {w : World} {K : PySem.W.Frag} {mg : Str → Option Value} {base : Heap}
theorem sc_l_shuffled : FnScope ["_law_source_here", "_law_items", "_law_pool", "_law_result"] ["_law_source_here", "_law_items"] (defScope s_l_shuffled) := ⟨rfl, rfl, rfl, by decide +kernel, rfl, by decide +kernel, by decide +kernel⟩
def ShufAt (K : PySem.W.Frag) (s : Addr) (ps : List Pr) : V → Hp → Prop := fun v H => ∃ p qs, v = .ref p ∧ p ≠ s ∧ H p = some (.lst (pv' qs)) ∧ qs.Perm ps ∧ ∀ x ∈ qs, SqT K H x.1 (iV (rowL x.2))
def spShuf (K : PySem.W.Frag) : Sp := fun vs H Q _ => ∃ (s q : Addr) (ps : List Pr), vs = [.ref s, .ref q] ∧ SrcAt H s ∧ SqL K (rm H s) q (pv' ps) ∧ (∀ x ∈ ps, SqT K H x.1 (iV (rowL x.2))) ∧ ps.length ≤ 1000 ∧ ∀ v H', Ey s H H' → ShufAt K s ps v H' → Q v H'
theorem ok_l_shuffled (T : Tx K mg) : Ok P w K mg base 2 "_law_shuffled" ["_law_source_here", "_law_items"] (spShuf K) := by
  have O_l_take := ok_l_take (P := P) (w := w) (base := base) T
  obtain ⟨fd, F⟩ := T.d_l_shuffled
  refine ⟨fd, F.ok sc_l_shuffled (fun vs H Q E h => ?_) (fun cdv A outer s H vs Q E hr h => ?_), F.bindsN (fun _ _ _ _ _ _ us hl => match us, hl with | [_, _], _ => rfl), F.kp, T.g__law_shuffled⟩
  · obtain ⟨a, b, ps, rfl, _⟩ := h
    rfl
  · obtain ⟨a, b, ps, rfl, hs, hS, hT, hl, q⟩ := h
    refine ⟨_, PSs.nox (pss_cons (ps_par (i := 2) (j := 3) rfl sc_l_shuffled.nd rfl rfl (by decide) rfl rfl (pa_cons (pe_callTy call_listK (by rfl) T.f_list bb_list (pa_cons (pv 1) pa_nil)) (pa_cons (pe_lst pa_nil) pa_nil)) (by rfl))
      (pss_cons (ps_while PassesOwn.never (pt_cmpR (op_neDK hr.units) (pv 2) (pe_lst pa_nil) (nomark _)) (pss_one (ps_expr (pe_bmK PySem.F.plainAttrs_list PySem.F.slot_list_append PySem.F.type_list_append mt_append (pv 3) (pa_cons (pe_bmK PySem.F.plainAttrs_list PySem.F.slot_list_pop PySem.F.type_list_pop mt_popAt (pv 2) (pa_cons (pe_ok O_l_take (hr.mono (by decide)) (by rfl) (pa_cons (pv 0) (pa_cons (pe_callB call_lenK (by rfl) T.f_len bb_len (pa_cons (pv 2) pa_nil)) pa_nil))) pa_nil)) pa_nil)))))
      (pss_one (ps_ret (pv 3))))), ?_⟩
    refine q_par2L (xs := pv' ps) (el_list (ev_var rfl) (ex_l rm_sub hS)) (el_lst ea_nil (by simp)) fun pl rl H1 e1 hp hr0 hpr h1 h2 => ?_
    have np := hs.ne hp
    have nr := hs.ne hr0
    refine q_while (fun m σ' H' => ∃ pool res : List Pr, m = pool.length ∧ σ' = [some (.ref a), some (.ref b), some (.ref pl), some (.ref rl)] ∧ Ey a H H' ∧ H' pl = some (.lst (pv' pool)) ∧ H' rl = some (.lst (pv' res)) ∧ (pool ++ res).Perm ps) ps.length ⟨ps, [], rfl, rfl, Ey.of hs e1, h1, h2, by rw [List.append_nil]⟩ fun m σ' H' z => ?_
    obtain ⟨pool, res, rfl, rfl, e, h3, h4, hperm⟩ := z
    have hlen := hperm.length_eq
    rw [List.length_append] at hlen
    have hT2 : ∀ x ∈ pool, SqT K H' x.1 (iV (rowL x.2)) := fun x hx => ey_t e hs (hT x (hperm.mem_iff.mp (List.mem_append_left _ hx)))
    refine ⟨!pool.isEmpty, et_test (ev_opL (ev_var rfl) (el_lst ea_nil (by simp)) fun p H2 hp2 e2 => rv_neNil (sq_of (e2 _ _ h3)) (fun x hx => ex_t e2 (hT2 x hx)) (sq_of hp2)), fun hb H2 e2 => ?_, fun hb H2 e2 => ?_⟩
    · have e3 := e.trans (Ey.of e.2 e2)
      refine ⟨fun σ'' H'' => ∃ m', m' < pool.length ∧ ∃ pool' res' : List Pr, m' = pool'.length ∧ σ'' = [some (.ref a), some (.ref b), some (.ref pl), some (.ref rl)] ∧ Ey a H H'' ∧ H'' pl = some (.lst (pv' pool')) ∧ H'' rl = some (.lst (pv' res')) ∧ (pool' ++ res').Perm ps, fun _ _ z => z, ?_⟩
      refine s_popApp e3.2 (e2 _ _ h3) (e2 _ _ h4) np nr hpr.symm (ev_var rfl) (ev_var rfl) (es_callV (ea_cons (ev_var rfl) (ea_cons (ev_lenL (ev_var rfl) (sq_of (rm_at np (e2 _ _ h3)))) ea_nil)) (s_take ?_ ?_)) (by rw [pv_len]; omega) (by rw [pv_len]; omega) fun H3 j y e4 hy => ?_
      · rw [pv_len]
        cases pool with
        | nil => cases hb
        | cons x pool => simp
      · rw [pv_len]; omega
      · obtain ⟨x, hx, rfl⟩ := pr_get hy
        have hel := erase_len hx
        refine ⟨(pool.eraseIdx j).length, by omega, pool.eraseIdx j, res ++ [x], rfl, rfl, ?_, ?_, ?_, ?_⟩
        · exact ((e3.trans e4).mut hp np).mut hr0 nr
        · rw [upd_ne hpr, upd_same]
          unfold pv'
          rw [erase_map]
        · rw [upd_same]
          unfold pv'
          rw [List.map_append]
          rfl
        · have p1 := (erase_perm hx).append_right res
          refine List.Perm.trans ?_ hperm
          refine List.Perm.trans ?_ p1.symm
          rw [← List.append_assoc]
          exact List.perm_append_comm.trans (by exact List.Perm.refl _)
    · have hnil : pool = [] := by
        cases pool with
        | nil => rfl
        | cons x pool => cases hb
      subst hnil
      have e3 := e.trans (Ey.of e.2 e2)
      refine s_ret (ev_var rfl) fun H3 e4 => q _ H3 (e3.trans (Ey.of e3.2 e4)) ⟨rl, res, rfl, nr, e4 _ _ (e2 _ _ h4), hperm, fun x hx => ?_⟩
      exact ex_t e4 (ey_t e3 hs (hT x (hperm.mem_iff.mp hx)))
theorem s_shuf {s q : Addr} {ps : List Pr} {H : Hp} (hS : SqL K (rm H s) q (pv' ps)) (hT : ∀ x ∈ ps, SqT K (rm H s) x.1 (iV (rowL x.2))) (hl : ps.length ≤ 1000) : SpS (spShuf K) [.ref s, .ref q] s H (ShufAt K s ps) :=
  fun H1 e Q q2 E => ⟨s, q, ps, rfl, e.2, ex_l e.rm hS, fun x hx => ex_t e.1 (hT x hx), hl, q2⟩
theorem sc_l_drawn_plan : FnScope ["_law_source_here", "_law_rounds_here", "_law_crowd_here", "_law_result", "_law_k", "_law_part", "_law_left", "_law_size"] ["_law_source_here", "_law_rounds_here", "_law_crowd_here"] (defScope s_l_drawn_plan) := ⟨rfl, rfl, rfl, by decide +kernel, rfl, by decide +kernel, by decide +kernel⟩
def DrawnAt (K : PySem.W.Frag) (s : Addr) (rs cs : List Int) : V → Hp → Prop := fun v H => ∃ p rows, v = .ref p ∧ p ≠ s ∧ LT K H p (rows.map rowL) ∧ PlanOk rs cs rows
def spDrawn (K : PySem.W.Frag) : Sp := fun vs H Q _ => ∃ (s a b : Addr) (rs cs : List Int), vs = [.ref s, .ref a, .ref b] ∧ SrcAt H s ∧ SqL K (rm H s) a (iV rs) ∧ SqT K H b (iV cs) ∧ Sched rs ∧ rs.length ≤ 8 ∧ cs.length ≤ 200 ∧ NN cs ∧ (∀ c ∈ cs, c ≤ 20) ∧ ∀ v H', Ey s H H' → DrawnAt K s rs cs v H' → Q v H'
theorem ok_l_drawn_plan (T : Tx K mg) : Ok P w K mg base 3 "_law_drawn_plan" ["_law_source_here", "_law_rounds_here", "_law_crowd_here"] (spDrawn K) := by
  have O_l_shares := ok_l_shares (P := P) (w := w) (base := base) T
  have O_l_pick := ok_l_pick (P := P) (w := w) (base := base) T
  have O_l_take := ok_l_take (P := P) (w := w) (base := base) T
  have O_l_shuffled := ok_l_shuffled (P := P) (w := w) (base := base) T
  obtain ⟨fd, F⟩ := T.d_l_drawn_plan
  refine ⟨fd, F.ok sc_l_drawn_plan (fun vs H Q E h => ?_) (fun cdv A outer s H vs Q E hr h => ?_), F.bindsN (fun _ _ _ _ _ _ us hl => match us, hl with | [_, _, _], _ => rfl), F.kp, T.g__law_drawn_plan⟩
  · obtain ⟨s, a, b, rs, cs, rfl, _⟩ := h
    rfl
  · obtain ⟨s, a, b, rs, cs, rfl, hs, hS, hT, hsd, hl, hcl, hnn, hc20, q⟩ := h
    refine ⟨_, PSs.nox (pss_cons (ps_set (i := 3) sc_l_drawn_plan.nd rfl (.inl rfl) (pe_lst pa_nil))
      (pss_cons (ps_for PassesOwn.never rfl (pi_enum1K (by rfl) T.f_enumerate (pa_cons (pe_slice sl_listK (pe_ok O_l_shares (hr.mono (by decide)) (by rfl) (pa_cons (pv 1) pa_nil)) po_none (po_some (pe_callB call_lenK (by rfl) T.f_len bb_len (pa_cons (pv 2) pa_nil)))) pa_nil)) (pg_tupK (n := 2) rfl (pgs_cons (pg_name (i := 4) sc_l_drawn_plan.nd rfl (.inl rfl)) (pgs_cons (pg_name (i := 5) sc_l_drawn_plan.nd rfl (.inl rfl)) pgs_nil))) (pss_cons (ps_set (i := 6) sc_l_drawn_plan.nd rfl (.inl rfl) (pe_ix ix_tupK (pv 2) (pv 4) (fun _ _ => rfl)))
      (pss_one (ps_while PassesOwn.never (pt_cmpR op_gt (pv 6) pe_int (nomark _)) (pss_cons (ps_set (i := 7) sc_l_drawn_plan.nd rfl (.inl rfl) (pe_ok O_l_pick (hr.mono (by decide)) (by rfl) (pa_cons (pv 0) (pa_cons (pe_lst (pa_cons (pv 6) (pa_cons pe_int (pa_cons (pe_op op_add pe_int (pe_ok O_l_take (hr.mono (by decide)) (by rfl) (pa_cons (pv 0) (pa_cons (pv 6) pa_nil)))) pa_nil)))) pa_nil))))
      (pss_cons (ps_expr (pe_bmK PySem.F.plainAttrs_list PySem.F.slot_list_append PySem.F.type_list_append mt_append (pv 3) (pa_cons (pe_tup (pa_cons (pe_op op_add (pv 4) pe_int) (pa_cons (pe_ok O_l_take (hr.mono (by decide)) (by rfl) (pa_cons (pv 0) (pa_cons (pv 5) pa_nil))) (pa_cons (pv 7) pa_nil)))) pa_nil)))
      (pss_one (ps_set (i := 6) sc_l_drawn_plan.nd rfl (.inl rfl) (pe_op op_sub (pv 6) (pv 7))))))))))
      (pss_one (ps_ret (pe_ok O_l_shuffled (hr.mono (by decide)) (by rfl) (pa_cons (pv 0) (pa_cons (pv 3) pa_nil))))))), ?_⟩
    refine q_asgL (el_lst ea_nil (by simp)) fun r H1 hr0 e1 h1 => ?_
    have nr := hs.ne hr0
    have hs1 := hs.ex e1
    have hxs : cutV (iV (sh rs rs.length)) none (some (((iV cs).length : Nat) : Int)) = iV (sh rs (min cs.length rs.length)) := by
      rw [cut_len, iV_len]
      congr 1
      unfold sh
      rw [← List.map_take, List.take_range]
    refine q_forEnumL (xs := iV (sh rs (min cs.length rs.length))) (fun H2 e2 Q2 q2 => ep_consL (xs := iV (sh rs (min cs.length rs.length))) (el_is (el_slN (el_call (ea_cons (ev_var rfl) ea_nil) (l_sharesL (ex_l (rm_sub.trans e1) hS) hsd (by omega))) eo_none (eo_some (ev_lenT (ev_var rfl) (ex_t e1 hT)))) hxs) ep_nil H2 e2 Q2 fun vs H3 e3 z => q2 vs H3 e3 z)
      (fun tl k σ' H' => ∃ (ps : List Pr) (y4 y5 y6 y7 : Option V), σ' = [some (.ref s), some (.ref a), some (.ref b), some (.ref r), y4, y5, y6, y7] ∧ Ey s H H' ∧ H' r = some (.lst (pv' ps)) ∧ (∀ x ∈ ps, SqT K H' x.1 (iV (rowL x.2))) ∧ H' tl = some (.lst (iV (sh rs (min cs.length rs.length)))) ∧ tl ≠ s ∧ tl ≠ r ∧ DInv rs cs (ps.map fun x => x.2) k 0)
      (fun tl H2 e2 hf h2 => ⟨[], _, _, _, _, rfl, Ey.of hs (e1.trans e2), e2 _ _ h1, (fun x h => nomatch h), h2, hs1.ne hf, (fun z => by rw [z, h1] at hf; cases hf), dinv_zero rs cs⟩) (fun tl k σ' H' z => ?_) (fun tl k x σ' H2 hx z T hTn => ?_) fun tl σ' H' z => ?_
    · obtain ⟨ps, _, _, _, _, _, _, _, _, h, _⟩ := z
      exact h
    · obtain ⟨ps, y4, y5, y6, y7, rfl, e, h3, hps, h4, ns, ntr, dv⟩ := z
      obtain ⟨part, hpart, rfl⟩ := iV_get hx
      have hk := (List.getElem?_eq_some_iff.mp hpart).1
      rw [sh_len] at hk
      rw [sh_get hk] at hpart
      have hpp : pp rs (k + 1) = part := Option.some.inj hpart
      have hP := pp_pos hsd (k + 1)
      have hPu : pp rs (k + 1) ≤ 214358881 := Int.le_trans (prd_dvd_le hsd _) (prd_lt hsd hl)
      rw [hpp] at hP hPu
      have eT := Ex.new (o := .tup [.int (k : Int), .int part]) hTn
      have e3 := e.trans (Ey.of e.2 eT)
      have hc0 := at0_nn hnn k
      have hck : at0 cs k ≤ 20 := hc20 _ (at0_mem (show k < cs.length by omega))
      refine q_asg (v := .int (at0 cs k)) (ev_ixT (j := k) (ev_var rfl) (ev_var rfl) (ey_t e3 hs hT) (iV_at (at0_some (by omega)))) fun H3 e4 => ?_
      have e5 := e3.trans (Ey.of e3.2 e4)
      refine s_while (fun m σ' H' => ∃ (left : Int) (ps : List Pr) (y7 : Option V), m = left.toNat ∧ 0 ≤ left ∧ left ≤ at0 cs k ∧ σ' = [some (.ref s), some (.ref a), some (.ref b), some (.ref r), some (.int (k : Int)), some (.int part), some (.int left), y7] ∧ Ey s H H' ∧ H' r = some (.lst (pv' ps)) ∧ (∀ x ∈ ps, SqT K H' x.1 (iV (rowL x.2))) ∧
        H' tl = some (.lst (iV (sh rs (min cs.length rs.length)))) ∧ DInv rs cs (ps.map fun x => x.2) k (at0 cs k - left)) (at0 cs k).toNat ⟨at0 cs k, ps, y7, rfl, hc0, Int.le_refl _, rfl, e5, (eT.trans e4) _ _ h3, fun x hx => ex_t (eT.trans e4) (hps x hx), (eT.trans e4) _ _ h4, by rw [Int.sub_self]; exact dv⟩ fun m σ' H' z => ?_
      obtain ⟨left, ps, y7, rfl, l0, l1, rfl, e, h3, hps, h4, dv⟩ := z
      refine ⟨decide (left > 0), et_test (ev_op (ev_var rfl) ev_c rv_I0), fun hb H4 e6 => ?_, fun hb H4 e6 => ?_⟩
      · have hlp : 0 < left := of_decide_eq_true hb
        have e7 := e.trans (Ey.of e.2 e6)
        refine ⟨fun σ'' H'' => ∃ m', m' < left.toNat ∧ ∃ (left' : Int) (ps : List Pr) (y7 : Option V), m' = left'.toNat ∧ 0 ≤ left' ∧ left' ≤ at0 cs k ∧ σ'' = [some (.ref s), some (.ref a), some (.ref b), some (.ref r), some (.int (k : Int)), some (.int part), some (.int left'), y7] ∧ Ey s H H'' ∧ H'' r = some (.lst (pv' ps)) ∧ (∀ x ∈ ps, SqT K H'' x.1 (iV (rowL x.2))) ∧
          H'' tl = some (.lst (iV (sh rs (min cs.length rs.length)))) ∧ DInv rs cs (ps.map fun x => x.2) k (at0 cs k - left'), fun _ _ z => z, ?_⟩
        refine q_asgS (P := fun v _ => ∃ x, v = .int x ∧ 1 ≤ x ∧ x ≤ left) e7.2 (es_call (ea_consV (ev_var rfl) (ea_consS (es_lst (ea_consV (ev_var rfl) (ea_consV ev_c (ea_consS (es_op (p := fun j => 0 ≤ j ∧ j < left) ev_c (es_callV (ea_cons (ev_var rfl) (ea_cons (ev_var rfl) ea_nil)) (s_take hlp (by omega)))) (fun _ _ _ _ h => h) ea_nilS))) ?_ (fun _ _ _ _ h => h)) ?_ ea_nilS)) fun vs H5 e8 z => ?_) fun v H5 e8 hv => ?_
        · rintro vs _ ⟨_, rfl, _, rfl, _, _, rfl, _, rfl⟩
          simp
        · rintro v H5 H6 e ⟨p2, vs, rfl, hne2, hp2, hP⟩
          exact ⟨p2, vs, rfl, hne2, e.1 _ _ (rm_at hne2 hp2), hP⟩
        · obtain ⟨_, rfl, _, _, rfl, ⟨p2, vs2, rfl, hne2, hp2, ⟨_, rfl, _, rfl, _, _, rfl, ⟨j, rfl, j0, j1⟩, rfl⟩⟩, rfl⟩ := z
          intro H6 e9 Q3 q3 E3
          refine s_pick (K := K) (xs := [left, 1, 1 + j]) (sq_of (rm_at hne2 hp2)) (by simp) (by simp) H6 e9 Q3 (fun v H7 e10 hv => q3 v H7 e10 ?_) E3
          obtain ⟨x, rfl, hx⟩ := hv
          refine ⟨x, rfl, ?_⟩
          simp only [List.mem_cons, List.not_mem_nil, or_false] at hx
          omega
        obtain ⟨z, rfl, z0, z1⟩ := hv
        have e9 := e7.trans e8
        have hr5 := e8.1 _ _ (rm_at nr (e6 _ _ h3))
        have ht5 := e8.1 _ _ (rm_at ns (e6 _ _ h4))
        have hpl : ps.length ≤ 1000 := by
          have := dv.few
          rw [List.length_map] at this
          omega
        refine q_appS e9.2 hr5 nr (ev_var rfl) (es_tup (ea_consV (ev_op (ev_var rfl) ev_c rv_I0) (ea_consS (es_callV (ea_cons (ev_var rfl) (ea_cons (ev_var rfl) ea_nil)) (s_take hP (by omega))) take_mono (ea_consV (ev_var rfl) ea_nilS))) ?_ (fun _ _ _ _ h => h)) (by rw [pv_len]; omega) fun v H6 e10 hv => ?_
        · rintro vs _ ⟨_, rfl, _, _, rfl, _, _, rfl, rfl⟩
          simp
        obtain ⟨tp, vs, rfl, htp, ⟨_, rfl, _, _, rfl, ⟨f, rfl, f0, f1⟩, ⟨_, rfl, rfl⟩⟩⟩ := hv
        have hr6 := e10.1 _ _ (rm_at nr hr5)
        have ht6 := e10.1 _ _ (rm_at ns ht5)
        have e11 := e9.trans e10
        refine s_asg (ev_op (ev_var rfl) (ev_var rfl) rv_I0) fun H7 e12 => ⟨(left - z).toNat, by omega, left - z, ps ++ [(tp, (k + 1, f, z))], _, rfl, by omega, by omega, rfl, ?_, ?_, ?_, ?_, ?_⟩
        · have e13 := e11.mut (o := .lst (pv' ps ++ [.ref tp])) hr0 nr
          exact e13.trans (Ey.of e13.2 e12)
        · refine e12 _ _ ?_
          rw [upd_same]
          unfold pv'
          rw [List.map_append]
          rfl
        · intro x hx
          refine ex_t e12 (sqT_upd ?_ hr6)
          rcases List.mem_append.mp hx with hx | hx
          · exact ey_t ((Ey.of e.2 e6).trans (e8.trans e10)) e.2 (hps x hx)
          · have : x = (tp, (k + 1, f, z)) := by simpa using hx
            subst this
            exact st_of htp
        · refine e12 _ _ ?_
          rw [upd_ne ntr]
          exact ht6
        · rw [List.map_append]
          have := dv.step (f := f) (z := z) (by omega) f0 (by rw [hpp]; exact f1) z0
          rw [show at0 cs k - left + z = at0 cs k - (left - z) by omega] at this
          exact this
      · have hl0 : left = 0 := by have := of_decide_eq_false hb; omega
        subst hl0
        rw [Int.sub_zero] at dv
        exact ⟨ps, _, _, _, _, rfl, e.trans (Ey.of e.2 e6), e6 _ _ h3, fun x hx => ex_t e6 (hps x hx), e6 _ _ h4, ns, ntr, dv.next hck⟩
    · obtain ⟨ps, _, _, _, _, rfl, e, h3, hps, h4, ns, ntr, dv⟩ := z
      rw [iV_len, sh_len] at dv
      have pk := dv.plan hl
      refine s_retS e.2 (es_callV (ea_cons (ev_var rfl) (ea_cons (ev_var rfl) ea_nil)) (s_shuf (sq_of (rm_at nr h3)) (fun x hx => sqT_rm e.2 (hps x hx)) (by have := pk.few; rw [List.length_map] at this; exact this))) fun v H3 e2 hv => q v H3 (e.trans e2) ?_
      obtain ⟨p, qs, rfl, np, hp, hperm, hq⟩ := hv
      exact ⟨p, qs.map fun x => x.2, rfl, np, lt_pairs (sq_of hp) hq, pk.perm (hperm.map _)⟩
theorem s_drawn {s a b : Addr} {rs cs : List Int} {H : Hp} (hS : SqL K (rm H s) a (iV rs)) (hT : SqT K (rm H s) b (iV cs)) (hs : Sched rs) (hl : rs.length ≤ 8) (hcl : cs.length ≤ 200) (hn : NN cs) (h20 : ∀ c ∈ cs, c ≤ 20) : SpS (spDrawn K) [.ref s, .ref a, .ref b] s H (DrawnAt K s rs cs) :=
  fun H1 e Q q E => ⟨s, a, b, rs, cs, rfl, e.2, ex_l e.rm hS, ex_t e.1 hT, hs, hl, hcl, hn, h20, q⟩
end
end SC

/-! part W9 -/
set_option Elab.async false
set_option linter.all false
set_option maxRecDepth 100000
set_option maxHeartbeats 4000000
namespace SC
open PySem PySem.Spec PyProof.Rows L2 Evl
section
variable {K : PySem.W.Frag} {H H' : Hp} {s : Addr} {v : V}
theorem sqL_refs (hs : SrcAt H s) {p : Addr} {as : List Addr} (h : SqL K H p (as.map V.ref)) : SqL K (rm H s) p (as.map V.ref) := by
  by_cases e : p = s
  · subst e
    obtain ⟨a, b, c, hs⟩ := hs
    rcases h with h | h
    · rcases h with h | ⟨o, h⟩
      · rw [hs] at h
        have := HO.lst.inj (Option.some.inj h)
        cases as with
        | nil => cases this
        | cons x as => simp at this
      · rw [hs] at h
        cases h
    · exact Or.inr h
  · exact sqL_rm e h
theorem lt_rm' (hs : SrcAt H s) {p : Addr} {xss : List (List Int)} (h : LT K H p xss) : LT K (rm H s) p xss := by
  obtain ⟨as, h1, h2⟩ := h
  exact ⟨as, sqL_refs hs h1, allT_rm hs h2⟩
theorem stgV_rm (hs : SrcAt H s) : ∀ {g : Stg}, StgV K H g v → StgV K (rm H s) g v
  | .bal, h => h
  | .even, h => h
  | .joint, h => h
  | .plan rows, ⟨p, e, h⟩ => ⟨p, e, lt_rm' hs h⟩
theorem chsV_rm (hs : SrcAt H s) (hne : ∀ p, v = .ref p → p ≠ s) : ∀ {c : Chs}, ChsV K H c v → ChsV K (rm H s) c v
  | .light, h => h
  | .heavy, h => h
  | .path xs, ⟨p, e, h⟩ => ⟨p, e, sqL_rm (hne p e) h⟩
theorem inst_rm (hs : SrcAt H s) {cls : Str} {x : Addr} (h : InstAt K cls H x v) : InstAt K cls (rm H s) x v := by
  obtain ⟨dx, h⟩ := h
  refine ⟨dx, rm_at (fun e => ?_) h⟩
  obtain ⟨a, b, c, hs⟩ := hs
  rw [e, hs] at h
  cases h
end
section
variable {K : PySem.W.Frag} {σ : L2.St} {H H' : Hp} {s : Addr} {ta tb tc te tx to ti tl t1 t2 t3 : TE} {tr : TA} {t u : TT} {x y z v : V} {P P2 : V → Hp → Prop} {PP : List V → Hp → Prop} {D : Ends} {tz tu : TS} {N : Nat → Prop}
theorem sps_of {sp : Sp} {vs : List V} (h : SpX sp vs (rm H s) P) : SpS sp vs s H P := fun H1 e Q q E => h H1 e.1 Q (fun v H2 e2 p => q v H2 (Ey.of e.2 e2) p) E
/-- C(.. drawn ..) -/
theorem es_make {C : Addr} {sp : Sp} {dvs : List V} {E : XK} (h : EaS tr σ s H PP) (hs : ∀ vs H1 x dx, Ey s H H1 → PP vs H1 → H1 x = none → Ex H1 (upd (upd H1 dx (.own x)) x (.ins C dx [])) → ∀ Q : VK, (∀ H2, Ey s H1 H2 → P (.ref x) H2 → Q .non H2) → sp (.ref x :: (vs ++ dvs)) (upd (upd H1 dx (.own x)) x (.ins C dx [])) Q E) : EvS (tMake C sp dvs E tr) σ s H P := fun H1 e Q q =>
  h H1 e _ fun vs H2 e2 hP x dx hx hd hne => hs vs H2 x dx (e.trans e2) hP hx (make_ex hx hd hne) _ fun H3 e3 hP => ⟨rfl, q _ H3 (e2.trans e3) hP⟩
/-- t[2] of a tuple of three, the last an int -/
def Third (p : Int → Prop) : V → Hp → Prop := fun v H => ∃ a m q x, v = .ref a ∧ H a = some (.tup [m, q, .int x]) ∧ p x
theorem es_third {p : Int → Prop} (h : EvS te σ s H (Third p)) : EvS (tOp (rIxT K) te (tC (.int 2))) σ s H (fun v _ => ∃ x, v = .int x ∧ p x) := fun H1 e Q q =>
  h H1 e _ fun v H2 e2 ⟨a, m, r, x, ev, ha, hp⟩ => ⟨a, [m, r, .int x], 2, .int x, ev, rfl, st_of ha, rfl, q _ H2 e2 ⟨x, rfl, hp⟩⟩
/-- a, b = [.. for ..] -/
theorem q_lst2S {i j : Nat} {p : Nat → Int → Prop} (hS : SrcAt H s) (h : EvS te σ s H (fun v H' => IntsAt N p v H' ∧ v ≠ .ref s)) (hN : ∀ n, N n → n = 2) (k : ∀ x y H1, Ey s H H1 → p 0 x → p 1 y → tz D ((σ.set i (some (.int x))).set j (some (.int y))) H1) :
    tSeq (tAsg te (gLst K 2 (gCons (gName i) (gCons (gName j) gNil)))) tz D σ H := h H (Ey.refl hS) _ fun v H1 e ⟨⟨l, xs, ev, hl, hn, hp⟩, _⟩ => by
  have h2 := hN _ hn
  match xs, h2, hl, hp with
  | [a, b], _, hl, hp =>
    exact ⟨l, _, ev, sq_of hl, rfl, _, _, rfl, _, _, rfl, rfl, k a b H1 e (hp 0 a rfl) (hp 1 b rfl)⟩
theorem eiS_rngC {m : Int} (h : EvA tr σ (rm H s) [.int m]) (h0 : 0 ≤ m) (h1 : m ≤ 100000) : EiS (iRng1 tr) σ s H (fun n => n = m.toNat) (YFn fun i => .int (0 + (i : Nat))) := fun H1 e R q =>
  h H1 e.1 _ fun H2 e2 => ⟨m, rfl, by omega, by omega, q _ m.toNat H2 (Ey.of e.2 e2) rfl (walk_range.mono (fun _ _ => trivial) fun _ _ _ _ _ _ y => y)⟩
/-- new lists of ints -/
def RawI (s : Addr) (R : List Int → Prop) : V → Hp → Prop := fun v H => ∃ p rs, v = .ref p ∧ p ≠ s ∧ H p = some (.lst (iV rs)) ∧ R rs
theorem es_catI {R1 R2 : List Int → Prop} (h1 : EvS ta σ s H (RawI s R1)) (h2 : EvS tb σ s H (RawI s R2)) (hz : ∀ a b, R1 a → R2 b → a.length + b.length ≤ 100000) : EvS (tOp rCat ta tb) σ s H (RawI s fun rs => ∃ a b, rs = a ++ b ∧ R1 a ∧ R2 b) := fun H1 e Q q =>
  h1 H1 e _ fun v H2 e2 ⟨p, a, ev, np, hp, r1⟩ => h2 H2 (e.trans e2) _ fun w H3 e3 ⟨o, b, ew, no, ho, r2⟩ => by
    refine ⟨p, o, _, _, ev, ew, e3.1 _ _ (rm_at np hp), ho, sz_of (by rw [iV_len, iV_len]; exact hz a b r1 r2), fun l hl => q _ _ ((e2.trans e3).trans (Ey.of e3.2 (Ex.new hl))) ⟨l, a ++ b, rfl, e3.2.ne hl, by rw [upd_same, iV_append], a, b, rfl, r1, r2⟩⟩
end
end SC

/-! part F14 -/
set_option Elab.async false
set_option linter.all false
set_option maxRecDepth 100000
set_option maxHeartbeats 4000000
namespace SC
open PySem PySem.Spec PyProof.Rows L2 Evl
section
variable {P : Program} {w : World} {K : PySem.W.Frag} {mg : Str → Option Value} {base : Heap}
def ChsrAt (K : PySem.W.Frag) (s : Addr) (c : Chs) : V → Hp → Prop := fun v H => ∃ y u, v = .ref y ∧ InstAt K "Chooser" (rm H s) y u ∧ ChsV K (rm H s) c u
theorem ChsrAt.mono {s : Addr} {c : Chs} : ∀ v H1 H2, Ey s H1 H2 → ChsrAt K s c v H1 → ChsrAt K s c v H2 := fun v H1 H2 e ⟨y, u, ev, h1, h2⟩ => ⟨y, u, ev, h1.mono e.rm, h2.mono e.rm⟩
theorem es_chooser {σ : L2.St} {s : Addr} {H : Hp} {tr : TA} {c : Chs} {rs : List Int} (ok : ChsOk rs c) (h : EaS tr σ s H (fun vs H' => ∃ v, vs = [v] ∧ ChsV K H' c v)) : EvS (tMake (He.ga K "Chooser") (spCInit K) [] E0 tr) σ s H (ChsrAt K s c) :=
  es_make h fun vs H1 x dx e1 ⟨v, ev, hc⟩ hx hex Q q => by
    subst ev
    exact ⟨x, dx, v, H1, c, rs, rfl, hx, hex, upd_same, hc, ok, fun v' H' e2 hI hcv hf => q H' (Ey.of e1.2 e2) ⟨x, v', rfl, inst_rm (e1.2.ex e2) hI, chsV_rm (e1.2.ex e2) (fun p hp => e1.2.ne (hf p hp)) hcv⟩⟩
theorem ex_splitter {σ : L2.St} {H : Hp} {tr : TA} {g : Stg} {v : V} (h : EvA tr σ H [v]) (hg : StgV K H g v) : EvX (tMake (He.ga K "Splitter") (spSInit K) [] E0 tr) σ H (fun v H' => ∃ x u, v = .ref x ∧ InstAt K "Splitter" H' x u ∧ StgV K H' g u) :=
  ex_make h fun H1 x dx e1 hx hex Q q => ⟨x, dx, v, H1, g, rfl, hx, hex, upd_same, hg.mono e1, fun v' H' e2 hI hgv => q H' e2 ⟨x, v', rfl, hI, hgv⟩⟩
theorem PathAt.mono {s : Addr} {rs : List Int} : ∀ v H1 H2, Ey s H1 H2 → PathAt s rs v H1 → PathAt s rs v H2 := fun v H1 H2 e ⟨⟨l, xs, ev, hl, h⟩, hne⟩ => ⟨⟨l, xs, ev, e.1 _ _ (rm_at (fun z => hne (by rw [ev, z])) hl), h⟩, hne⟩
theorem es_chooserP {σ : L2.St} {s : Addr} {H : Hp} {te : TE} {rs : List Int} (hl : rs.length ≤ 8) (h : EvS te σ s H (PathAt s rs)) : EvS (tMake (He.ga K "Chooser") (spCInit K) [] E0 (tCons te tNil)) σ s H (fun v H' => ∃ xs, ChsOk rs (.path xs) ∧ ChsrAt K s (.path xs) v H') :=
  es_make (ea_consS h PathAt.mono ea_nilS) fun vs H1 x dx e1 z hx hex Q q => by
    obtain ⟨v, r, rfl, ⟨⟨l, xs, rfl, hl2, hn, hp⟩, hne⟩, rfl⟩ := z
    have ok : ChsOk rs (.path xs) := ⟨hn, by omega, fun z hz => by
      obtain ⟨i, hi⟩ := List.mem_iff_getElem?.mp hz
      exact (hp i z hi).1, fun i hi => (hp i _ (at0_some (by omega))).2⟩
    exact ⟨x, dx, _, H1, .path xs, rs, rfl, hx, hex, upd_same, ⟨l, rfl, sq_of hl2⟩, ok, fun v' H' e2 hI hcv hf => q H' (Ey.of e1.2 e2) ⟨xs, ok, x, v', rfl, inst_rm (e1.2.ex e2) hI, chsV_rm (e1.2.ex e2) (fun p hp => e1.2.ne (hf p hp)) hcv⟩⟩
theorem sc_l_one_right : FnScope ["_law_source_here", "_law_rounds_here", "_law_crowd_here", "_law_strategy", "_law_is_good", "_law_total", "_law_whole", "_law_low", "_law_high", "_law_splitter", "_law_few", "_law_many", "_law_drawn", "_law_word", "_law_k"] ["_law_source_here", "_law_rounds_here", "_law_crowd_here", "_law_strategy", "_law_is_good"] (defScope s_l_one_right) := ⟨rfl, rfl, rfl, by decide +kernel, rfl, by decide +kernel, by decide +kernel⟩
def spOne (K : PySem.W.Frag) : Sp := fun vs H Q _ => ∃ (s a b : Addr) (v : V) (good : Bool) (rs cs : List Int) (g : Stg), vs = [.ref s, .ref a, .ref b, v, .bl good] ∧ SrcAt H s ∧ SqL K (rm H s) a (iV rs) ∧ SqT K (rm H s) b (iV cs) ∧ StgV K (rm H s) g v ∧ Sched rs ∧ rs.length ≤ 8 ∧ NN cs ∧ cs.length ≤ 200 ∧ StgOk rs cs g ∧ (good = true → Within rs cs g) ∧ ∀ H', Ey s H H' → Q (.bl true) H'
theorem ok_l_one_right (T : Tx K mg) : Ok P w K mg base 9 "_law_one_right" ["_law_source_here", "_law_rounds_here", "_law_crowd_here", "_law_strategy", "_law_is_good"] (spOne K) := by
  have O_l_scaled := ok_l_scaled (P := P) (w := w) (base := base) T
  have O_S_init := ok_S_init (P := P) (w := w) (base := base) T
  have O_play := ok_play (P := P) (w := w) (base := base) T
  have O_C_init := ok_C_init (P := P) (w := w) (base := base) T
  have O_l_path := ok_l_path (P := P) (w := w) (base := base) T
  obtain ⟨fd, F⟩ := T.d_l_one_right
  refine ⟨fd, F.ok sc_l_one_right (fun vs H Q E h => ?_) (fun cdv A outer s H vs Q E hr h => ?_), F.bindsN (fun _ _ _ _ _ _ us hl => match us, hl with | [_, _, _, _, _], _ => rfl), F.kp, T.g__law_one_right⟩
  · obtain ⟨s, a, b, v, good, rs, cs, g, rfl, _⟩ := h
    rfl
  · obtain ⟨s, a, b, v, good, rs, cs, g, rfl, hs, hS, hT, hg, hsd, hl, hnn, hcl, ok, hgood, q⟩ := h
    have hP := hsd.prd_pos
    have hPu := prd_lt hsd hl
    refine ⟨_, PSs.nox (pss_cons (ps_asg (pe_ok O_l_scaled (hr.mono (by decide)) (by rfl) (pa_cons (pv 1) (pa_cons (pv 2) pa_nil))) (pg_tupK (n := 2) rfl (pgs_cons (pg_name (i := 5) sc_l_one_right.nd rfl (.inl rfl)) (pgs_cons (pg_name (i := 6) sc_l_one_right.nd rfl (.inl rfl)) pgs_nil))))
      (pss_cons (ps_par (i := 7) (j := 8) rfl sc_l_one_right.nd rfl rfl (by decide) rfl rfl (pa_cons (pe_op op_fdiv (pv 5) (pv 6)) (pa_cons (pe_op op_sub pe_int (pe_op op_fdiv (pe_op op_sub pe_int (pv 5)) (pv 6))) pa_nil)) (by rfl))
      (pss_cons (ps_set (i := 9) sc_l_one_right.nd rfl (.inr rfl) (pe_mk O_S_init T.mkr_Splitter T.g_Splitter (hr.mono (by decide)) (by rfl) (pa_cons (pv 3) pa_nil)))
      (pss_cons (ps_asg (pe_lc (own := [("_law_word", 13)]) rfl sc_l_one_right.nd (pi_listK (pe_lst (pa_cons pe_str (pa_cons pe_str pa_nil)))) (blkOk_by (N := ["_law_source_here", "_law_rounds_here", "_law_crowd_here", "_law_strategy", "_law_is_good", "_law_total", "_law_whole", "_law_low", "_law_high", "_law_splitter", "_law_few", "_law_many", "_law_drawn", "_law_word", "_law_k"]) (sc := defScope s_l_one_right) (own := [("_law_word", 13)]) (by decide +kernel)) (fun _ _ _ _ _ => (pg_name (i := 13) sc_l_one_right.nd rfl (.inl rfl))) (fun _ _ _ _ _ => pts_nil) (fun _ _ _ _ _ => (pe_ix ix_tupK (pe_ok O_play (hr.mono (by decide)) (by rfl) (pa_cons (pv 1) (pa_cons (pv 2) (pa_cons (pv 9) (pa_cons (pe_mk O_C_init T.mkr_Chooser T.g_Chooser (hr.mono (by decide)) (by rfl) (pa_cons (pv 13) pa_nil)) pa_nil))))) pe_int (fun _ _ => rfl)))) (pg_lstK (n := 2) rfl (pgs_cons (pg_name (i := 10) sc_l_one_right.nd rfl (.inl rfl)) (pgs_cons (pg_name (i := 11) sc_l_one_right.nd rfl (.inl rfl)) pgs_nil))))
      (pss_cons (ps_if (pw_or (pt_cmpR op_gt (pv 10) (pv 7) (nomark _)) (pw_or (pt_cmpR op_lt (pv 11) (pv 8) (nomark _)) (pw_or1 (pw_and (pt_val (pv 4)) (pw_and1 (pw_or (pt_cmpR op_ne (pv 10) (pv 7) (nomark _)) (pw_or1 (pt_cmpR op_ne (pv 11) (pv 8) (nomark _)))).pt)).pt))).pt (pss_one (ps_ret pe_bl)) pss_nil)
      (pss_cons (ps_setLc (i := 12) (own := [("_law_k", 14)]) rfl sc_l_one_right.nd rfl rfl (sw_true rfl rfl rfl (by decide +kernel)) (pi_range1 (by rfl) T.f_range (pa_cons pe_int pa_nil)) (blkOk_by (N := ["_law_source_here", "_law_rounds_here", "_law_crowd_here", "_law_strategy", "_law_is_good", "_law_total", "_law_whole", "_law_low", "_law_high", "_law_splitter", "_law_few", "_law_many", "_law_drawn", "_law_word", "_law_k"]) (sc := defScope s_l_one_right) (own := [("_law_k", 14)]) (by decide +kernel)) (fun _ _ _ _ _ => (pg_name (i := 14) sc_l_one_right.nd rfl (.inl rfl))) (fun _ _ _ _ _ => pts_nil) (fun _ _ _ _ _ => (pe_ix ix_tupK (pe_ok O_play (hr.mono (by decide)) (by rfl) (pa_cons (pv 1) (pa_cons (pv 2) (pa_cons (pv 9) (pa_cons (pe_mk O_C_init T.mkr_Chooser T.g_Chooser (hr.mono (by decide)) (by rfl) (pa_cons (pe_ok O_l_path (hr.mono (by decide)) (by rfl) (pa_cons (pv 0) (pa_cons (pv 1) pa_nil))) pa_nil)) pa_nil))))) pe_int (fun _ _ => rfl))))
      (pss_one (ps_ret (pe_or (pe_not (pv 4)) (pe_one (pe_and (pe_cmpR op_le (pv 7) (pe_callB (cr_minK' rfl) (by rfl) T.f_min bb_min (pa_cons (pv 12) pa_nil)) (nomark _)) (pe_one (pe_cmpR op_le (pe_callB (cr_maxK rfl) (by rfl) T.f_max bb_max (pa_cons (pv 12) pa_nil)) (pv 8) (nomark _)))))))))))))), ?_⟩
    refine q_tup2X (ex_call (ea_cons (ev_var rfl) (ea_cons (ev_var rfl) ea_nil)) (x_lScaled (ex_l rm_sub hS) (ex_t rm_sub hT) hsd hl hcl)) fun v1 H1 e1 hv => ?_
    obtain ⟨p, rfl, hp⟩ := hv
    refine ⟨p, _, _, rfl, hp, ?_⟩
    refine q_par (a := .int (sw rs cs / prd rs)) (b := .int (-((-(sw rs cs)) / prd rs))) (ea_cons (ev_op (ev_var rfl) (ev_var rfl) (rv_div hP (by omega))) (ea_cons (ev_is (ev_op ev_c (ev_op (ev_op ev_c (ev_var rfl) rv_I0) (ev_var rfl) (rv_div hP (by omega))) rv_I0) (by rw [Int.zero_sub, Int.zero_sub])) ea_nil)) fun H2 e2 => ?_
    have e12 := (rm_sub (H := H) (s := s)).trans (e1.trans e2)
    refine q_asgX (ex_splitter (K := K) (ea_cons (ev_var rfl) ea_nil) (hg.mono e12)) fun v2 H3 e3 hv => ?_
    obtain ⟨x, u, rfl, hI0, hg0⟩ := hv
    have ey : Ey s H H3 := Ey.of hs ((e1.trans e2).trans e3)
    have hI := inst_rm ey.2 hI0
    have hg3 := stgV_rm ey.2 hg0
    have hS3 := ex_l ey.rm hS
    have hT3 := ex_t ey.rm hT
    refine q_lst2S (N := fun n => n = 2) (p := fun i z => Game (SR rs cs g) (CR (if i = 0 then Chs.light else Chs.heavy)) rs [] cs z) ey.2 (es_lcl (xs := [.str "lightest", .str "heaviest"]) (eiS_listN (el_lst (ea_cons ev_c (ea_cons ev_c ea_nil)) (by simp))) (fun n hn => by rw [hn]; show 2 ≤ 1000; omega) _ (fun _ => rfl) fun i y H4 e4 hy => ?_) (fun n hn => hn) fun few many H4 e4 g0 g1 => ?_
    · have hc : ChsV K (rm H4 s) (if i = 0 then Chs.light else Chs.heavy) y := by
        match i, hy with
        | 0, hy => exact (Option.some.inj hy).symm
        | 1, hy => exact (Option.some.inj hy).symm
      refine es_third (p := fun z => Game (SR rs cs g) (CR (if i = 0 then Chs.light else Chs.heavy)) rs [] cs z) (es_call (ea_consV (ev_var rfl) (ea_consV (ev_var rfl) (ea_consV (ev_var rfl) (ea_consS (es_chooser (rs := rs) (c := if i = 0 then Chs.light else Chs.heavy) (by split <;> trivial) fun H5 e5 Q2 q2 => ea_consV (ev_var rfl) ea_nilS H5 e5 Q2 fun vs H6 e6 z => q2 vs H6 e6 ?_) ChsrAt.mono ea_nilS)))) fun vs H5 e5 z => ?_)
      · obtain ⟨r, rfl, rfl⟩ := z
        exact ⟨y, rfl, hc.mono (e5.trans e6).1⟩
      · obtain ⟨_, rfl, _, rfl, _, rfl, _, _, rfl, ⟨yc, uc, rfl, hJ, hcv⟩, rfl⟩ := z
        have e35 := e4.trans e5
        exact sps_of (x_play (ex_l e35.rm hS3) (ex_t e35.rm hT3) (hI.mono e35.rm) (hg3.mono e35.rm) hJ hcv hsd hl hnn hcl ok (by split <;> trivial))
    have b1 : few ≤ sw rs cs / prd rs := few_le hsd hnn hcl ok g0
    have b2 : -((-(sw rs cs)) / prd rs) ≤ many := many_ge hsd hnn hcl ok g1
    have b3 : good = true → few = sw rs cs / prd rs ∧ many = -((-(sw rs cs)) / prd rs) := fun hgd => by
      have w1 := hgood hgd _ _ g0
      have w2 := hgood hgd _ _ g1
      omega
    have hw : good = true → ∀ C z, Game (SR rs cs g) C rs [] cs z → sw rs cs / prd rs ≤ z ∧ z ≤ -((-(sw rs cs)) / prd rs) := hgood
    generalize sw rs cs / prd rs = lo at b1 b3 hw ⊢
    generalize -((-(sw rs cs)) / prd rs) = hi at b2 b3 hw ⊢
    refine q_when (b := false) (et_is (et_or (et_test (ev_op (ev_var rfl) (ev_var rfl) rv_I0)) fun _ => et_or (et_test (ev_op (ev_var rfl) (ev_var rfl) rv_I0)) fun _ => et_and (et_B (ev_var rfl)) fun _ => et_or (et_test (ev_op (ev_var rfl) (ev_var rfl) (rv_ne rfl))) fun _ => et_test (ev_op (ev_var rfl) (ev_var rfl) (rv_ne rfl))) ?_) (fun hb => nomatch hb) fun _ H5 e5 => ?_
    · have d1 : decide (few > lo) = false := decide_eq_false (by omega)
      have d2 : decide (many < hi) = false := decide_eq_false (by omega)
      rw [d1, d2]
      cases hgd : good with
      | false => rfl
      | true =>
        obtain ⟨c1, c2⟩ := b3 hgd
        rw [c1, c2]
        simp
    have e45 := e4.trans (Ey.of e4.2 e5)
    have hI5 := hI.mono e45.rm
    have hg5 := hg3.mono e45.rm
    have hS5 := ex_l e45.rm hS3
    have hT5 := ex_t e45.rm hT3
    refine q_asgS (P := fun v H' => IntsAt (fun n => n = (3 : Int).toNat) (fun _ z => ∃ c, Game (SR rs cs g) (CR c) rs [] cs z) v H' ∧ v ≠ .ref s) e45.2 (es_lcr (eiS_rngC (ea_cons ev_c ea_nil) (by omega) (by omega)) (fun n hn => by rw [hn]; decide) _ (fun _ => rfl) fun i H6 e6 => ?_) fun v6 H6 e6 hv => ?_
    · refine es_third (p := fun z => ∃ c, Game (SR rs cs g) (CR c) rs [] cs z) (es_call (ea_consV (ev_var rfl) (ea_consV (ev_var rfl) (ea_consV (ev_var rfl) (ea_consS (es_chooserP hl (es_callV (ea_cons (ev_var rfl) (ea_cons (ev_var rfl) ea_nil)) (s_path (ex_l e6.rm hS5) hsd (by omega)))) (fun v H1 H2 e ⟨xs, o, h⟩ => ⟨xs, o, ChsrAt.mono _ _ _ e h⟩) ea_nilS)))) fun vs H8 e8 z => ?_)
      obtain ⟨_, rfl, _, rfl, _, rfl, _, _, rfl, ⟨xs, okx, yc, uc, rfl, hJ, hcv⟩, rfl⟩ := z
      have e58 := e6.trans e8
      intro H9 e9 Q9 q9 E9
      exact sps_of (x_play (ex_l e58.rm hS5) (ex_t e58.rm hT5) (hI5.mono e58.rm) (hg5.mono e58.rm) hJ hcv hsd hl hnn hcl ok okx) H9 e9 Q9 (fun v H10 e10 ⟨p, m, q, x, ev, hp, hx⟩ => q9 v H10 e10 ⟨p, m, q, x, ev, hp, _, hx⟩) E9
    obtain ⟨⟨l, xs, rfl, hl6, hn6, hp6⟩, hne6⟩ := hv
    have e06 := (ey.trans e45).trans e6
    have hne : xs ≠ [] := by intro z; rw [z] at hn6; exact absurd hn6 (by decide)
    obtain ⟨mn, mn1, mn2⟩ := exists_min hne
    obtain ⟨mx, mx1, mx2⟩ := exists_max hne
    refine s_ret (v := .bl true) (ev_is (ev_orV (ev_notV (ev_var rfl)) fun hb => ev_andV (ev_op (ev_var rfl) (ev_minL (ev_var rfl) (sq_of hl6) mn1 mn2) rv_I0) fun _ => ev_op (ev_maxL (ev_var rfl) (sq_of hl6) mx1 mx2) (ev_var rfl) rv_I0) ?_) fun H7 e7 => q H7 (e06.trans (Ey.of e06.2 e7))
    cases hgd : good with
    | false => rfl
    | true =>
      obtain ⟨i1, hi1⟩ := List.mem_iff_getElem?.mp mn1
      obtain ⟨c1, g1'⟩ := hp6 i1 mn hi1
      obtain ⟨i2, hi2⟩ := List.mem_iff_getElem?.mp mx1
      obtain ⟨c2, g2'⟩ := hp6 i2 mx hi2
      have w1 := hw hgd _ _ g1'
      have w2 := hw hgd _ _ g2'
      have d1 : decide (lo ≤ mn) = true := decide_eq_true w1.1
      have d2 : decide (mx ≤ hi) = true := decide_eq_true w2.2
      rw [d1, d2]
      rfl
theorem s_one {s a b : Addr} {v : V} {good : Bool} {rs cs : List Int} {g : Stg} {H : Hp} (hS : SqL K (rm H s) a (iV rs)) (hT : SqT K (rm H s) b (iV cs)) (hg : StgV K (rm H s) g v) (hs : Sched rs) (hl : rs.length ≤ 8) (hn : NN cs) (hcl : cs.length ≤ 200) (ok : StgOk rs cs g) (hgood : good = true → Within rs cs g) :
    SpS (spOne K) [.ref s, .ref a, .ref b, v, .bl good] s H (fun v _ => v = .bl true) := fun H1 e Q q E => ⟨s, a, b, v, good, rs, cs, g, rfl, e.2, ex_l e.rm hS, ex_t e.rm hT, hg.mono e.rm, hs, hl, hn, hcl, ok, hgood, fun H' e' => q _ H' e' rfl⟩
end
end SC

/-! part F15 -/
set_option Elab.async false
set_option linter.all false
set_option maxRecDepth 100000
set_option maxHeartbeats 4000000
namespace SC
open PySem PySem.Spec PyProof.Rows L2 Evl
section
variable {P : Program} {w : World} {K : PySem.W.Frag} {mg : Str → Option Value} {base : Heap}
theorem ex_source {σ : L2.St} {H : Hp} {tr : TA} {c : Int} {dvs : List V} {E : XK} (h : EvA tr σ H [.int c]) (hd : dvs = []) : EvX (tCall spSource dvs E tr) σ H (fun v H' => ∃ s, v = .ref s ∧ H s = none ∧ SrcAt H' s) := fun H1 e Q q => by
  subst hd
  exact h H1 e _ fun H2 e2 => ⟨c, rfl, fun p H3 hp e3 hs => q _ H3 (e2.trans e3) ⟨p, rfl, fresh_back (e.trans e2) hp, hs⟩⟩
theorem raw_lst {σ : L2.St} {s : Addr} {H : Hp} {te : TE} {R : Int → Prop} (h : EvS te σ s H (fun v _ => ∃ x, v = .int x ∧ R x)) : EvS (tLst (tCons te tNil)) σ s H (RawI s fun rs => ∃ x, rs = [x] ∧ R x) :=
  es_weak (es_lst (ea_consS h (fun _ _ _ _ h => h) ea_nilS) (by rintro vs _ ⟨_, _, rfl, _, rfl⟩; simp) (fun _ _ _ _ h => h)) fun v H1 _ ⟨p, vs, ev, np, hp, ⟨_, _, e1, ⟨x, e2, rx⟩, e3⟩⟩ => ⟨p, [x], ev, np, by rw [hp, e1, e2, e3]; rfl, x, rfl, rx⟩
theorem cut_iV (ns : List Int) (lo hi : Option Int) : ∃ zs, cutV (iV ns) lo hi = iV zs := ⟨_, by
  unfold cutV
  show ((ns.map V.int).drop _).take _ = List.map V.int _
  rw [← List.map_drop, ← List.map_take]⟩
theorem sc_law : FnScope ["_law_script", "_law_cell", "_law_source_here", "_law_rounds_here", "_law_wide", "_law_crowd_here", "_law_name", "_law_rows"] ["_law_script"] (defScope s_law) := ⟨rfl, rfl, rfl, by decide +kernel, rfl, by decide +kernel, by decide +kernel⟩
def spLaw (K : PySem.W.Frag) : Sp := fun vs H Q _ => ∃ (a : Addr) (ns : List Int), vs = [.ref a] ∧ SqL K H a (iV ns) ∧ ns.length ≤ 63 ∧ ∀ H', Q (.bl true) H'
theorem ok_law (T : Tx K mg) : ∃ fd, (∀ base : Heap, FnOk P w K mg base CX0 10 (He.ga K "law") fd ["_law_script"] (spLaw K)) ∧ ∀ (s : Shared) (v : Value), BindsTo s fd ⟨[v], []⟩ [("_law_script", v)] := by
  obtain ⟨fd, F⟩ := T.d_law
  refine ⟨fd, fun base => ?_, fun s v => F.bindsA (ps := ["_law_script"]) (fun _ _ _ _ _ _ us hl => match us, hl with | [_], _ => rfl) s [v] rfl⟩
  have O_l_cell_at := ok_l_cell_at (P := P) (w := w) (base := base) T
  have O_l_source := ok_l_source (P := P) (w := w) (base := base) T
  have O_l_rounds := ok_l_rounds (P := P) (w := w) (base := base) T
  have O_l_pick := ok_l_pick (P := P) (w := w) (base := base) T
  have O_l_crowd := ok_l_crowd (P := P) (w := w) (base := base) T
  have O_l_one_right := ok_l_one_right (P := P) (w := w) (base := base) T
  have O_make_plan := ok_make_plan (P := P) (w := w) (base := base) T
  have O_l_drawn_plan := ok_l_drawn_plan (P := P) (w := w) (base := base) T
  refine F.ok sc_law (fun vs H Q E h => ?_) (fun cdv A outer s H vs Q E hr h => ?_)
  · obtain ⟨a, ns, rfl, _⟩ := h
    rfl
  · obtain ⟨a, ns, rfl, hS, hl, q⟩ := h
    obtain ⟨zs, hzs⟩ := cut_iV ns (some 1) (some 4)
    have hzl : (iV zs).length ≤ 63 := by
      rw [← hzs]
      have := cutV_length (iV ns) (some 1) (some 4)
      rw [iV_len] at this
      omega
    refine ⟨_, PSs.nox (pss_cons (ps_for PassesOwn.never rfl (pi_listK (pe_op op_cat (pe_lst (pa_cons (pe_ok O_l_cell_at (hr.mono (by decide)) (by rfl) (pa_cons (pv 0) (pa_cons pe_int pa_nil))) pa_nil)) (pe_slice sl_listK (pv 0) (po_some pe_int) (po_some pe_int)))) (pg_name (i := 1) sc_law.nd rfl (.inl rfl)) (pss_cons (ps_set (i := 2) sc_law.nd rfl (.inl rfl) (pe_ok O_l_source (hr.mono (by decide)) (by rfl) (pa_cons (pv 1) pa_nil)))
      (pss_cons (ps_set (i := 3) sc_law.nd rfl (.inl rfl) (pe_op op_cat (pe_ok O_l_rounds (hr.mono (by decide)) (by rfl) (pa_cons (pv 2) (pa_cons pe_int pa_nil))) (pe_lst (pa_cons (pe_ok O_l_pick (hr.mono (by decide)) (by rfl) (pa_cons (pv 2) (pa_cons (pe_lst (pa_cons pe_int (pa_cons pe_int (pa_cons pe_int pa_nil)))) pa_nil))) pa_nil))))
      (pss_cons (ps_set (i := 4) sc_law.nd rfl (.inl rfl) (pe_ok O_l_pick (hr.mono (by decide)) (by rfl) (pa_cons (pv 2) (pa_cons (pe_lst (pa_cons pe_int (pa_cons pe_int (pa_cons (pe_op op_pow pe_int pe_int) pa_nil)))) pa_nil))))
      (pss_cons (ps_set (i := 5) sc_law.nd rfl (.inl rfl) (pe_ok O_l_crowd (hr.mono (by decide)) (by rfl) (pa_cons (pv 2) (pa_cons (pe_op op_add (pe_callB call_lenK (by rfl) T.f_len bb_len (pa_cons (pv 3) pa_nil)) pe_int) (pa_cons (pv 4) pa_nil)))))
      (pss_cons (ps_for PassesOwn.never rfl (pi_listK (pe_lst (pa_cons pe_str (pa_cons pe_str (pa_cons pe_str pa_nil))))) (pg_name (i := 6) sc_law.nd rfl (.inl rfl)) (pss_one (ps_if (pt_not (pt_val (pe_ok O_l_one_right (hr.mono (by decide)) (by rfl) (pa_cons (pv 2) (pa_cons (pv 3) (pa_cons (pv 5) (pa_cons (pv 6) (pa_cons (pe_cmpR op_eq (pv 6) pe_str (nomark _)) pa_nil)))))))) (pss_one (ps_ret pe_bl)) pss_nil)))
      (pss_cons (ps_set (i := 7) sc_law.nd rfl (.inl rfl) (pe_ok O_make_plan (hr.mono (by decide)) (by rfl) (pa_cons (pv 3) (pa_cons (pv 5) pa_nil))))
      (pss_cons (ps_if (pt_not (pt_val (pe_ok O_l_one_right (hr.mono (by decide)) (by rfl) (pa_cons (pv 2) (pa_cons (pv 3) (pa_cons (pv 5) (pa_cons (pv 7) (pa_cons pe_bl pa_nil)))))))) (pss_one (ps_ret pe_bl)) pss_nil)
      (pss_one (ps_if (pt_cmpR op_lt (pv 4) pe_int (nomark _)) (pss_cons (ps_set (i := 7) sc_law.nd rfl (.inl rfl) (pe_ok O_l_drawn_plan (hr.mono (by decide)) (by rfl) (pa_cons (pv 2) (pa_cons (pv 3) (pa_cons (pv 5) pa_nil)))))
      (pss_one (ps_if (pt_not (pt_val (pe_ok O_l_one_right (hr.mono (by decide)) (by rfl) (pa_cons (pv 2) (pa_cons (pv 3) (pa_cons (pv 5) (pa_cons (pv 7) (pa_cons pe_bl pa_nil)))))))) (pss_one (ps_ret pe_bl)) pss_nil))) pss_nil))))))))))
      (pss_one (ps_ret pe_bl))), ?_⟩
    refine q_forNLn (xs := iV (at0 ns 0 :: zs)) (el_is (el_cat (el_lst (vs := [.int (at0 ns 0)]) (ea_cons (ev_call (ea_cons (ev_var rfl) (ea_cons ev_c ea_nil)) (v_cell hS)) ea_nil) (by simp)) (el_sl (ev_var rfl) (eo_some ev_c) (eo_some ev_c) hS) (by rw [hzs]; show 1 + _ ≤ _; omega)) (by rw [hzs]; rfl))
      (fun tl i σ' H' => ∃ y1 y2 y3 y4 y5 y6 y7, σ' = [some (.ref a), y1, y2, y3, y4, y5, y6, y7] ∧ H' tl = some (.lst (iV (at0 ns 0 :: zs)))) (fun tl H1 hf e1 h1 => ⟨_, _, _, _, _, _, _, rfl, h1⟩) (fun tl i σ' H' hi z => ?_) (fun tl i x σ' H' hx z => ?_) (fun tl σ' H' z => ?_)
    · obtain ⟨_, _, _, _, _, _, _, _, h⟩ := z
      exact sq_of h
    · obtain ⟨y1, y2, y3, y4, y5, y6, y7, rfl, htl⟩ := z
      obtain ⟨c, hc, rfl⟩ := iV_get hx
      refine q_asgX (ex_source (ea_cons (ev_var rfl) ea_nil) rfl) fun v1 H1 e1 hv => ?_
      obtain ⟨s, rfl, hf, hs⟩ := hv
      have nt : tl ≠ s := fun z => by rw [z, hf] at htl; cases htl
      have ht1 := rm_at nt (e1 _ _ htl)
      refine q_asgS (P := RawI s fun rs => ∃ a b, rs = a ++ b ∧ ((a.length : Int) ≤ 7 ∧ ∀ r ∈ a, 2 ≤ r ∧ r ≤ 7) ∧ ∃ x, b = [x] ∧ x ∈ [2, 3, 11]) hs (es_catI (R1 := fun a => (a.length : Int) ≤ 7 ∧ ∀ r ∈ a, 2 ≤ r ∧ r ≤ 7) (R2 := fun b => ∃ x, b = [x] ∧ x ∈ [2, 3, 11]) (es_weak (es_callV (ea_cons (ev_var rfl) (ea_cons ev_c ea_nil)) (s_rounds (l := 7) (by omega) (by omega))) fun v H2 _ ⟨p, rs, ev, np, hp, h1, h2⟩ => ⟨p, rs, ev, np, hp, h1, h2⟩)
        (raw_lst (R := fun x => x ∈ [2, 3, 11]) (es_call (ea_consV (ev_var rfl) (ea_consS (es_lst (ea_consV ev_c (ea_consV ev_c (ea_consV ev_c ea_nilS))) (by rintro vs _ ⟨_, rfl, _, rfl, _, rfl, rfl⟩; simp) (fun _ _ _ _ h => h)) (fun v H2 H3 e ⟨p2, vs, ev, hne2, hp2, hP⟩ => ⟨p2, vs, ev, hne2, e.1 _ _ (rm_at hne2 hp2), hP⟩) ea_nilS)) fun vs H2 e2 z => ?_)) ?_) fun v2 H2 e2 hv => ?_
      · obtain ⟨_, rfl, _, _, rfl, ⟨p2, vs2, rfl, hne2, hp2, ⟨_, rfl, _, rfl, _, rfl, rfl⟩⟩, rfl⟩ := z
        exact s_pick (K := K) (xs := [2, 3, 11]) (sq_of (rm_at hne2 hp2)) (by simp) (by simp)
      · rintro a b ⟨h1, _⟩ ⟨x, rfl, _⟩
        simp
        omega
      obtain ⟨ra, rs, rfl, nra, hra, r1, r2, rfl, ⟨hr1l, hr1⟩, x, rfl, hx2⟩ := hv
      have hsd : Sched (r1 ++ [x]) := fun r hr => by
        rcases List.mem_append.mp hr with h | h
        · have := hr1 r h; omega
        · have : r = x := by simpa using h
          subst this
          simp only [List.mem_cons, List.not_mem_nil, or_false] at hx2
          omega
      have hrl : (r1 ++ [x]).length ≤ 8 := by rw [List.length_append]; simp; omega
      have hrl0 : 0 < (r1 ++ [x]).length := by simp
      generalize r1 ++ [x] = rs at hra hsd hrl hrl0
      have hS2 : SqL K (rm H2 s) ra (iV rs) := sq_of (rm_at nra hra)
      have ht2 := e2.rm _ _ ht1
      refine q_asgS (P := PickAt [4, 20, 10 ^ 20]) e2.2 (es_call (ea_consV (ev_var rfl) (ea_consS (es_lst (ea_consV ev_c (ea_consV ev_c (ea_consV (ev_op ev_c ev_c (rv_I (C := CPow) (g := fun i j => .int (i ^ j.toNat)) ⟨by decide, by decide, by decide⟩)) ea_nilS))) (by rintro vs _ ⟨_, rfl, _, rfl, _, rfl, rfl⟩; simp) (fun _ _ _ _ h => h)) (fun v H2 H3 e ⟨p2, vs, ev, hne2, hp2, hP⟩ => ⟨p2, vs, ev, hne2, e.1 _ _ (rm_at hne2 hp2), hP⟩) ea_nilS)) fun vs H3 e3 z => ?_) fun v3 H3 e3 hv => ?_
      · obtain ⟨_, rfl, _, _, rfl, ⟨p2, vs2, rfl, hne2, hp2, ⟨_, rfl, _, rfl, _, rfl, rfl⟩⟩, rfl⟩ := z
        exact s_pick (K := K) (xs := [4, 20, 10 ^ 20]) (sq_of (rm_at hne2 hp2)) (by simp) (by simp)
      obtain ⟨wide, rfl, hw⟩ := hv
      have hw3 : wide = 4 ∨ wide = 20 ∨ wide = 10 ^ 20 := by simpa using hw
      have w0 : 0 < wide := by omega
      have w1 : wide < 2 ^ 100 := by omega
      have hS3 := ex_l e3.rm hS2
      have ht3 := e3.rm _ _ ht2
      refine q_asgS (P := CrowdAt K ((rs.length : Int) + 2) wide) e3.2 (es_callV (ea_cons (ev_var rfl) (ea_cons (ev_op (ev_is (ev_lenL (ev_var rfl) hS3) (by rw [iV_len])) ev_c rv_I0) (ea_cons (ev_var rfl) ea_nil))) (s_crowd (by omega) (by omega) w0 w1)) fun v4 H4 e4 hv => ?_
      obtain ⟨cs, ⟨ca, rfl, hca⟩, hcl, hcs⟩ := hv
      have hS4 := ex_l e4.rm hS3
      have ht4 := e4.rm _ _ ht3
      have hT4 := sqT_rm e4.2 hca
      have hnn : NN cs := fun c hc => (hcs c hc).1
      have hcl2 : cs.length ≤ 200 := by omega
      have es4 := e4.2
      clear hca e1 e2 e3 e4 hra hS3 hS2 ht1 ht2 ht3
      refine q_forNLn (xs := [.str "balanced", .str "even", .str "together"]) (el_lst (ea_cons ev_c (ea_cons ev_c (ea_cons ev_c ea_nil))) (by simp))
        (fun nl i σ' H' => ∃ y6 y7, σ' = [some (.ref a), some (.int c), some (.ref s), some (.ref ra), some (.int wide), some (.ref ca), y6, y7] ∧ Ey s H4 H' ∧ nl ≠ s ∧ H' nl = some (.lst [.str "balanced", .str "even", .str "together"])) (fun nl H5 hf5 e5 h5 => ⟨_, _, rfl, Ey.of es4 e5, es4.ne hf5, h5⟩) (fun nl i σ' H' hi z => ?_) (fun nl i y σ' H' hy z => ?_) (fun nl σ' H' z => ?_)
      · obtain ⟨_, _, _, _, _, h⟩ := z
        exact sq_of h
      · obtain ⟨y6, y7, rfl, e5, nn, hnl⟩ := z
        have hyg : ∃ g : Stg, StgV K (rm H' s) g y ∧ StgOk rs cs g ∧ ∃ z, y = .str z ∧ (decide (z = "balanced") = true → Within rs cs g) := by
          match i, hy with
          | 0, hy => exact ⟨.bal, (Option.some.inj hy).symm, trivial, _, (Option.some.inj hy).symm, fun _ => within_bal hsd hnn hcl2⟩
          | 1, hy => exact ⟨.even, (Option.some.inj hy).symm, trivial, _, (Option.some.inj hy).symm, fun h => absurd h (by decide)⟩
          | 2, hy => exact ⟨.joint, (Option.some.inj hy).symm, trivial, _, (Option.some.inj hy).symm, fun h => absurd h (by decide)⟩
        obtain ⟨g, hg, ok, z, rfl, hwin⟩ := hyg
        refine s_whenS (b := false) e5.2 (etS_not (b := true) (etS_B (es_callV (ea_cons (ev_var rfl) (ea_cons (ev_var rfl) (ea_cons (ev_var rfl) (ea_cons (ev_var rfl) (ea_cons (ev_op (ev_var rfl) ev_c rv_strEq) ea_nil))))) (s_one (ex_l e5.rm hS4) (ex_t e5.rm hT4) hg hsd hrl hnn hcl2 ok hwin)))) (fun hb => nomatch hb) fun _ H6 e6 => ⟨_, _, rfl, e5.trans e6, nn, e6.1 _ _ (rm_at nn hnl)⟩
      · obtain ⟨y6, y7, rfl, e5, nn, hnl⟩ := z
        have hS5 := ex_l e5.rm hS4
        have hT5 := ex_t e5.rm hT4
        refine q_asgX (x_makePlan (K := K) (ex_l rm_sub hS5) (ex_t rm_sub hT5) hsd hrl hnn hcl2 |> ex_call (ea_cons (ev_var rfl) (ea_cons (ev_var rfl) ea_nil))) fun v6 H6 e6 hv => ?_
        obtain ⟨pa, rfl, hpa⟩ := hv
        have e46 := e5.trans (Ey.of e5.2 e6)
        refine q_whenS (b := false) e46.2 (etS_not (b := true) (etS_B (es_callV (ea_cons (ev_var rfl) (ea_cons (ev_var rfl) (ea_cons (ev_var rfl) (ea_cons (ev_var rfl) (ea_cons ev_c ea_nil))))) (s_one (g := .plan (mkAll rs cs)) (ex_l e46.rm hS4) (ex_t e46.rm hT4) ⟨pa, rfl, lt_rm' e46.2 hpa⟩ hsd hrl hnn hcl2 (mk_ok hsd hnn hcl2) fun _ => within_made hsd hnn hcl2)))) (fun hb => nomatch hb) fun _ H7 e7 => ?_
        have e47 := e46.trans e7
        refine s_when (b := decide (wide < 21)) (et_test (ev_op (ev_var rfl) ev_c rv_I0)) (fun hb H8 e8 => ?_) (fun hb H8 e8 => ⟨_, _, _, _, _, _, _, rfl, e8 _ _ (e47.1 _ _ ht4)⟩)
        have hw21 : wide < 21 := of_decide_eq_true hb
        have e48 := e47.trans (Ey.of e47.2 e8)
        refine q_asgS e48.2 (es_callV (ea_cons (ev_var rfl) (ea_cons (ev_var rfl) (ea_cons (ev_var rfl) ea_nil))) (s_drawn (ex_l e48.rm hS4) (ex_t e48.rm hT4) hsd hrl hcl2 hnn fun c hc => by have := hcs c hc; omega)) fun v9 H9 e9 hv => ?_
        obtain ⟨pd, rows, rfl, npd, hpd, pok⟩ := hv
        have e49 := e48.trans e9
        refine s_whenS (b := false) e49.2 (etS_not (b := true) (etS_B (es_callV (ea_cons (ev_var rfl) (ea_cons (ev_var rfl) (ea_cons (ev_var rfl) (ea_cons (ev_var rfl) (ea_cons ev_c ea_nil))))) (s_one (g := .plan rows) (good := false) (ex_l e49.rm hS4) (ex_t e49.rm hT4) ⟨pd, rfl, lt_rm' e49.2 hpd⟩ hsd hrl hnn hcl2 pok fun h => nomatch h)))) (fun hb => nomatch hb) fun _ H10 e10 => ⟨_, _, _, _, _, _, _, rfl, (e49.trans e10).1 _ _ ht4⟩
    · obtain ⟨_, _, _, _, _, _, _, rfl, h⟩ := z
      exact s_ret ev_c fun H2 _ => q H2
end
end SC

/-! part Z -/
set_option Elab.async false
set_option linter.all false
set_option maxRecDepth 100000
set_option maxHeartbeats 0
namespace SC
open PySem PySem.Spec PyProof.Rows L2
theorem facts {P : Program} {w : World} {K : PySem.W.Frag} {h : Heap} {mg : Str → Option Value} {f : Addr} (X : K.In h) (G : h.Ns mainGlobals mg) (hfa : mg ("law" : Str) = some (.ref f)) (c : obK K = (He.valD fn, true)) :
    ∃ fd : FuncData, (∀ (s : Shared) (v : Value), BindsTo s fd ⟨[v], []⟩ [("_law_script", v)]) ∧ ∀ base : Heap, FnOk P w K mg base CX0 10 f fd ["_law_script"] (spLaw K) := by
  have T : Tx K mg := ⟨⟨h, X, G⟩, c⟩
  obtain ⟨fd, O, b⟩ := ok_law (P := P) (w := w) T
  have e := hfa.symm.trans T.g_law
  cases e
  exact ⟨fd, b, O⟩
end SC
open PySem PySem.W PySem.Calls PyProof.Rows
theorem PySem.Challenge.cw_splitclimb_k36_whole_bounds_of_players_holds : PySem.Challenge.rw_splitclimb_k36_whole_bounds_of_players.Holds := by
  w_on; o_law
  refine HandSHeadRun.head_any (r := OpenLaw.row PySem.Challenge.rw_splitclimb_k36_whole_bounds_of_players) (q := view (OpenLaw.row PySem.Challenge.rw_splitclimb_k36_whole_bounds_of_players).prog [71]) (H := SC.hk) (ob := SC.ob) (M := 6000) (loose := SC.loose) (d := HandSHeadRun.topDef (OpenLaw.row PySem.Challenge.rw_splitclimb_k36_whole_bounds_of_players).prog 71) (kwd := []) SC.ob_eq
    (by kernel_rfl) (fun s => by kernel_rfl) SC.topRun (by kernel_rfl) (by kernel_rfl) (by kernel_rfl) (by rfl) (by first | assumption | decide +kernel) (by decide +kernel) ⟨rfl, rfl, rfl, rfl, rfl, by decide +kernel⟩ ?hw ?hc
  case hw => w_witness2
  case hc =>
    refine L2.walk_ofE (l := PySem.Challenge.rw_splitclimb_k36_whole_bounds_of_players) (n := 63) (k := 10) (x := "_law_script") (CX := L2.CX0) rfl (by decide) (by kernel_rfl) ⟨rfl, by decide, by decide⟩ ?F (fun _ _ _ _ z => z)
    intro w mg fa h Y G hmg0
    obtain ⟨K, KX, c⟩ := Y
    have hmg : mg ("law" : PySem.Str) = some (.ref fa) := by
      have e : (HandSHeadRun.topDef (OpenLaw.row PySem.Challenge.rw_splitclimb_k36_whole_bounds_of_players).prog 71).name = ("law" : PySem.Str) := by kernel_rfl
      rw [← e]
      exact hmg0
    obtain ⟨fd, hb, hF⟩ := SC.facts (P := (PySem.Challenge.rw_splitclimb_k36_whole_bounds_of_players).prog) (w := w) KX G hmg c
    exact ⟨K, fd, SC.spLaw K, KX, hb, fun H a ns hl _ hS => ⟨a, ns, rfl, hS, hl, fun _ => rfl⟩, fun base _ _ => hF base⟩
