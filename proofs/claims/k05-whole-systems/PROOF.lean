import PyProof.Rows.All
import Wide.All
import OpenK.AllK
import Wide.FinOn
import PyProof.EqAt
import PyProof.EqKinds
import PyProof.TupleCall
import HandS.Base
import HandS.Call
import HandS.List
import HandS.Comp
import HandS.Iter
import HandS.Walk
import HandS.Exc
import HandS.Words
import HandS.WordsExc
import HandS.Wide
import HandS.Lambda
import HandS.HeadHook1
import HandS.TupAny
import HandS.IsInst
import HandS.Text
import HandS.TupMul
import HandS.Star
import HandS.Zip
import HandS.Style
import HandS.Codes
import HandS.Defaults
import HandS.HeadEnd
import HandS.Head0
import HandS.Head1
import PySem.Challenge.RW_endlessnets_k05_whole_systems_solved
import HandS.Head2
import HandS.HeadHook2
import HandS.HeadHook3
import HandS.HeadHook4
import HandS.HeadWalk
import KE.KStateDown
import HandS.Ends
set_option linter.all false
set_option maxRecDepth 100000
set_option maxHeartbeats 4000000
namespace Z
/-! ### sums of products -/
def dotI : List Int → List Int → Int
  | a :: r, b :: y => a * b + dotI r y
  | _, _ => 0
theorem dotI_comb (a b : Int) : ∀ (r p v : List Int), r.length = p.length → dotI (List.zipWith (fun x y => a * x - b * y) r p) v = a * dotI r v - b * dotI p v
  | [], [], v, _ => by simp [dotI]
  | x :: r, y :: p, [], _ => by simp [dotI]
  | x :: r, y :: p, z :: v, h => by
    rw [List.zipWith_cons_cons, dotI, dotI, dotI, dotI_comb a b r p v (by simpa using h), Int.mul_add, Int.mul_add, Int.sub_mul, Int.mul_assoc, Int.mul_assoc]
    omega
  | [], _ :: _, _, h => by simp at h
  | _ :: _, [], _, h => by simp at h
theorem dotI_map (g : Int) : ∀ (r v : List Int), dotI (r.map (g * ·)) v = g * dotI r v
  | [], v => by simp [dotI]
  | x :: r, [] => by simp [dotI]
  | x :: r, z :: v => by
    rw [List.map_cons, dotI, dotI, dotI_map g r v, Int.mul_add, Int.mul_assoc]
theorem dotI_scale (g : Int) : ∀ (r v : List Int), dotI r (v.map (g * ·)) = g * dotI r v
  | [], v => by simp [dotI]
  | x :: r, [] => by simp [dotI]
  | x :: r, z :: v => by
    rw [List.map_cons, dotI, dotI, dotI_scale g r v, Int.mul_add, Int.mul_left_comm]
/-- one place of the vector changed -/
theorem dotI_set : ∀ (r v : List Int) (j : Nat) (c : Int), j < r.length → j < v.length → dotI r (v.set j c) = dotI r v + r.getD j 0 * (c - v.getD j 0)
  | x :: r, z :: v, 0, c, _, _ => by
    rw [List.set_cons_zero, dotI, dotI]
    simp only [List.getD_cons_zero]
    rw [Int.mul_sub]
    omega
  | x :: r, z :: v, j + 1, c, h1, h2 => by
    rw [List.set_cons_succ, dotI, dotI, dotI_set r v j c (by simpa using h1) (by simpa using h2)]
    simp only [List.getD_cons_succ]
    omega
  | [], _, _, _, h, _ => by simp at h
  | _ :: _, [], _, _, _, h => by simp at h
/-- a row that is nothing below place w -/
theorem dotI_last : ∀ (w : Nat) (r v : List Int), r.length = w + 1 → v.length = w + 1 → (∀ i, i < w → r.getD i 0 = 0) → dotI r v = r.getD w 0 * v.getD w 0
  | 0, [x], [z], _, _, _ => by simp [dotI]
  | w + 1, x :: r, z :: v, h1, h2, h => by
    have hx : x = 0 := h 0 (by omega)
    rw [dotI, dotI_last w r v (by simpa using h1) (by simpa using h2) fun i hi => by
      have := h (i + 1) (by omega)
      simpa using this]
    rw [hx]
    simp
  | 0, [], _, h, _, _ => by simp at h
  | 0, _ :: _ :: _, _, h, _, _ => by simp at h
  | 0, [_], [], _, h, _ => by simp at h
  | 0, [_], _ :: _ :: _, _, h, _ => by simp at h
  | w + 1, [], _, h, _, _ => by simp at h
  | w + 1, _ :: _, [], _, h, _ => by simp at h
/-- y solves the rows: the last place is the common denominator, turned -/
structure Sol (w : Nat) (rs : List (List Int)) (y : List Int) : Prop where
  len : y.length = w + 1
  den : y.getD w 0 ≠ 0
  dot : ∀ r ∈ rs, dotI r y = 0
/-! ### the law's rank -/
/-- the rows behind column j -/
def liveR (j : Nat) (rs : List (List Int)) : List (List Int) := rs.filter fun r => !decide (r.getD j 0 = 0)
def step (j : Nat) (rs : List (List Int)) : List (List Int) := match liveR j rs with
  | [] => rs
  | top :: rest => (rs.filter fun r => decide (r.getD j 0 = 0)) ++ rest.map fun r => List.zipWith (fun n m => n * top.getD j 0 - m * r.getD j 0) r top
def found (j : Nat) (rs : List (List Int)) : Nat := if liveR j rs = [] then 0 else 1
/-- the rows and the number behind columns j, j + 1, .. (n of them) -/
def rankF : Nat → Nat → List (List Int) → Nat
  | _, 0, _ => 0
  | j, n + 1, rs => found j rs + rankF (j + 1) n (step j rs)

def run : Nat → Nat → List (List Int) → List (List Int)
  | _, 0, rs => rs
  | j, n + 1, rs => run (j + 1) n (step j rs)
theorem rankF_last : ∀ (n j : Nat) (rs : List (List Int)), rankF j (n + 1) rs = rankF j n rs + found (j + n) (run j n rs)
  | 0, j, rs => by simp [rankF, run]
  | n + 1, j, rs => by
    rw [rankF, rankF_last n (j + 1) (step j rs)]
    show _ = rankF j (n + 1) rs + found (j + (n + 1)) (run (j + 1) n (step j rs))
    rw [rankF, show j + 1 + n = j + (n + 1) by omega]
    omega
/-- rows of w + 1 numbers, nothing below place j -/
structure Clr (w j : Nat) (rs : List (List Int)) : Prop where
  len : ∀ r ∈ rs, r.length = w + 1
  nil : ∀ r ∈ rs, ∀ i, i < j → r.getD i 0 = 0
theorem getD_zip (f : Int → Int → Int) (hf : f 0 0 = 0) : ∀ (r p : List Int) (i : Nat), r.length = p.length → (List.zipWith f r p).getD i 0 = f (r.getD i 0) (p.getD i 0)
  | [], [], i, _ => by simp [hf]
  | x :: r, y :: p, 0, _ => by simp
  | x :: r, y :: p, i + 1, h => by
    rw [List.zipWith_cons_cons, List.getD_cons_succ, List.getD_cons_succ, List.getD_cons_succ]
    exact getD_zip f hf r p i (by simpa using h)
  | [], _ :: _, _, h => by simp at h
  | _ :: _, [], _, h => by simp at h
theorem mem_live {j : Nat} {rs : List (List Int)} {r : List Int} (h : r ∈ liveR j rs) : r ∈ rs ∧ r.getD j 0 ≠ 0 := by
  obtain ⟨h1, h2⟩ := List.mem_filter.mp h
  exact ⟨h1, by simpa using h2⟩
theorem cmb_eq (r p : List Int) (t u : Int) : List.zipWith (fun n m => n * t - m * u) r p = List.zipWith (fun n m => t * n - u * m) r p := by
  congr 1
  funext n m
  rw [Int.mul_comm n, Int.mul_comm m]
theorem step_clr {w j : Nat} {rs : List (List Int)} (h : Clr w j rs) (hj : j < w) : Clr w (j + 1) (step j rs) := by
  unfold step
  cases q : liveR j rs with
  | nil =>
    refine ⟨h.len, fun r hr i hi => ?_⟩
    by_cases e : i = j
    · subst e
      by_cases hz : r.getD i 0 = 0
      · exact hz
      · have : r ∈ liveR i rs := List.mem_filter.mpr ⟨hr, by simpa using hz⟩
        rw [q] at this
        cases this
    · exact h.nil r hr i (by omega)
  | cons top rest =>
    have hl : ∀ r, r ∈ top :: rest → r ∈ rs ∧ r.getD j 0 ≠ 0 := fun r hr => mem_live (by rw [q]; exact hr)
    have ht := hl top List.mem_cons_self
    refine ⟨fun r hr => ?_, fun r hr i hi => ?_⟩
    · rcases List.mem_append.mp hr with m | m
      · exact h.len r (List.mem_filter.mp m).1
      · obtain ⟨r0, hr0, rfl⟩ := List.mem_map.mp m
        rw [List.length_zipWith, h.len r0 (hl r0 (List.mem_cons_of_mem _ hr0)).1, h.len top ht.1, Nat.min_self]
    · rcases List.mem_append.mp hr with m | m
      · obtain ⟨m1, m2⟩ := List.mem_filter.mp m
        by_cases e : i = j
        · rw [e]; simpa using m2
        · exact h.nil r m1 i (by omega)
      · obtain ⟨r0, hr0, rfl⟩ := List.mem_map.mp m
        have h0 := hl r0 (List.mem_cons_of_mem _ hr0)
        rw [getD_zip _ (by simp) r0 top i (by rw [h.len r0 h0.1, h.len top ht.1])]
        by_cases e : i = j
        · rw [e, Int.mul_comm (top.getD j 0)]
          omega
        · rw [h.nil r0 h0.1 i (by omega), h.nil top ht.1 i (by omega)]
          simp
theorem sol_step {w j : Nat} {rs : List (List Int)} {y : List Int} (h : Clr w j rs) (s : Sol w rs y) : Sol w (step j rs) y := by
  refine ⟨s.len, s.den, fun r hr => ?_⟩
  unfold step at hr
  cases q : liveR j rs with
  | nil => rw [q] at hr; exact s.dot r hr
  | cons top rest =>
    rw [q] at hr
    have hl : ∀ r, r ∈ top :: rest → r ∈ rs ∧ r.getD j 0 ≠ 0 := fun r hr => mem_live (by rw [q]; exact hr)
    rcases List.mem_append.mp hr with m | m
    · exact s.dot r (List.mem_filter.mp m).1
    · obtain ⟨r0, hr0, rfl⟩ := List.mem_map.mp m
      have h0 := (hl r0 (List.mem_cons_of_mem _ hr0)).1
      have ht := (hl top List.mem_cons_self).1
      rw [cmb_eq, dotI_comb _ _ r0 top y (by rw [h.len r0 h0, h.len top ht]), s.dot r0 h0, s.dot top ht]
      simp
theorem step_sol {w j : Nat} {rs : List (List Int)} {y : List Int} (h : Clr w j rs) (hj : j < w) (s : Sol w (step j rs) y) : ∃ y', Sol w rs y' := by
  have hc := step_clr h hj
  cases q : liveR j rs with
  | nil =>
    have e : step j rs = rs := by unfold step; rw [q]
    rw [e] at s
    exact ⟨y, s⟩
  | cons top rest =>
    have hl : ∀ r, r ∈ top :: rest → r ∈ rs ∧ r.getD j 0 ≠ 0 := fun r hr => mem_live (by rw [q]; exact hr)
    have ht := hl top List.mem_cons_self
    have tl := h.len top ht.1
    have est : step j rs = (rs.filter fun r => decide (r.getD j 0 = 0)) ++ rest.map fun r => List.zipWith (fun n m => n * top.getD j 0 - m * r.getD j 0) r top := by unfold step; rw [q]
    generalize htj : top.getD j 0 = t at *
    have yl := s.len
    obtain ⟨v, hv⟩ : ∃ v, v = y.map (t * ·) := ⟨_, rfl⟩
    have vl : v.length = w + 1 := by rw [hv, List.length_map, yl]
    have vd : ∀ i, v.getD i 0 = t * y.getD i 0 := fun i => by
      rw [hv, List.getD_eq_getElem?_getD, List.getD_eq_getElem?_getD, List.getElem?_map]
      cases y[i]? <;> simp
    obtain ⟨c, hcd⟩ : ∃ c, c = -(dotI top y - t * y.getD j 0) := ⟨_, rfl⟩
    have key : ∀ r : List Int, r.length = w + 1 → dotI r (v.set j c) = t * dotI r y + r.getD j 0 * (c - t * y.getD j 0) := fun r hr => by
      rw [dotI_set r v j c (by omega) (by omega), vd, hv, dotI_scale]
    have ktop : dotI top (v.set j c) = 0 := by
      rw [key top tl, htj, hcd, ← Int.mul_add]
      have : dotI top y + (-(dotI top y - t * y.getD j 0) - t * y.getD j 0) = 0 := by omega
      rw [this, Int.mul_zero]
    have kst : ∀ r ∈ step j rs, dotI r (v.set j c) = 0 := fun r hr => by
      rw [key r (hc.len r hr), s.dot r hr, hc.nil r hr j (by omega)]
      simp
    refine ⟨v.set j c, by rw [List.length_set, vl], ?_, fun r hr => ?_⟩
    · have : (v.set j c).getD w 0 = t * y.getD w 0 := by
        rw [List.getD_eq_getElem?_getD, List.getElem?_set_ne (by omega), ← List.getD_eq_getElem?_getD, vd]
      rw [this]
      exact Int.mul_ne_zero ht.2 s.den
    · by_cases hz : r.getD j 0 = 0
      · exact kst r (by rw [est]; exact List.mem_append_left _ (List.mem_filter.mpr ⟨hr, by simpa using hz⟩))
      · have hm : r ∈ top :: rest := by rw [← q]; exact List.mem_filter.mpr ⟨hr, by simpa using hz⟩
        rcases List.mem_cons.mp hm with rfl | hm
        · exact ktop
        · have h1 := kst _ (by rw [est]; exact List.mem_append_right _ (List.mem_map.mpr ⟨r, hm, rfl⟩))
          rw [cmb_eq, dotI_comb _ _ r top _ (by rw [h.len r hr, tl]), ktop, Int.mul_zero, Int.sub_zero] at h1
          rcases Int.mul_eq_zero.mp h1 with h2 | h2
          · exact absurd h2 ht.2
          · exact h2
end Z

set_option linter.all false
set_option maxRecDepth 100000
set_option maxHeartbeats 4000000
namespace Z
theorem run_clr {w : Nat} : ∀ (n j : Nat) (rs : List (List Int)), Clr w j rs → j + n ≤ w → Clr w (j + n) (run j n rs)
  | 0, j, rs, h, _ => h
  | n + 1, j, rs, h, l => by
    rw [run, show j + (n + 1) = j + 1 + n by omega]
    exact run_clr n (j + 1) _ (step_clr h (by omega)) (by omega)
theorem sol_run {w : Nat} {y : List Int} : ∀ (n j : Nat) (rs : List (List Int)), Clr w j rs → j + n ≤ w → Sol w rs y → Sol w (run j n rs) y
  | 0, j, rs, h, _, s => s
  | n + 1, j, rs, h, l, s => sol_run n (j + 1) _ (step_clr h (by omega)) (by omega) (sol_step h s)
theorem run_sol {w : Nat} : ∀ (n j : Nat) (rs : List (List Int)), Clr w j rs → j + n ≤ w → (∃ y, Sol w (run j n rs) y) → ∃ y, Sol w rs y
  | 0, j, rs, h, _, s => s
  | n + 1, j, rs, h, l, s => by
    obtain ⟨y, sy⟩ := run_sol n (j + 1) _ (step_clr h (by omega)) (by omega) s
    exact step_sol h (by omega) sy
/-- rows that are nothing below w: a solution exists iff nothing is left at w -/
theorem last_sol {w : Nat} {rs : List (List Int)} (h : Clr w w rs) : (∃ y, Sol w rs y) ↔ found w rs = 0 := by
  constructor
  · rintro ⟨y, s⟩
    unfold found
    rw [if_pos]
    refine List.filter_eq_nil_iff.mpr fun r hr => ?_
    have := s.dot r hr
    rw [dotI_last w r y (h.len r hr) s.len (h.nil r hr)] at this
    rcases Int.mul_eq_zero.mp this with z | z
    · show ¬ ((!decide (r.getD w 0 = 0)) = true)
      rw [z]
      decide
    · exact absurd z s.den
  · intro hf
    have hn : liveR w rs = [] := by
      unfold found at hf
      by_cases e : liveR w rs = []
      · exact e
      · rw [if_neg e] at hf
        cases hf
    refine ⟨List.replicate (w + 1) 1, by simp, by simp [List.getD_eq_getElem?_getD, List.getElem?_replicate], fun r hr => ?_⟩
    rw [dotI_last w r _ (h.len r hr) (by simp) (h.nil r hr)]
    have : r.getD w 0 = 0 := by
      by_cases z : r.getD w 0 = 0
      · exact z
      · have m : r ∈ liveR w rs := List.mem_filter.mpr ⟨hr, by simpa using z⟩
        rw [hn] at m
        cases m
    rw [this, Int.zero_mul]
theorem fits_sol {w : Nat} {rs : List (List Int)} (h : ∀ r ∈ rs, r.length = w + 1) : rankF 0 (w + 1) rs = rankF 0 w rs ↔ ∃ y, Sol w rs y := by
  have hc : Clr w 0 rs := ⟨h, fun _ _ i hi => by omega⟩
  have hr := run_clr w 0 rs hc (by omega)
  rw [Nat.zero_add] at hr
  rw [rankF_last, Nat.zero_add]
  constructor
  · intro e
    exact run_sol w 0 rs hc (by omega) ((last_sol hr).mpr (by omega))
  · intro s
    obtain ⟨y, s⟩ := s
    have := (last_sol hr).mp ⟨y, sol_run w 0 rs hc (by omega) s⟩
    omega
/-! ### rows that differ by a positive number, and by what stands behind -/
/-- a is l times, b r times the same below place w -/
def Par (w : Nat) (a b : List Int) : Prop := w ≤ a.length ∧ w ≤ b.length ∧ ∃ s t : Int, 0 < s ∧ 0 < t ∧ ∀ i, i < w → s * a.getD i 0 = t * b.getD i 0
inductive Pars (w : Nat) : List (List Int) → List (List Int) → Prop
  | nil : Pars w [] []
  | cons {a b : List Int} {as bs : List (List Int)} : Par w a b → Pars w as bs → Pars w (a :: as) (b :: bs)
theorem Par.zero {w : Nat} {a b : List Int} (h : Par w a b) {j : Nat} (hj : j < w) : a.getD j 0 = 0 ↔ b.getD j 0 = 0 := by
  obtain ⟨_, _, s, t, hs, ht, e⟩ := h
  have e := e j hj
  constructor
  · intro z
    rw [z, Int.mul_zero] at e
    rcases Int.mul_eq_zero.mp e.symm with k | k
    · omega
    · exact k
  · intro z
    rw [z, Int.mul_zero] at e
    rcases Int.mul_eq_zero.mp e with k | k
    · omega
    · exact k
theorem Pars.filter {w : Nat} (p : List Int → Bool) (h : ∀ a b, Par w a b → p a = p b) : ∀ {as bs : List (List Int)}, Pars w as bs → Pars w (as.filter p) (bs.filter p)
  | _, _, .nil => .nil
  | _, _, .cons (a := a) (b := b) x r => by
    rw [List.filter_cons, List.filter_cons, h a b x]
    split
    · exact .cons x (Pars.filter p h r)
    · exact Pars.filter p h r
theorem Pars.append {w : Nat} : ∀ {as bs cs ds : List (List Int)}, Pars w as bs → Pars w cs ds → Pars w (as ++ cs) (bs ++ ds)
  | _, _, _, _, .nil, s => s
  | _, _, _, _, .cons x r, s => .cons x (Pars.append r s)
theorem getD_zip' (f : Int → Int → Int) : ∀ (r p : List Int) (i : Nat), i < r.length → i < p.length → (List.zipWith f r p).getD i 0 = f (r.getD i 0) (p.getD i 0)
  | x :: r, y :: p, 0, _, _ => by simp
  | x :: r, y :: p, i + 1, h1, h2 => by
    rw [List.zipWith_cons_cons, List.getD_cons_succ, List.getD_cons_succ, List.getD_cons_succ]
    exact getD_zip' f r p i (by simpa using h1) (by simpa using h2)
  | [], _, _, h, _ => by simp at h
  | _ :: _, [], _, _, h => by simp at h
theorem Par.elim {w j : Nat} {a b ta tb : List Int} (h : Par w a b) (ht : Par w ta tb) (hj : j < w) :
    Par w (List.zipWith (fun n m => n * ta.getD j 0 - m * a.getD j 0) a ta) (List.zipWith (fun n m => n * tb.getD j 0 - m * b.getD j 0) b tb) := by
  obtain ⟨l1, l2, s, t, hs, ht', e⟩ := h
  obtain ⟨k1, k2, s2, t2, hs2, ht2, e2⟩ := ht
  refine ⟨by rw [List.length_zipWith]; omega, by rw [List.length_zipWith]; omega, s * s2, t * t2, Int.mul_pos hs hs2, Int.mul_pos ht' ht2, fun i hi => ?_⟩
  rw [getD_zip' _ a ta i (by omega) (by omega), getD_zip' _ b tb i (by omega) (by omega)]
  have x1 := e i hi
  have x2 := e j hj
  have x3 := e2 i hi
  have x4 := e2 j hj
  generalize a.getD i 0 = ai at *
  generalize a.getD j 0 = aj at *
  generalize b.getD i 0 = bi at *
  generalize b.getD j 0 = bj at *
  generalize ta.getD i 0 = tai at *
  generalize ta.getD j 0 = taj at *
  generalize tb.getD i 0 = tbi at *
  generalize tb.getD j 0 = tbj at *
  have y1 : s * s2 * (ai * taj) = t * t2 * (bi * tbj) := by
    have : s * s2 * (ai * taj) = (s * ai) * (s2 * taj) := by simp only [Int.mul_assoc, Int.mul_left_comm, Int.mul_comm]
    rw [this, x1, x4]
    simp only [Int.mul_assoc, Int.mul_left_comm, Int.mul_comm]
  have y2 : s * s2 * (tai * aj) = t * t2 * (tbi * bj) := by
    have : s * s2 * (tai * aj) = (s2 * tai) * (s * aj) := by simp only [Int.mul_assoc, Int.mul_left_comm, Int.mul_comm]
    rw [this, x3, x2]
    simp only [Int.mul_assoc, Int.mul_left_comm, Int.mul_comm]
  rw [Int.mul_sub, Int.mul_sub, y1, y2]
theorem Pars.elim {w j : Nat} {ta tb : List Int} (ht : Par w ta tb) (hj : j < w) : ∀ {as bs : List (List Int)}, Pars w as bs →
    Pars w (as.map fun r => List.zipWith (fun n m => n * ta.getD j 0 - m * r.getD j 0) r ta) (bs.map fun r => List.zipWith (fun n m => n * tb.getD j 0 - m * r.getD j 0) r tb)
  | _, _, .nil => .nil
  | _, _, .cons x r => .cons (x.elim ht hj) (Pars.elim ht hj r)
theorem Pars.step {w j : Nat} (hj : j < w) {as bs : List (List Int)} (h : Pars w as bs) : Pars w (step j as) (Z.step j bs) ∧ found j as = found j bs := by
  have hl : Pars w (liveR j as) (liveR j bs) := h.filter _ fun a b x => by
    show (!decide (a.getD j 0 = 0)) = (!decide (b.getD j 0 = 0))
    rw [decide_eq_decide.mpr (x.zero hj)]
  have hz : Pars w (as.filter fun r => decide (r.getD j 0 = 0)) (bs.filter fun r => decide (r.getD j 0 = 0)) := h.filter _ fun a b x => by
    exact decide_eq_decide.mpr (x.zero hj)
  unfold Z.step found
  generalize liveR j as = la at *
  generalize liveR j bs = lb at *
  cases hl with
  | nil => exact ⟨h, rfl⟩
  | cons x r => exact ⟨hz.append (r.elim x hj), by simp⟩
theorem rank_pars {w : Nat} : ∀ (n j : Nat) {as bs : List (List Int)}, Pars w as bs → j + n ≤ w → rankF j n as = rankF j n bs
  | 0, _, _, _, _, _ => rfl
  | n + 1, j, as, bs, h, l => by
    obtain ⟨h1, h2⟩ := h.step (j := j) (by omega)
    rw [rankF, rankF, h2, rank_pars n (j + 1) h1 (by omega)]
/-- the law's question: the ranks are equal iff the wider rows have a solution -/
theorem ranks_sol {w : Nat} {as bs : List (List Int)} (h : Pars w as bs) (hb : ∀ r ∈ bs, r.length = w + 1) : rankF 0 w as = rankF 0 (w + 1) bs ↔ ∃ y, Sol w bs y := by
  rw [rank_pars w 0 h (by omega), ← fits_sol hb]
  exact eq_comm
end Z

set_option linter.all false
set_option maxRecDepth 100000
set_option maxHeartbeats 4000000
namespace Z
/-! ### the program's elimination -/
/-- r' is r less a number of times p, and nothing at c -/
def Comb (p : List Int) (c : Nat) (r r' : List Int) : Prop := ∃ a b g : Int, a ≠ 0 ∧ 0 < g ∧ r'.map (g * ·) = List.zipWith (fun x y => a * x - b * y) r p ∧ r'[c]? = some 0
theorem Comb.dot {p r r' : List Int} {c : Nat} (h : Comb p c r r') (hl : r.length = p.length) {y : List Int} (hp : dotI p y = 0) : dotI r' y = 0 ↔ dotI r y = 0 := by
  obtain ⟨a, b, g, ha, hg, e, _⟩ := h
  have h1 : g * dotI r' y = a * dotI r y := by
    rw [← dotI_map, e, dotI_comb a b r p y hl, hp, Int.mul_zero, Int.sub_zero]
  constructor
  · intro z
    rw [z, Int.mul_zero] at h1
    rcases Int.mul_eq_zero.mp h1.symm with k | k
    · exact absurd k ha
    · exact k
  · intro z
    rw [z, Int.mul_zero] at h1
    rcases Int.mul_eq_zero.mp h1 with k | k
    · omega
    · exact k
theorem Comb.len {p r r' : List Int} {c : Nat} (h : Comb p c r r') (hl : r.length = p.length) : r'.length = r.length := by
  obtain ⟨a, b, g, ha, hg, e, _⟩ := h
  have := congrArg List.length e
  rw [List.length_map, List.length_zipWith] at this
  omega
theorem Comb.nil {p r r' : List Int} {c : Nat} (h : Comb p c r r') (hl : r.length = p.length) {i : Nat} (hi : i < r.length) (hr : r.getD i 0 = 0) (hp : p.getD i 0 = 0) : r'.getD i 0 = 0 := by
  have hl' := h.len hl
  obtain ⟨a, b, g, ha, hg, e, _⟩ := h
  have e2 : (r'.map (g * ·)).getD i 0 = (List.zipWith (fun x y => a * x - b * y) r p).getD i 0 := by rw [e]
  rw [getD_zip' _ r p i hi (by omega), hr, hp] at e2
  have e3 : (r'.map (g * ·)).getD i 0 = g * r'.getD i 0 := by
    rw [List.getD_eq_getElem?_getD, List.getD_eq_getElem?_getD, List.getElem?_map, List.getElem?_eq_getElem (by omega)]
    rfl
  rw [e3] at e2
  have : g * r'.getD i 0 = 0 := by rw [e2]; simp
  rcases Int.mul_eq_zero.mp this with k | k
  · omega
  · exact k
/-- steps: each its column and its row -/
def Stps (w : Nat) (ss : List (Nat × List Int)) : Prop := ∀ s ∈ ss, s.2.length = w + 1 ∧ s.1 < w ∧ s.2.getD s.1 0 ≠ 0 ∧ ∀ i, i < s.1 → s.2.getD i 0 = 0
/-- what the elimination keeps: the waiting rows, the steps -/
structure Elm (w c : Nat) (rs0 wt : List (List Int)) (ss : List (Nat × List Int)) : Prop where
  clr : Clr w c wt
  stp : Stps w ss
  low : ∀ s ∈ ss, s.1 < c
  inc : ss.Pairwise fun s t => s.1 < t.1
  sol : ∀ y : List Int, (∀ r ∈ rs0, dotI r y = 0) ↔ (∀ r ∈ wt, dotI r y = 0) ∧ ∀ s ∈ ss, dotI s.2 y = 0
theorem Elm.skip {w c : Nat} {rs0 wt : List (List Int)} {ss : List (Nat × List Int)} (h : Elm w c rs0 wt ss) (hz : ∀ r ∈ wt, r.getD c 0 = 0) : Elm w (c + 1) rs0 wt ss :=
  ⟨⟨h.clr.len, fun r hr i hi => by
    by_cases e : i = c
    · rw [e]; exact hz r hr
    · exact h.clr.nil r hr i (by omega)⟩, h.stp, fun s hs => by have := h.low s hs; omega, h.inc, h.sol⟩
/-- two lists of rows, one by one -/
inductive Combs (p : List Int) (c : Nat) : List (List Int) → List (List Int) → Prop
  | nil : Combs p c [] []
  | cons {r r' : List Int} {rs rs' : List (List Int)} : Comb p c r r' → Combs p c rs rs' → Combs p c (r :: rs) (r' :: rs')
theorem Combs.mem {p : List Int} {c : Nat} : ∀ {rs rs' : List (List Int)}, Combs p c rs rs' → (∀ r' ∈ rs', ∃ r ∈ rs, Comb p c r r') ∧ ∀ r ∈ rs, ∃ r' ∈ rs', Comb p c r r'
  | _, _, .nil => ⟨(fun _ h => by cases h), (fun _ h => by cases h)⟩
  | _, _, .cons x r => by
    obtain ⟨h1, h2⟩ := Combs.mem r
    refine ⟨fun r' hr' => ?_, fun r0 hr0 => ?_⟩
    · rcases List.mem_cons.mp hr' with rfl | m
      · exact ⟨_, List.mem_cons_self, x⟩
      · obtain ⟨a, b, c⟩ := h1 r' m
        exact ⟨a, List.mem_cons_of_mem _ b, c⟩
    · rcases List.mem_cons.mp hr0 with rfl | m
      · exact ⟨_, List.mem_cons_self, x⟩
      · obtain ⟨a, b, c⟩ := h2 r0 m
        exact ⟨a, List.mem_cons_of_mem _ b, c⟩
theorem Elm.step {w c : Nat} {rs0 w1 w2 wt' : List (List Int)} {p : List Int} {ss : List (Nat × List Int)} (h : Elm w c rs0 (w1 ++ p :: w2) ss) (hc : c < w) (hp : p.getD c 0 ≠ 0) (hw : Combs p c (w1 ++ w2) wt') : Elm w (c + 1) rs0 wt' (ss ++ [(c, p)]) := by
  have hpm : p ∈ w1 ++ p :: w2 := List.mem_append_right _ List.mem_cons_self
  have hsub : ∀ r, r ∈ w1 ++ w2 → r ∈ w1 ++ p :: w2 := fun r hr => by
    rcases List.mem_append.mp hr with m | m
    · exact List.mem_append_left _ m
    · exact List.mem_append_right _ (List.mem_cons_of_mem _ m)
  have pl := h.clr.len p hpm
  obtain ⟨m1, m2⟩ := hw.mem
  refine ⟨⟨fun r' hr' => ?_, fun r' hr' i hi => ?_⟩, fun s hs => ?_, fun s hs => ?_, ?_, fun y => ?_⟩
  · obtain ⟨r, hr, cb⟩ := m1 r' hr'
    have rl := h.clr.len r (hsub r hr)
    rw [cb.len (by omega), rl]
  · obtain ⟨r, hr, cb⟩ := m1 r' hr'
    have rl := h.clr.len r (hsub r hr)
    by_cases e : i = c
    · obtain ⟨_, _, _, _, _, _, z⟩ := cb
      rw [e, List.getD_eq_getElem?_getD, z]
      rfl
    · exact cb.nil (by omega) (by omega) (h.clr.nil r (hsub r hr) i (by omega)) (h.clr.nil p hpm i (by omega))
  · rcases List.mem_append.mp hs with m | m
    · exact h.stp s m
    · rcases List.mem_singleton.mp m with rfl
      exact ⟨pl, hc, hp, fun i hi => h.clr.nil p hpm i hi⟩
  · rcases List.mem_append.mp hs with m | m
    · have := h.low s m; omega
    · rcases List.mem_singleton.mp m with rfl
      exact Nat.lt_succ_self c
  · rw [List.pairwise_append]
    exact ⟨h.inc, by simp, fun s hs t ht => by
      rcases List.mem_singleton.mp ht with rfl
      exact h.low s hs⟩
  · rw [h.sol y]
    constructor
    · rintro ⟨h1, h2⟩
      have hpy := h1 p hpm
      refine ⟨fun r' hr' => ?_, fun s hs => ?_⟩
      · obtain ⟨r, hr, cb⟩ := m1 r' hr'
        have rl := h.clr.len r (hsub r hr)
        exact (cb.dot (by omega) hpy).mpr (h1 r (hsub r hr))
      · rcases List.mem_append.mp hs with m | m
        · exact h2 s m
        · rcases List.mem_singleton.mp m with rfl
          exact hpy
    · rintro ⟨h1, h2⟩
      have hpy : dotI p y = 0 := h2 (c, p) (List.mem_append_right _ (List.mem_singleton.mpr rfl))
      refine ⟨fun r hr => ?_, fun s hs => h2 s (List.mem_append_left _ hs)⟩
      rcases List.mem_append.mp hr with m | m
      · obtain ⟨r', hr', cb⟩ := m2 r (List.mem_append_left _ m)
        have rl := h.clr.len r hr
        exact (cb.dot (by omega) hpy).mp (h1 r' hr')
      · rcases List.mem_cons.mp m with rfl | m
        · exact hpy
        · obtain ⟨r', hr', cb⟩ := m2 r (List.mem_append_right _ m)
          have rl := h.clr.len r hr
          exact (cb.dot (by omega) hpy).mp (h1 r' hr')
end Z

set_option linter.all false
set_option maxRecDepth 100000
set_option maxHeartbeats 4000000
namespace Z
/-! ### the values from behind: y_i / M, the last place -M -/
theorem getD_map_mul (q : Int) (y : List Int) (i : Nat) : (y.map (q * ·)).getD i 0 = q * y.getD i 0 := by
  rw [List.getD_eq_getElem?_getD, List.getD_eq_getElem?_getD, List.getElem?_map]
  cases y[i]? <;> simp
theorem fill_step {w c : Nat} {row y : List Int} {M a b p q : Int} (hl : row.length = w + 1) (yl : y.length = w + 1) (hc : c < w) (hM : 0 < M) (hb : b ≠ 0)
    (ha : a * M = -(b * (dotI row y - row.getD c 0 * y.getD c 0))) (hp : p * (b * row.getD c 0) = a * q) : dotI row ((y.map (q * ·)).set c (p * M)) = 0 := by
  rw [dotI_set row _ c _ (by omega) (by rw [List.length_map]; omega), dotI_scale, getD_map_mul]
  generalize dotI row y = S at *
  generalize row.getD c 0 = rc at *
  generalize y.getD c 0 = yc at *
  have h1 : b * (q * S + rc * (p * M - q * yc)) = q * (b * (S - rc * yc)) + (p * (b * rc)) * M := by
    rw [Int.mul_add, Int.mul_sub, Int.mul_sub, Int.mul_sub, Int.mul_sub]
    have e1 : b * (q * S) = q * (b * S) := by simp only [Int.mul_assoc, Int.mul_left_comm, Int.mul_comm]
    have e2 : b * (rc * (p * M)) = p * (b * rc) * M := by simp only [Int.mul_assoc, Int.mul_left_comm, Int.mul_comm]
    have e3 : b * (rc * (q * yc)) = q * (b * (rc * yc)) := by simp only [Int.mul_assoc, Int.mul_left_comm, Int.mul_comm]
    rw [e1, e2, e3]
    omega
  have h2 : b * (S - rc * yc) = -(a * M) := by omega
  have h3 : q * (-(a * M)) + a * q * M = 0 := by
    rw [Int.mul_neg, Int.mul_comm a q, Int.mul_assoc q a M]
    omega
  rw [h2, hp, h3] at h1
  rcases Int.mul_eq_zero.mp h1 with k | k
  · exact absurd k hb
  · exact k
theorem fill_keep {w c : Nat} {r y : List Int} {M p q : Int} (hl : r.length = w + 1) (yl : y.length = w + 1) (hc : c < w) (hr : r.getD c 0 = 0) (h : dotI r y = 0) : dotI r ((y.map (q * ·)).set c (p * M)) = 0 := by
  rw [dotI_set r _ c _ (by omega) (by rw [List.length_map]; omega), dotI_scale, h, hr]
  simp
theorem fill_at {w c i : Nat} {y : List Int} {M p q : Int} (yl : y.length = w + 1) (hc : c < w) : ((y.map (q * ·)).set c (p * M)).getD i 0 = if i = c then p * M else q * y.getD i 0 := by
  by_cases e : i = c
  · subst e
    rw [if_pos rfl, List.getD_eq_getElem?_getD, List.getElem?_set_self (by rw [List.length_map]; omega)]
    rfl
  · rw [if_neg e, List.getD_eq_getElem?_getD, List.getElem?_set_ne (Ne.symm e), ← List.getD_eq_getElem?_getD, getD_map_mul]
/-- a term is taken off -/
theorem less_term {a b ri p q M yi S a2 b2 : Int} (hq : 0 < q) (hb : 0 < b) (hy : yi * q = p * M) (ha : a * M = -(b * S)) (e1 e2 : Int) (h2 : 0 < e2) (ht : e1 * q = (ri * p) * e2) (hb2 : 0 < b2) (hm : a2 * (b * e2) = (a * e2 - e1 * b) * b2) : a2 * M = -(b2 * (S + ri * yi)) := by
  have hbe : b * e2 * q ≠ 0 := by
    have := Int.mul_pos (Int.mul_pos hb h2) hq
    omega
  have key : b * e2 * q * (a2 * M) = b * e2 * q * (-(b2 * (S + ri * yi))) := by
    have l1 : b * e2 * q * (a2 * M) = (a2 * (b * e2)) * (q * M) := by simp only [Int.mul_assoc, Int.mul_left_comm, Int.mul_comm]
    rw [l1, hm, Int.sub_mul, Int.sub_mul]
    have l2 : a * e2 * b2 * (q * M) = (a * M) * (e2 * b2 * q) := by simp only [Int.mul_assoc, Int.mul_left_comm, Int.mul_comm]
    have l3 : e1 * b * b2 * (q * M) = (e1 * q) * (b * b2 * M) := by simp only [Int.mul_assoc, Int.mul_left_comm, Int.mul_comm]
    rw [l2, l3, ha, ht]
    have l4 : ri * p * e2 * (b * b2 * M) = (p * M) * (ri * e2 * b * b2) := by simp only [Int.mul_assoc, Int.mul_left_comm, Int.mul_comm]
    rw [l4, ← hy]
    have l5 : -(b * S) * (e2 * b2 * q) = -(b * e2 * q * (b2 * S)) := by
      rw [Int.neg_mul]
      congr 1
      simp only [Int.mul_assoc, Int.mul_left_comm, Int.mul_comm]
    have l6 : yi * q * (ri * e2 * b * b2) = b * e2 * q * (b2 * (ri * yi)) := by simp only [Int.mul_assoc, Int.mul_left_comm, Int.mul_comm]
    rw [l5, l6, Int.mul_neg, Int.mul_add, Int.mul_add]
    omega
  exact Int.eq_of_mul_eq_mul_left hbe key
end Z

set_option linter.all false
set_option maxRecDepth 100000
set_option maxHeartbeats 4000000
namespace Z
def sumN (f : Nat → Int) : Nat → Int
  | 0 => 0
  | n + 1 => sumN f n + f n
theorem sumN_front (f : Nat → Int) : ∀ n, sumN f (n + 1) = f 0 + sumN (fun i => f (i + 1)) n
  | 0 => by simp [sumN]
  | n + 1 => by
    rw [sumN, sumN_front f n, sumN]
    omega
theorem sumN_add (f : Nat → Int) (a : Nat) : ∀ b, sumN f (a + b) = sumN f a + sumN (fun i => f (a + i)) b
  | 0 => by simp [sumN]
  | b + 1 => by
    rw [show a + (b + 1) = (a + b) + 1 by omega, sumN, sumN_add f a b, sumN]
    omega
theorem sumN_zero (f : Nat → Int) : ∀ n, (∀ i, i < n → f i = 0) → sumN f n = 0
  | 0, _ => rfl
  | n + 1, h => by
    rw [sumN, sumN_zero f n fun i hi => h i (by omega), h n (by omega)]
    rfl
theorem dotI_sum : ∀ (n : Nat) (r y : List Int), r.length = n → y.length = n → dotI r y = sumN (fun i => r.getD i 0 * y.getD i 0) n
  | 0, [], [], _, _ => rfl
  | n + 1, a :: r, b :: y, h1, h2 => by
    rw [dotI, dotI_sum n r y (by simpa using h1) (by simpa using h2), sumN_front]
    simp
  | 0, _ :: _, _, h, _ => by simp at h
  | 0, [], _ :: _, _, h => by simp at h
  | n + 1, [], _, h, _ => by simp at h
  | n + 1, _ :: _, [], _, h => by simp at h
/-- the sum over the places behind c -/
def psum (row y : List Int) (w c m : Nat) : Int := row.getD w 0 * y.getD w 0 + sumN (fun k => row.getD (c + 1 + k) 0 * y.getD (c + 1 + k) 0) m
theorem psum_all {row y : List Int} {w c : Nat} (hl : row.length = w + 1) (yl : y.length = w + 1) (hc : c < w) (h0 : ∀ i, i < c → row.getD i 0 = 0) : psum row y w c (w - c - 1) = dotI row y - row.getD c 0 * y.getD c 0 := by
  rw [dotI_sum (w + 1) row y hl yl, sumN]
  have e : w = c + (1 + (w - c - 1)) := by omega
  have h1 : sumN (fun i => row.getD i 0 * y.getD i 0) w = row.getD c 0 * y.getD c 0 + sumN (fun k => row.getD (c + 1 + k) 0 * y.getD (c + 1 + k) 0) (w - c - 1) := by
    conv => lhs; rw [e]
    rw [sumN_add, sumN_zero _ c fun i hi => by rw [h0 i hi, Int.zero_mul], sumN_add]
    simp only [sumN, Nat.add_zero, Int.zero_add]
    congr 2
    funext k
    rw [Nat.add_assoc]
  rw [h1]
  unfold psum
  omega
theorem psum_succ {row y : List Int} {w c m : Nat} : psum row y w c (m + 1) = psum row y w c m + row.getD (c + 1 + m) 0 * y.getD (c + 1 + m) 0 := by
  unfold psum
  rw [sumN]
  omega
end Z

set_option Elab.async false
set_option linter.all false
set_option maxRecDepth 100000
set_option maxHeartbeats 4000000
namespace Z
open PySem PySem.Spec PyProof.Rows L2

/-! ### deep data -/
inductive D where
  | non | bl (b : Bool) | int (i : Int) | str (x : Str)
  | tup (ds : List D) | lst (ds : List D)
  | dct (ks : List Key) (ds : List D)
  | obj (C : Addr) (ns : List Str) (ds : List D)
  | scr (ns : List Int)
/-- what an owned place holds -/
inductive DO where
  | lst (ds : List D)
  | frz (ds : List D)
  | brw (ds : List D)
inductive U where
  | d (x : D)
  | o (k : Nat)
  | t (us : List U)

mutual
inductive At (K : PySem.W.Frag) (M : Addr → Prop) (H : Hp) : V → D → Prop
  | non : At K M H .non .non
  | bl (b : Bool) : At K M H (.bl b) (.bl b)
  | int (i : Int) : At K M H (.int i) (.int i)
  | str (x : Str) : At K M H (.str x) (.str x)
  | tup {a : Addr} {vs : List V} {ds : List D} : H a = some (.tup vs) → ¬ M a → Ats K M H vs ds → At K M H (.ref a) (.tup ds)
  | lst {a : Addr} {vs : List V} {ds : List D} : H a = some (.lst vs) → ¬ M a → Ats K M H vs ds → At K M H (.ref a) (.lst ds)
  | dct {a : Addr} {kvs : List (Key × V)} {ks : List Key} {ds : List D} : H a = some (.dK kvs) → ¬ M a → kvs.map (·.1) = ks → Ats K M H (kvs.map (·.2)) ds → At K M H (.ref a) (.dct ks ds)
  | obj {a C dx : Addr} {fs : List (Str × V)} {ns : List Str} {ds : List D} : H a = some (.ins C dx fs) → ¬ M a → fs.map (·.1) = ns → Ats K M H (fs.map (·.2)) ds → At K M H (.ref a) (.obj C ns ds)
  | scr {a : Addr} {ns : List Int} : Rd H a (.lst (ns.map V.int)) → ¬ M a → At K M H (.ref a) (.scr ns)
  | scrK {a : Addr} {ns : List Int} : (∀ H', SqL K H' a (ns.map V.int)) → At K M H (.ref a) (.scr ns)
inductive Ats (K : PySem.W.Frag) (M : Addr → Prop) (H : Hp) : List V → List D → Prop
  | nil : Ats K M H [] []
  | cons {v : V} {d : D} {vs : List V} {ds : List D} : At K M H v d → Ats K M H vs ds → Ats K M H (v :: vs) (d :: ds)
end
section
variable {K : PySem.W.Frag} {M M' : Addr → Prop} {H H' : Hp}
mutual
theorem At.imp (h : ∀ a o, ¬ M a → H a = some o → (∀ ps, o ≠ .tbl ps) → H' a = some o ∧ ¬ M' a) : ∀ {v : V} {d : D}, At K M H v d → At K M' H' v d
  | _, _, .non => .non
  | _, _, .bl b => .bl b
  | _, _, .int i => .int i
  | _, _, .str x => .str x
  | _, _, .tup e m r => let ⟨e', m'⟩ := h _ _ m e (fun _ z => by cases z); .tup e' m' (Ats.imp h r)
  | _, _, .lst e m r => let ⟨e', m'⟩ := h _ _ m e (fun _ z => by cases z); .lst e' m' (Ats.imp h r)
  | _, _, .dct e m k r => let ⟨e', m'⟩ := h _ _ m e (fun _ z => by cases z); .dct e' m' k (Ats.imp h r)
  | _, _, .obj e m k r => let ⟨e', m'⟩ := h _ _ m e (fun _ z => by cases z); .obj e' m' k (Ats.imp h r)
  | _, _, .scr (.inl e) m => let ⟨e', m'⟩ := h _ _ m e (fun _ z => by cases z); .scr (.inl e') m'
  | _, _, .scr (.inr ⟨o, e⟩) m => let ⟨e', m'⟩ := h _ _ m e (fun _ z => by cases z); .scr (.inr ⟨o, e'⟩) m'
  | _, _, .scrK e => .scrK e
theorem Ats.imp (h : ∀ a o, ¬ M a → H a = some o → (∀ ps, o ≠ .tbl ps) → H' a = some o ∧ ¬ M' a) : ∀ {vs : List V} {ds : List D}, Ats K M H vs ds → Ats K M' H' vs ds
  | _, _, .nil => .nil
  | _, _, .cons a r => .cons (At.imp h a) (Ats.imp h r)
end
theorem Ats.length : ∀ {vs : List V} {ds : List D}, Ats K M H vs ds → vs.length = ds.length
  | _, _, .nil => rfl
  | _, _, .cons _ r => congrArg (· + 1) (Ats.length r)
theorem Ats.get : ∀ {vs : List V} {ds : List D} {i : Nat} {v : V}, Ats K M H vs ds → vs[i]? = some v → ∃ d, ds[i]? = some d ∧ At K M H v d
  | _, _, _, _, .nil, e => by simp at e
  | _, _, 0, _, .cons a _, e => by simp at e; subst e; exact ⟨_, rfl, a⟩
  | _, _, i + 1, v, .cons _ r, e => by
    obtain ⟨d, h1, h2⟩ := Ats.get (i := i) (v := v) r (by simpa using e)
    exact ⟨d, by simpa using h1, h2⟩
theorem Ats.get' : ∀ {vs : List V} {ds : List D} {i : Nat} {d : D}, Ats K M H vs ds → ds[i]? = some d → ∃ v, vs[i]? = some v ∧ At K M H v d
  | _, _, _, _, .nil, e => by simp at e
  | _, _, 0, _, .cons a _, e => by simp at e; subst e; exact ⟨_, rfl, a⟩
  | _, _, i + 1, v, .cons _ r, e => by
    obtain ⟨d, h1, h2⟩ := Ats.get' (i := i) (d := v) r (by simpa using e)
    exact ⟨d, by simpa using h1, h2⟩
theorem Ats.append : ∀ {vs ws : List V} {ds es : List D}, Ats K M H vs ds → Ats K M H ws es → Ats K M H (vs ++ ws) (ds ++ es)
  | _, _, _, _, .nil, s => s
  | _, _, _, _, .cons a r, s => .cons a (Ats.append r s)
theorem Ats.take : ∀ {vs : List V} {ds : List D} (n : Nat), Ats K M H vs ds → Ats K M H (vs.take n) (ds.take n)
  | _, _, 0, _ => .nil
  | _, _, _ + 1, .nil => .nil
  | _, _, n + 1, .cons a r => .cons a (Ats.take n r)
theorem Ats.drop : ∀ {vs : List V} {ds : List D} (n : Nat), Ats K M H vs ds → Ats K M H (vs.drop n) (ds.drop n)
  | _, _, 0, r => r
  | _, _, _ + 1, .nil => .nil
  | _, _, n + 1, .cons _ r => Ats.drop n r
theorem Ats.set {v : V} {d : D} (a : At K M H v d) : ∀ {vs : List V} {ds : List D} (i : Nat), Ats K M H vs ds → Ats K M H (vs.set i v) (ds.set i d)
  | _, _, _, .nil => .nil
  | _, _, 0, .cons _ r => .cons a r
  | _, _, i + 1, .cons b r => .cons b (Ats.set a i r)
theorem Ats.reverse : ∀ {vs : List V} {ds : List D}, Ats K M H vs ds → Ats K M H vs.reverse ds.reverse
  | _, _, .nil => .nil
  | _, _, .cons a r => by
    rw [List.reverse_cons, List.reverse_cons]
    exact (Ats.reverse r).append (.cons a .nil)
theorem Ats.ints : ∀ (ns : List Int), Ats K M H (ns.map V.int) (ns.map D.int)
  | [] => .nil
  | n :: ns => .cons (.int n) (Ats.ints ns)
end

/-! ### owned places: α their addresses, O what they hold; B: what callers own -/
def live : DO → Bool
  | .lst _ => true
  | .frz _ => false
  | .brw _ => true
def hot : DO → Bool
  | .lst _ => true
  | _ => false
theorem hot_live {o : DO} (h : hot o = true) : live o = true := by cases o <;> first | rfl | cases h
/-- the places that may be written here -/
def Ho (α : List Addr) (O : List DO) (a : Addr) : Prop := ∃ (k : Nat) (o : DO), α[k]? = some a ∧ O[k]? = some o ∧ hot o = true
def Ow (α : List Addr) (O : List DO) (a : Addr) : Prop := ∃ (k : Nat) (o : DO), α[k]? = some a ∧ O[k]? = some o ∧ live o = true
def Mu (B : Addr → Prop) (α : List Addr) (O : List DO) (a : Addr) : Prop := B a ∨ Ow α O a
def OAt (K : PySem.W.Frag) (M : Addr → Prop) (H : Hp) (a : Addr) : DO → Prop
  | .lst ds => ∃ vs, H a = some (.lst vs) ∧ Ats K M H vs ds
  | .frz ds => At K M H (.ref a) (.lst ds)
  | .brw ds => ∃ vs, H a = some (.lst vs) ∧ Ats K M H vs ds
theorem Ho.ow {α : List Addr} {O : List DO} {a : Addr} (h : Ho α O a) : Ow α O a := let ⟨k, o, e1, e2, l⟩ := h; ⟨k, o, e1, e2, hot_live l⟩
mutual
inductive AtU (K : PySem.W.Frag) (B : Addr → Prop) (α : List Addr) (O : List DO) (H : Hp) : V → U → Prop
  | d {v : V} {x : D} : At K (Mu B α O) H v x → AtU K B α O H v (.d x)
  | o {k : Nat} {a : Addr} : α[k]? = some a → AtU K B α O H (.ref a) (.o k)
  | t {a : Addr} {vs : List V} {us : List U} : H a = some (.tup vs) → ¬ Mu B α O a → AtUs K B α O H vs us → AtU K B α O H (.ref a) (.t us)
inductive AtUs (K : PySem.W.Frag) (B : Addr → Prop) (α : List Addr) (O : List DO) (H : Hp) : List V → List U → Prop
  | nil : AtUs K B α O H [] []
  | cons {v : V} {u : U} {vs : List V} {us : List U} : AtU K B α O H v u → AtUs K B α O H vs us → AtUs K B α O H (v :: vs) (u :: us)
end
structure Gx where
  K : PySem.W.Frag
  T : List (Addr × Str)
structure Own (G : Gx) (B : Addr → Prop) (α : List Addr) (O : List DO) (H : Hp) : Prop where
  len : α.length = O.length
  nd : α.Nodup
  at_ : ∀ (k : Nat) (a : Addr) (o : DO), α[k]? = some a → O[k]? = some o → OAt G.K (Mu B α O) H a o
  bt : ∀ a, B a → ∃ o, H a = some o
  nb : ∀ a, Ow α O a → ¬ B a
  tabs : LamX.Tabs G.T H
structure Stp (α : List Addr) (O : List DO) (H : Hp) (α' : List Addr) (O' : List DO) (H' : Hp) : Prop where
  pre : ∃ more, α' = α ++ more
  keep : ∀ b o, H b = some o → ¬ Ho α O b → (∀ ps, o ≠ .tbl ps) → H' b = some o
  there : ∀ b, H' b = none → H b = none
  new : ∀ b, Ow α' O' b → Ow α O b ∨ H b = none
  hnew : ∀ b, Ho α' O' b → Ho α O b ∨ H b = none
  fresh : ∀ b, b ∈ α' → b ∈ α ∨ H b = none
section
variable {K : PySem.W.Frag} {G : Gx} {T : List (Addr × Str)} {B : Addr → Prop} {α α' α2 : List Addr} {O O' O2 : List DO} {H H' H2 : Hp}
theorem Stp.refl : Stp α O H α O H := ⟨⟨[], by simp⟩, fun _ _ e _ _ => e, fun _ e => e, fun _ m => .inl m, fun _ m => .inl m, fun _ m => .inl m⟩
theorem Stp.trans (s : Stp α O H α' O' H') (t : Stp α' O' H' α2 O2 H2) : Stp α O H α2 O2 H2 := by
  obtain ⟨m1, e1⟩ := s.pre
  obtain ⟨m2, e2⟩ := t.pre
  refine ⟨⟨m1 ++ m2, by rw [e2, e1, List.append_assoc]⟩, fun b o e m n => ?_, fun b e => s.there b (t.there b e), fun b m => ?_, fun b m => ?_, fun b m => ?_⟩
  · refine t.keep b o (s.keep b o e m n) (fun z => ?_) n
    rcases s.hnew b z with z | z
    · exact m z
    · rw [e] at z; cases z
  · rcases t.new b m with z | z
    · exact s.new b z
    · exact .inr (s.there b z)
  · rcases t.hnew b m with z | z
    · exact s.hnew b z
    · exact .inr (s.there b z)
  · rcases t.fresh b m with z | z
    · exact s.fresh b z
    · exact .inr (s.there b z)
theorem Stp.imp (s : Stp α O H α' O' H') : ∀ a o, ¬ Mu B α O a → H a = some o → (∀ ps, o ≠ .tbl ps) → H' a = some o ∧ ¬ Mu B α' O' a := fun b o m e n =>
  ⟨s.keep b o e (fun z => m (.inr z.ow)) n, fun z => by
    rcases z with z | z
    · exact m (.inl z)
    rcases s.new b z with z | z
    · exact m (.inr z)
    · rw [e] at z; cases z⟩
theorem Stp.at_ (s : Stp α O H α' O' H') {v : V} {d : D} (a : At K (Mu B α O) H v d) : At K (Mu B α' O') H' v d := a.imp s.imp
theorem Stp.ats (s : Stp α O H α' O' H') {vs : List V} {ds : List D} (a : Ats K (Mu B α O) H vs ds) : Ats K (Mu B α' O') H' vs ds := a.imp s.imp
theorem Stp.idx (s : Stp α O H α' O' H') {k : Nat} {a : Addr} (e : α[k]? = some a) : α'[k]? = some a := by
  obtain ⟨m, h⟩ := s.pre
  rw [h, List.getElem?_append_left (List.getElem?_eq_some_iff.mp e).1]
  exact e
mutual
theorem Stp.atU (s : Stp α O H α' O' H') : ∀ {v : V} {u : U}, AtU K B α O H v u → AtU K B α' O' H' v u
  | _, _, .d a => .d (s.at_ a)
  | _, _, .o e => .o (s.idx e)
  | _, _, .t e m r => let ⟨e', m'⟩ := s.imp (B := B) _ _ m e (fun _ z => by cases z); .t e' m' (Stp.atUs s r)
theorem Stp.atUs (s : Stp α O H α' O' H') : ∀ {vs : List V} {us : List U}, AtUs K B α O H vs us → AtUs K B α' O' H' vs us
  | _, _, .nil => .nil
  | _, _, .cons a r => .cons (Stp.atU s a) (Stp.atUs s r)
end
theorem AtUs.length : ∀ {vs : List V} {us : List U}, AtUs K B α O H vs us → vs.length = us.length
  | _, _, .nil => rfl
  | _, _, .cons _ r => congrArg (· + 1) (AtUs.length r)
theorem Ow.some (w : Own G B α O H) {a : Addr} (m : Ow α O a) : ∃ o, H a = some o := by
  obtain ⟨k, o, e1, e2, l⟩ := m
  have h := w.at_ k a o e1 e2
  cases o with
  | lst ds =>
    obtain ⟨vs, e, _⟩ := h
    exact ⟨_, e⟩
  | brw ds =>
    obtain ⟨vs, e, _⟩ := h
    exact ⟨_, e⟩
  | frz d => cases l
theorem Own.mu_ne (w : Own G B α O H) {p : Addr} (hp : H p = none) : ¬ Mu B α O p := fun m => by
  obtain ⟨o, e⟩ := m.elim (w.bt p) (fun m => m.some w)
  rw [hp] at e; cases e
theorem tabs_keep (t : LamX.Tabs T H) (k : ∀ b o, H b = some o → (∃ ps, o = .tbl ps) ∨ (∃ φ, o = .ext φ) → H' b = some o) : LamX.Tabs T H' := fun p hp => by
  obtain ⟨ps, h1, h2, h3⟩ := t p hp
  refine ⟨ps, k _ _ h1 (.inl ⟨_, rfl⟩), h2, fun pos cv hc => ?_⟩
  obtain ⟨c, e1, e2⟩ := h3 pos cv hc
  exact ⟨c, e1, k _ _ e2 (.inr ⟨_, rfl⟩)⟩
/-- a new object that nobody owns -/
theorem stp_new {p : Addr} {o : HO} (hp : H p = none) : Stp α O H α O (upd H p o) :=
  ⟨⟨[], by simp⟩, fun b u e _ _ => by rw [upd_ne (ne_of_none e hp)]; exact e, fun b e => by
    by_cases hb : b = p
    · rw [hb, upd_same] at e; cases e
    · rw [upd_ne hb] at e; exact e, fun b m => .inl m, fun b m => .inl m, fun b m => .inl m⟩
theorem OAt.stp (s : Stp α O H α' O' H') {a : Addr} {o : DO} (h : OAt K (Mu B α O) H a o) (hm : live o = true → H' a = H a) : OAt K (Mu B α' O') H' a o := by
  cases o with
  | lst ds =>
    obtain ⟨vs, e, r⟩ := h
    exact ⟨vs, (hm rfl).trans e, s.ats r⟩
  | brw ds =>
    obtain ⟨vs, e, r⟩ := h
    exact ⟨vs, (hm rfl).trans e, s.ats r⟩
  | frz d => exact s.at_ h
theorem bt_new (h : ∀ a, B a → ∃ o, H a = some o) {p : Addr} {o : HO} : ∀ a, B a → ∃ u, upd H p o a = some u := fun a m => by
  by_cases e : a = p
  · exact ⟨o, by rw [e, upd_same]⟩
  · obtain ⟨u, q⟩ := h a m
    exact ⟨u, by rw [upd_ne e]; exact q⟩
theorem own_new (w : Own G B α O H) {p : Addr} {o : HO} (hp : H p = none) : Own G B α O (upd H p o) := by
  refine ⟨w.len, w.nd, fun k a u e1 e2 => (w.at_ k a u e1 e2).stp (stp_new hp) fun l => ?_, bt_new w.bt, w.nb, tabs_keep w.tabs fun b u e _ => by rw [upd_ne (ne_of_none e hp)]; exact e⟩
  obtain ⟨q, e⟩ := Ow.some w ⟨k, u, e1, e2, l⟩
  exact upd_ne (ne_of_none e hp)
theorem At.tupNew (w : Own G B α O H) {p : Addr} {vs : List V} {ds : List D} (hp : H p = none) (r : Ats G.K (Mu B α O) H vs ds) : At G.K (Mu B α O) (upd H p (.tup vs)) (.ref p) (.tup ds) :=
  .tup upd_same (w.mu_ne hp) ((stp_new hp).ats r)
theorem At.lstNew (w : Own G B α O H) {p : Addr} {vs : List V} {ds : List D} (hp : H p = none) (r : Ats G.K (Mu B α O) H vs ds) : At G.K (Mu B α O) (upd H p (.lst vs)) (.ref p) (.lst ds) :=
  .lst upd_same (w.mu_ne hp) ((stp_new hp).ats r)
/-- an owned list is written -/
theorem ow_set' {k : Nat} {o o' : DO} (e : O[k]? = some o) (l : live o = true) {b : Addr} (m : Ow α (O.set k o') b) : Ow α O b := by
  obtain ⟨j, u, e1, e2, l2⟩ := m
  by_cases hj : j = k
  · subst hj
    exact ⟨j, o, e1, e, l⟩
  · rw [List.getElem?_set_ne (Ne.symm hj)] at e2
    exact ⟨j, u, e1, e2, l2⟩
theorem ho_set' {k : Nat} {o o' : DO} (e : O[k]? = some o) (l : hot o' = true → hot o = true) {b : Addr} (m : Ho α (O.set k o') b) : Ho α O b := by
  obtain ⟨j, u, e1, e2, l2⟩ := m
  by_cases hj : j = k
  · subst hj
    rw [List.getElem?_set_self (List.getElem?_eq_some_iff.mp e).1] at e2
    cases e2
    exact ⟨j, o, e1, e, l l2⟩
  · rw [List.getElem?_set_ne (Ne.symm hj)] at e2
    exact ⟨j, u, e1, e2, l2⟩
theorem stp_set {k : Nat} {a : Addr} {o : DO} {ds' : List D} {vs : List V} (e1 : α[k]? = some a) (e2 : O[k]? = some o) (l : hot o = true) : Stp α O H α (O.set k (.lst ds')) (upd H a (.lst vs)) := by
  have mu : Ho α O a := ⟨k, _, e1, e2, l⟩
  refine ⟨⟨[], by simp⟩, fun b u e m _ => ?_, fun b e => ?_, fun b m => .inl (ow_set' e2 (hot_live l) m), fun b m => .inl (ho_set' e2 (fun _ => l) m), fun b m => .inl m⟩
  · rw [upd_ne (fun z : b = a => m (by rw [z]; exact mu))]; exact e
  · by_cases hb : b = a
    · rw [hb, upd_same] at e; cases e
    · rw [upd_ne hb] at e; exact e
theorem nodup_at {l : List Addr} (nd : l.Nodup) {i j : Nat} {a : Addr} (h1 : l[i]? = some a) (h2 : l[j]? = some a) : i = j := by
  obtain ⟨b1, e1⟩ := List.getElem?_eq_some_iff.mp h1
  obtain ⟨b2, e2⟩ := List.getElem?_eq_some_iff.mp h2
  exact (List.getElem_inj nd).mp (e1.trans e2.symm)
theorem own_set (w : Own G B α O H) {k : Nat} {a : Addr} {ds ds' : List D} {vs : List V} (e1 : α[k]? = some a) (e2 : O[k]? = some (.lst ds)) (r : Ats G.K (Mu B α O) H vs ds') : Own G B α (O.set k (.lst ds')) (upd H a (.lst vs)) := by
  obtain ⟨vs0, h0, _⟩ := w.at_ k a _ e1 e2
  have s : Stp α O H α (O.set k (.lst ds')) (upd H a (.lst vs)) := stp_set e1 e2 rfl
  refine ⟨by rw [List.length_set]; exact w.len, w.nd, fun j b u f1 f2 => ?_, bt_new w.bt, fun b m => w.nb b (ow_set' e2 rfl m), tabs_keep w.tabs fun b u e z => ?_⟩
  · by_cases hj : j = k
    · subst hj
      rw [e1] at f1; cases f1
      rw [List.getElem?_set_self (List.getElem?_eq_some_iff.mp e2).1] at f2
      cases f2
      exact ⟨vs, upd_same, s.ats r⟩
    · rw [List.getElem?_set_ne (Ne.symm hj)] at f2
      refine (w.at_ j b u f1 f2).stp s fun l => upd_ne fun z => hj (nodup_at w.nd (z ▸ f1) e1)
  · refine (upd_ne fun q => ?_).trans e
    rw [q, h0] at e
    cases e
    rcases z with ⟨_, z⟩ | ⟨_, z⟩ <;> cases z
/-- a new owned list -/
theorem get_snoc {β : Type} {l : List β} {x : β} {j : Nat} {b : β} (h : (l ++ [x])[j]? = some b) : (l[j]? = some b) ∨ (j = l.length ∧ b = x) := by
  by_cases hj : j < l.length
  · rw [List.getElem?_append_left hj] at h; exact .inl h
  · rw [List.getElem?_append_right (by omega)] at h
    obtain ⟨h1, h2⟩ := List.getElem?_eq_some_iff.mp h
    have : j - l.length = 0 := by simpa using h1
    refine .inr ⟨by omega, ?_⟩
    rw [← h2]
    simp [this]
theorem ow_snoc' (w : Own G B α O H) {p : Addr} {o : DO} {b : Addr} (m : Ow (α ++ [p]) (O ++ [o]) b) : Ow α O b ∨ b = p := by
  obtain ⟨j, u, e1, e2, l⟩ := m
  rcases get_snoc e1 with e1 | ⟨e1, eb⟩
  · rcases get_snoc e2 with e2 | ⟨e2, _⟩
    · exact .inl ⟨j, u, e1, e2, l⟩
    · exfalso
      have := (List.getElem?_eq_some_iff.mp e1).1
      rw [w.len] at this
      omega
  · exact .inr eb
theorem ho_snoc' (w : Own G B α O H) {p : Addr} {o : DO} {b : Addr} (m : Ho (α ++ [p]) (O ++ [o]) b) : Ho α O b ∨ b = p := by
  obtain ⟨j, u, e1, e2, l⟩ := m
  rcases get_snoc e1 with e1 | ⟨e1, eb⟩
  · rcases get_snoc e2 with e2 | ⟨e2, _⟩
    · exact .inl ⟨j, u, e1, e2, l⟩
    · exfalso
      have := (List.getElem?_eq_some_iff.mp e1).1
      rw [w.len] at this
      omega
  · exact .inr eb
theorem stp_own (w : Own G B α O H) {p : Addr} {ds : List D} {vs : List V} (hp : H p = none) : Stp α O H (α ++ [p]) (O ++ [.lst ds]) (upd H p (.lst vs)) :=
  ⟨⟨[p], rfl⟩, fun b u e _ _ => by rw [upd_ne (ne_of_none e hp)]; exact e, fun b e => by
    by_cases hb : b = p
    · rw [hb, upd_same] at e; cases e
    · rw [upd_ne hb] at e; exact e, fun b m => by
    rcases ow_snoc' w m with m | rfl
    · exact .inl m
    · exact .inr hp, fun b m => by
    rcases ho_snoc' w m with m | rfl
    · exact .inl m
    · exact .inr hp, fun b m => by
    rcases List.mem_append.mp m with m | m
    · exact .inl m
    · exact .inr (by rw [List.mem_singleton.mp m]; exact hp)⟩
theorem own_fresh (w : Own G B α O H) {p : Addr} (hp : H p = none) : p ∉ α := fun hm => by
  obtain ⟨k, hk, e⟩ := List.mem_iff_getElem.mp hm
  have ek : α[k]? = some p := by rw [List.getElem?_eq_getElem hk, e]
  have hk2 : k < O.length := by rw [← w.len]; exact hk
  have h := w.at_ k p O[k] ek (List.getElem?_eq_getElem hk2)
  cases q : O[k] with
  | lst es =>
    rw [q] at h
    obtain ⟨_, e2, _⟩ := h
    rw [hp] at e2; cases e2
  | brw es =>
    rw [q] at h
    obtain ⟨_, e2, _⟩ := h
    rw [hp] at e2; cases e2
  | frz d =>
    rw [q] at h
    have h2 : At G.K (Mu B α O) H (.ref p) (.lst d) := h
    cases h2 with
    | lst e _ _ => rw [hp] at e; cases e
theorem own_own (w : Own G B α O H) {p : Addr} {ds : List D} {vs : List V} (hp : H p = none) (r : Ats G.K (Mu B α O) H vs ds) : Own G B (α ++ [p]) (O ++ [.lst ds]) (upd H p (.lst vs)) := by
  have s := stp_own (ds := ds) (vs := vs) w hp
  have np := own_fresh w hp
  refine ⟨by simp [w.len], ?_, fun j b u f1 f2 => ?_, bt_new w.bt, fun b m => (ow_snoc' w m).elim (w.nb b) (fun z hb => w.mu_ne hp (.inl (z ▸ hb))), tabs_keep w.tabs fun b u e _ => by rw [upd_ne (ne_of_none e hp)]; exact e⟩
  · rw [List.nodup_append]
    refine ⟨w.nd, by simp, fun a ha b hb => ?_⟩
    rw [List.mem_singleton.mp hb]
    exact fun z => np (z ▸ ha)
  · rcases get_snoc f2 with f2 | ⟨f2, rfl⟩
    · rcases get_snoc f1 with f1 | ⟨f1, _⟩
      · refine (w.at_ j b u f1 f2).stp s fun l => ?_
        obtain ⟨q, e⟩ := Ow.some w ⟨j, u, f1, f2, l⟩
        exact upd_ne (ne_of_none e hp)
      · exfalso
        have := (List.getElem?_eq_some_iff.mp f2).1
        rw [← w.len] at this
        omega
    · rcases get_snoc f1 with f1 | ⟨_, rfl⟩
      · exfalso
        have := (List.getElem?_eq_some_iff.mp f1).1
        rw [w.len] at this
        omega
      · exact ⟨vs, upd_same, s.ats r⟩
theorem atU_own (w : Own G B α O H) {p : Addr} {O' : List DO} {H' : Hp} : AtU G.K B (α ++ [p]) O' H' (.ref p) (.o O.length) :=
  .o (by rw [← w.len]; simp)
/-- an owned list is owned no longer -/
theorem stp_frz {k : Nat} {o : DO} {d : List D} (e2 : O[k]? = some o) (l : live o = true) : Stp α O H α (O.set k (.frz d)) H :=
  ⟨⟨[], by simp⟩, fun b u e _ _ => e, fun b e => e, fun b m => .inl (ow_set' e2 l m), fun b m => .inl (ho_set' e2 (fun z => by cases z) m), fun b m => .inl m⟩
theorem own_frz (w : Own G B α O H) {k : Nat} {ds : List D} (e2 : O[k]? = some (.lst ds)) : Own G B α (O.set k (.frz ds)) H := by
  have s : Stp α O H α (O.set k (.frz ds)) H := stp_frz e2 rfl
  refine ⟨by rw [List.length_set]; exact w.len, w.nd, fun j b u f1 f2 => ?_, w.bt, fun b m => w.nb b (ow_set' e2 rfl m), w.tabs⟩
  by_cases hj : j = k
  · subst hj
    rw [List.getElem?_set_self (List.getElem?_eq_some_iff.mp e2).1] at f2
    cases f2
    obtain ⟨vs, h, r⟩ := w.at_ j b _ f1 e2
    refine .lst h (fun m => ?_) (s.ats r)
    rcases m with m | m
    · exact w.nb b ⟨j, _, f1, e2, rfl⟩ m
    obtain ⟨i, u, g1, g2, l⟩ := m
    have := nodup_at w.nd g1 f1
    subst this
    rw [List.getElem?_set_self (List.getElem?_eq_some_iff.mp e2).1] at g2
    cases g2
    cases l
  · rw [List.getElem?_set_ne (Ne.symm hj)] at f2
    exact (w.at_ j b u f1 f2).stp s fun _ => rfl
/-- the first places alone -/
theorem take_some {β : Type} {l : List β} {n j : Nat} {b : β} (h : (l.take n)[j]? = some b) : l[j]? = some b := by
  rw [List.getElem?_take] at h
  split at h
  · exact h
  · cases h
theorem ow_take {n : Nat} {b : Addr} (m : Ow (α.take n) (O.take n) b) : Ow α O b := by
  obtain ⟨j, u, e1, e2, l⟩ := m
  exact ⟨j, u, take_some e1, take_some e2, l⟩
theorem ho_take {n : Nat} {b : Addr} (m : Ho (α.take n) (O.take n) b) : Ho α O b := by
  obtain ⟨j, u, e1, e2, l⟩ := m
  exact ⟨j, u, take_some e1, take_some e2, l⟩
theorem At.less {M M' : Addr → Prop} (h : ∀ a, M' a → M a) {v : V} {d : D} (a : At K M H v d) : At K M' H v d := a.imp fun b o m e _ => ⟨e, fun z => m (h b z)⟩
theorem Ats.less {M M' : Addr → Prop} (h : ∀ a, M' a → M a) {vs : List V} {ds : List D} (a : Ats K M H vs ds) : Ats K M' H vs ds := a.imp fun b o m e _ => ⟨e, fun z => m (h b z)⟩
theorem OAt.less {M M' : Addr → Prop} (h : ∀ a, M' a → M a) {a : Addr} {o : DO} (q : OAt K M H a o) : OAt K M' H a o := by
  cases o with
  | lst ds =>
    obtain ⟨vs, e, r⟩ := q
    exact ⟨vs, e, r.less h⟩
  | brw ds =>
    obtain ⟨vs, e, r⟩ := q
    exact ⟨vs, e, r.less h⟩
  | frz d => exact At.less h q
theorem mu_take {n : Nat} {b : Addr} (m : Mu B (α.take n) (O.take n) b) : Mu B α O b := m.elim .inl fun m => .inr (ow_take m)
theorem own_take (w : Own G B α O H) (n : Nat) : Own G B (α.take n) (O.take n) H :=
  ⟨by rw [List.length_take, List.length_take, w.len], w.nd.sublist (List.take_sublist _ _), fun k a o e1 e2 => (w.at_ k a o (take_some e1) (take_some e2)).less fun _ => mu_take, w.bt, fun b m => w.nb b (ow_take m), w.tabs⟩
theorem stp_take (s : Stp α O H α' O' H') (w : Own G B α O H) : Stp α O H α (O'.take α.length) H' ∧ α'.take α.length = α := by
  obtain ⟨m, e⟩ := s.pre
  have e2 : α'.take α.length = α := by rw [e, List.take_left' rfl]
  refine ⟨⟨⟨[], by simp⟩, s.keep, s.there, fun b h => s.new b (ow_take (n := α.length) ?_), fun b h => s.hnew b (ho_take (n := α.length) ?_), fun b m => .inl m⟩, e2⟩
  · rw [e2]
    exact h
  · rw [e2]
    exact h
end
end Z

set_option Elab.async false
set_option linter.all false
set_option maxRecDepth 100000
set_option maxHeartbeats 4000000
namespace Z
open PySem PySem.Spec PyProof.Rows L2

/-! ### slots -/
def gt : List (Option U) → Nat → Option U
  | [], _ => none
  | x :: _, 0 => x
  | _ :: r, n + 1 => gt r n
def st : List (Option U) → Nat → U → List (Option U)
  | [], _, _ => []
  | _ :: r, 0, u => some u :: r
  | x :: r, n + 1, u => x :: st r n u
theorem gt_st : ∀ (ρ : List (Option U)) (i j : Nat) (u w : U), gt (st ρ i u) j = some w → (j = i ∧ w = u) ∨ (j ≠ i ∧ gt ρ j = some w)
  | [], _, _, _, _, h => by cases h
  | _ :: _, 0, 0, u, w, h => by
    have h2 : some u = some w := h
    cases h2
    exact .inl ⟨rfl, rfl⟩
  | _ :: _, 0, j + 1, u, w, h => .inr ⟨by omega, h⟩
  | _ :: _, i + 1, 0, u, w, h => .inr ⟨by omega, h⟩
  | _ :: r, i + 1, j + 1, u, w, h => by
    rcases gt_st r i j u w h with ⟨a, b⟩ | ⟨a, b⟩
    · exact .inl ⟨by omega, b⟩
    · exact .inr ⟨by omega, b⟩
def go : List DO → Nat → Option DO
  | [], _ => none
  | x :: _, 0 => some x
  | _ :: r, n + 1 => go r n
theorem go_eq : ∀ (O : List DO) (k : Nat), go O k = O[k]?
  | [], _ => by simp [go]
  | _ :: _, 0 => by simp [go]
  | _ :: r, n + 1 => by simp [go, go_eq r n]
def so : List DO → Nat → DO → List DO
  | [], _, _ => []
  | _ :: r, 0, u => u :: r
  | x :: r, n + 1, u => x :: so r n u
theorem so_eq : ∀ (O : List DO) (k : Nat) (u : DO), so O k u = O.set k u
  | [], _, _ => by simp [so]
  | _ :: _, 0, _ => by simp [so]
  | _ :: r, n + 1, u => by simp [so, so_eq r n u]
/-- .. as data that stays -/
def frzAt (O : List DO) (k : Nat) : Option D := match go O k with
  | some (.frz ds) => some (.lst ds)
  | _ => none
mutual
def toD (O : List DO) : U → Option D
  | .d x => some x
  | .o k => frzAt O k
  | .t us => match toDs O us with
    | some ds => some (.tup ds)
    | none => none
def toDs (O : List DO) : List U → Option (List D)
  | [] => some []
  | u :: us => match toD O u with
    | some d => (match toDs O us with
      | some ds => some (d :: ds)
      | none => none)
    | none => none
end
/-- a value as data -/
def nrm (O : List DO) : U → Option D
  | .d x => some x
  | .o k => match go O k with
    | some (.lst ds) => some (.lst ds)
    | some (.frz ds) => some (.lst ds)
    | some (.brw ds) => some (.lst ds)
    | none => none
  | .t us => toD O (.t us)
structure Exc where
  cls : Str
  fs : List (Str × D)
abbrev ZQ := List U → List DO → Prop
abbrev ZX := Exc → List DO → Prop
abbrev ZE := ZX → List (Option U) → List DO → ZQ → Prop

inductive Vw (K : PySem.W.Frag) (M : Addr → Prop) (H : Hp) : V → D → Prop
  | at_ {v : V} {d : D} : At K M H v d → Vw K M H v d
  | own {a : Addr} {vs : List V} {ds : List D} : H a = some (.lst vs) → Ats K M H vs ds → Vw K M H (.ref a) (.lst ds)
section
variable {K : PySem.W.Frag} {M : Addr → Prop} {H : Hp} {v : V}
theorem Vw.lst {ds : List D} (h : Vw K M H v (.lst ds)) : ∃ a vs, v = .ref a ∧ H a = some (.lst vs) ∧ Ats K M H vs ds := by
  cases h with
  | at_ h => cases h with
    | lst e m r => exact ⟨_, _, rfl, e, r⟩
  | own e r => exact ⟨_, _, rfl, e, r⟩
theorem Vw.tup {ds : List D} (h : Vw K M H v (.tup ds)) : ∃ a vs, v = .ref a ∧ H a = some (.tup vs) ∧ Ats K M H vs ds := by
  cases h with
  | at_ h => cases h with
    | tup e m r => exact ⟨_, _, rfl, e, r⟩
theorem Vw.int {i : Int} (h : Vw K M H v (.int i)) : v = .int i := by
  cases h with
  | at_ h => cases h; rfl
theorem Vw.bl {i : Bool} (h : Vw K M H v (.bl i)) : v = .bl i := by
  cases h with
  | at_ h => cases h; rfl
theorem Vw.str {i : Str} (h : Vw K M H v (.str i)) : v = .str i := by
  cases h with
  | at_ h => cases h; rfl
theorem Vw.non (h : Vw K M H v .non) : v = .non := by
  cases h with
  | at_ h => cases h; rfl
theorem Vw.scr {ns : List Int} (h : Vw K M H v (.scr ns)) : ∃ a, v = .ref a ∧ SqL K H a (ns.map V.int) := by
  cases h with
  | at_ h => cases h with
    | scr e m => exact ⟨_, rfl, .inl e⟩
    | scrK e => exact ⟨_, rfl, e H⟩
end
section
variable {G : Gx} {B : Addr → Prop} {α α' : List Addr} {O O' : List DO} {H H' : Hp}
theorem At.frz (w : Own G B α O H) {k : Nat} {a : Addr} {d : D} (e1 : α[k]? = some a) (e : frzAt O k = some d) : At G.K (Mu B α O) H (.ref a) d := by
  unfold frzAt at e
  rw [go_eq] at e
  cases q : O[k]? with
  | none => rw [q] at e; cases e
  | some o =>
    rw [q] at e
    have h := w.at_ k a o e1 q
    cases o with
    | lst ds => cases e
    | brw ds => cases e
    | frz ds =>
      cases e
      exact h
mutual
theorem At.of (w : Own G B α O H) : ∀ {u : U} {v : V} {d : D}, AtU G.K B α O H v u → toD O u = some d → At G.K (Mu B α O) H v d
  | .d x, v, d, h, e => by
    rw [toD] at e
    cases e
    cases h with
    | d a => exact a
  | .o k, v, d, h, e => by
    rw [toD] at e
    cases h with
    | o e1 => exact At.frz w e1 e
  | .t us, v, d, h, e => by
    rw [toD] at e
    cases h with
    | t e1 m r =>
      cases q : toDs O us with
      | none => rw [q] at e; cases e
      | some ds =>
        rw [q] at e
        cases e
        exact .tup e1 m (Ats.of w r q)
theorem Ats.of (w : Own G B α O H) : ∀ {us : List U} {vs : List V} {ds : List D}, AtUs G.K B α O H vs us → toDs O us = some ds → Ats G.K (Mu B α O) H vs ds
  | [], _, _, h, e => by
    rw [toDs] at e
    cases e
    cases h
    exact .nil
  | u :: us, _, _, h, e => by
    rw [toDs] at e
    cases h with
    | cons a r =>
      cases q : toD O u with
      | none => rw [q] at e; cases e
      | some d =>
        rw [q] at e
        cases q2 : toDs O us with
        | none => rw [q2] at e; cases e
        | some ds =>
          rw [q2] at e
          cases e
          exact .cons (At.of w a q) (Ats.of w r q2)
end
theorem Vw.of (w : Own G B α O H) {v : V} {u : U} {d : D} (a : AtU G.K B α O H v u) (e : nrm O u = some d) : Vw G.K (Mu B α O) H v d := by
  cases u with
  | d x =>
    cases e
    cases a with
    | d a => exact .at_ a
  | o k =>
    cases a with
    | @o _ b e1 =>
    have e' : (match go O k with
      | some (.lst ds) => some (D.lst ds)
      | some (.frz ds) => some (.lst ds)
      | some (.brw ds) => some (.lst ds)
      | none => none) = some d := e
    rw [go_eq] at e'
    cases q : O[k]? with
    | none => rw [q] at e'; cases e'
    | some o =>
      rw [q] at e'
      have h := w.at_ k b o e1 q
      cases o with
      | lst ds =>
        cases e'
        obtain ⟨vs, h1, h2⟩ := h
        exact .own h1 h2
      | brw ds =>
        cases e'
        obtain ⟨vs, h1, h2⟩ := h
        exact .own h1 h2
      | frz ds =>
        cases e'
        exact .at_ h
  | t us => exact .at_ (At.of w a e)
end

/-! ### the state against the slots; exceptions -/
structure Rep (G : Gx) (B : Addr → Prop) (α : List Addr) (σ : L2.St) (H : Hp) (ρ : List (Option U)) (O : List DO) : Prop where
  vars : ∀ i u, gt ρ i = some u → ∃ v, σ[i]? = some (some v) ∧ AtU G.K B α O H v u
  own : Own G B α O H
  len : ρ.length ≤ σ.length
def ExAt (G : Gx) (M : Addr → Prop) (x : Exc) (cls : Value) (d : Option Addr) (H : Hp) : Prop :=
  cls = .ref (He.ga G.K x.cls) ∧ ∃ dx fs, d = some dx ∧ H dx = some (.xd fs) ∧ ¬ M dx ∧ fs.map (·.1) = x.fs.map (·.1) ∧ Ats G.K M H (fs.map (·.2)) (x.fs.map (·.2))
/-- the wish E0 is served by the wish W0 from here on -/
def ELow (G : Gx) (B : Addr → Prop) (W0 : XK) (α : List Addr) (O : List DO) (H : Hp) (E0 : ZX) : Prop :=
  ∀ x O', E0 x O' → ∀ α' cls dd H', Stp α O H α' O' H' → Own G B α' O' H' → ExAt G (Mu B α' O') x cls dd H' → W0 cls dd H'
def QLow (G : Gx) (B : Addr → Prop) (α : List Addr) (O : List DO) (H : Hp) (Q0 : ZQ) (Q : VK) : Prop :=
  ∀ us O', Q0 us O' → ∃ u, us = [u] ∧ ∀ α' v H', Stp α O H α' O' H' → Own G B α' O' H' → AtU G.K B α' O' H' v u → Q v H'
def ALow (G : Gx) (B : Addr → Prop) (α : List Addr) (O : List DO) (H : Hp) (Q0 : ZQ) (Q : List V → Hp → Prop) : Prop :=
  ∀ us O', Q0 us O' → ∀ α' vs H', Stp α O H α' O' H' → Own G B α' O' H' → AtUs G.K B α' O' H' vs us → Q vs H'
def BLow (G : Gx) (B : Addr → Prop) (α : List Addr) (O : List DO) (H : Hp) (Q0 : ZQ) (Q : Bool → Hp → Prop) : Prop :=
  ∀ us O', Q0 us O' → ∃ b, us = [.d (.bl b)] ∧ ∀ α' H', Stp α O H α' O' H' → Own G B α' O' H' → Q b H'
section
variable {G : Gx} {B : Addr → Prop} {α α' : List Addr} {O O' : List DO} {H H' : Hp} {W0 : XK} {E0 : ZX} {ρ : List (Option U)} {σ : L2.St}
theorem Rep.stp (r : Rep G B α σ H ρ O) (s : Stp α O H α' O' H') (w : Own G B α' O' H') : Rep G B α' σ H' ρ O' :=
  ⟨fun i u e => let ⟨v, h1, h2⟩ := r.vars i u e; ⟨v, h1, s.atU h2⟩, w, r.len⟩
theorem ELow.stp (h : ELow G B W0 α O H E0) (s : Stp α O H α' O' H') : ELow G B W0 α' O' H' E0 :=
  fun x O2 e α2 cls dd H2 s2 w2 q => h x O2 e α2 cls dd H2 (s.trans s2) w2 q
end

/-- an expression's reading by data -/
def LfE (G : Gx) (W0 : XK) (t : ZE) : TE := fun σ H Q => ∃ B α ρ O Q0 E0, Rep G B α σ H ρ O ∧ t E0 ρ O Q0 ∧ QLow G B α O H Q0 Q ∧ ELow G B W0 α O H E0
def LfT (G : Gx) (W0 : XK) (t : ZE) : TT := fun σ H Q => ∃ B α ρ O Q0 E0, Rep G B α σ H ρ O ∧ t E0 ρ O Q0 ∧ BLow G B α O H Q0 Q ∧ ELow G B W0 α O H E0
def LfA (G : Gx) (W0 : XK) (t : ZE) : TA := fun σ H Q => ∃ B α ρ O Q0 E0, Rep G B α σ H ρ O ∧ t E0 ρ O Q0 ∧ ALow G B α O H Q0 Q ∧ ELow G B W0 α O H E0
theorem pe_imp {X : Cx} {e : Expr} {t t' : TE} (h : PE X e t) (i : ∀ σ H Q, t' σ H Q → t σ H Q) : PE X e t' := ⟨fun pins s σ H Q I q => h.run pins s σ H Q I (i σ H Q q)⟩
theorem pt_imp {X : Cx} {e : Expr} {t t' : TT} (h : PT X e t) (i : ∀ σ H Q, t' σ H Q → t σ H Q) : PT X e t' := ⟨fun pins s σ H Q I q => h.run pins s σ H Q I (i σ H Q q)⟩
theorem pw_imp {X : Cx} {e : Expr} {t t' : TT} (h : PW X e t) (i : ∀ σ H Q, t' σ H Q → t σ H Q) : PW X e t' := ⟨fun wh pins s σ H Q I q => h.run wh pins s σ H Q I (i σ H Q q)⟩
theorem pa_imp {X : Cx} {e : List Expr} {t t' : TA} (h : PA X e t) (i : ∀ σ H Q, t' σ H Q → t σ H Q) : PA X e t' := ⟨fun pos pins s σ H Q I q => h.run pos pins s σ H Q I (i σ H Q q)⟩
abbrev SE (X : Cx) (G : Gx) (W0 : XK) (e : Expr) (t : ZE) : Prop := PE X e (LfE G W0 t)
abbrev ST (X : Cx) (G : Gx) (W0 : XK) (e : Expr) (t : ZE) : Prop := PT X e (LfT G W0 t)
abbrev SA (X : Cx) (G : Gx) (W0 : XK) (e : List Expr) (t : ZE) : Prop := PA X e (LfA G W0 t)

/-! ### operations on data -/
def addD : D → D → (D → Prop) → Prop
  | .int i, .int j, Q => Q (.int (i + j))
  | .str a, .str b, Q => a.length + b.length ≤ sizeLine ∧ Q (.str (a ++ b))
  | .lst a, .lst b, Q => a.length + b.length ≤ sizeLine ∧ Q (.lst (a ++ b))
  | .tup a, .tup b, Q => a.length + b.length ≤ sizeLine ∧ Q (.tup (a ++ b))
  | _, _, _ => False
def subD : D → D → (D → Prop) → Prop
  | .int i, .int j, Q => Q (.int (i - j))
  | _, _, _ => False
/-- two factors of together less than a million bits -/
def MulOk (i j : Int) : Prop := IntMulOk i j
theorem op_mulX {X : Cx} : OpR X (binaryOp .Mult) (rI IntMulOk fun i j => .int (i * j)) := opI fun _ _ _ _ _ _ _ hc q => mul_int q hc
theorem mulOk_bits {i j : Int} {a b : Nat} (ha : i.natAbs < 2 ^ a) (hb : j.natAbs < 2 ^ b) (h0 : 0 < a) (h1 : 0 < b) (h : a + b ≤ 1000000) : MulOk i j := (wide_mul ha hb h0 h1 h).ok
theorem mulOk_r {i j : Int} (h1 : -(2 ^ 64) < j) (h2 : j < 2 ^ 64) : MulOk i j := CMul.ok (.inr ⟨h1, h2⟩)
theorem mulOk_l {i j : Int} (h1 : -(2 ^ 64) < i) (h2 : i < 2 ^ 64) : MulOk i j := CMul.ok (.inl ⟨h1, h2⟩)
def mulD : D → D → (D → Prop) → Prop
  | .int i, .int j, Q => MulOk i j ∧ Q (.int (i * j))
  | .lst a, .int k, Q => (-(2 ^ 63) ≤ k ∧ k < 2 ^ 63 ∧ a.length * k.toNat ≤ sizeLine) ∧ Q (.lst (List.replicate k.toNat a).flatten)
  | .tup a, .int k, Q => (1 ≤ k ∧ k ≤ 1000 ∧ a ≠ [] ∧ a.length ≤ 1000) ∧ Q (.tup (List.replicate k.toNat a).flatten)
  | _, _, _ => False
def DivOk (j : Int) : Prop := j ≠ 0 ∧ j.natAbs.log2 < 9000
def fdivD : D → D → (D → Prop) → Prop
  | .int i, .int j, Q => DivOk j ∧ Q (.int (i.fdiv j))
  | _, _, _ => False
def modD : D → D → (D → Prop) → Prop
  | .int i, .int j, Q => j ≠ 0 ∧ Q (.int (i.fmod j))
  | _, _, _ => False
def powD : D → D → (D → Prop) → Prop
  | .int i, .int j, Q => CPow i j ∧ Q (.int (i ^ j.toNat))
  | _, _, _ => False
def binD : Operator → D → D → (D → Prop) → Prop
  | .Add => addD
  | .Sub => subD
  | .Mult => mulD
  | .FloorDiv => fdivD
  | .Mod => modD
  | .Pow => powD
  | _ => fun _ _ _ => False
/-- an operation on values that makes new data -/
def rB (G : Gx) (op : D → D → (D → Prop) → Prop) : R2 := fun v w H Q => ∃ B α O x y Q0, Own G B α O H ∧ Vw G.K (Mu B α O) H v x ∧ Vw G.K (Mu B α O) H w y ∧ op x y Q0 ∧
  ∀ z, Q0 z → ∀ v' H', Stp α O H α O H' → Own G B α O H' → At G.K (Mu B α O) H' v' z → Q v' H'
section
variable {X : Cx} {G : Gx}
theorem rb_new {B : Addr → Prop} {α : List Addr} {O : List DO} {H : Hp} (w : Own G B α O H) {Q0 : D → Prop} {Q : VK} {z : D} (h0 : Q0 z)
    (hq : ∀ z, Q0 z → ∀ v' H', Stp α O H α O H' → Own G B α O H' → At G.K (Mu B α O) H' v' z → Q v' H') {v : V} (a : At G.K (Mu B α O) H v z) : Q v H := hq z h0 v H Stp.refl w a
theorem rb_lst {B : Addr → Prop} {α : List Addr} {O : List DO} {H : Hp} (w : Own G B α O H) {Q0 : D → Prop} {Q : VK} {ds : List D} {vs : List V} (h0 : Q0 (.lst ds))
    (hq : ∀ z, Q0 z → ∀ v' H', Stp α O H α O H' → Own G B α O H' → At G.K (Mu B α O) H' v' z → Q v' H') (r : Ats G.K (Mu B α O) H vs ds) : ∀ p, H p = none → Q (.ref p) (upd H p (.lst vs)) := fun p hp =>
  hq _ h0 _ _ (stp_new hp) (own_new w hp) (At.lstNew w hp r)
theorem rb_tup {B : Addr → Prop} {α : List Addr} {O : List DO} {H : Hp} (w : Own G B α O H) {Q0 : D → Prop} {Q : VK} {ds : List D} {vs : List V} (h0 : Q0 (.tup ds))
    (hq : ∀ z, Q0 z → ∀ v' H', Stp α O H α O H' → Own G B α O H' → At G.K (Mu B α O) H' v' z → Q v' H') (r : Ats G.K (Mu B α O) H vs ds) : ∀ p, H p = none → Q (.ref p) (upd H p (.tup vs)) := fun p hp =>
  hq _ h0 _ _ (stp_new hp) (own_new w hp) (At.tupNew w hp r)
theorem op_fdivX : OpR X (binaryOp .FloorDiv) (rI (fun _ j => DivOk j) fun i j => .int (i.fdiv j)) := opI fun _ _ _ _ _ _ _ hc q => floordiv_int hc.1 q (.inl (PyProof.noPylong_of_log2 hc.2))
theorem ats_rep {B : Addr → Prop} {α : List Addr} {O : List DO} {H : Hp} {ds : List D} {vs : List V} (r : Ats G.K (Mu B α O) H vs ds) : ∀ k, Ats G.K (Mu B α O) H (List.replicate k vs).flatten (List.replicate k ds).flatten
  | 0 => .nil
  | k + 1 => by
    rw [List.replicate_succ, List.replicate_succ, List.flatten_cons, List.flatten_cons]
    exact r.append (ats_rep r k)
theorem opr_add (hK : X.K = G.K) : OpR X (binaryOp .Add) (rB G addD) := by
  intro pins s σ H v w v' w' Q I rv rw' ⟨B, α, O, x, y, Q0, ow, ax, ay, h, hq⟩
  cases x with
  | int i =>
    cases y with
    | int j =>
      obtain rfl := ax.int
      obtain rfl := ay.int
      exact op_add pins s σ H _ _ v' w' Q I rv rw' ⟨i, j, rfl, rfl, rb_new ow h hq (.int _)⟩
    | _ => exact h.elim
  | str i =>
    cases y with
    | str j =>
      obtain rfl := ax.str
      obtain rfl := ay.str
      exact op_add_str pins s σ H _ _ v' w' Q I rv rw' ⟨i, j, rfl, rfl, h.1, rb_new ow h.2 hq (.str _)⟩
    | _ => exact h.elim
  | lst i =>
    cases y with
    | lst j =>
      obtain ⟨a, vs, rfl, e, r⟩ := ax.lst
      obtain ⟨b, ws, rfl, e2, r2⟩ := ay.lst
      exact op_cat pins s σ H _ _ v' w' Q I rv rw' ⟨a, b, vs, ws, rfl, rfl, e, e2, by rw [r.length, r2.length]; exact h.1, rb_lst ow h.2 hq (r.append r2)⟩
    | _ => exact h.elim
  | tup i =>
    cases y with
    | tup j =>
      obtain ⟨a, vs, rfl, e, r⟩ := ax.tup
      obtain ⟨b, ws, rfl, e2, r2⟩ := ay.tup
      refine op_catA pins s σ H _ _ v' w' Q I rv rw' ⟨a, b, vs, ws, rfl, rfl, by rw [hK]; exact SqT.of e, by rw [hK]; exact SqT.of e2, by rw [r.length, r2.length]; exact h.1, fun z => ?_, fun _ z => ?_, fun _ _ => rb_tup ow h.2 hq (r.append r2)⟩
      · subst z
        cases r
        cases ay with
        | at_ ay => exact rb_new ow h.2 hq ay
      · subst z
        cases r2
        cases ax with
        | at_ ax => exact rb_new ow h.2 hq (by rw [List.append_nil]; exact ax)
    | _ => exact h.elim
  | _ => exact h.elim
theorem opr_sub (hK : X.K = G.K) : OpR X (binaryOp .Sub) (rB G subD) := by
  intro pins s σ H v w v' w' Q I rv rw' ⟨B, α, O, x, y, Q0, ow, ax, ay, h, hq⟩
  cases x with
  | int i =>
    cases y with
    | int j =>
      obtain rfl := ax.int
      obtain rfl := ay.int
      exact op_sub pins s σ H _ _ v' w' Q I rv rw' ⟨i, j, rfl, rfl, rb_new ow h hq (.int _)⟩
    | _ => exact h.elim
  | _ => exact h.elim
theorem tuple_mul1 (l : Addr) (items : Array Value) (n : Nat) (dd : Option Addr) (sl : Array (Option Value)) (u : Tok) :
    Meets (Builtin.«tuple.__mul__» ⟨[.ref l, .int 1 u], []⟩) (fun _ R s => s.heap.get? l = some { cls := .type "tuple", dict := dd, data := .seq items n, slots := sl } ∧ R (.ok (.ret (Value.ref l))) s) :=
  .of_wp fun prog w A R s h => by
    obtain ⟨hp, g, d, tk, os⟩ := s
    obtain ⟨hl, h⟩ := h
    have f1 := AutoSeq1.idx_int
    wp_walk using wpAny_loadPart' hl
    exact ⟨_, rfl, h⟩
theorem op_repT1 {X : Cx} : OpR X (binaryOp .Mult) (fun x y H Q => ∃ l xs, x = .ref l ∧ y = .int 1 ∧ SqT X.K H l xs ∧ Q (.ref l) H) := by
  intro pins s σ H x y v u Q I rx ry h
  obtain ⟨l, xs, rfl, rfl, hT, q⟩ := h
  cases rx
  obtain ⟨t, rfl⟩ := ry
  obtain ⟨its, r, ⟨⟨cls, dd, data, sl⟩, ho, hc, n, hd⟩, hs⟩ := I.tuple hT
  simp only at hc hd
  subst hc hd
  refine wpAny_binaryOp_repeat_ref (T := "tuple") (U := "int") (by decide) ⟨_, ho, rfl⟩ (fun s' => typeIs_int s' 1 t) noFill_tuple_mul F.fills_int_mul F.slot_int_rmul repeat_tuple F.slot_int_index.lookup
    (call_meets F.slot_int_rmul (typeIs_int s 1 t) F.entry_int_rmul (F.args_int_rmul_2 _ _) (int_rmul_tuple 1 t l its.toArray n dd sl)
      ⟨ho, rfl, ⟨_, ho, rfl⟩, call_meets F.slot_tuple_mul ⟨_, ho, rfl⟩ F.entry_tuple_mul (F.args_tuple_mul_2 _ _) (tuple_mul1 l its.toArray n dd sl t) ⟨ho, ?_⟩⟩)
  exact ⟨.ref l, H, I, rfl, q⟩
theorem opr_mul (hK : X.K = G.K) : OpR X (binaryOp .Mult) (rB G mulD) := by
  intro pins s σ H v w v' w' Q I rv rw' ⟨B, α, O, x, y, Q0, ow, ax, ay, h, hq⟩
  cases x with
  | int i =>
    cases y with
    | int j =>
      obtain rfl := ax.int
      obtain rfl := ay.int
      exact op_mulX pins s σ H _ _ v' w' Q I rv rw' ⟨i, j, rfl, rfl, h.1, rb_new ow h.2 hq (.int _)⟩
    | _ => exact h.elim
  | lst i =>
    cases y with
    | int j =>
      obtain ⟨a, vs, rfl, e, r⟩ := ax.lst
      obtain rfl := ay.int
      exact op_rep pins s σ H _ _ v' w' Q I rv rw' ⟨a, j, vs, rfl, rfl, e, h.1.1, h.1.2.1, by rw [r.length]; exact h.1.2.2, rb_lst ow h.2 hq (ats_rep r _)⟩
    | _ => exact h.elim
  | tup i =>
    cases y with
    | int j =>
      obtain ⟨a, vs, rfl, e, r⟩ := ax.tup
      obtain rfl := ay.int
      obtain ⟨⟨h1, h2, h3, h4⟩, h5⟩ := h
      by_cases hj : j = 1
      · subst hj
        have e1 : (List.replicate (Int.toNat 1) i).flatten = i := by
          show (List.replicate 1 i).flatten = i
          simp
        rw [e1] at h5
        refine op_repT1 pins s σ H _ _ v' w' Q I rv rw' ⟨a, vs, rfl, rfl, by rw [hK]; exact SqT.of e, ?_⟩
        cases ax with
        | at_ ax => exact rb_new ow h5 hq ax
      · refine op_repT pins s σ H _ _ v' w' Q I rv rw' ⟨a, j, vs, rfl, rfl, by rw [hK]; exact SqT.of e, fun z => ?_, by omega, h2, by rw [r.length]; exact h4, rb_tup ow h5 hq (ats_rep r _)⟩
        rw [z] at r
        cases r
        exact h3 rfl
    | _ => exact h.elim
  | _ => exact h.elim
theorem opr_fdiv (hK : X.K = G.K) : OpR X (binaryOp .FloorDiv) (rB G fdivD) := by
  intro pins s σ H v w v' w' Q I rv rw' ⟨B, α, O, x, y, Q0, ow, ax, ay, h, hq⟩
  cases x with
  | int i =>
    cases y with
    | int j =>
      obtain rfl := ax.int
      obtain rfl := ay.int
      exact op_fdivX pins s σ H _ _ v' w' Q I rv rw' ⟨i, j, rfl, rfl, h.1, rb_new ow h.2 hq (.int _)⟩
    | _ => exact h.elim
  | _ => exact h.elim
theorem opr_mod (hK : X.K = G.K) : OpR X (binaryOp .Mod) (rB G modD) := by
  intro pins s σ H v w v' w' Q I rv rw' ⟨B, α, O, x, y, Q0, ow, ax, ay, h, hq⟩
  cases x with
  | int i =>
    cases y with
    | int j =>
      obtain rfl := ax.int
      obtain rfl := ay.int
      exact op_modN pins s σ H _ _ v' w' Q I rv rw' ⟨i, j, rfl, rfl, h.1, rb_new ow h.2 hq (.int _)⟩
    | _ => exact h.elim
  | _ => exact h.elim
theorem opr_pow (hK : X.K = G.K) : OpR X (binaryOp .Pow) (rB G powD) := by
  intro pins s σ H v w v' w' Q I rv rw' ⟨B, α, O, x, y, Q0, ow, ax, ay, h, hq⟩
  cases x with
  | int i =>
    cases y with
    | int j =>
      obtain rfl := ax.int
      obtain rfl := ay.int
      exact op_pow pins s σ H _ _ v' w' Q I rv rw' ⟨i, j, rfl, rfl, h.1, rb_new ow h.2 hq (.int _)⟩
    | _ => exact h.elim
  | _ => exact h.elim
theorem opr_bin (hK : X.K = G.K) : ∀ op, OpR X (binaryOp op) (rB G (binD op))
  | .Add => opr_add hK
  | .Sub => opr_sub hK
  | .Mult => opr_mul hK
  | .FloorDiv => opr_fdiv hK
  | .Mod => opr_mod hK
  | .Pow => opr_pow hK
  | .MatMult => fun _ _ _ _ _ _ _ _ _ _ _ _ ⟨_, _, _, _, _, _, _, _, _, h, _⟩ => h.elim
  | .Div => fun _ _ _ _ _ _ _ _ _ _ _ _ ⟨_, _, _, _, _, _, _, _, _, h, _⟩ => h.elim
  | .LShift => fun _ _ _ _ _ _ _ _ _ _ _ _ ⟨_, _, _, _, _, _, _, _, _, h, _⟩ => h.elim
  | .RShift => fun _ _ _ _ _ _ _ _ _ _ _ _ ⟨_, _, _, _, _, _, _, _, _, h, _⟩ => h.elim
  | .BitOr => fun _ _ _ _ _ _ _ _ _ _ _ _ ⟨_, _, _, _, _, _, _, _, _, h, _⟩ => h.elim
  | .BitXor => fun _ _ _ _ _ _ _ _ _ _ _ _ ⟨_, _, _, _, _, _, _, _, _, h, _⟩ => h.elim
  | .BitAnd => fun _ _ _ _ _ _ _ _ _ _ _ _ ⟨_, _, _, _, _, _, _, _, _, h, _⟩ => h.elim
end
end Z

set_option Elab.async false
set_option linter.all false
set_option maxRecDepth 100000
set_option maxHeartbeats 4000000
namespace Z
open PySem PySem.Spec PyProof.Rows L2

/-! ### equality -/
mutual
def toP : D → PyData
  | .non => .none
  | .bl b => .bool b
  | .int i => .int i
  | .str x => .str x
  | .tup ds => .tuple (toPs ds)
  | .lst ds => .list (toPs ds)
  | .dct _ _ => .dict []
  | .obj _ _ _ => .dict []
  | .scr _ => .dict []
def toPs : List D → List PyData
  | [] => []
  | d :: ds => toP d :: toPs ds
end
section
variable {K : PySem.W.Frag} {M : Addr → Prop} {H : Hp}
mutual
theorem At.dp : ∀ {d : D} {v : V}, At K M H v d → (toP d).canLay0 = true → Dp K H v (toP d)
  | .non, _, h, _ => by cases h; exact .non
  | .bl b, _, h, _ => by cases h; exact .bl b
  | .int i, _, h, _ => by cases h; exact .int i
  | .str x, _, h, _ => by cases h; exact .str x
  | .tup ds, _, h, c => by
    cases h with
    | tup e m r => exact .tup (SqT.of e) (Ats.dp r c)
  | .lst ds, _, h, c => by
    cases h with
    | lst e m r => exact .lst (SqL.of e) (Ats.dp r c)
  | .dct _ _, _, h, c => by cases c
  | .obj _ _ _, _, h, c => by cases c
  | .scr _, _, h, c => by cases c
theorem Ats.dp : ∀ {ds : List D} {vs : List V}, Ats K M H vs ds → PyData.canLayAll0 (toPs ds) = true → DpAll K H vs (toPs ds)
  | [], _, h, _ => by cases h; exact .nil
  | d :: ds, _, h, c => by
    cases h with
    | cons a r =>
      have c' : ((toP d).canLay0 && PyData.canLayAll0 (toPs ds)) = true := c
      rw [Bool.and_eq_true] at c'
      exact .cons (At.dp a c'.1) (Ats.dp r c'.2)
end
theorem Vw.dp {d : D} {v : V} (h : Vw K M H v d) (c : (toP d).canLay0 = true) : Dp K H v (toP d) := by
  cases h with
  | at_ h => exact h.dp c
  | own e r => exact .lst (SqL.of e) (r.dp c)
end
def Shp (d : D) : Prop := SeqAt.shaped (toP d) = true
def eqD : D → D → (Bool → Prop) → Prop
  | .int i, .int j, Q => Q (decide (i = j))
  | .str a, .str b, Q => Q (decide (a = b))
  | x, y, Q => Shp x ∧ Shp y ∧ Q (PyData.eqv (toP x) (toP y))
def flat : D → Bool
  | .non => true
  | .bl _ => true
  | .int _ => true
  | .str _ => true
  | _ => false
def toV : D → V
  | .non => .non
  | .bl b => .bl b
  | .int i => .int i
  | .str x => .str x
  | _ => .non
def inD : D → D → (Bool → Prop) → Prop
  | .str x, .str z, Q => ∃ c : Nat, x = ⟨#[c]⟩ ∧ Q (decide (c ∈ z.cps.toList))
  | x, .lst ds, Q => flat x = true ∧ ds.all flat = true ∧ Q (inV (toV x) (ds.map toV))
  | x, .tup ds, Q => flat x = true ∧ ds.all flat = true ∧ Q (inV (toV x) (ds.map toV))
  | _, _, _ => False
def isD : D → D → (Bool → Prop) → Prop
  | .non, .non, Q => Q true
  | _, .non, Q => Q false
  | _, _, _ => False
def cmpD : CmpOp → D → D → (Bool → Prop) → Prop
  | .Eq, x, y, Q => eqD x y Q
  | .NotEq, x, y, Q => eqD x y fun b => Q (!b)
  | .Lt, .int i, .int j, Q => Q (decide (i < j))
  | .LtE, .int i, .int j, Q => Q (decide (i ≤ j))
  | .Gt, .int i, .int j, Q => Q (decide (j < i))
  | .GtE, .int i, .int j, Q => Q (decide (j ≤ i))
  | .Lt, .str i, .str j, Q => Q (decide (i.cps.toList < j.cps.toList))
  | .Is, x, y, Q => isD x y Q
  | .IsNot, x, y, Q => isD x y fun b => Q (!b)
  | .In, x, y, Q => inD x y Q
  | .NotIn, x, y, Q => inD x y fun b => Q (!b)
  | _, _, _, _ => False
/-- a comparison on values -/
def rC (G : Gx) (op : D → D → (Bool → Prop) → Prop) : R2 := fun v w H Q => ∃ B α O x y Q0, Own G B α O H ∧ Vw G.K (Mu B α O) H v x ∧ Vw G.K (Mu B α O) H w y ∧ op x y Q0 ∧ ∀ b, Q0 b → Q (.bl b) H
section
variable {X : Cx} {G : Gx}
theorem flat_v {K : PySem.W.Frag} {M : Addr → Prop} {H : Hp} {v : V} {x : D} (h : At K M H v x) (f : flat x = true) : v = toV x ∧ flatV (toV x) = true := by
  cases h <;> first | exact ⟨rfl, rfl⟩ | cases f
theorem flat_vw {K : PySem.W.Frag} {M : Addr → Prop} {H : Hp} {v : V} {x : D} (h : Vw K M H v x) (f : flat x = true) : v = toV x ∧ flatV (toV x) = true := by
  cases h with
  | at_ h => exact flat_v h f
  | own _ _ => cases f
theorem flat_vs {K : PySem.W.Frag} {M : Addr → Prop} {H : Hp} : ∀ {vs : List V} {ds : List D}, Ats K M H vs ds → ds.all flat = true → vs = ds.map toV ∧ (ds.map toV).all flatV = true
  | _, _, .nil, _ => ⟨rfl, rfl⟩
  | _, _, .cons a r, f => by
    rw [List.all_cons, Bool.and_eq_true] at f
    obtain ⟨e1, e2⟩ := flat_v a f.1
    obtain ⟨e3, e4⟩ := flat_vs r f.2
    refine ⟨by rw [e1, e3] <;> rfl, ?_⟩
    rw [List.map_cons, List.all_cons, Bool.and_eq_true]
    exact ⟨e2, e4⟩
theorem eq_deep (hu : X.A.units + 64 < cLine) (hK : X.K = G.K) {pins : List (Addr × Obj)} {s : Shared} {σ : L2.St} {H : Hp} {v w : V} {v' w' : Value} {Q : VK} (I : Inv X pins σ H s) (rv : RelV v v') (rw' : RelV w w') {M : Addr → Prop} {x y : D}
    (ax : Vw G.K M H v x) (ay : Vw G.K M H w y) {Q0 : Bool → Prop} (h : Shp x ∧ Shp y ∧ Q0 (PyData.eqv (toP x) (toP y))) (hq : ∀ b, Q0 b → Q (.bl b) H) : wpAny (model X.prog X.w) X.A (compareOp .Eq v' w') (EP X pins σ Q) X.xe s :=
  op_eqD hu pins s σ H v w v' w' Q I rv rw' ⟨_, _, by rw [hK]; exact ax.dp (SeqAt.canLay_of_shaped h.1), by rw [hK]; exact ay.dp (SeqAt.canLay_of_shaped h.2.1), h.1, h.2.1, hq _ h.2.2⟩
theorem ne_deep (hu : X.A.units + 64 < cLine) (hK : X.K = G.K) {pins : List (Addr × Obj)} {s : Shared} {σ : L2.St} {H : Hp} {v w : V} {v' w' : Value} {Q : VK} (I : Inv X pins σ H s) (rv : RelV v v') (rw' : RelV w w') {M : Addr → Prop} {x y : D}
    (ax : Vw G.K M H v x) (ay : Vw G.K M H w y) {Q0 : Bool → Prop} (h : Shp x ∧ Shp y ∧ Q0 (!PyData.eqv (toP x) (toP y))) (hq : ∀ b, Q0 b → Q (.bl b) H) : wpAny (model X.prog X.w) X.A (compareOp .NotEq v' w') (EP X pins σ Q) X.xe s :=
  op_neD hu pins s σ H v w v' w' Q I rv rw' ⟨_, _, by rw [hK]; exact ax.dp (SeqAt.canLay_of_shaped h.1), by rw [hK]; exact ay.dp (SeqAt.canLay_of_shaped h.2.1), h.1, h.2.1, hq _ h.2.2⟩
theorem eqD_split {x y : D} {Q : Bool → Prop} (h : eqD x y Q) : (∃ i j, x = .int i ∧ y = .int j ∧ Q (decide (i = j))) ∨ (∃ i j, x = .str i ∧ y = .str j ∧ Q (decide (i = j))) ∨ (Shp x ∧ Shp y ∧ Q (PyData.eqv (toP x) (toP y))) := by
  unfold eqD at h
  split at h
  · exact .inl ⟨_, _, rfl, rfl, h⟩
  · exact .inr (.inl ⟨_, _, rfl, rfl, h⟩)
  · exact .inr (.inr h)
theorem opc_eq (hu : X.A.units + 64 < cLine) (hK : X.K = G.K) : OpR X (compareOp .Eq) (rC G eqD) := by
  intro pins s σ H v w v' w' Q I rv rw' ⟨B, α, O, x, y, Q0, ow, ax, ay, h, hq⟩
  rcases eqD_split h with ⟨i, j, rfl, rfl, h⟩ | ⟨i, j, rfl, rfl, h⟩ | h
  · obtain rfl := ax.int
    obtain rfl := ay.int
    exact op_eq pins s σ H _ _ v' w' Q I rv rw' ⟨rfl, by have := hq _ h; simpa using this⟩
  · obtain rfl := ax.str
    obtain rfl := ay.str
    exact op_eq pins s σ H _ _ v' w' Q I rv rw' ⟨rfl, by have := hq _ h; simpa using this⟩
  · exact eq_deep hu hK I rv rw' ax ay h hq
theorem opc_ne (hu : X.A.units + 64 < cLine) (hK : X.K = G.K) : OpR X (compareOp .NotEq) (rC G fun x y Q => eqD x y fun b => Q (!b)) := by
  intro pins s σ H v w v' w' Q I rv rw' ⟨B, α, O, x, y, Q0, ow, ax, ay, h, hq⟩
  rcases eqD_split h with ⟨i, j, rfl, rfl, h⟩ | ⟨i, j, rfl, rfl, h⟩ | h
  · obtain rfl := ax.int
    obtain rfl := ay.int
    exact op_ne pins s σ H _ _ v' w' Q I rv rw' ⟨rfl, by have := hq _ h; simpa using this⟩
  · obtain rfl := ax.str
    obtain rfl := ay.str
    exact op_ne pins s σ H _ _ v' w' Q I rv rw' ⟨rfl, by have := hq _ h; simpa using this⟩
  · exact ne_deep hu hK I rv rw' ax ay h hq
theorem isD_split {x y : D} {Q : Bool → Prop} (h : isD x y Q) : y = .non ∧ ((x = .non ∧ Q true) ∨ (x ≠ .non ∧ Q false)) := by
  unfold isD at h
  split at h
  · exact ⟨rfl, .inl ⟨rfl, h⟩⟩
  · rename_i z
    exact ⟨rfl, .inr ⟨z, h⟩⟩
  · exact h.elim
theorem vw_nonnon {K : PySem.W.Frag} {M : Addr → Prop} {H : Hp} {v : V} {x : D} (h : Vw K M H v x) (n : x ≠ .non) : v ≠ .non := by
  cases h with
  | at_ h => cases h <;> first | exact absurd rfl n | (intro z; cases z)
  | own _ _ => intro z; cases z
theorem opc_is (hK : X.K = G.K) : OpR X (compareOp .Is) (rC G isD) := by
  intro pins s σ H v w v' w' Q I rv rw' ⟨B, α, O, x, y, Q0, ow, ax, ay, h, hq⟩
  obtain ⟨rfl, h2⟩ := isD_split h
  obtain rfl := ay.non
  rcases h2 with ⟨rfl, h⟩ | ⟨n, h⟩
  · obtain rfl := ax.non
    exact op_isN pins s σ H _ _ v' w' Q I rv rw' ⟨rfl, by have := hq _ h; simpa using this⟩
  · exact op_isN pins s σ H _ _ v' w' Q I rv rw' ⟨rfl, by rw [decide_eq_false (vw_nonnon ax n)]; exact hq _ h⟩
theorem opc_isnot (hK : X.K = G.K) : OpR X (compareOp .IsNot) (rC G fun x y Q => isD x y fun b => Q (!b)) := by
  intro pins s σ H v w v' w' Q I rv rw' ⟨B, α, O, x, y, Q0, ow, ax, ay, h, hq⟩
  obtain ⟨rfl, h2⟩ := isD_split h
  obtain rfl := ay.non
  rcases h2 with ⟨rfl, h⟩ | ⟨n, h⟩
  · obtain rfl := ax.non
    exact op_notN pins s σ H _ _ v' w' Q I rv rw' ⟨rfl, by have := hq _ h; simpa using this⟩
  · exact op_notN pins s σ H _ _ v' w' Q I rv rw' ⟨rfl, by rw [decide_eq_false (vw_nonnon ax n)]; exact hq _ h⟩
theorem inD_split {x y : D} {Q : Bool → Prop} (h : inD x y Q) : (∃ (c : Nat) (z : Str), x = .str ⟨#[c]⟩ ∧ y = .str z ∧ Q (decide (c ∈ z.cps.toList))) ∨ (∃ ds, (y = .lst ds ∨ y = .tup ds) ∧ flat x = true ∧ ds.all flat = true ∧ Q (inV (toV x) (ds.map toV))) := by
  unfold inD at h
  split at h
  · obtain ⟨c, rfl, h⟩ := h
    exact .inl ⟨c, _, rfl, rfl, h⟩
  · exact .inr ⟨_, .inl rfl, h⟩
  · exact .inr ⟨_, .inr rfl, h⟩
  · exact h.elim
theorem vw_seq {K : PySem.W.Frag} {M : Addr → Prop} {H : Hp} {v : V} {y : D} {ds : List D} (h : Vw K M H v y) (e : y = .lst ds ∨ y = .tup ds) : ∃ a vs, v = .ref a ∧ (SqL K H a vs ∨ SqT K H a vs) ∧ Ats K M H vs ds := by
  rcases e with rfl | rfl
  · obtain ⟨a, vs, rfl, e, r⟩ := h.lst
    exact ⟨a, vs, rfl, .inl (SqL.of e), r⟩
  · obtain ⟨a, vs, rfl, e, r⟩ := h.tup
    exact ⟨a, vs, rfl, .inr (SqT.of e), r⟩
theorem opc_in (hK : X.K = G.K) : OpR X (compareOp .In) (rC G inD) := by
  intro pins s σ H v w v' w' Q I rv rw' ⟨B, α, O, x, y, Q0, ow, ax, ay, h, hq⟩
  rcases inD_split h with ⟨c, z, rfl, rfl, h2⟩ | ⟨ds, e, f1, f2, h⟩
  · obtain rfl := ax.str
    obtain rfl := ay.str
    exact op_in_sign pins s σ H _ _ v' w' Q I rv rw' ⟨c, z, rfl, rfl, hq _ h2⟩
  · obtain ⟨a, vs, rfl, hs, r⟩ := vw_seq ay e
    obtain ⟨rfl, g1⟩ := flat_vw ax f1
    obtain ⟨rfl, g2⟩ := flat_vs r f2
    exact op_in_seq pins s σ H _ _ v' w' Q I rv rw' ⟨a, _, rfl, by rw [hK]; exact hs, g1, g2, hq _ h⟩
theorem opc_notin (hK : X.K = G.K) : OpR X (compareOp .NotIn) (rC G fun x y Q => inD x y fun b => Q (!b)) := by
  intro pins s σ H v w v' w' Q I rv rw' ⟨B, α, O, x, y, Q0, ow, ax, ay, h, hq⟩
  rcases inD_split h with ⟨c, z, rfl, rfl, h2⟩ | ⟨ds, e, f1, f2, h⟩
  · obtain rfl := ax.str
    obtain rfl := ay.str
    exact op_notIn_sign pins s σ H _ _ v' w' Q I rv rw' ⟨c, z, rfl, rfl, hq _ h2⟩
  · obtain ⟨a, vs, rfl, hs, r⟩ := vw_seq ay e
    obtain ⟨rfl, g1⟩ := flat_vw ax f1
    obtain ⟨rfl, g2⟩ := flat_vs r f2
    exact op_notIn_seq pins s σ H _ _ v' w' Q I rv rw' ⟨a, _, rfl, by rw [hK]; exact hs, g1, g2, hq _ h⟩
theorem opc_int {op : CmpOp} {p : Int → Int → Bool} (o : OpR X (compareOp op) (rI0 fun i j => .bl (p i j))) {f : D → D → (Bool → Prop) → Prop} (hf : ∀ x y Q, f x y Q → ∃ i j, x = .int i ∧ y = .int j ∧ Q (p i j)) : OpR X (compareOp op) (rC G f) := by
  intro pins s σ H v w v' w' Q I rv rw' ⟨B, α, O, x, y, Q0, ow, ax, ay, h, hq⟩
  obtain ⟨i, j, rfl, rfl, h2⟩ := hf _ _ _ h
  obtain rfl := ax.int
  obtain rfl := ay.int
  exact o pins s σ H _ _ v' w' Q I rv rw' ⟨i, j, rfl, rfl, hq _ h2⟩
theorem opc_lt : OpR X (compareOp .Lt) (rC G (cmpD .Lt)) := by
  intro pins s σ H v w v' w' Q I rv rw' ⟨B, α, O, x, y, Q0, ow, ax, ay, h, hq⟩
  cases x with
  | int i =>
    cases y with
    | int j =>
      obtain rfl := ax.int
      obtain rfl := ay.int
      exact op_lt pins s σ H _ _ v' w' Q I rv rw' ⟨i, j, rfl, rfl, hq _ h⟩
    | _ => exact h.elim
  | str i =>
    cases y with
    | str j =>
      obtain rfl := ax.str
      obtain rfl := ay.str
      exact op_lt_str pins s σ H _ _ v' w' Q I rv rw' ⟨i, j, rfl, rfl, hq _ h⟩
    | _ => exact h.elim
  | _ => exact h.elim
theorem opc_all (hu : X.A.units + 64 < cLine) (hK : X.K = G.K) : ∀ op, OpR X (compareOp op) (rC G (cmpD op))
  | .Eq => opc_eq hu hK
  | .NotEq => opc_ne hu hK
  | .Lt => opc_lt
  | .LtE => opc_int op_le fun x y Q h => by cases x <;> cases y <;> first | exact h.elim | exact ⟨_, _, rfl, rfl, h⟩
  | .Gt => opc_int op_gt fun x y Q h => by cases x <;> cases y <;> first | exact h.elim | exact ⟨_, _, rfl, rfl, h⟩
  | .GtE => opc_int op_ge fun x y Q h => by cases x <;> cases y <;> first | exact h.elim | exact ⟨_, _, rfl, rfl, h⟩
  | .Is => opc_is hK
  | .IsNot => opc_isnot hK
  | .In => opc_in hK
  | .NotIn => opc_notin hK
end

/-! ### places and cuts -/
def ixD : D → D → (D → Prop) → Prop
  | .lst ds, .int i, Q => ∃ d, atI ds i = some d ∧ Q d
  | .tup ds, .int i, Q => ∃ d, atI ds i = some d ∧ Q d
  | .str z, .int i, Q => ∃ c, z.length ≤ sizeLine ∧ atI z.cps.toList i = some c ∧ Q (.str ⟨#[c]⟩)
  | _, _, _ => False
def cutL {β : Type} (xs : List β) (lo hi : Option Int) : List β := (xs.drop (HT.sIx xs.length 0 lo)).take (HT.sIx xs.length xs.length hi - HT.sIx xs.length 0 lo)
def slD : D → Option Int → Option Int → (D → Prop) → Prop
  | .lst ds, lo, hi, Q => Q (.lst (cutL ds lo hi))
  | .tup ds, lo, hi, Q => Q (.tup (cutL ds lo hi))
  | .scr ns, lo, hi, Q => Q (.lst ((cutL ns lo hi).map .int))
  | .str z, lo, hi, Q => z.length ≤ sizeLine ∧ Q (.str (cutS z lo hi))
  | _, _, _, _ => False
section
variable {X : Cx} {G : Gx} {K : PySem.W.Frag} {M : Addr → Prop} {H : Hp}
theorem Ats.atI {vs : List V} {ds : List D} (r : Ats K M H vs ds) {i : Int} {d : D} (e : atI ds i = some d) : ∃ v, L2.atI vs i = some v ∧ At K M H v d := by
  unfold L2.atI at e ⊢
  rw [r.length]
  cases q : ixN ds.length i with
  | none => rw [q] at e; cases e
  | some j =>
    rw [q] at e
    exact r.get' (i := j) e
theorem Ats.cut {vs : List V} {ds : List D} (r : Ats K M H vs ds) (lo hi : Option Int) : Ats K M H (cutV vs lo hi) (cutL ds lo hi) := by
  unfold cutV cutL
  rw [r.length]
  exact (r.drop _).take _
theorem ix_r (hK : X.K = G.K) : IxR X (rB G ixD) := by
  intro value slice pins s σ H v w v' w' Q I rv rw' ⟨B, α, O, x, y, Q0, ow, ax, ay, h, hq⟩ hsub
  cases y with
  | int i =>
    obtain rfl := ay.int
    cases x with
    | lst ds =>
      obtain ⟨a, vs, rfl, e, r⟩ := ax.lst
      obtain ⟨d, e2, h⟩ := h
      obtain ⟨u, e3, au⟩ := r.atI e2
      exact ix_list value slice pins s σ H _ _ v' w' Q I rv rw' ⟨a, vs, i, u, rfl, rfl, SqL.of e, e3, rb_new ow h hq au⟩ hsub
    | tup ds =>
      obtain ⟨a, vs, rfl, e, r⟩ := ax.tup
      obtain ⟨d, e2, h⟩ := h
      obtain ⟨u, e3, au⟩ := r.atI e2
      exact ix_tup value slice pins s σ H _ _ v' w' Q I rv rw' ⟨a, vs, i, u, rfl, rfl, SqT.of e, e3, rb_new ow h hq au⟩ hsub
    | str z =>
      obtain rfl := ax.str
      obtain ⟨c, hz, e2, h⟩ := h
      exact ix_str value slice pins s σ H _ _ v' w' Q I rv rw' ⟨z, i, c, rfl, rfl, hz, e2, rb_new ow h hq (.str _)⟩ hsub
    | _ => exact h.elim
  | _ => cases x <;> exact h.elim
def rS (G : Gx) : V → Option Int → Option Int → Hp → VK → Prop := fun v lo hi H Q => ∃ B α O x Q0, Own G B α O H ∧ Vw G.K (Mu B α O) H v x ∧ slD x lo hi Q0 ∧
  ∀ z, Q0 z → ∀ v' H', Stp α O H α O H' → Own G B α O H' → At G.K (Mu B α O) H' v' z → Q v' H'
theorem cut_whole {β : Type} {xs : List β} {lo hi : Option Int} (h : HT.sIx xs.length 0 lo = 0 ∧ HT.sIx xs.length xs.length hi = xs.length) : cutL xs lo hi = xs := by
  unfold cutL
  rw [h.1, h.2]
  simp
theorem cut_map {β γ : Type} (f : β → γ) (xs : List β) (lo hi : Option Int) : cutL (xs.map f) lo hi = (cutL xs lo hi).map f := by
  unfold cutL
  rw [List.length_map, List.map_take, List.map_drop]
theorem sl_r (hK : X.K = G.K) : SlR X (rS G) := by
  intro pins s σ H v v' vl vu lo hi sl Q I rv hs pl pu ⟨B, α, O, x, Q0, ow, ax, h, hq⟩
  cases x with
  | lst ds =>
    obtain ⟨a, vs, rfl, e, r⟩ := ax.lst
    exact sl_list pins s σ H _ v' vl vu lo hi sl Q I rv hs pl pu ⟨a, vs, rfl, SqL.of e, rb_lst ow h hq (r.cut lo hi)⟩
  | scr ns =>
    obtain ⟨a, rfl, e⟩ := ax.scr
    refine sl_list pins s σ H _ v' vl vu lo hi sl Q I rv hs pl pu ⟨a, _, rfl, by rw [hK]; exact e, rb_lst ow h hq ?_⟩
    have : cutV (ns.map V.int) lo hi = (cutL ns lo hi).map V.int := cut_map V.int ns lo hi
    rw [this]
    exact Ats.ints _
  | tup ds =>
    obtain ⟨a, vs, rfl, e, r⟩ := ax.tup
    refine sl_tupA pins s σ H _ v' vl vu lo hi sl Q I rv hs pl pu ⟨a, vs, rfl, SqT.of e, ?_⟩
    first
      | exact ⟨fun z => (by
          have z' := z
          rw [r.length] at z'
          have e2 := cut_whole z'
          cases ax with
          | at_ ax => exact rb_new ow h hq (by rw [e2]; exact ax)), fun _ => rb_tup ow h hq (r.cut lo hi)⟩
  | str z =>
    obtain rfl := ax.str
    exact sl_str pins s σ H _ v' vl vu lo hi sl Q I rv hs pl pu ⟨z, rfl, h.1, rb_new ow h.2 hq (.str _)⟩
  | _ => exact h.elim
end

/-! ### built-ins on data -/
def lenD : List D → (D → Prop) → Prop
  | [.lst ds], Q => Q (.int ds.length)
  | [.tup ds], Q => Q (.int ds.length)
  | [.scr ns], Q => Q (.int ns.length)
  | [.str z], Q => z.length ≤ sizeLine ∧ Q (.int z.length)
  | _, _ => False
def absD : List D → (D → Prop) → Prop
  | [.int i], Q => Q (.int (i.natAbs : Nat))
  | _, _ => False
def intD : List D → (D → Prop) → Prop
  | [.int i], Q => Q (.int i)
  | [.bl b], Q => Q (.int (if b = true then 1 else 0))
  | _, _ => False
def listD : List D → (D → Prop) → Prop
  | [.lst ds], Q => Q (.lst ds)
  | [.tup ds], Q => Q (.lst ds)
  | [.scr ns], Q => Q (.lst (ns.map .int))
  | _, _ => False
def tupleD : List D → (D → Prop) → Prop
  | [.lst ds], Q => Q (.tup ds)
  | [.tup ds], Q => Q (.tup ds)
  | _, _ => False
def sumD : List D → (D → Prop) → Prop
  | [.lst ds], Q => ∃ ns : List Int, ds = ns.map .int ∧ Q (.int ns.sum)
  | _, _ => False
def allD : List D → (D → Prop) → Prop
  | [.lst ds], Q => ∃ bs : List Bool, ds = bs.map .bl ∧ Q (.bl (bs.all id))
  | _, _ => False
def anyD : List D → (D → Prop) → Prop
  | [.lst ds], Q => ∃ bs : List Bool, ds = bs.map .bl ∧ Q (.bl (bs.any id))
  | _, _ => False
def minD : List D → (D → Prop) → Prop
  | [.int i, .int j], Q => Q (.int (min i j))
  | _, _ => False
def maxD : List D → (D → Prop) → Prop
  | [.int i, .int j], Q => Q (.int (max i j))
  | _, _ => False
def rL (G : Gx) (op : List D → (D → Prop) → Prop) : List V → Hp → VK → Prop := fun vs H Q => ∃ B α O ds Q0, Own G B α O H ∧ Paired (Vw G.K (Mu B α O) H) vs ds ∧ op ds Q0 ∧
  ∀ z, Q0 z → ∀ v' H', Stp α O H α O H' → Own G B α O H' → At G.K (Mu B α O) H' v' z → Q v' H'
theorem paired1 {β γ : Type} {F : β → γ → Prop} {vs : List β} {d : γ} (h : Paired F vs [d]) : ∃ v, vs = [v] ∧ F v d := by
  cases h with
  | cons a r => cases r; exact ⟨_, rfl, a⟩
theorem paired2 {β γ : Type} {F : β → γ → Prop} {vs : List β} {d e : γ} (h : Paired F vs [d, e]) : ∃ v w, vs = [v, w] ∧ F v d ∧ F w e := by
  cases h with
  | cons a r =>
    obtain ⟨w, rfl, b⟩ := paired1 r
    exact ⟨_, w, rfl, a, b⟩
section
variable {X : Cx} {G : Gx} {K : PySem.W.Frag} {M : Addr → Prop} {H : Hp}
theorem Ats.toInts : ∀ {ns : List Int} {vs : List V}, Ats K M H vs (ns.map .int) → vs = ns.map V.int
  | [], _, h => by cases h; rfl
  | n :: ns, _, h => by
    cases h with
    | cons a r => cases a; rw [Ats.toInts r]; rfl
theorem Ats.toBls : ∀ {ns : List Bool} {vs : List V}, Ats K M H vs (ns.map .bl) → vs = ns.map V.bl
  | [], _, h => by cases h; rfl
  | n :: ns, _, h => by
    cases h with
    | cons a r => cases a; rw [Ats.toBls r]; rfl
theorem Ats.int1 (ns : List Int) : Ats K M H (ns.map V.int) (ns.map .int) := Ats.ints ns
theorem cb_len (hK : X.K = G.K) : CallR X (.builtin "len") (rL G lenD) := by
  intro pins s σ H vs us Q I r ⟨B, α, O, ds, Q0, ow, ap, h, hq⟩
  unfold lenD at h
  split at h
  · obtain ⟨v, rfl, a⟩ := paired1 ap
    obtain ⟨p, ws, rfl, e, q⟩ := a.lst
    exact call_len pins s σ H _ us Q I r ⟨_, _, rfl, .inl ⟨ws, SqL.of e, rfl⟩, by rw [q.length]; exact rb_new ow h hq (.int _)⟩
  · obtain ⟨v, rfl, a⟩ := paired1 ap
    obtain ⟨p, ws, rfl, e, q⟩ := a.tup
    exact call_len pins s σ H _ us Q I r ⟨_, _, rfl, .inr ⟨ws, SqT.of e, rfl⟩, by rw [q.length]; exact rb_new ow h hq (.int _)⟩
  · obtain ⟨v, rfl, a⟩ := paired1 ap
    obtain ⟨p, rfl, e⟩ := a.scr
    exact call_len pins s σ H _ us Q I r ⟨_, _, rfl, .inl ⟨_, by rw [hK]; exact e, rfl⟩, by rw [List.length_map]; exact rb_new ow h hq (.int _)⟩
  · obtain ⟨v, rfl, a⟩ := paired1 ap
    obtain rfl := a.str
    exact call_len pins s σ H _ us Q I r ⟨_, _, rfl, ⟨h.1, rfl⟩, rb_new ow h.2 hq (.int _)⟩
  · exact h.elim
theorem cb_abs (hK : X.K = G.K) : CallR X (.builtin "abs") (rL G absD) := by
  intro pins s σ H vs us Q I r ⟨B, α, O, ds, Q0, ow, ap, h, hq⟩
  unfold absD at h
  split at h
  · rename_i i
    obtain ⟨v, rfl, a⟩ := paired1 ap
    obtain rfl := a.int
    refine call_abs pins s σ H _ us Q I r ⟨_, rfl, ?_⟩
    have e : (if i < 0 then -i else i) = ((i.natAbs : Nat) : Int) := by split <;> omega
    rw [e]
    exact rb_new ow h hq (.int _)
  · exact h.elim
theorem cb_int (hK : X.K = G.K) : CallR X (.type "int") (rL G intD) := by
  intro pins s σ H vs us Q I r ⟨B, α, O, ds, Q0, ow, ap, h, hq⟩
  unfold intD at h
  split at h
  · obtain ⟨v, rfl, a⟩ := paired1 ap
    obtain rfl := a.int
    exact call_int1 pins s σ H _ us Q I r (.inl ⟨_, rfl, rb_new ow h hq (.int _)⟩)
  · obtain ⟨v, rfl, a⟩ := paired1 ap
    obtain rfl := a.bl
    exact call_int1 pins s σ H _ us Q I r (.inr ⟨_, rfl, rb_new ow h hq (.int _)⟩)
  · exact h.elim
theorem cb_list (hK : X.K = G.K) : CallR X (.type "list") (rL G listD) := by
  intro pins s σ H vs us Q I r ⟨B, α, O, ds, Q0, ow, ap, h, hq⟩
  unfold listD at h
  split at h
  · obtain ⟨v, rfl, a⟩ := paired1 ap
    obtain ⟨p, ws, rfl, e, q⟩ := a.lst
    exact call_list_of pins s σ H _ us Q I r ⟨_, _, rfl, .inl (SqL.of e), rb_lst ow h hq q⟩
  · obtain ⟨v, rfl, a⟩ := paired1 ap
    obtain ⟨p, ws, rfl, e, q⟩ := a.tup
    exact call_list_of pins s σ H _ us Q I r ⟨_, _, rfl, .inr (SqT.of e), rb_lst ow h hq q⟩
  · obtain ⟨v, rfl, a⟩ := paired1 ap
    obtain ⟨p, rfl, e⟩ := a.scr
    exact call_list_of pins s σ H _ us Q I r ⟨_, _, rfl, .inl (by rw [hK]; exact e), rb_lst ow h hq (Ats.ints _)⟩
  · exact h.elim
theorem cb_tuple (hK : X.K = G.K) : CallR X (.type "tuple") (rL G tupleD) := by
  intro pins s σ H vs us Q I r ⟨B, α, O, ds, Q0, ow, ap, h, hq⟩
  unfold tupleD at h
  split at h
  · obtain ⟨v, rfl, a⟩ := paired1 ap
    obtain ⟨p, ws, rfl, e, q⟩ := a.lst
    exact call_tuple_of pins s σ H _ us Q I r ⟨_, _, rfl, .inl ⟨SqL.of e, rb_tup ow h hq q⟩⟩
  · obtain ⟨v, rfl, a⟩ := paired1 ap
    obtain ⟨p, ws, rfl, e, q⟩ := a.tup
    refine call_tuple_of pins s σ H _ us Q I r ⟨_, _, rfl, .inr ⟨SqT.of e, ?_⟩⟩
    cases a with
    | at_ a => exact rb_new ow h hq a
  · exact h.elim
theorem cb_sum (hK : X.K = G.K) (hc : X.calm = true) : CallR X (.builtin "sum") (rL G sumD) := by
  intro pins s σ H vs us Q I r ⟨B, α, O, ds, Q0, ow, ap, h, hq⟩
  unfold sumD at h
  split at h
  · obtain ⟨v, rfl, a⟩ := paired1 ap
    obtain ⟨p, ws, rfl, e, q⟩ := a.lst
    obtain ⟨ns, rfl, h⟩ := h
    obtain rfl := q.toInts
    exact cr_sum hc pins s σ H _ us Q I r ⟨_, ns, rfl, SqL.of e, rb_new ow h hq (.int _)⟩
  · exact h.elim
theorem cb_all (hK : X.K = G.K) (hc : X.calm = true) : CallR X (.builtin "all") (rL G allD) := by
  intro pins s σ H vs us Q I r ⟨B, α, O, ds, Q0, ow, ap, h, hq⟩
  unfold allD at h
  split at h
  · obtain ⟨v, rfl, a⟩ := paired1 ap
    obtain ⟨p, ws, rfl, e, q⟩ := a.lst
    obtain ⟨ns, rfl, h⟩ := h
    obtain rfl := q.toBls
    exact cr_all hc pins s σ H _ us Q I r ⟨_, ns, rfl, SqL.of e, rb_new ow h hq (.bl _)⟩
  · exact h.elim
theorem cb_any (hK : X.K = G.K) (hc : X.calm = true) : CallR X (.builtin "any") (rL G anyD) := by
  intro pins s σ H vs us Q I r ⟨B, α, O, ds, Q0, ow, ap, h, hq⟩
  unfold anyD at h
  split at h
  · obtain ⟨v, rfl, a⟩ := paired1 ap
    obtain ⟨p, ws, rfl, e, q⟩ := a.lst
    obtain ⟨ns, rfl, h⟩ := h
    obtain rfl := q.toBls
    exact cr_any hc pins s σ H _ us Q I r ⟨_, ns, rfl, SqL.of e, rb_new ow h hq (.bl _)⟩
  · exact h.elim
theorem cb_min (hK : X.K = G.K) (hc : X.calm = true) : CallR X (.builtin "min") (rL G minD) := by
  intro pins s σ H vs us Q I r ⟨B, α, O, ds, Q0, ow, ap, h, hq⟩
  unfold minD at h
  split at h
  · rename_i i j
    obtain ⟨v, w, rfl, a, b⟩ := paired2 ap
    obtain rfl := a.int
    obtain rfl := b.int
    refine call_min2 hc pins s σ H _ us Q I r ⟨_, _, rfl, ?_⟩
    have e : (if j < i then j else i) = min i j := by split <;> omega
    rw [e]
    exact rb_new ow h hq (.int _)
  · exact h.elim
theorem cb_max (hK : X.K = G.K) (hc : X.calm = true) : CallR X (.builtin "max") (rL G maxD) := by
  intro pins s σ H vs us Q I r ⟨B, α, O, ds, Q0, ow, ap, h, hq⟩
  unfold maxD at h
  split at h
  · rename_i i j
    obtain ⟨v, w, rfl, a, b⟩ := paired2 ap
    obtain rfl := a.int
    obtain rfl := b.int
    refine call_max2 hc pins s σ H _ us Q I r ⟨_, _, rfl, ?_⟩
    have e : (if j > i then j else i) = max i j := by split <;> omega
    rw [e]
    exact rb_new ow h hq (.int _)
  · exact h.elim
end
end Z

set_option Elab.async false
set_option linter.all false
set_option maxRecDepth 100000
set_option maxHeartbeats 4000000
namespace Z
open PySem PySem.Spec PyProof.Rows L2

/-! ### the resolved text -/
/-- a target: a slot; a tuple of targets -/
inductive T1 where
  | nm (i : Nat) | tp (r : T1) | nil | cons (a r : T1)
/-- built-ins that take data -/
inductive BF where
  | len | abs | int | list | tuple | sum | all | any | min | max
def BF.name : BF → Str
  | .len => "len" | .abs => "abs" | .int => "int" | .list => "list" | .tuple => "tuple" | .sum => "sum" | .all => "all" | .any => "any" | .min => "min" | .max => "max"
def BF.op : BF → List D → (D → Prop) → Prop
  | .len => lenD | .abs => absD | .int => intD | .list => listD | .tuple => tupleD | .sum => sumD | .all => allD | .any => anyD | .min => minD | .max => maxD
inductive Y where
  | var (i : Nat) | int (i : Int) | bl (b : Bool) | non | str (x : Str) | gint (x : Str) (i : Int) | gstr (x z : Str)
  | bin (op : Operator) (a b : Y) | neg (a : Y) | not (a : Y) | and (a b : Y) | or (a b : Y) | one (a : Y)
  | cmp (op : CmpOp) (a b : Y) | chain (o p : CmpOp) (a b c : Y) | ite (c a b : Y)
  | tup (es : Y) | tupU (es : Y) | lst (own : Bool) (es : Y)
  | call (g : Nat) (es : Y) | blt (f : BF) (es : Y) | lis (z : Y) | isi (a : Y) (cs : List String)
  | ix (a b : Y) | sl (a lo hi : Y) | rep (a b : Y)
  | comp (own : Bool) (vs : List Nat) (tg : T1) (src tst elt : Y)
  | app (r z : Y) | fz (z : Y)
  | nil | cons (a r : Y) | star (a r : Y) | nop | sm (a : Y) | yes
  | seq (z : Y) | rng (a : Y) | rng2 (a b : Y) | enm (z : Y) | zip (a b : Y) | rev (z : Y)

/-! ### calls of defs by data -/
abbrev ZSp := List U → List DO → (U → List DO → Prop) → ZX → Prop
mutual
def shU (f : Nat → Nat) : U → U
  | .d x => .d x
  | .o k => .o (f k)
  | .t us => .t (shUs f us)
def shUs (f : Nat → Nat) : List U → List U
  | [] => []
  | u :: us => shU f u :: shUs f us
end
/-- the arguments of a call: owned places are lent (the first to be written, the others to be read), all else is data that stays -/
def lendU (O : List DO) : Bool → List U → Nat → Option (List U × List Nat × List DO)
  | _, [], _ => some ([], [], [])
  | fst, u :: us, j => match u with
    | .o k => (match go O k with
      | some (.lst ds) => (match lendU O false us (j + 1) with
        | some (r, ks, L) => some (.o j :: r, k :: ks, (if fst = true then .lst ds else .brw ds) :: L)
        | none => none)
      | some (.brw ds) => (match lendU O false us (j + 1) with
        | some (r, ks, L) => some (.o j :: r, k :: ks, .brw ds :: L)
        | none => none)
      | some (.frz ds) => (match lendU O false us j with
        | some (r, ks, L) => some (.d (.lst ds) :: r, ks, L)
        | none => none)
      | none => none)
    | u => (match toD O u with
      | some d => (match lendU O false us j with
        | some (r, ks, L) => some (.d d :: r, ks, L)
        | none => none)
      | none => none)
/-- the lent places come back -/
def mrg : List Nat → List DO → List DO → List DO → Option (List DO)
  | [], [], A, O => some (O ++ A)
  | k :: ks, .lst _ :: L, a :: A, O => mrg ks L A (so O k a)
  | _ :: ks, .brw _ :: L, .brw _ :: A, O => mrg ks L A O
  | _, _, _, _ => none
def ren : List Nat → Nat → Nat → Nat
  | [], n, j => n + j
  | k :: _, _, 0 => k
  | _ :: ks, n, j + 1 => ren ks n j
def callZ (P : ZSp) (us : List U) (O : List DO) (Q : U → List DO → Prop) (E : ZX) : Prop :=
  ∃ r ks L, lendU O true us 0 = some (r, ks, L) ∧ ks.Nodup ∧
    P r L (fun u O' => ∃ O2, mrg ks L O' O = some O2 ∧ Q (shU (ren ks O.length) u) O2) (fun x O' => ∃ O2, mrg ks L O' O = some O2 ∧ E x (O2.take O.length))

/-! ### what is to be shown -/
def oneK (us : List U) (k : U → Prop) : Prop := match us with
  | [u] => k u
  | _ => False
def boolK (us : List U) (k : Bool → Prop) : Prop := match us with
  | [.d (.bl b)] => k b
  | _ => False
def nrK (O : List DO) (u : U) (k : D → Prop) : Prop := match nrm O u with
  | some x => k x
  | none => False
def toK (O : List DO) (u : U) (k : D → Prop) : Prop := match toD O u with
  | some x => k x
  | none => False
def tosK (O : List DO) (us : List U) (k : List D → Prop) : Prop := match toDs O us with
  | some ds => k ds
  | none => False
def nrs (O : List DO) : List U → Option (List D)
  | [] => some []
  | u :: us => match nrm O u with
    | some d => (match nrs O us with
      | some ds => some (d :: ds)
      | none => none)
    | none => none
def nrsK (O : List DO) (us : List U) (k : List D → Prop) : Prop := match nrs O us with
  | some ds => k ds
  | none => False
/-- read for a walk: an owned list is borrowed -/
def brK (O : List DO) (u : U) (k : D → List DO → Prop) : Prop := match u with
  | .o j => (match go O j with
    | some (.lst ds) => k (.lst ds) (so O j (.brw ds))
    | some (.brw ds) => k (.lst ds) O
    | some (.frz ds) => k (.lst ds) O
    | none => False)
  | u => (match toD O u with
    | some x => k x O
    | none => False)
/-- .. and given back -/
def unb1 : DO → DO → DO
  | .lst _, .brw ds => .lst ds
  | _, x => x
def unb : List DO → List DO → List DO
  | [], s => s
  | _ :: _, [] => []
  | o :: r, x :: s => unb1 o x :: unb r s
/-- the kind of a value -/
def tyD : D → Option String
  | .non => some "NoneType" | .bl _ => some "bool" | .int _ => some "int" | .str _ => some "str" | .tup _ => some "tuple" | .lst _ => some "list" | .scr _ => none | .dct _ _ => some "dict" | .obj _ _ _ => none
def tyU (O : List DO) : U → Option String
  | .d x => tyD x
  | .o k => match go O k with
    | some _ => some "list"
    | none => none
  | .t _ => some "tuple"
def isiB (t : String) (cs : List String) : Option Bool := match cs with
  | [] => some false
  | c :: r => match kitB t c with
    | some true => some true
    | some false => isiB t r
    | none => none
mutual
def bindT : T1 → D → List (Option U) → (List (Option U) → Prop) → Prop
  | .nm i, d, ρ, k => k (st ρ i (.d d))
  | .tp r, d, ρ, k => match d with
    | .tup ds => bindTs r ds ρ k
    | _ => False
  | .nil, _, _, _ => False
  | .cons _ _, _, _, _ => False
def bindTs : T1 → List D → List (Option U) → (List (Option U) → Prop) → Prop
  | .nil, ds, ρ, k => match ds with
    | [] => k ρ
    | _ :: _ => False
  | .cons a r, ds, ρ, k => match ds with
    | d :: ds => bindT a d ρ fun ρ1 => bindTs r ds ρ1 k
    | [] => False
  | .nm _, _, _, _ => False
  | .tp _, _, _, _ => False
end
def wipeR (ρ : List (Option U)) : List Nat → List (Option U)
  | [] => ρ
  | v :: vs => rm (wipeR ρ vs) v
where rm : List (Option U) → Nat → List (Option U)
  | [], _ => []
  | _ :: r, 0 => none :: r
  | x :: r, n + 1 => x :: rm r n
/-- a comprehension's turns -/
def compR (tg : T1) (vt ve : List (Option U) → List DO → ZQ → Prop) (ρ0 : List (Option U)) (n : Nat) : List D → List D → List DO → (List D → List DO → Prop) → Prop
  | [], acc, O, Q => Q acc O
  | d :: ds, acc, O, Q => bindT tg d ρ0 fun ρ1 => vt ρ1 O fun us O1 => boolK us fun b =>
    (b = true → ve ρ1 O1 fun ws O2 => oneK ws fun w => toK O2 w fun x => compR tg vt ve ρ0 n ds (acc ++ [x]) (O2.take n) Q) ∧
    (b = false → compR tg vt ve ρ0 n ds acc (O1.take n) Q)
def newL (own : Bool) (ds : List D) (O : List DO) (Q : ZQ) : Prop := match own with
  | true => Q [.o O.length] (O ++ [.lst ds])
  | false => Q [.d (.lst ds)] O
/-- an end of a slice -/
def partK (us : List U) (k : Option Int → Prop) : Prop := match us with
  | [] => k none
  | [.d (.int i)] => k (some i)
  | _ => False
def ofInts (ns : List Int) : List D := ns.map .int
def vc (Γ : List (Str × ZSp)) : Y → ZE
  | .var i => fun _ ρ O Q => match gt ρ i with
    | some u => Q [u] O
    | none => False
  | .int i => fun _ _ O Q => Q [.d (.int i)] O
  | .bl b => fun _ _ O Q => Q [.d (.bl b)] O
  | .non => fun _ _ O Q => Q [.d .non] O
  | .str x => fun _ _ O Q => Q [.d (.str x)] O
  | .gint _ i => fun _ _ O Q => Q [.d (.int i)] O
  | .gstr _ z => fun _ _ O Q => Q [.d (.str z)] O
  | .bin op a b => fun E ρ O Q => vc Γ a E ρ O fun us O1 => oneK us fun u => vc Γ b E ρ O1 fun ws O2 => oneK ws fun w => nrK O2 u fun x => nrK O2 w fun y => binD op x y fun z => Q [.d z] O2
  | .neg a => fun E ρ O Q => vc Γ a E ρ O fun us O1 => oneK us fun u => nrK O1 u fun x => match x with
    | .int i => Q [.d (.int (-i))] O1
    | _ => False
  | .not a => fun E ρ O Q => vc Γ a E ρ O fun us O1 => boolK us fun b => Q [.d (.bl (!b))] O1
  | .and a b => fun E ρ O Q => vc Γ a E ρ O fun us O1 => boolK us fun t => (t = true → vc Γ b E ρ O1 Q) ∧ (t = false → Q [.d (.bl false)] O1)
  | .or a b => fun E ρ O Q => vc Γ a E ρ O fun us O1 => boolK us fun t => (t = true → Q [.d (.bl true)] O1) ∧ (t = false → vc Γ b E ρ O1 Q)
  | .one a => vc Γ a
  | .cmp op a b => fun E ρ O Q => vc Γ a E ρ O fun us O1 => oneK us fun u => vc Γ b E ρ O1 fun ws O2 => oneK ws fun w => nrK O2 u fun x => nrK O2 w fun y => cmpD op x y fun t => Q [.d (.bl t)] O2
  | .chain o p a b c => fun E ρ O Q => vc Γ a E ρ O fun us O1 => oneK us fun u => vc Γ b E ρ O1 fun ws O2 => oneK ws fun w => nrK O2 u fun x => nrK O2 w fun y => cmpD o x y fun t =>
    (t = true → vc Γ c E ρ O2 fun vs O3 => oneK vs fun v => nrK O3 w fun y2 => nrK O3 v fun z => cmpD p y2 z fun t2 => Q [.d (.bl t2)] O3) ∧ (t = false → Q [.d (.bl false)] O2)
  | .ite c a b => fun E ρ O Q => vc Γ c E ρ O fun us O1 => boolK us fun t => (t = true → vc Γ a E ρ O1 Q) ∧ (t = false → vc Γ b E ρ O1 Q)
  | .tup es => fun E ρ O Q => vc Γ es E ρ O fun us O1 => tosK O1 us fun ds => ds.length ≤ sizeLine ∧ Q [.d (.tup ds)] O1
  | .tupU es => fun E ρ O Q => vc Γ es E ρ O fun us O1 => us.length ≤ sizeLine ∧ Q [.t us] O1
  | .lst own es => fun E ρ O Q => vc Γ es E ρ O fun us O1 => tosK O1 us fun ds => ds.length ≤ sizeLine ∧ newL own ds O1 Q
  | .call g es => fun E ρ O Q => vc Γ es E ρ O fun us O1 => match Γ[g]? with
    | some (_, P) => callZ P us O1 (fun u O2 => Q [u] O2) E
    | none => False
  | .blt f es => fun E ρ O Q => vc Γ es E ρ O fun us O1 => nrsK O1 us fun ds => f.op ds fun z => Q [.d z] O1
  | .lis z => fun E ρ O Q => vc Γ z E ρ O fun us O1 => oneK us fun u => nrK O1 u fun x => listD [x] fun y => match y with
    | .lst ds => newL true ds O1 Q
    | _ => False
  | .isi a cs => fun E ρ O Q => vc Γ a E ρ O fun us O1 => oneK us fun u => match tyU O1 u with
    | some t => ∃ b, isiB t cs = some b ∧ Q [.d (.bl b)] O1
    | none => False
  | .ix a b => fun E ρ O Q => vc Γ a E ρ O fun us O1 => oneK us fun u => vc Γ b E ρ O1 fun ws O2 => oneK ws fun w => nrK O2 w fun y => match u with
    | .t vs => (match y with
      | .int i => ∃ v, atI vs i = some v ∧ Q [v] O2
      | _ => False)
    | u => nrK O2 u fun x => ixD x y fun z => Q [.d z] O2
  | .sl a lo hi => fun E ρ O Q => vc Γ a E ρ O fun us O1 => oneK us fun u => vc Γ lo E ρ O1 fun ls O2 => partK ls fun l => vc Γ hi E ρ O2 fun hs O3 => partK hs fun h =>
    nrK O3 u fun x => slD x l h fun z => Q [.d z] O3
  | .rep a b => fun E ρ O Q => vc Γ a E ρ O fun us O1 => oneK us fun u => vc Γ b E ρ O1 fun ws O2 => oneK ws fun w => nrK O2 u fun x => nrK O2 w fun y => mulD x y fun z => match z with
    | .lst ds => newL true ds O2 Q
    | _ => False
  | .comp own vs tg src tst elt => fun E ρ O Q => vc Γ src E ρ O fun us O1 => ∃ ds, us = ds.map .d ∧ ds.length ≤ sizeLine ∧
    compR tg (vc Γ tst fun _ _ => False) (vc Γ elt fun _ _ => False) (wipeR ρ vs) O1.length ds [] O1 fun acc O2 => newL own acc (unb O O2) Q
  | .app r z => fun E ρ O Q => vc Γ r E ρ O fun rs O0 => oneK rs fun r => match r with
    | .o k => vc Γ z E ρ O0 fun us O1 => oneK us fun u => toK O1 u fun x => (match go O1 k with
      | some (.lst ds) => ds.length < sizeLine ∧ Q [.d .non] (so O1 k (.lst (ds ++ [x])))
      | _ => False)
    | _ => False
  | .fz z => fun E ρ O Q => vc Γ z E ρ O fun us O1 => oneK us fun u => match u with
    | .o k => (match go O1 k with
      | some (.lst ds) => Q [.d (.lst ds)] (so O1 k (.frz ds))
      | _ => False)
    | u => Q [u] O1
  | .nil => fun _ _ O Q => Q [] O
  | .cons a r => fun E ρ O Q => vc Γ a E ρ O fun us O1 => oneK us fun u => vc Γ r E ρ O1 fun ws O2 => Q (u :: ws) O2
  | .star a r => fun E ρ O Q => vc Γ a E ρ O fun us O1 => oneK us fun u => nrK O1 u fun x => match x with
    | .lst ds => vc Γ r E ρ O1 fun ws O2 => Q (ds.map .d ++ ws) O2
    | .tup ds => vc Γ r E ρ O1 fun ws O2 => Q (ds.map .d ++ ws) O2
    | _ => False
  | .nop => fun _ _ O Q => Q [] O
  | .sm a => fun E ρ O Q => vc Γ a E ρ O fun us O1 => oneK us fun u => Q [u] O1
  | .yes => fun _ _ O Q => Q [.d (.bl true)] O
  | .seq z => fun E ρ O Q => vc Γ z E ρ O fun us O1 => oneK us fun u => brK O1 u fun x O2 => match x with
    | .lst ds => Q (ds.map .d) O2
    | .tup ds => Q (ds.map .d) O2
    | _ => False
  | .rng a => fun E ρ O Q => vc Γ a E ρ O fun us O1 => oneK us fun u => nrK O1 u fun x => match x with
    | .int j => (-(2 ^ 62) ≤ j ∧ j < 2 ^ 62) ∧ Q (((List.range j.toNat).map fun (i : Nat) => D.int (0 + (i : Int))).map .d) O1
    | _ => False
  | .rng2 a b => fun E ρ O Q => vc Γ a E ρ O fun us O1 => oneK us fun u => vc Γ b E ρ O1 fun ws O2 => oneK ws fun w => nrK O2 u fun x => nrK O2 w fun y => match x, y with
    | .int i, .int j => (-(2 ^ 62) ≤ i ∧ i < 2 ^ 62 ∧ -(2 ^ 62) ≤ j ∧ j < 2 ^ 62) ∧ Q (((List.range (j - i).toNat).map fun (m : Nat) => D.int (i + (m : Int))).map .d) O2
    | _, _ => False
  | .enm z => fun E ρ O Q => vc Γ z E ρ O fun us O1 => oneK us fun u => brK O1 u fun x O2 => match x with
    | .lst ds => Q ((ds.mapIdx fun (i : Nat) d => D.tup [.int (i : Int), d]).map .d) O2
    | _ => False
  | .zip a b => fun E ρ O Q => vc Γ a E ρ O fun us O1 => oneK us fun u => vc Γ b E ρ O1 fun ws O2 => oneK ws fun w => brK O2 u fun x O3 => brK O3 w fun y O4 => match x, y with
    | .lst ds, .lst es => Q ((List.zipWith (fun d e => D.tup [d, e]) ds es).map .d) O4
    | .tup ds, .tup es => Q ((List.zipWith (fun d e => D.tup [d, e]) ds es).map .d) O4
    | _, _ => False
  | .rev z => fun E ρ O Q => vc Γ z E ρ O fun us O1 => oneK us fun u => brK O1 u fun x O2 => match x with
    | .lst ds => Q (ds.reverse.map .d) O2
    | _ => False
end Z

set_option Elab.async false
set_option linter.all false
set_option maxRecDepth 100000
set_option maxHeartbeats 4000000
namespace Z
open PySem PySem.Spec PyProof.Rows L2

/-! ### the text is the resolved one -/
structure Sx where
  N : List Str
  sc : Scope
  so : Scope
structure Ck where
  E : Expr → Bool := fun _ => false
  T : Expr → Bool := fun _ => false
  A : List Expr → Bool := fun _ => false
  I : Expr → Expr → Bool := fun _ _ => false
  O : Option Expr → Bool := fun _ => false
def visB (sc : Scope) (x : Str) : Bool := match sc.names.lookup x with
  | some .local => true
  | some .cell => true
  | some .free => true
  | _ => false
def gloB (sc : Scope) (x : Str) : Bool := decide (sc.names.lookup x = some .globalImplicit)
def oknB (x : Str) : Bool := !(x == ("__debug__" : Str)) && !(x == ("__classdict__" : Str))
def ownB (sc : Scope) (x : Str) : Bool := match sc.names.lookup x with
  | some .local => true
  | some .cell => true
  | _ => false
def plainT : Expr → Bool
  | .UnaryOp .Not _ _ => false
  | .BoolOp _ _ _ => false
  | .IfExp _ _ _ _ => false
  | .Compare _ _ _ _ => false
  | _ => true
def noStar : Expr → Bool
  | .Starred _ _ => false
  | _ => true
def noSet : Expr → Bool
  | .Set _ _ _ => false
  | _ => true
def noSlice : Expr → Bool
  | .Slice _ _ _ _ => false
  | _ => true
def plainO : Expr → Bool
  | .Name _ _ => true
  | .Subscript _ _ _ => true
  | _ => false
def isTup : Expr → Bool
  | .Tuple _ _ _ => true
  | _ => false
mutual
def ckG (S : Sx) : T1 → Expr → Bool
  | .nm i, .Name x _ => decide (S.N[i]? = some x) && ownB S.so x
  | .tp r, .Tuple es _ _ => ckGs S r es
  | _, _ => false
def ckGs (S : Sx) : T1 → List Expr → Bool
  | .nil, [] => true
  | .cons a r, e :: es => noStar e && ckG S a e && ckGs S r es
  | _, _ => false
end
mutual
def slots : T1 → List Nat
  | .nm i => [i]
  | .tp r => slots r
  | .nil => []
  | .cons a r => slots a ++ slots r
end
def cE (f : Expr → Bool) : Ck := { E := f, T := fun e => plainT e && f e, O := fun _ => false }
def ownN (N : List Str) (vs : List Nat) : List (Str × Nat) := vs.map fun i => (N.getD i Str.empty, i)
def tyB (sc : Scope) (t : Str) (n : String) : Bool := decide (t = Str.ofString n) && gloB sc t && ["int", "bool", "str", "list", "tuple", "dict"].contains n
def tysB (sc : Scope) : List Expr → List String → Bool
  | [], [] => true
  | .Name t _ :: ts, n :: ns => tyB sc t n && tysB sc ts ns
  | _, _ => false
def isiC (sc : Scope) : Expr → List String → Bool
  | .Name t _, [n] => tyB sc t n
  | .Tuple ts _ _, ns => tysB sc ts ns
  | _, _ => false
def compC (Γt Γe : Sx → Ck) (Γs : Ck) (S : Sx) (vs : List Nat) (tg : T1) (yes : Bool) : Expr → Bool
  | .ListComp e [⟨t, it, ifs, 0⟩] scope _ => blkC S.N S.sc scope (ownN S.N vs) && ckG ⟨S.N, relS scope S.sc, scope⟩ tg t && (slots tg).all (fun i => vs.contains i) && Γs.I t it && noSet it &&
      (match ifs with
        | [] => yes
        | [c] => !yes && (Γt ⟨S.N, relS scope S.sc, scope⟩).T c
        | _ => false) && (Γe ⟨S.N, relS scope S.sc, scope⟩).E e
  | _ => false
def isYes : Y → Bool
  | .yes => true
  | _ => false
def notC (f : Expr → Bool) : Expr → Bool
  | .UnaryOp .Not x _ => f x
  | _ => false
def andC (f g : Expr → Bool) : Expr → Bool
  | .BoolOp .And (x :: y :: r) p => f x && g (.BoolOp .And (y :: r) p)
  | _ => false
def orC (f g : Expr → Bool) : Expr → Bool
  | .BoolOp .Or (x :: y :: r) p => f x && g (.BoolOp .Or (y :: r) p)
  | _ => false
def oneC (f : Expr → Bool) : Expr → Bool
  | .BoolOp _ [x] _ => f x
  | _ => false
def cmpC (op : CmpOp) (f g : Expr → Bool) : Expr → Bool
  | .Compare l [o] [r] _ => decide (op = o) && f l && g r && noSet r
  | _ => false
def chainC (o p : CmpOp) (f g h : Expr → Bool) : Expr → Bool
  | .Compare l [o1, p1] [m, r] _ => decide (o = o1) && decide (p = p1) && f l && g m && h r && noSet m && noSet r
  | _ => false
def iteC (f g h : Expr → Bool) : Expr → Bool
  | .IfExp t x y _ => f t && g x && h y
  | _ => false
def nilC : List Expr → Bool
  | [] => true
  | _ => false
def consC (f : Expr → Bool) (g : List Expr → Bool) : List Expr → Bool
  | e :: es => noStar e && f e && g es
  | _ => false
def starC (f : Expr → Bool) (g : List Expr → Bool) : List Expr → Bool
  | .Starred e _ :: es => f e && g es
  | _ => false
def nopC : Option Expr → Bool
  | none => true
  | _ => false
def smC (f : Expr → Bool) : Option Expr → Bool
  | some e => f e
  | _ => false
def rngC (sc : Scope) (f : Expr → Bool) : Expr → Bool
  | .Call (.Name n _) [x] [] _ => decide (n = "range") && gloB sc n && noStar x && f x
  | _ => false
def rng2C (sc : Scope) (f g : Expr → Bool) : Expr → Bool
  | .Call (.Name n _) [x, y] [] _ => decide (n = "range") && gloB sc n && noStar x && noStar y && f x && g y
  | _ => false
def enmC (sc : Scope) (f : Expr → Bool) (t : Expr) : Expr → Bool
  | .Call (.Name n _) [x] [] _ => isTup t && decide (n = "enumerate") && gloB sc n && noStar x && f x
  | _ => false
def zipC (sc : Scope) (f g : Expr → Bool) (t : Expr) : Expr → Bool
  | .Call (.Name n _) [x, y] [] _ => isTup t && decide (n = "zip") && gloB sc n && noStar x && noStar y && f x && g y
  | _ => false
def revC (sc : Scope) (f : Expr → Bool) : Expr → Bool
  | .Call (.Name n _) [x] [] _ => decide (n = "reversed") && gloB sc n && noStar x && f x
  | _ => false
def ck (Γn : List Str) : Y → Sx → Ck
  | .var i, S => cE (fun | .Name x _ => decide (S.N[i]? = some x) && visB S.sc x && oknB x | _ => false)
  | .int i, S => cE (fun | .Constant (.int j) _ _ => decide (i = j) | _ => false)
  | .bl b, S => cE (fun | .Constant (.bool c) _ _ => decide (b = c) | _ => false)
  | .non, S => cE (fun | .Constant .none _ _ => true | _ => false)
  | .str x, S => cE (fun | .Constant (.str y) _ _ => decide (x = y) | _ => false)
  | .gint _ _, S => {}
  | .gstr _ _, S => {}
  | .bin op a b, S => cE (fun | .BinOp l o r _ => decide (op = o) && (ck Γn a S).E l && (ck Γn b S).E r | _ => false)
  | .neg a, S => cE (fun | .UnaryOp .USub x _ => (ck Γn a S).E x | _ => false)
  | .not a, S => { E := notC (ck Γn a S).E, T := notC (ck Γn a S).T }
  | .and a b, S => { E := andC (ck Γn a S).E (ck Γn b S).E, T := andC (ck Γn a S).T (ck Γn b S).T }
  | .or a b, S => { E := orC (ck Γn a S).E (ck Γn b S).E, T := orC (ck Γn a S).T (ck Γn b S).T }
  | .one a, S => { E := oneC (ck Γn a S).E, T := oneC (ck Γn a S).T }
  | .cmp op a b, S => { E := cmpC op (ck Γn a S).E (ck Γn b S).E, T := cmpC op (ck Γn a S).E (ck Γn b S).E }
  | .chain o p a b c, S => { E := chainC o p (ck Γn a S).E (ck Γn b S).E (ck Γn c S).E, T := chainC o p (ck Γn a S).E (ck Γn b S).E (ck Γn c S).E }
  | .ite c a b, S => { E := iteC (ck Γn c S).T (ck Γn a S).E (ck Γn b S).E }
  | .tup es, S => cE (fun | .Tuple xs _ _ => (ck Γn es S).A xs | _ => false)
  | .tupU es, S => cE (fun | .Tuple xs _ _ => (ck Γn es S).A xs | _ => false)
  | .lst _ es, S => cE (fun | .List xs _ => (ck Γn es S).A xs | _ => false)
  | .call g es, S => cE (fun | .Call (.Name f _) (x :: xs) [] _ => decide (Γn[g]? = some f) && gloB S.sc f && oknB f && noStar x && xs.all noStar && (ck Γn es S).A (x :: xs) | _ => false)
  | .blt b es, S => cE (fun | .Call (.Name f _) (x :: xs) [] _ => decide (f = b.name) && gloB S.sc f && noStar x && xs.all noStar && (ck Γn es S).A (x :: xs) | _ => false)
  | .lis z, S => cE (fun | .Call (.Name f _) [x] [] _ => decide (f = "list") && gloB S.sc f && noStar x && (ck Γn z S).E x | _ => false)
  | .isi a cs, S => cE (fun | .Call (.Name f _) [x, c] [] _ => decide (f = "isinstance") && gloB S.sc f && noStar x && noStar c && (ck Γn a S).E x && isiC S.sc c cs && decide (cs.length ≤ 20) | _ => false)
  | .ix a b, S => cE (fun | .Subscript x i _ => (ck Γn a S).E x && (ck Γn b S).E i && noSlice i | _ => false)
  | .sl a lo hi, S => cE (fun | .Subscript x (.Slice l h none _) _ => (ck Γn a S).E x && (ck Γn lo S).O l && (ck Γn hi S).O h | _ => false)
  | .rep a b, S => cE (fun | .BinOp l .Mult r _ => (ck Γn a S).E l && (ck Γn b S).E r | _ => false)
  | .comp _ vs tg src tst elt, S => cE (compC (ck Γn tst) (ck Γn elt) (ck Γn src S) S vs tg (isYes tst))
  | .app r z, S => cE (fun | .Call (.Attribute o m ap) [e] [] cp => (ap.endLine == cp.line) && decide (m = "append") && plainO o && noStar e && (ck Γn r S).E o && (ck Γn z S).E e | _ => false)
  | .fz z, S => cE (ck Γn z S).E
  | .nil, _ => { A := nilC }
  | .cons a r, S => { A := consC (ck Γn a S).E (ck Γn r S).A }
  | .star a r, S => { A := starC (ck Γn a S).E (ck Γn r S).A }
  | .nop, _ => { O := nopC }
  | .sm a, S => { O := smC (ck Γn a S).E }
  | .yes, _ => {}
  | .seq z, S => { I := fun _ e => (ck Γn z S).E e }
  | .rng a, S => { I := fun _ e => rngC S.sc (ck Γn a S).E e }
  | .rng2 a b, S => { I := fun _ e => rng2C S.sc (ck Γn a S).E (ck Γn b S).E e }
  | .enm z, S => { I := fun t e => enmC S.sc (ck Γn z S).E t e }
  | .zip a b, S => { I := fun t e => zipC S.sc (ck Γn a S).E (ck Γn b S).E t e }
  | .rev z, S => { I := fun _ e => revC S.sc (ck Γn z S).E e }
end Z

set_option Elab.async false
set_option linter.all false
set_option maxRecDepth 100000
set_option maxHeartbeats 4000000
namespace Z
open PySem PySem.Spec PyProof.Rows L2

/-- a def's promise by data, as a promise of the layer -/
def lowSp (G : Gx) (P : ZSp) : Sp := fun vs H Q E => ∃ B α O us Q0 E0, Own G B α O H ∧ AtUs G.K B α O H vs us ∧ P us O Q0 E0 ∧
  (∀ u O', Q0 u O' → ∀ α' v H', Stp α O H α' O' H' → Own G B α' O' H' → AtU G.K B α' O' H' v u → Q v H') ∧ ELow G B E α O H E0
section
variable {G : Gx} {B : Addr → Prop} {α α' β : List Addr} {O O' N : List DO} {H H' : Hp} {W0 : XK} {E0 : ZX}
theorem Own.tracked (w : Own G B α O H) {a : Addr} (h : a ∈ α) : ∃ o, H a = some o := by
  cases q : H a with
  | some o => exact ⟨o, rfl⟩
  | none => exact absurd h (own_fresh w q)
theorem ow_app (hl : α.length = O.length) {b : Addr} (m : Ow (α ++ β) (O ++ N) b) : Ow α O b ∨ Ow β N b := by
  obtain ⟨k, o, e1, e2, l⟩ := m
  by_cases hk : k < α.length
  · rw [List.getElem?_append_left hk] at e1
    rw [List.getElem?_append_left (by omega)] at e2
    exact .inl ⟨k, o, e1, e2, l⟩
  · rw [List.getElem?_append_right (by omega)] at e1
    rw [List.getElem?_append_right (by omega)] at e2
    rw [hl] at e1
    exact .inr ⟨k - O.length, o, e1, e2, l⟩
theorem ow_appL {b : Addr} (m : Ow α O b) : Ow (α ++ β) (O ++ N) b := by
  obtain ⟨k, o, e1, e2, l⟩ := m
  exact ⟨k, o, by rw [List.getElem?_append_left (List.getElem?_eq_some_iff.mp e1).1]; exact e1, by rw [List.getElem?_append_left (List.getElem?_eq_some_iff.mp e2).1]; exact e2, l⟩
theorem ow_appR (hl : α.length = O.length) {b : Addr} (m : Ow β N b) : Ow (α ++ β) (O ++ N) b := by
  obtain ⟨k, o, e1, e2, l⟩ := m
  refine ⟨O.length + k, o, ?_, ?_, l⟩
  · rw [List.getElem?_append_right (by omega), hl]
    rw [show O.length + k - O.length = k by omega]
    exact e1
  · rw [List.getElem?_append_right (by omega)]
    rw [show O.length + k - O.length = k by omega]
    exact e2
mutual
theorem AtU.sh {B2 : Addr → Prop} {α2 : List Addr} {O2 : List DO} {f : Nat → Nat} (hm : ∀ a, Mu B2 α2 O2 a → Mu B α O a) (hi : ∀ k a, α[k]? = some a → α2[f k]? = some a) : ∀ {u : U} {v : V}, AtU G.K B α O H v u → AtU G.K B2 α2 O2 H v (shU f u)
  | .d x, _, .d a => by rw [shU]; exact .d (a.less hm)
  | .o k, _, .o e => by rw [shU]; exact .o (hi _ _ e)
  | .t us, _, .t e m r => by rw [shU]; exact .t e (fun z => m (hm _ z)) (AtUs.sh hm hi r)
theorem AtUs.sh {B2 : Addr → Prop} {α2 : List Addr} {O2 : List DO} {f : Nat → Nat} (hm : ∀ a, Mu B2 α2 O2 a → Mu B α O a) (hi : ∀ k a, α[k]? = some a → α2[f k]? = some a) : ∀ {us : List U} {vs : List V}, AtUs G.K B α O H vs us → AtUs G.K B2 α2 O2 H vs (shUs f us)
  | [], _, .nil => by rw [shUs]; exact .nil
  | _ :: _, _, .cons a r => by rw [shUs]; exact .cons (AtU.sh hm hi a) (AtUs.sh hm hi r)
end

/-- what is lent: places of ours, in some order -/
structure Lent (α : List Addr) (O : List DO) (ks : List Nat) (L : List DO) : Prop where
  len : ks.length = L.length
  ok : ∀ (j k : Nat), ks[j]? = some k → ∃ o o', O[k]? = some o ∧ L[j]? = some o' ∧ live o = true ∧ live o' = true ∧ (hot o' = true → hot o = true) ∧ (o' = o ∨ ∃ ds, o = .lst ds ∧ o' = .brw ds)
theorem lendU_ok (w : Own G B α O H) : ∀ {us r : List U} {vs : List V} {ks : List Nat} {L : List DO} {f : Bool} {j0 : Nat}, lendU O f us j0 = some (r, ks, L) → AtUs G.K B α O H vs us → Lent α O ks L ∧
    ∀ (B2 : Addr → Prop) (α2 : List Addr) (O2 : List DO), (∀ a, Mu B2 α2 O2 a → Mu B α O a) → (∀ (i k : Nat) a, ks[i]? = some k → α[k]? = some a → α2[j0 + i]? = some a) → AtUs G.K B2 α2 O2 H vs r
  | [], r, [], ks, L, f, j0, e, a => by
    rw [lendU] at e
    cases e
    exact ⟨⟨rfl, fun j k e => by simp at e⟩, fun _ _ _ _ _ => .nil⟩
  | u :: us, r, _ :: vs, ks, L, f, j0, e, .cons au ar => by
    have cons1 : ∀ {k : Nat} {o o' : DO} {r' : List U} {ks' : List Nat} {L' : List DO} {vs' : List V} {p : Addr}, O[k]? = some o → live o = true → live o' = true → (hot o' = true → hot o = true) → (o' = o ∨ ∃ ds, o = .lst ds ∧ o' = .brw ds) → α[k]? = some p →
        (Lent α O ks' L' ∧ ∀ (B2 : Addr → Prop) (α2 : List Addr) (O2 : List DO), (∀ a, Mu B2 α2 O2 a → Mu B α O a) → (∀ (i k : Nat) a, ks'[i]? = some k → α[k]? = some a → α2[(j0 + 1) + i]? = some a) → AtUs G.K B2 α2 O2 H vs' r') →
        Lent α O (k :: ks') (o' :: L') ∧ ∀ (B2 : Addr → Prop) (α2 : List Addr) (O2 : List DO), (∀ a, Mu B2 α2 O2 a → Mu B α O a) → (∀ (i k' : Nat) a, (k :: ks')[i]? = some k' → α[k']? = some a → α2[j0 + i]? = some a) → AtUs G.K B2 α2 O2 H (.ref p :: vs') (.o j0 :: r') := by
      intro k o o' r' ks' L' vs' p h1 h2 h3 h4 h5 h6 ⟨ih1, ih2⟩
      refine ⟨⟨by rw [List.length_cons, List.length_cons, ih1.len], fun j k' e => ?_⟩, fun B2 α2 O2 hm hi => .cons (.o (hi 0 k p rfl h6)) (ih2 B2 α2 O2 hm fun i k' a e1 e2 => ?_)⟩
      · cases j with
        | zero =>
          cases e
          exact ⟨o, o', h1, rfl, h2, h3, h4, h5⟩
        | succ j =>
          obtain ⟨o1, o2, g⟩ := ih1.ok j k' (by simpa using e)
          exact ⟨o1, o2, g.1, by simpa using g.2.1, g.2.2⟩
      · have := hi (i + 1) k' a (by simpa using e1) e2
        rw [← this]
        congr 1
        omega
    have cons0 : ∀ {d : D} {r' : List U} {ks' : List Nat} {L' : List DO} {v : V} {vs' : List V}, At G.K (Mu B α O) H v d →
        (Lent α O ks' L' ∧ ∀ (B2 : Addr → Prop) (α2 : List Addr) (O2 : List DO), (∀ a, Mu B2 α2 O2 a → Mu B α O a) → (∀ (i k : Nat) a, ks'[i]? = some k → α[k]? = some a → α2[j0 + i]? = some a) → AtUs G.K B2 α2 O2 H vs' r') →
        Lent α O ks' L' ∧ ∀ (B2 : Addr → Prop) (α2 : List Addr) (O2 : List DO), (∀ a, Mu B2 α2 O2 a → Mu B α O a) → (∀ (i k' : Nat) a, ks'[i]? = some k' → α[k']? = some a → α2[j0 + i]? = some a) → AtUs G.K B2 α2 O2 H (v :: vs') (.d d :: r') := by
      intro d r' ks' L' v vs' ha ⟨ih1, ih2⟩
      exact ⟨ih1, fun B2 α2 O2 hm hi => .cons (.d (ha.less hm)) (ih2 B2 α2 O2 hm hi)⟩
    have dat : (match toD O u with
      | some d => (match lendU O false us j0 with
        | some (r, ks, L) => some (.d d :: r, ks, L)
        | none => none)
      | none => none) = some (r, ks, L) → Lent α O ks L ∧ ∀ (B2 : Addr → Prop) (α2 : List Addr) (O2 : List DO), (∀ a, Mu B2 α2 O2 a → Mu B α O a) → (∀ (i k : Nat) a, ks[i]? = some k → α[k]? = some a → α2[j0 + i]? = some a) → AtUs G.K B2 α2 O2 H _ r := fun e => by
      cases q : toD O u with
      | none => rw [q] at e; cases e
      | some d =>
        rw [q] at e
        cases q2 : lendU O false us j0 with
        | none => rw [q2] at e; cases e
        | some p =>
          rw [q2] at e
          obtain ⟨r', ks', L'⟩ := p
          cases e
          exact cons0 (At.of w au q) (lendU_ok w q2 ar)
    cases u with
    | d x => exact dat e
    | t x => exact dat e
    | o k =>
      rw [lendU] at e
      cases au with
      | @o _ p ep =>
      rw [go_eq] at e
      cases q : O[k]? with
      | none => rw [q] at e; cases e
      | some o =>
        rw [q] at e
        cases o with
        | lst ds =>
          cases q2 : lendU O false us (j0 + 1) with
          | none => simp only [q2] at e; cases e
          | some t =>
            obtain ⟨r', ks', L'⟩ := t
            simp only [q2] at e
            cases e
            refine cons1 q rfl ?_ (fun _ => rfl) ?_ ep (lendU_ok w q2 ar)
            · cases f <;> rfl
            · cases f
              · exact .inr ⟨ds, rfl, rfl⟩
              · exact .inl rfl
        | brw ds =>
          cases q2 : lendU O false us (j0 + 1) with
          | none => simp only [q2] at e; cases e
          | some t =>
            obtain ⟨r', ks', L'⟩ := t
            simp only [q2] at e
            cases e
            exact cons1 q rfl rfl id (.inl rfl) ep (lendU_ok w q2 ar)
        | frz ds =>
          cases q2 : lendU O false us j0 with
          | none => simp only [q2] at e; cases e
          | some t =>
            obtain ⟨r', ks', L'⟩ := t
            simp only [q2] at e
            cases e
            have h := w.at_ k p _ ep q
            exact cons0 h (lendU_ok w q2 ar)
/-- what comes back -/
theorem mrg_ok : ∀ {ks : List Nat} {L A O O2 : List DO}, mrg ks L A O = some O2 → ks.Nodup → (∀ k ∈ ks, k < O.length) →
    ∃ A0 rest M, A = A0 ++ rest ∧ A0.length = ks.length ∧ O2 = M ++ rest ∧ M.length = O.length ∧ (∀ i, i ∉ ks → M[i]? = O[i]?) ∧
      ∀ (j k : Nat), ks[j]? = some k → M[k]? = A0[j]? ∨ (M[k]? = O[k]? ∧ ∃ ds ds', L[j]? = some (.brw ds) ∧ A0[j]? = some (.brw ds'))
  | [], [], A, O, O2, e, _, _ => by
    rw [mrg] at e
    cases e
    exact ⟨[], A, O, rfl, rfl, rfl, rfl, fun _ _ => rfl, fun j k e => by simp at e⟩
  | [], _ :: _, A, O, O2, e, _, _ => by simp [mrg] at e
  | k :: ks, [], A, O, O2, e, _, _ => by simp [mrg] at e
  | k :: ks, .frz _ :: L, A, O, O2, e, _, _ => by simp [mrg] at e
  | k :: ks, .lst _ :: L, [], O, O2, e, _, _ => by simp [mrg] at e
  | k :: ks, .brw _ :: L, [], O, O2, e, _, _ => by simp [mrg] at e
  | k :: ks, .brw _ :: L, .lst _ :: A, O, O2, e, _, _ => by simp [mrg] at e
  | k :: ks, .brw _ :: L, .frz _ :: A, O, O2, e, _, _ => by simp [mrg] at e
  | k :: ks, .lst d0 :: L, a :: A, O, O2, e, nd, hk => by
    rw [mrg, so_eq] at e
    have nd' := List.nodup_cons.mp nd
    obtain ⟨A0, rest, M, h1, h2, h3, h4, h5, h6⟩ := mrg_ok e nd'.2 (fun k' hk' => by rw [List.length_set]; exact hk k' (List.mem_cons_of_mem _ hk'))
    refine ⟨a :: A0, rest, M, by rw [h1]; rfl, by rw [List.length_cons, h2]; rfl, h3, by rw [h4, List.length_set], fun i hi => ?_, fun j k' ej => ?_⟩
    · rw [h5 i (fun z => hi (List.mem_cons_of_mem _ z)), List.getElem?_set_ne (fun z => hi (by rw [z]; exact List.mem_cons_self))]
    · cases j with
      | zero =>
        have ej : k = k' := by simpa using ej
        subst ej
        left
        rw [h5 k nd'.1, List.getElem?_set_self (hk k List.mem_cons_self)]
        rfl
      | succ j =>
        have ej : ks[j]? = some k' := by simpa using ej
        have hne : k ≠ k' := fun z => nd'.1 (by rw [z]; exact List.mem_of_getElem? ej)
        rcases h6 j k' ej with g | ⟨g, ds, ds', g2, g3⟩
        · exact .inl (by rw [g]; simp)
        · exact .inr ⟨by rw [g, List.getElem?_set_ne hne], ds, ds', by simpa using g2, by simpa using g3⟩
  | k :: ks, .brw d0 :: L, .brw d1 :: A, O, O2, e, nd, hk => by
    rw [mrg] at e
    have nd' := List.nodup_cons.mp nd
    obtain ⟨A0, rest, M, h1, h2, h3, h4, h5, h6⟩ := mrg_ok e nd'.2 (fun k' hk' => hk k' (List.mem_cons_of_mem _ hk'))
    refine ⟨.brw d1 :: A0, rest, M, by rw [h1]; rfl, by rw [List.length_cons, h2]; rfl, h3, h4, fun i hi => h5 i (fun z => hi (List.mem_cons_of_mem _ z)), fun j k' ej => ?_⟩
    cases j with
    | zero =>
      have ej : k = k' := by simpa using ej
      subst ej
      exact .inr ⟨h5 k nd'.1, d0, d1, rfl, rfl⟩
    | succ j =>
      have ej : ks[j]? = some k' := by simpa using ej
      rcases h6 j k' ej with g | ⟨g, ds, ds', g2, g3⟩
      · exact .inl (by rw [g]; simp)
      · exact .inr ⟨g, ds, ds', by simpa using g2, by simpa using g3⟩
theorem ren_lt : ∀ {ks : List Nat} {n j k : Nat}, ks[j]? = some k → ren ks n j = k
  | [], _, _, _, h => by simp at h
  | _ :: _, _, 0, _, h => by simpa [ren] using h
  | _ :: ks, n, j + 1, k, h => by
    rw [ren]
    exact ren_lt (by simpa using h)
theorem ren_ge : ∀ {ks : List Nat} {n j : Nat}, ks.length ≤ j → ren ks n j = n + (j - ks.length)
  | [], _, _, _ => rfl
  | _ :: _, _, 0, h => by simp at h
  | _ :: ks, n, j + 1, h => by
    rw [ren, ren_ge (by simpa using h), List.length_cons]
    congr 1
    omega
/-- our places, those that are lent -/
def pick (α : List Addr) (ks : List Nat) : List Addr := ks.map fun k => α.getD k 0
theorem pick_at {α : List Addr} {ks : List Nat} {j k : Nat} {a : Addr} (h : ks[j]? = some k) (e : α[k]? = some a) : (pick α ks)[j]? = some a := by
  unfold pick
  rw [List.getElem?_map, h]
  show some (α.getD k 0) = some a
  rw [List.getD_eq_getElem?_getD, e]
  rfl
theorem call_key {ks : List Nat} {L : List DO} (w : Own G B α O H) (nd : ks.Nodup) (l : Lent α O ks L) : ∃ B' : Addr → Prop, Own G B' (pick α ks) L H ∧ (∀ b, Mu B' (pick α ks) L b → Mu B α O b) ∧
    ∀ {γ : List Addr} {N O2 : List DO} {H' : Hp}, mrg ks L N O = some O2 → Stp (pick α ks) L H γ N H' → Own G B' γ N H' → ∃ α2, Stp α O H α2 O2 H' ∧ Own G B α2 O2 H' ∧ (∀ b, Mu B α2 O2 b → Mu B' γ N b) ∧ (∀ (j : Nat) a, γ[j]? = some a → α2[ren ks O.length j]? = some a) := by
  have hk : ∀ (j k : Nat), ks[j]? = some k → ∃ a, α[k]? = some a ∧ (pick α ks)[j]? = some a := fun j k e => by
    obtain ⟨o, o', h1, _⟩ := l.ok j k e
    have hlt : k < α.length := by rw [w.len]; exact (List.getElem?_eq_some_iff.mp h1).1
    exact ⟨α[k], List.getElem?_eq_getElem hlt, pick_at e (List.getElem?_eq_getElem hlt)⟩
  have hpl : (pick α ks).length = ks.length := by unfold pick; rw [List.length_map]
  have hpk : ∀ (j : Nat) a, (pick α ks)[j]? = some a → ∃ k, ks[j]? = some k ∧ α[k]? = some a := fun j a e => by
    have hlt := (List.getElem?_eq_some_iff.mp e).1
    rw [hpl] at hlt
    have e1 : ks[j]? = some ks[j] := List.getElem?_eq_getElem hlt
    obtain ⟨b, h1, h2⟩ := hk j _ e1
    rw [e] at h2
    cases h2
    exact ⟨_, e1, h1⟩
  have hmem : ∀ a, a ∈ pick α ks → ∃ j k, ks[j]? = some k ∧ α[k]? = some a := fun a m => by
    obtain ⟨j, hj, e⟩ := List.mem_iff_getElem.mp m
    obtain ⟨k, h1, h2⟩ := hpk j a (by rw [List.getElem?_eq_getElem hj, e])
    exact ⟨j, k, h1, h2⟩
  have owp : ∀ a, a ∈ pick α ks → Ow α O a := fun a m => by
    obtain ⟨j, k, h1, h2⟩ := hmem a m
    obtain ⟨o, o', g1, _, g3, _⟩ := l.ok j k h1
    exact ⟨k, o, h2, g1, g3⟩
  have owL : ∀ a, a ∈ pick α ks → Ow (pick α ks) L a := fun a m => by
    obtain ⟨j, k, h1, h2⟩ := hmem a m
    obtain ⟨o, o', g1, g2, g3, g4, _⟩ := l.ok j k h1
    exact ⟨j, o', pick_at h1 h2, g2, g4⟩
  have owm : ∀ a, Ow (pick α ks) L a → a ∈ pick α ks := fun a ⟨j, o, e1, _⟩ => List.mem_of_getElem? e1
  have hoL : ∀ a, Ho (pick α ks) L a → Ho α O a := fun a ⟨j, o', e1, e2, h⟩ => by
    obtain ⟨k, h1, h2⟩ := hpk j a e1
    obtain ⟨o, o2, g1, g2, _, _, g5, _⟩ := l.ok j k h1
    rw [e2] at g2
    cases g2
    exact ⟨k, o, h2, g1, g5 h⟩
  obtain ⟨B', hB⟩ : ∃ B' : Addr → Prop, B' = fun b => Mu B α O b ∧ b ∉ pick α ks := ⟨_, rfl⟩
  have hm : ∀ b, Mu B' (pick α ks) L b → Mu B α O b := fun b m => by
    rw [hB] at m
    rcases m with m | m
    · exact m.1
    · exact .inr (owp b (owm b m))
  have ndp : (pick α ks).Nodup := by
    refine List.pairwise_iff_getElem.mpr fun i j hi hj hij e => ?_
    obtain ⟨k1, h1, h2⟩ := hpk i _ (List.getElem?_eq_getElem hi)
    obtain ⟨k2, h3, h4⟩ := hpk j _ (List.getElem?_eq_getElem hj)
    rw [← e] at h4
    have := nodup_at w.nd h2 h4
    subst this
    obtain ⟨a1, b1⟩ := List.getElem?_eq_some_iff.mp h1
    obtain ⟨a2, b2⟩ := List.getElem?_eq_some_iff.mp h3
    have := (List.getElem_inj nd).mp (b1.trans b2.symm)
    omega
  have W1 : Own G B' (pick α ks) L H := by
    refine ⟨by rw [hpl, l.len], ndp, fun j a o' e1 e2 => ?_, fun b m => ?_, fun b m z => ?_, w.tabs⟩
    · obtain ⟨k, h1, h2⟩ := hpk j a e1
      obtain ⟨o, o2, g1, g2, _, _, _, g6⟩ := l.ok j k h1
      rw [e2] at g2
      cases g2
      have h := (w.at_ k a o h2 g1).less hm
      rcases g6 with rfl | ⟨ds, rfl, rfl⟩
      · exact h
      · exact h
    · rw [hB] at m
      rcases m.1 with m | m
      · exact w.bt b m
      · exact m.some w
    · rw [hB] at z
      exact z.2 (owm b m)
  refine ⟨B', W1, hm, fun {γ N O2 H'} e s w' => ?_⟩
  obtain ⟨A0, rest, M, rfl, hA, rfl, hM, hMi, hMk⟩ := mrg_ok e nd fun k hk' => by
    obtain ⟨j, hj, ej⟩ := List.mem_iff_getElem.mp hk'
    obtain ⟨o, _, h1, _⟩ := l.ok j k (by rw [List.getElem?_eq_getElem hj, ej])
    exact (List.getElem?_eq_some_iff.mp h1).1
  obtain ⟨more, rfl⟩ := s.pre
  have hAp : A0.length = (pick α ks).length := by rw [hA, hpl]
  have hlm : more.length = rest.length := by
    have := w'.len
    rw [List.length_append, List.length_append] at this
    omega
  have hMα : α.length = M.length := by rw [hM]; exact w.len
  have nf : ∀ b, b ∈ more → H b = none := fun b hb => by
    rcases s.fresh b (List.mem_append_right _ hb) with z | z
    · have := (List.nodup_append.mp w'.nd).2.2 b z b hb
      exact absurd rfl this
    · exact z
  -- places of the new state
  have here : ∀ (i : Nat) (a : Addr) (o : DO), (α ++ more)[i]? = some a → (M ++ rest)[i]? = some o →
      (i ∉ ks ∧ α[i]? = some a ∧ O[i]? = some o ∧ a ∉ pick α ks) ∨
      (∃ j : Nat, ks[j]? = some i ∧ α[i]? = some a ∧ (pick α ks ++ more)[j]? = some a ∧ (A0 ++ rest)[j]? = some o) ∨
      (∃ j : Nat, ks[j]? = some i ∧ α[i]? = some a ∧ O[i]? = some o ∧ ∃ ds ds', L[j]? = some (DO.brw ds) ∧ (pick α ks ++ more)[j]? = some a ∧ (A0 ++ rest)[j]? = some (DO.brw ds')) ∨
      (∃ j : Nat, (pick α ks ++ more)[j]? = some a ∧ (A0 ++ rest)[j]? = some o ∧ a ∈ more) := by
    intro i a o e1 e2
    by_cases hi : i < α.length
    · rw [List.getElem?_append_left hi] at e1
      rw [List.getElem?_append_left (by rw [← hMα]; exact hi)] at e2
      by_cases hk' : i ∈ ks
      · obtain ⟨j, hj, ej⟩ := List.mem_iff_getElem.mp hk'
        have ej : ks[j]? = some i := by rw [List.getElem?_eq_getElem hj, ej]
        have hjp : j < (pick α ks).length := by rw [hpl]; exact hj
        have p1 : (pick α ks ++ more)[j]? = some a := by rw [List.getElem?_append_left hjp]; exact pick_at ej e1
        rcases hMk j i ej with g | ⟨g, ds, ds', g2, g3⟩
        · refine .inr (.inl ⟨j, ej, e1, p1, ?_⟩)
          rw [List.getElem?_append_left (by rw [hAp]; exact hjp), ← g]
          exact e2
        · refine .inr (.inr (.inl ⟨j, ej, e1, by rw [← g]; exact e2, ds, ds', g2, p1, ?_⟩))
          rw [List.getElem?_append_left (by rw [hAp]; exact hjp)]
          exact g3
      · refine .inl ⟨hk', e1, by rw [← hMi i hk']; exact e2, fun m => ?_⟩
        obtain ⟨j, k, h1, h2⟩ := hmem a m
        exact hk' (by rw [nodup_at w.nd e1 h2]; exact List.mem_of_getElem? h1)
    · rw [List.getElem?_append_right (by omega)] at e1
      rw [List.getElem?_append_right (by omega), ← hMα] at e2
      refine .inr (.inr (.inr ⟨(pick α ks).length + (i - α.length), ?_, ?_, List.mem_of_getElem? e1⟩))
      · rw [List.getElem?_append_right (by omega), show (pick α ks).length + (i - α.length) - (pick α ks).length = i - α.length by omega]; exact e1
      · rw [List.getElem?_append_right (by omega), show (pick α ks).length + (i - α.length) - A0.length = i - α.length by omega]; exact e2
  have nL : ∀ b, ¬ Ho α O b → ¬ Ho (pick α ks) L b := fun b m z => m (hoL b z)
  have S : Stp α O H (α ++ more) (M ++ rest) H' := by
    refine ⟨⟨more, rfl⟩, fun b o e m n => s.keep b o e (nL b m) n, s.there, fun b ⟨i, o, e1, e2, lo⟩ => ?_, fun b ⟨i, o, e1, e2, lo⟩ => ?_, fun b m => ?_⟩
    · rcases here i b o e1 e2 with ⟨_, g1, g2, _⟩ | ⟨j, _, g1, g2, g3⟩ | ⟨j, _, g1, g2, _⟩ | ⟨j, g1, g2, g3⟩
      · exact .inl ⟨i, o, g1, g2, lo⟩
      · rcases s.new b ⟨j, o, g2, g3, lo⟩ with z | z
        · exact .inl (owp b (owm b z))
        · exact .inr z
      · exact .inl ⟨i, o, g1, g2, lo⟩
      · exact .inr (nf b g3)
    · rcases here i b o e1 e2 with ⟨_, g1, g2, _⟩ | ⟨j, _, g1, g2, g3⟩ | ⟨j, _, g1, g2, _⟩ | ⟨j, g1, g2, g3⟩
      · exact .inl ⟨i, o, g1, g2, lo⟩
      · rcases s.hnew b ⟨j, o, g2, g3, lo⟩ with z | z
        · exact .inl (hoL b z)
        · exact .inr z
      · exact .inl ⟨i, o, g1, g2, lo⟩
      · exact .inr (nf b g3)
    · rcases List.mem_append.mp m with m | m
      · exact .inl m
      · exact .inr (nf b m)
  have hm2 : ∀ b, Mu B (α ++ more) (M ++ rest) b → Mu B' (pick α ks ++ more) (A0 ++ rest) b := fun b m => by
    rcases m with m | ⟨i, o, e1, e2, lo⟩
    · exact .inl (by rw [hB]; exact ⟨.inl m, fun z => w.nb b (owp b z) m⟩)
    · rcases here i b o e1 e2 with ⟨_, g1, g2, g3⟩ | ⟨j, _, g1, g2, g3⟩ | ⟨j, _, g1, g2, ds, ds', _, g4, g5⟩ | ⟨j, g1, g2, g3⟩
      · exact .inl (by rw [hB]; exact ⟨.inr ⟨i, o, g1, g2, lo⟩, g3⟩)
      · exact .inr ⟨j, o, g2, g3, lo⟩
      · exact .inr ⟨j, _, g4, g5, rfl⟩
      · exact .inr ⟨j, o, g1, g2, lo⟩
  have same : ∀ (i : Nat) (a : Addr) (o : DO), α[i]? = some a → O[i]? = some o → live o = true → ¬ Ho (pick α ks) L a → H' a = H a := fun i a o e1 e2 lo nh => by
    obtain ⟨q, e⟩ := Ow.some w ⟨i, o, e1, e2, lo⟩
    rw [e]
    refine s.keep a q e nh fun ps z => ?_
    have h := w.at_ i a o e1 e2
    cases o with
    | lst ds =>
      obtain ⟨vs, h, _⟩ := h
      rw [e, z] at h; cases h
    | brw ds =>
      obtain ⟨vs, h, _⟩ := h
      rw [e, z] at h; cases h
    | frz ds => cases lo
  have W2 : Own G B (α ++ more) (M ++ rest) H' := by
    refine ⟨by rw [List.length_append, List.length_append, hMα, hlm], ?_, fun i a o e1 e2 => ?_, fun b m => ?_, fun b ⟨i, o, e1, e2, lo⟩ => ?_, w'.tabs⟩
    · rw [List.nodup_append]
      refine ⟨w.nd, (List.nodup_append.mp w'.nd).2.1, fun x hx y hy z => ?_⟩
      obtain ⟨o, q⟩ := w.tracked hx
      rw [z, nf y hy] at q; cases q
    · rcases here i a o e1 e2 with ⟨_, g1, g2, g3⟩ | ⟨j, _, g1, g2, g3⟩ | ⟨j, hj, g1, g2, ds, ds', gL, g4, g5⟩ | ⟨j, g1, g2, g3⟩
      · exact (w.at_ i a o g1 g2).stp S fun lo => same i a o g1 g2 lo fun z => g3 (owm a z.ow)
      · exact (w'.at_ j a o g2 g3).less hm2
      · refine (w.at_ i a o g1 g2).stp S fun lo => same i a o g1 g2 lo fun ⟨j', o', z1, z2, z3⟩ => ?_
        have : (pick α ks)[j]? = some a := pick_at hj g1
        have := nodup_at ndp z1 this
        subst this
        rw [gL] at z2
        cases z2
        cases z3
      · exact (w'.at_ j a o g1 g2).less hm2
    · obtain ⟨o, e⟩ := w.bt b m
      cases q : H' b with
      | some o => exact ⟨o, rfl⟩
      | none => rw [s.there b q] at e; cases e
    · rcases here i b o e1 e2 with ⟨_, g1, g2, g3⟩ | ⟨j, _, g1, g2, g3⟩ | ⟨j, _, g1, g2, _⟩ | ⟨j, g1, g2, g3⟩
      · exact w.nb b ⟨i, o, g1, g2, lo⟩
      · obtain ⟨o1, _, k1, _, k3, _⟩ := l.ok j i (by assumption)
        exact w.nb b ⟨i, o1, g1, k1, k3⟩
      · exact w.nb b ⟨i, o, g1, g2, lo⟩
      · intro z
        obtain ⟨q, e⟩ := w.bt b z
        rw [nf b g3] at e; cases e
  refine ⟨α ++ more, S, W2, hm2, fun j a e => ?_⟩
  by_cases hj : j < (pick α ks).length
  · rw [List.getElem?_append_left hj] at e
    obtain ⟨k, h1, h2⟩ := hpk j a e
    rw [ren_lt h1, List.getElem?_append_left (List.getElem?_eq_some_iff.mp h2).1]
    exact h2
  · rw [List.getElem?_append_right (by omega)] at e
    rw [ren_ge (by omega), ← w.len, List.getElem?_append_right (by omega), show α.length + (j - ks.length) - α.length = j - ks.length by omega, ← hpl]
    exact e
/-- a call by data is a call -/
theorem call_low {P : ZSp} {us : List U} {vs : List V} {Q0 : U → List DO → Prop} {Q : VK} (w : Own G B α O H) (a : AtUs G.K B α O H vs us) (h : callZ P us O Q0 E0)
    (hq : ∀ u O', Q0 u O' → ∀ α' v H', Stp α O H α' O' H' → Own G B α' O' H' → AtU G.K B α' O' H' v u → Q v H') (he : ELow G B W0 α O H E0) : lowSp G P vs H Q W0 := by
  obtain ⟨r, ks, L, e, nd, h⟩ := h
  obtain ⟨l, hr⟩ := lendU_ok w e a
  obtain ⟨B', W1, hm, key⟩ := call_key w nd l
  refine ⟨B', pick α ks, L, r, _, _, W1, hr B' _ L hm fun i k a e1 e2 => by rw [Nat.zero_add]; exact pick_at e1 e2, h, fun u N q γ v H' s w' a' => ?_, fun x N q γ cls dd H' s w' a' => ?_⟩
  · obtain ⟨O2, e2, q⟩ := q
    obtain ⟨α2, S, W2, hm2, hi⟩ := key e2 s w'
    exact hq _ _ q _ _ _ S W2 (a'.sh hm2 hi)
  · obtain ⟨O2, e2, q⟩ := q
    obtain ⟨α2, S, W2, hm2, hi⟩ := key e2 s w'
    have S3 := stp_take S w
    have W3 := own_take W2 α.length
    rw [S3.2] at W3
    have S3 := S3.1
    rw [w.len] at S3 W3
    refine he x _ q α cls dd H' S3 W3 ?_
    obtain ⟨h1, dx, fs, h2, h3, h4, h5, h6⟩ := a'
    have hm3 : ∀ b, Mu B α (O2.take O.length) b → Mu B' γ N b := fun b m => hm2 b (by
      rcases m with m | ⟨j, o, e1, e2, lo⟩
      · exact .inl m
      · obtain ⟨mm, e⟩ := S.pre
        refine .inr ⟨j, o, ?_, take_some e2, lo⟩
        rw [e, List.getElem?_append_left (List.getElem?_eq_some_iff.mp e1).1]; exact e1)
    exact ⟨h1, dx, fs, h2, h3, fun m => h4 (hm3 _ m), h5, h6.less hm3⟩
end
end Z

set_option Elab.async false
set_option linter.all false
set_option maxRecDepth 100000
set_option maxHeartbeats 4000000
namespace Z
open PySem PySem.Spec PyProof.Rows L2

/-- the def x keeps the promise P -/
def FnK (X : Cx) (G : Gx) (k : Nat) (x : Str) (P : ZSp) : Prop := ∃ f fd ps, X.mg x = some (.ref f) ∧ PySem.W.keepIn X.K (.ref f) = true ∧ FnOk X.prog X.w X.K X.mg X.base (L2.CX X.prog X.w) k f fd ps (lowSp G P) ∧ Binds X.K fd ps []
def bnames : List Str := ["len", "abs", "int", "list", "tuple", "sum", "all", "any", "min", "max", "isinstance", "range", "enumerate", "zip", "reversed", "bool", "str", "dict", "sorted"]
structure Good (X : Cx) (G : Gx) (W0 : XK) (k : Nat) (S : Sx) (Γ : List (Str × ZSp)) : Prop where
  hN : X.N = S.N
  nd : X.N.Nodup
  sc : X.env.scope = S.sc
  calm : X.calm = true
  hK : X.K = G.K
  takes : Takes X fun c d _ H => W0 c d H
  room : Room k X.A
  fns : ∀ (i : Nat) (x : Str) (P : ZSp), Γ[i]? = some (x, P) → FnK X G k x P
  free : ∀ x ∈ bnames, X.mg x = none
  sto : ∀ x, ownB S.so x = true → Loc X.env.scope x ∧ (X.fn x = true ∨ X.env.scope.names.lookup x = some .local)
def LfO (G : Gx) (W0 : XK) (t : ZE) : TO := fun σ H Q => ∃ B α ρ O Q0 E0, Rep G B α σ H ρ O ∧ t E0 ρ O Q0 ∧
  (∀ us O', Q0 us O' → ∃ l, ((us = [] ∧ l = none) ∨ ∃ i, us = [.d (.int i)] ∧ l = some i) ∧ ∀ α' H', Stp α O H α' O' H' → Own G B α' O' H' → Q l H') ∧ ELow G B W0 α O H E0
/-- what a loop walks, by data -/
structure WalkD (G : Gx) (B : Addr → Prop) (α : List Addr) (O : List DO) (H : Hp) (J : It) (ds : List D) : Prop where
  ex : ∃ Gd Yy, L2.Walk J ds.length Gd Yy ∧
    ∀ (B2 : Addr → Prop) (α2 : List Addr) (O2 : List DO) (H2 : Hp), (∀ b, Mu B2 α2 O2 b → Mu B α O b ∨ H b = none) → (∀ b o, H b = some o → ¬ Ho α O b → (∀ ps, o ≠ .tbl ps) → H2 b = some o) → Own G B2 α2 O2 H2 →
      Gd H2 ∧ ∀ (i : Nat) x H3, i < ds.length → Yy i H2 x H3 → ∃ d, ds[i]? = some d ∧ (H3 = H2 ∨ ∃ p vs, H2 p = none ∧ H3 = upd H2 p (.tup vs)) ∧ At G.K (Mu B2 α2 O2) H3 x d
def LfI (G : Gx) (W0 : XK) (t : ZE) : TI := fun σ H R => ∃ B α ρ O Q0 E0, Rep G B α σ H ρ O ∧ t E0 ρ O Q0 ∧
  (∀ us O', Q0 us O' → ∃ ds, us = List.map U.d ds ∧ ∀ α' H' J, Stp α O H α' O' H' → Own G B α' O' H' → WalkD G B α' O' H' J ds → R J H') ∧ ELow G B W0 α O H E0
theorem pi_imp {X : Cx} {tg e : Expr} {t t' : TI} (h : PI X tg e t) (i : ∀ σ H Q, t' σ H Q → t σ H Q) : PI X tg e t' := ⟨fun pins s σ H Q I q => h.run pins s σ H Q I (i σ H Q q)⟩
theorem po_imp {X : Cx} {e : Option Expr} {t t' : TO} (h : PO X e t) (i : ∀ σ H Q, t' σ H Q → t σ H Q) : PO X e t' := ⟨fun pins s σ H Q I q => h.run pins s σ H Q I (i σ H Q q)⟩

structure Sd (G : Gx) (k : Nat) (Γ : List (Str × ZSp)) (z : Y) : Prop where
  E : ∀ X W0 S, Good X G W0 k S Γ → ∀ e, (ck (Γ.map (·.1)) z S).E e = true → SE X G W0 e (vc Γ z)
  T : ∀ X W0 S, Good X G W0 k S Γ → ∀ e, (ck (Γ.map (·.1)) z S).T e = true → ST X G W0 e (vc Γ z)
  W : ∀ X W0 S, Good X G W0 k S Γ → ∀ op xs p, (ck (Γ.map (·.1)) z S).T (.BoolOp op xs p) = true → PW X (.BoolOp op xs p) (LfT G W0 (vc Γ z))
  A : ∀ X W0 S, Good X G W0 k S Γ → ∀ es, (ck (Γ.map (·.1)) z S).A es = true → SA X G W0 es (vc Γ z)
  I : ∀ X W0 S, Good X G W0 k S Γ → ∀ tg e, (ck (Γ.map (·.1)) z S).I tg e = true → PI X tg e (LfI G W0 (vc Γ z))
  O : ∀ X W0 S, Good X G W0 k S Γ → ∀ e, (ck (Γ.map (·.1)) z S).O e = true → PO X e (LfO G W0 (vc Γ z))

section
variable {G : Gx} {B : Addr → Prop} {α : List Addr} {O : List DO} {H : Hp} {σ : L2.St} {ρ : List (Option U)} {W0 : XK} {E0 : ZX} {t : ZE}
theorem oneK_of {us : List U} {k : U → Prop} (h : oneK us k) : ∃ u, us = [u] ∧ k u := by
  unfold oneK at h
  split at h
  · exact ⟨_, rfl, h⟩
  · exact h.elim
theorem boolK_of {us : List U} {k : Bool → Prop} (h : boolK us k) : ∃ b, us = [.d (.bl b)] ∧ k b := by
  unfold boolK at h
  split at h
  · exact ⟨_, rfl, h⟩
  · exact h.elim
theorem nrK_of {u : U} {k : D → Prop} (h : nrK O u k) : ∃ x, nrm O u = some x ∧ k x := by
  unfold nrK at h
  split at h
  · exact ⟨_, by assumption, h⟩
  · exact h.elim
theorem toK_of {u : U} {k : D → Prop} (h : toK O u k) : ∃ x, toD O u = some x ∧ k x := by
  unfold toK at h
  split at h
  · exact ⟨_, by assumption, h⟩
  · exact h.elim
theorem tosK_of {us : List U} {k : List D → Prop} (h : tosK O us k) : ∃ x, toDs O us = some x ∧ k x := by
  unfold tosK at h
  split at h
  · exact ⟨_, by assumption, h⟩
  · exact h.elim
theorem nrsK_of {us : List U} {k : List D → Prop} (h : nrsK O us k) : ∃ x, nrs O us = some x ∧ k x := by
  unfold nrsK at h
  split at h
  · exact ⟨_, by assumption, h⟩
  · exact h.elim
theorem seqE {F : U → List DO → Prop} {Q : VK} (R : Rep G B α σ H ρ O) (h : t E0 ρ O fun us O1 => oneK us fun u => F u O1) (he : ELow G B W0 α O H E0)
    (k : ∀ u O1, F u O1 → ∀ α1 v H1, Stp α O H α1 O1 H1 → Own G B α1 O1 H1 → AtU G.K B α1 O1 H1 v u → Q v H1) : LfE G W0 t σ H Q :=
  ⟨B, α, ρ, O, _, E0, R, h, fun us O1 q => by
    obtain ⟨u, e, q⟩ := oneK_of q
    exact ⟨u, e, k u O1 q⟩, he⟩
theorem seqB {F : Bool → List DO → Prop} {Q : VK} (R : Rep G B α σ H ρ O) (h : t E0 ρ O fun us O1 => boolK us fun u => F u O1) (he : ELow G B W0 α O H E0)
    (k : ∀ b O1, F b O1 → ∀ α1 H1, Stp α O H α1 O1 H1 → Own G B α1 O1 H1 → Q (.bl b) H1) : LfE G W0 t σ H Q :=
  ⟨B, α, ρ, O, _, E0, R, h, fun us O1 q => by
    obtain ⟨b, e, q⟩ := boolK_of q
    refine ⟨_, e, fun α1 v H1 s w a => ?_⟩
    cases a with
    | d a => cases a; exact k b O1 q α1 H1 s w, he⟩
theorem seqT {F : Bool → List DO → Prop} {Q : Bool → Hp → Prop} (R : Rep G B α σ H ρ O) (h : t E0 ρ O fun us O1 => boolK us fun u => F u O1) (he : ELow G B W0 α O H E0)
    (k : ∀ b O1, F b O1 → ∀ α1 H1, Stp α O H α1 O1 H1 → Own G B α1 O1 H1 → Q b H1) : LfT G W0 t σ H Q :=
  ⟨B, α, ρ, O, _, E0, R, h, fun us O1 q => by
    obtain ⟨b, e, q⟩ := boolK_of q
    exact ⟨_, e, k b O1 q⟩, he⟩
theorem seqA {F : List U → List DO → Prop} {Q : List V → Hp → Prop} (R : Rep G B α σ H ρ O) (h : t E0 ρ O F) (he : ELow G B W0 α O H E0)
    (k : ∀ us O1, F us O1 → ∀ α1 vs H1, Stp α O H α1 O1 H1 → Own G B α1 O1 H1 → AtUs G.K B α1 O1 H1 vs us → Q vs H1) : LfA G W0 t σ H Q :=
  ⟨B, α, ρ, O, F, E0, R, h, k, he⟩
/-- the end: a value -/
theorem QLow.to {Q0 : ZQ} {Q : VK} (hq : QLow G B α O H Q0 Q) {u : U} {O' : List DO} (h : Q0 [u] O') {α' : List Addr} {v : V} {H' : Hp} (s : Stp α O H α' O' H') (w : Own G B α' O' H') (a : AtU G.K B α' O' H' v u) : Q v H' := by
  obtain ⟨u', e, k⟩ := hq _ _ h
  cases e
  exact k α' v H' s w a
theorem QLow.stp {Q0 : ZQ} {Q : VK} (hq : QLow G B α O H Q0 Q) {α' : List Addr} {O' : List DO} {H' : Hp} (s : Stp α O H α' O' H') : QLow G B α' O' H' Q0 Q := fun us O2 h =>
  let ⟨u, e, k⟩ := hq us O2 h; ⟨u, e, fun α2 v H2 s2 w a => k α2 v H2 (s.trans s2) w a⟩
theorem BLow.stp {Q0 : ZQ} {Q : Bool → Hp → Prop} (hq : BLow G B α O H Q0 Q) {α' : List Addr} {O' : List DO} {H' : Hp} (s : Stp α O H α' O' H') : BLow G B α' O' H' Q0 Q := fun us O2 h =>
  let ⟨u, e, k⟩ := hq us O2 h; ⟨u, e, fun α2 H2 s2 w => k α2 H2 (s.trans s2) w⟩
theorem BLow.to {Q0 : ZQ} {Q : Bool → Hp → Prop} (hq : BLow G B α O H Q0 Q) {b : Bool} {O' : List DO} (h : Q0 [.d (.bl b)] O') {α' : List Addr} {H' : Hp} (s : Stp α O H α' O' H') (w : Own G B α' O' H') : Q b H' := by
  obtain ⟨u', e, k⟩ := hq _ _ h
  cases e
  exact k α' H' s w
/-- a test by its value -/
theorem st_of {X : Cx} {e : Expr} (h : SE X G W0 e t) (p : plainT e = true) : ST X G W0 e t := by
  have he : ∀ whole, isTrue e X.env whole = (do let v ← whole; standAt e.pos; holding [v] (truthy v)) := by
    intro whole
    cases e with
    | UnaryOp op a pos => cases op <;> first | rfl | cases p
    | BoolOp _ _ _ => cases p
    | IfExp _ _ _ _ => cases p
    | Compare _ _ _ _ => cases p
    | _ => rfl
  refine pt_imp (pt_truth h he) fun σ H Q ⟨B, α, ρ, O, Q0, E0, R, h, hq, hl⟩ => ⟨B, α, ρ, O, Q0, E0, R, h, fun us O' q => ?_, hl⟩
  obtain ⟨b, e, k⟩ := hq us O' q
  refine ⟨_, e, fun α' v H' s w a => ?_⟩
  cases a with
  | d a => cases a; exact ⟨b, rfl, k α' H' s w⟩
end
section
variable {G : Gx} {k : Nat} {Γ : List (Str × ZSp)} {z : Y}
theorem Sd.ofE (f : Sx → Expr → Bool) (hf : ∀ S, ck (Γ.map (·.1)) z S = cE (f S)) (h : ∀ X W0 S, Good X G W0 k S Γ → ∀ e, f S e = true → SE X G W0 e (vc Γ z)) : Sd G k Γ z where
  E := fun X W0 S g e c => h X W0 S g e (by rw [hf S] at c; exact c)
  T := fun X W0 S g e c => by
    rw [hf S] at c
    have c' : (plainT e && f S e) = true := c
    rw [Bool.and_eq_true] at c'
    exact st_of (h X W0 S g e c'.2) c'.1
  W := fun X W0 S g op xs p c => by
    rw [hf S] at c
    have c' : (false && f S (.BoolOp op xs p)) = true := c
    cases c'
  A := fun X W0 S g es c => by rw [hf S] at c; cases c
  I := fun X W0 S g tg e c => by rw [hf S] at c; cases c
  O := fun X W0 S g e c => by rw [hf S] at c; cases c
end
theorem ba {a b : Bool} (h : (a && b) = true) : a = true ∧ b = true := Bool.and_eq_true_iff.mp h
theorem vis_of {sc : Scope} {x : Str} (h : visB sc x = true) : Vis sc x := by
  unfold visB at h
  split at h
  · exact .inl (by assumption)
  · exact .inr (.inl (by assumption))
  · exact .inr (.inr (by assumption))
  · cases h
theorem okn_of {x : Str} (h : oknB x = true) : (x == ("__debug__" : Str)) = false ∧ (x == ("__classdict__" : Str)) = false := by
  obtain ⟨a, b⟩ := ba h
  exact ⟨by simpa using a, by simpa using b⟩
section
variable {G : Gx} {k : Nat} {Γ : List (Str × ZSp)}
theorem pe_name {X : Cx} {W0 : XK} {S : Sx} (g : Good X G W0 k S Γ) {x : Str} {i : Nat} {pos : Pos} (c : (decide (S.N[i]? = some x) && visB S.sc x && oknB x) = true) : PE X (.Name x pos) (tVar i) := by
  obtain ⟨c1, c3⟩ := ba c
  obtain ⟨c1, c2⟩ := ba c1
  exact pe_var (by rw [g.hN]; exact of_decide_eq_true c1) (by rw [g.sc]; exact vis_of c2) (okn_of c3).1 (okn_of c3).2
theorem sd_var (i : Nat) : Sd G k Γ (.var i) := .ofE _ (fun _ => rfl) fun X W0 S g e c => by
  split at c
  · refine pe_imp (pe_name g c) fun σ H Q ⟨B, α, ρ, O, Q0, E0, R, h, hq, hl⟩ => ?_
    have h' : (match gt ρ i with | some u => Q0 [u] O | none => False) := h
    cases q : gt ρ i with
    | none => rw [q] at h'; exact h'.elim
    | some u =>
      rw [q] at h'
      obtain ⟨v, e, a⟩ := R.vars i u q
      exact ⟨v, e, hq.to h' Stp.refl R.own a⟩
  · cases c
theorem sd_int (i : Int) : Sd G k Γ (.int i) := .ofE _ (fun _ => rfl) fun X W0 S g e c => by
  split at c
  · rw [of_decide_eq_true c]
    exact pe_imp pe_int fun σ H Q ⟨B, α, ρ, O, Q0, E0, R, h, hq, hl⟩ => hq.to h Stp.refl R.own (.d (.int _))
  · cases c
theorem sd_bl (i : Bool) : Sd G k Γ (.bl i) := .ofE _ (fun _ => rfl) fun X W0 S g e c => by
  split at c
  · rw [of_decide_eq_true c]
    exact pe_imp pe_bl fun σ H Q ⟨B, α, ρ, O, Q0, E0, R, h, hq, hl⟩ => hq.to h Stp.refl R.own (.d (.bl _))
  · cases c
theorem sd_non : Sd G k Γ .non := .ofE _ (fun _ => rfl) fun X W0 S g e c => by
  split at c
  · exact pe_imp pe_non fun σ H Q ⟨B, α, ρ, O, Q0, E0, R, h, hq, hl⟩ => hq.to h Stp.refl R.own (.d .non)
  · cases c
theorem sd_str (i : Str) : Sd G k Γ (.str i) := .ofE _ (fun _ => rfl) fun X W0 S g e c => by
  split at c
  · rw [of_decide_eq_true c]
    exact pe_imp pe_str fun σ H Q ⟨B, α, ρ, O, Q0, E0, R, h, hq, hl⟩ => hq.to h Stp.refl R.own (.d (.str _))
  · cases c
theorem sd_none (z : Y) (h : ∀ S, ck (Γ.map (·.1)) z S = {}) : Sd G k Γ z where
  E := fun X W0 S g e c => by rw [h S] at c; cases c
  T := fun X W0 S g e c => by rw [h S] at c; cases c
  W := fun X W0 S g op xs p c => by rw [h S] at c; cases c
  A := fun X W0 S g es c => by rw [h S] at c; cases c
  I := fun X W0 S g tg e c => by rw [h S] at c; cases c
  O := fun X W0 S g e c => by rw [h S] at c; cases c
/-- two operands -/
theorem seq2 {W0 : XK} {ta tb : ZE} {B : Addr → Prop} {α : List Addr} {O : List DO} {H : Hp} {σ : L2.St} {ρ : List (Option U)} {E0 : ZX} {F : U → U → List DO → Prop} {Q : V → V → Hp → Prop} (R : Rep G B α σ H ρ O)
    (h : ta E0 ρ O fun us O1 => oneK us fun u => tb E0 ρ O1 fun ws O2 => oneK ws fun w => F u w O2) (he : ELow G B W0 α O H E0)
    (kk : ∀ u w O2, F u w O2 → ∀ α2 v v2 H2, Stp α O H α2 O2 H2 → Own G B α2 O2 H2 → AtU G.K B α2 O2 H2 v u → AtU G.K B α2 O2 H2 v2 w → Q v v2 H2) :
    LfE G W0 ta σ H fun v H1 => LfE G W0 tb σ H1 fun v2 H2 => Q v v2 H2 :=
  seqE R h he fun u O1 f α1 v H1 s1 w1 a1 => seqE (R.stp s1 w1) f (he.stp s1) fun w O2 f2 α2 v2 H2 s2 w2 a2 => kk u w O2 f2 α2 v v2 H2 (s1.trans s2) w2 (s2.atU a1) a2
theorem sd_bin (op : Operator) {a b : Y} (da : Sd G k Γ a) (db : Sd G k Γ b) : Sd G k Γ (.bin op a b) := .ofE _ (fun _ => rfl) fun X W0 S g e c => by
  split at c
  · obtain ⟨c, c3⟩ := ba c
    obtain ⟨c1, c2⟩ := ba c
    rw [← of_decide_eq_true c1]
    refine pe_imp (pe_op (opr_bin g.hK op) (da.E X W0 S g _ c2) (db.E X W0 S g _ c3)) fun σ H Q ⟨B, α, ρ, O, Q0, E0, R, h, hq, hl⟩ => ?_
    refine seq2 R h hl fun u w O2 f α2 v v2 H2 s2 w2 a1 a2 => ?_
    obtain ⟨x, e1, f⟩ := nrK_of f
    obtain ⟨y, e2, f⟩ := nrK_of f
    exact ⟨B, α2, O2, x, y, _, w2, Vw.of w2 a1 e1, Vw.of w2 a2 e2, f, fun z q v' H' s' w' a' => hq.to q (s2.trans s') w' (.d a')⟩
  · cases c
theorem sd_neg {a : Y} (da : Sd G k Γ a) : Sd G k Γ (.neg a) := .ofE _ (fun _ => rfl) fun X W0 S g e c => by
  split at c
  · refine pe_imp (pe_un un_neg (da.E X W0 S g _ c)) fun σ H Q ⟨B, α, ρ, O, Q0, E0, R, h, hq, hl⟩ => ?_
    refine seqE R h hl fun u O1 f α1 v H1 s1 w1 a1 => ?_
    obtain ⟨x, e1, f⟩ := nrK_of f
    have av := Vw.of w1 a1 e1
    cases x with
    | int i =>
      obtain rfl := av.int
      exact ⟨i, rfl, hq.to f s1 w1 (.d (.int _))⟩
    | _ => exact f.elim
  · cases c
theorem marks_of {op : CmpOp} {r : Expr} (h : noSet r = true) : behindInMarks op r = false := by
  cases r <;> first | rfl | cases h
theorem sd_cmp (op : CmpOp) {a b : Y} (da : Sd G k Γ a) (db : Sd G k Γ b) : Sd G k Γ (.cmp op a b) where
  E := fun X W0 S g e c => by
    have c' : cmpC op (ck (Γ.map (·.1)) a S).E (ck (Γ.map (·.1)) b S).E e = true := c
    unfold cmpC at c'
    split at c'
    · obtain ⟨c, c4⟩ := ba c'
      obtain ⟨c, c3⟩ := ba c
      obtain ⟨c1, c2⟩ := ba c
      rw [← of_decide_eq_true c1]
      refine pe_imp (pe_cmpR (opc_all g.room.units g.hK op) (da.E X W0 S g _ c2) (db.E X W0 S g _ c3) (marks_of c4)) fun σ H Q ⟨B, α, ρ, O, Q0, E0, R, h, hq, hl⟩ => ?_
      refine seq2 R h hl fun u w O2 f α2 v v2 H2 s2 w2 a1 a2 => ?_
      obtain ⟨x, e1, f⟩ := nrK_of f
      obtain ⟨y, e2, f⟩ := nrK_of f
      exact ⟨B, α2, O2, x, y, _, w2, Vw.of w2 a1 e1, Vw.of w2 a2 e2, f, fun t q => hq.to q s2 w2 (.d (.bl _))⟩
    · cases c'
  T := fun X W0 S g e c => by
    have c' : cmpC op (ck (Γ.map (·.1)) a S).E (ck (Γ.map (·.1)) b S).E e = true := c
    unfold cmpC at c'
    split at c'
    · obtain ⟨c, c4⟩ := ba c'
      obtain ⟨c, c3⟩ := ba c
      obtain ⟨c1, c2⟩ := ba c
      rw [← of_decide_eq_true c1]
      refine pt_imp (pt_cmpR (opc_all g.room.units g.hK op) (da.E X W0 S g _ c2) (db.E X W0 S g _ c3) (marks_of c4)) fun σ H Q ⟨B, α, ρ, O, Q0, E0, R, h, hq, hl⟩ => ?_
      refine seq2 R h hl fun u w O2 f α2 v v2 H2 s2 w2 a1 a2 => ?_
      obtain ⟨x, e1, f⟩ := nrK_of f
      obtain ⟨y, e2, f⟩ := nrK_of f
      exact ⟨B, α2, O2, x, y, _, w2, Vw.of w2 a1 e1, Vw.of w2 a2 e2, f, fun t q => ⟨t, rfl, hq.to q s2 w2⟩⟩
    · cases c'
  W := fun X W0 S g op xs p c => by cases c
  A := fun X W0 S g es c => by cases c
  I := fun X W0 S g tg e c => by cases c
  O := fun X W0 S g e c => by cases c
/-- a op b op c, the reading -/
theorem chain_low {o p : CmpOp} {X : Cx} {W0 : XK} {a b c : Y} {σ : L2.St} {H : Hp} {Q : VK} {B : Addr → Prop} {α : List Addr} {ρ : List (Option U)} {O : List DO} {Q0 : ZQ} {E0 : ZX} (hK : X.K = G.K) (R : Rep G B α σ H ρ O) (h : vc Γ (.chain o p a b c) E0 ρ O Q0)
    (hq : ∀ b O', Q0 [.d (.bl b)] O' → ∀ α' H', Stp α O H α' O' H' → Own G B α' O' H' → Q (.bl b) H') (hl : ELow G B W0 α O H E0) : tChain (rC G (cmpD o)) (rC G (cmpD p)) (LfE G W0 (vc Γ a)) (LfE G W0 (vc Γ b)) (LfE G W0 (vc Γ c)) σ H Q := by
  refine seq2 R h hl fun u w O2 f α2 v v2 H2 s2 w2 a1 a2 => ?_
  obtain ⟨x, e1, f⟩ := nrK_of f
  obtain ⟨y, e2, f⟩ := nrK_of f
  refine ⟨B, α2, O2, x, y, _, w2, Vw.of w2 a1 e1, Vw.of w2 a2 e2, f, fun t f => ⟨t, rfl, ?_⟩⟩
  cases t with
  | true =>
    rw [if_pos rfl]
    refine seqE (R.stp s2 w2) (f.1 rfl) (hl.stp s2) fun u3 O3 f3 α3 v3 H3 s3 w3 a3 => ?_
    obtain ⟨y2, e3, f3⟩ := nrK_of f3
    obtain ⟨z, e4, f3⟩ := nrK_of f3
    exact ⟨B, α3, O3, y2, z, _, w3, Vw.of w3 (s3.atU a2) e3, Vw.of w3 a3 e4, f3, fun t q => hq t O3 q α3 H3 (s2.trans s3) w3⟩
  | false =>
    rw [if_neg (by decide)]
    exact hq false O2 (f.2 rfl) α2 H2 s2 w2
theorem sd_chain (o p : CmpOp) {a b c : Y} (da : Sd G k Γ a) (db : Sd G k Γ b) (dc : Sd G k Γ c) : Sd G k Γ (.chain o p a b c) where
  E := fun X W0 S g e ch => by
    have c' : chainC o p (ck (Γ.map (·.1)) a S).E (ck (Γ.map (·.1)) b S).E (ck (Γ.map (·.1)) c S).E e = true := ch
    unfold chainC at c'
    split at c'
    · obtain ⟨c', c7⟩ := ba c'
      obtain ⟨c', c6⟩ := ba c'
      obtain ⟨c', c5⟩ := ba c'
      obtain ⟨c', c4⟩ := ba c'
      obtain ⟨c', c3⟩ := ba c'
      obtain ⟨c1, c2⟩ := ba c'
      rw [← of_decide_eq_true c1, ← of_decide_eq_true c2]
      refine pe_imp (pe_chain (opc_all g.room.units g.hK o) (opc_all g.room.units g.hK p) (da.E X W0 S g _ c3) (db.E X W0 S g _ c4) (dc.E X W0 S g _ c5) (marks_of c7)) fun σ H Q ⟨B, α, ρ, O, Q0, E0, R, h, hq, hl⟩ => ?_
      exact chain_low (X := X) g.hK R h (fun b O' q α' H' s w => hq.to q s w (.d (.bl _))) hl
    · cases c'
  T := fun X W0 S g e ch => by
    have c' : chainC o p (ck (Γ.map (·.1)) a S).E (ck (Γ.map (·.1)) b S).E (ck (Γ.map (·.1)) c S).E e = true := ch
    unfold chainC at c'
    split at c'
    · obtain ⟨c', c7⟩ := ba c'
      obtain ⟨c', c6⟩ := ba c'
      obtain ⟨c', c5⟩ := ba c'
      obtain ⟨c', c4⟩ := ba c'
      obtain ⟨c', c3⟩ := ba c'
      obtain ⟨c1, c2⟩ := ba c'
      rw [← of_decide_eq_true c1, ← of_decide_eq_true c2]
      refine pt_imp (pt_chain (opc_all g.room.units g.hK o) (opc_all g.room.units g.hK p) (da.E X W0 S g _ c3) (db.E X W0 S g _ c4) (dc.E X W0 S g _ c5) (marks_of c7)) fun σ H Q ⟨B, α, ρ, O, Q0, E0, R, h, hq, hl⟩ => ?_
      exact chain_low (X := X) g.hK R h (fun b O' q α' H' s w => ⟨b, rfl, hq.to q s w⟩) hl
    · cases c'
  W := fun X W0 S g op xs p c => by cases c
  A := fun X W0 S g es c => by cases c
  I := fun X W0 S g tg e c => by cases c
  O := fun X W0 S g e c => by cases c
theorem sd_not {a : Y} (da : Sd G k Γ a) : Sd G k Γ (.not a) where
  E := fun X W0 S g e c => by
    have c' : notC (ck (Γ.map (·.1)) a S).E e = true := c
    unfold notC at c'
    split at c'
    · refine pe_imp (pe_not (da.E X W0 S g _ c')) fun σ H Q ⟨B, α, ρ, O, Q0, E0, R, h, hq, hl⟩ => ?_
      exact seqB R h hl fun b O1 f α1 H1 s1 w1 => ⟨b, rfl, hq.to f s1 w1 (.d (.bl _))⟩
    · cases c'
  T := fun X W0 S g e c => by
    have c' : notC (ck (Γ.map (·.1)) a S).T e = true := c
    unfold notC at c'
    split at c'
    · refine pt_imp (pt_not (da.T X W0 S g _ c')) fun σ H Q ⟨B, α, ρ, O, Q0, E0, R, h, hq, hl⟩ => ?_
      exact seqT R h hl fun b O1 f α1 H1 s1 w1 => hq.to f s1 w1
    · cases c'
  W := fun X W0 S g op xs p c => by cases c
  A := fun X W0 S g es c => by cases c
  I := fun X W0 S g tg e c => by cases c
  O := fun X W0 S g e c => by cases c
theorem sd_one {a : Y} (da : Sd G k Γ a) : Sd G k Γ (.one a) where
  E := fun X W0 S g e c => by
    have c' : oneC (ck (Γ.map (·.1)) a S).E e = true := c
    unfold oneC at c'
    split at c'
    · exact pe_one (da.E X W0 S g _ c')
    · cases c'
  T := fun X W0 S g e c => by
    have c' : oneC (ck (Γ.map (·.1)) a S).T e = true := c
    unfold oneC at c'
    split at c'
    · rename_i op x p
      cases op with
      | And => exact (pw_and1 (da.T X W0 S g _ c')).pt
      | Or => exact (pw_or1 (da.T X W0 S g _ c')).pt
    · cases c'
  W := fun X W0 S g op xs p c => by
    have c' : oneC (ck (Γ.map (·.1)) a S).T (.BoolOp op xs p) = true := c
    unfold oneC at c'
    split at c'
    · rename_i e
      cases e
      cases op with
      | And => exact pw_and1 (da.T X W0 S g _ c')
      | Or => exact pw_or1 (da.T X W0 S g _ c')
    · cases c'
  A := fun X W0 S g es c => by cases c
  I := fun X W0 S g tg e c => by cases c
  O := fun X W0 S g e c => by cases c
theorem and_low {W0 : XK} {a b : Y} {σ : L2.St} {H : Hp} {Q : Bool → Hp → Prop} (h : LfT G W0 (vc Γ (.and a b)) σ H Q) : tAnd (LfT G W0 (vc Γ a)) (LfT G W0 (vc Γ b)) σ H Q := by
  obtain ⟨B, α, ρ, O, Q0, E0, R, h, hq, hl⟩ := h
  refine seqT R h hl fun t O1 f α1 H1 s1 w1 => ?_
  cases t with
  | true => rw [if_pos rfl]; exact ⟨B, α1, ρ, O1, Q0, E0, R.stp s1 w1, f.1 rfl, hq.stp s1, hl.stp s1⟩
  | false => rw [if_neg (by decide)]; exact hq.to (f.2 rfl) s1 w1
theorem or_low {W0 : XK} {a b : Y} {σ : L2.St} {H : Hp} {Q : Bool → Hp → Prop} (h : LfT G W0 (vc Γ (.or a b)) σ H Q) : tOr (LfT G W0 (vc Γ a)) (LfT G W0 (vc Γ b)) σ H Q := by
  obtain ⟨B, α, ρ, O, Q0, E0, R, h, hq, hl⟩ := h
  refine seqT R h hl fun t O1 f α1 H1 s1 w1 => ?_
  cases t with
  | true => rw [if_pos rfl]; exact hq.to (f.1 rfl) s1 w1
  | false => rw [if_neg (by decide)]; exact ⟨B, α1, ρ, O1, Q0, E0, R.stp s1 w1, f.2 rfl, hq.stp s1, hl.stp s1⟩
theorem sd_and {a b : Y} (da : Sd G k Γ a) (db : Sd G k Γ b) : Sd G k Γ (.and a b) where
  E := fun X W0 S g e c => by
    have c' : andC (ck (Γ.map (·.1)) a S).E (ck (Γ.map (·.1)) b S).E e = true := c
    unfold andC at c'
    split at c'
    · obtain ⟨c1, c2⟩ := ba c'
      refine pe_imp (pe_and (da.E X W0 S g _ c1) (db.E X W0 S g _ c2)) fun σ H Q ⟨B, α, ρ, O, Q0, E0, R, h, hq, hl⟩ => ?_
      refine seqB R h hl fun t O1 f α1 H1 s1 w1 => ⟨t, rfl, ?_⟩
      cases t with
      | true => rw [if_pos rfl]; exact ⟨B, α1, ρ, O1, Q0, E0, R.stp s1 w1, f.1 rfl, hq.stp s1, hl.stp s1⟩
      | false => rw [if_neg (by decide)]; exact hq.to (f.2 rfl) s1 w1 (.d (.bl _))
    · cases c'
  T := fun X W0 S g e c => by
    have c' : andC (ck (Γ.map (·.1)) a S).T (ck (Γ.map (·.1)) b S).T e = true := c
    unfold andC at c'
    split at c'
    · obtain ⟨c1, c2⟩ := ba c'
      exact pt_imp (pw_and (da.T X W0 S g _ c1) (db.W X W0 S g _ _ _ c2)).pt fun σ H Q h => and_low h
    · cases c'
  W := fun X W0 S g op xs p c => by
    have c' : andC (ck (Γ.map (·.1)) a S).T (ck (Γ.map (·.1)) b S).T (.BoolOp op xs p) = true := c
    unfold andC at c'
    split at c'
    · rename_i e
      cases e
      obtain ⟨c1, c2⟩ := ba c'
      exact pw_imp (pw_and (da.T X W0 S g _ c1) (db.W X W0 S g _ _ _ c2)) fun σ H Q h => and_low h
    · cases c'
  A := fun X W0 S g es c => by cases c
  I := fun X W0 S g tg e c => by cases c
  O := fun X W0 S g e c => by cases c
theorem sd_or {a b : Y} (da : Sd G k Γ a) (db : Sd G k Γ b) : Sd G k Γ (.or a b) where
  E := fun X W0 S g e c => by
    have c' : orC (ck (Γ.map (·.1)) a S).E (ck (Γ.map (·.1)) b S).E e = true := c
    unfold orC at c'
    split at c'
    · obtain ⟨c1, c2⟩ := ba c'
      refine pe_imp (pe_or (da.E X W0 S g _ c1) (db.E X W0 S g _ c2)) fun σ H Q ⟨B, α, ρ, O, Q0, E0, R, h, hq, hl⟩ => ?_
      refine seqB R h hl fun t O1 f α1 H1 s1 w1 => ⟨t, rfl, ?_⟩
      cases t with
      | true => rw [if_pos rfl]; exact hq.to (f.1 rfl) s1 w1 (.d (.bl _))
      | false => rw [if_neg (by decide)]; exact ⟨B, α1, ρ, O1, Q0, E0, R.stp s1 w1, f.2 rfl, hq.stp s1, hl.stp s1⟩
    · cases c'
  T := fun X W0 S g e c => by
    have c' : orC (ck (Γ.map (·.1)) a S).T (ck (Γ.map (·.1)) b S).T e = true := c
    unfold orC at c'
    split at c'
    · obtain ⟨c1, c2⟩ := ba c'
      exact pt_imp (pw_or (da.T X W0 S g _ c1) (db.W X W0 S g _ _ _ c2)).pt fun σ H Q h => or_low h
    · cases c'
  W := fun X W0 S g op xs p c => by
    have c' : orC (ck (Γ.map (·.1)) a S).T (ck (Γ.map (·.1)) b S).T (.BoolOp op xs p) = true := c
    unfold orC at c'
    split at c'
    · rename_i e
      cases e
      obtain ⟨c1, c2⟩ := ba c'
      exact pw_imp (pw_or (da.T X W0 S g _ c1) (db.W X W0 S g _ _ _ c2)) fun σ H Q h => or_low h
    · cases c'
  A := fun X W0 S g es c => by cases c
  I := fun X W0 S g tg e c => by cases c
  O := fun X W0 S g e c => by cases c
theorem sd_ite {c a b : Y} (dc : Sd G k Γ c) (da : Sd G k Γ a) (db : Sd G k Γ b) : Sd G k Γ (.ite c a b) where
  E := fun X W0 S g e ch => by
    have c' : iteC (ck (Γ.map (·.1)) c S).T (ck (Γ.map (·.1)) a S).E (ck (Γ.map (·.1)) b S).E e = true := ch
    unfold iteC at c'
    split at c'
    · obtain ⟨c', c3⟩ := ba c'
      obtain ⟨c1, c2⟩ := ba c'
      refine pe_imp (pe_ifExp (dc.T X W0 S g _ c1) (da.E X W0 S g _ c2) (db.E X W0 S g _ c3)) fun σ H Q ⟨B, α, ρ, O, Q0, E0, R, h, hq, hl⟩ => ?_
      refine seqT R h hl fun t O1 f α1 H1 s1 w1 => ?_
      cases t with
      | true => rw [if_pos rfl]; exact ⟨B, α1, ρ, O1, Q0, E0, R.stp s1 w1, f.1 rfl, hq.stp s1, hl.stp s1⟩
      | false => rw [if_neg (by decide)]; exact ⟨B, α1, ρ, O1, Q0, E0, R.stp s1 w1, f.2 rfl, hq.stp s1, hl.stp s1⟩
    · cases c'
  T := fun X W0 S g e c => by cases c
  W := fun X W0 S g op xs p c => by cases c
  A := fun X W0 S g es c => by cases c
  I := fun X W0 S g tg e c => by cases c
  O := fun X W0 S g e c => by cases c
theorem sd_nil : Sd G k Γ .nil where
  E := fun X W0 S g e c => by cases c
  T := fun X W0 S g e c => by cases c
  W := fun X W0 S g op xs p c => by cases c
  A := fun X W0 S g es c => by
    have c' : nilC es = true := c
    unfold nilC at c'
    split at c'
    · exact pa_imp pa_nil fun σ H Q ⟨B, α, ρ, O, Q0, E0, R, h, hq, hl⟩ => hq _ _ h _ _ _ Stp.refl R.own .nil
    · cases c'
  I := fun X W0 S g tg e c => by cases c
  O := fun X W0 S g e c => by cases c
theorem starEach_plain {e : Expr} {es : List Expr} {env : Env} (h : noStar e = true) : starEach (e :: es) env = (false, eval e env) :: starEach es env := by
  cases e <;> first | rfl | cases h
theorem sd_cons {a r : Y} (da : Sd G k Γ a) (dr : Sd G k Γ r) : Sd G k Γ (.cons a r) where
  E := fun X W0 S g e c => by cases c
  T := fun X W0 S g e c => by cases c
  W := fun X W0 S g op xs p c => by cases c
  A := fun X W0 S g es c => by
    have c' : consC (ck (Γ.map (·.1)) a S).E (ck (Γ.map (·.1)) r S).A es = true := c
    unfold consC at c'
    split at c'
    · obtain ⟨c', c3⟩ := ba c'
      obtain ⟨c1, c2⟩ := ba c'
      refine pa_imp (pa_cons (da.E X W0 S g _ c2) (dr.A X W0 S g _ c3) (starEach_plain c1)) fun σ H Q ⟨B, α, ρ, O, Q0, E0, R, h, hq, hl⟩ => ?_
      refine seqE R h hl fun u O1 f α1 v H1 s1 w1 a1 => ?_
      exact seqA (R.stp s1 w1) f (hl.stp s1) fun us O2 f2 α2 vs H2 s2 w2 a2 => hq _ _ f2 _ _ _ (s1.trans s2) w2 (.cons (s2.atU a1) a2)
    · cases c'
  I := fun X W0 S g tg e c => by cases c
  O := fun X W0 S g e c => by cases c
theorem sd_nop : Sd G k Γ .nop where
  E := fun X W0 S g e c => by cases c
  T := fun X W0 S g e c => by cases c
  W := fun X W0 S g op xs p c => by cases c
  A := fun X W0 S g es c => by cases c
  I := fun X W0 S g tg e c => by cases c
  O := fun X W0 S g e c => by
    have c' : nopC e = true := c
    unfold nopC at c'
    split at c'
    · refine po_imp po_none fun σ H Q ⟨B, α, ρ, O, Q0, E0, R, h, hq, hl⟩ => ?_
      obtain ⟨l, h1, h2⟩ := hq _ _ h
      rcases h1 with ⟨_, rfl⟩ | ⟨i, z, _⟩
      · exact h2 _ _ Stp.refl R.own
      · cases z
    · cases c'
theorem sd_sm {a : Y} (da : Sd G k Γ a) : Sd G k Γ (.sm a) where
  E := fun X W0 S g e c => by cases c
  T := fun X W0 S g e c => by cases c
  W := fun X W0 S g op xs p c => by cases c
  A := fun X W0 S g es c => by cases c
  I := fun X W0 S g tg e c => by cases c
  O := fun X W0 S g e c => by
    have c' : smC (ck (Γ.map (·.1)) a S).E e = true := c
    unfold smC at c'
    split at c'
    · refine po_imp (po_some (da.E X W0 S g _ c')) fun σ H Q ⟨B, α, ρ, O, Q0, E0, R, h, hq, hl⟩ => ?_
      refine seqE R h hl fun u O1 f α1 v H1 s1 w1 a1 => ?_
      obtain ⟨l, h1, h2⟩ := hq _ _ f
      rcases h1 with ⟨z, _⟩ | ⟨i, z, rfl⟩
      · cases z
      · cases z
        cases a1 with
        | d a => cases a; exact ⟨i, rfl, h2 _ _ s1 w1⟩
    · cases c'
end
end Z

set_option Elab.async false
set_option linter.all false
set_option maxRecDepth 100000
set_option maxHeartbeats 4000000
namespace Z
open PySem PySem.Spec PyProof.Rows L2
section
variable {G : Gx} {k : Nat} {Γ : List (Str × ZSp)}
theorem sd_tup {es : Y} (de : Sd G k Γ es) : Sd G k Γ (.tup es) := .ofE _ (fun _ => rfl) fun X W0 S g e c => by
  split at c
  · refine pe_imp (pe_tup (de.A X W0 S g _ c)) fun σ H Q ⟨B, α, ρ, O, Q0, E0, R, h, hq, hl⟩ => ?_
    refine seqA R h hl fun us O1 f α1 vs H1 s1 w1 a1 => ?_
    obtain ⟨ds, e1, z, f⟩ := tosK_of f
    have r := Ats.of w1 a1 e1
    refine ⟨by rw [r.length]; exact z, fun p hp => hq.to f (s1.trans (stp_new hp)) (own_new w1 hp) (.d (At.tupNew w1 hp r))⟩
  · cases c
theorem sd_tupU {es : Y} (de : Sd G k Γ es) : Sd G k Γ (.tupU es) := .ofE _ (fun _ => rfl) fun X W0 S g e c => by
  split at c
  · refine pe_imp (pe_tup (de.A X W0 S g _ c)) fun σ H Q ⟨B, α, ρ, O, Q0, E0, R, h, hq, hl⟩ => ?_
    refine seqA R h hl fun us O1 f α1 vs H1 s1 w1 a1 => ?_
    refine ⟨by rw [a1.length]; exact f.1, fun p hp => hq.to f.2 (s1.trans (stp_new hp)) (own_new w1 hp) (.t upd_same (w1.mu_ne hp) ((stp_new hp).atUs a1))⟩
  · cases c
theorem AtUs.append {B : Addr → Prop} {α : List Addr} {O : List DO} {H : Hp} {K : PySem.W.Frag} : ∀ {vs ws : List V} {us us' : List U}, AtUs K B α O H vs us → AtUs K B α O H ws us' → AtUs K B α O H (vs ++ ws) (us ++ us')
  | _, _, _, _, .nil, s => s
  | _, _, _, _, .cons a r, s => .cons a (AtUs.append r s)
theorem Ats.atUs {B : Addr → Prop} {α : List Addr} {O : List DO} {H : Hp} {K : PySem.W.Frag} : ∀ {vs : List V} {ds : List D}, Ats K (Mu B α O) H vs ds → AtUs K B α O H vs (ds.map .d)
  | _, _, .nil => .nil
  | _, _, .cons a r => .cons (.d a) (Ats.atUs r)
theorem sd_star {a r : Y} (da : Sd G k Γ a) (dr : Sd G k Γ r) : Sd G k Γ (.star a r) where
  E := fun X W0 S g e c => by cases c
  T := fun X W0 S g e c => by cases c
  W := fun X W0 S g op xs p c => by cases c
  A := fun X W0 S g es c => by
    have c' : starC (ck (Γ.map (·.1)) a S).E (ck (Γ.map (·.1)) r S).A es = true := c
    unfold starC at c'
    split at c'
    · obtain ⟨c1, c2⟩ := ba c'
      refine pa_imp (StX.pa_star (da.E X W0 S g _ c1) (dr.A X W0 S g _ c2)) fun σ H Q ⟨B, α, ρ, O, Q0, E0, R, h, hq, hl⟩ => ?_
      refine seqE R h hl fun u O1 f α1 v H1 s1 w1 a1 => ?_
      obtain ⟨x, e1, f⟩ := nrK_of f
      have av := Vw.of w1 a1 e1
      have fin : ∀ {vs : List V} {ds : List D}, Ats G.K (Mu B α1 O1) H1 vs ds → (vc Γ r E0 ρ O1 fun ws O2 => Q0 (ds.map .d ++ ws) O2) → LfA G W0 (vc Γ r) σ H1 fun ws H2 => Q (vs ++ ws) H2 := fun {vs ds} ra f =>
        seqA (R.stp s1 w1) f (hl.stp s1) fun us O2 f2 α2 ws H2 s2 w2 a2 => hq _ _ f2 _ _ _ (s1.trans s2) w2 ((Ats.atUs (s2.ats ra)).append a2)
      cases x with
      | lst ds =>
        obtain ⟨p, vs, rfl, e, ra⟩ := av.lst
        exact ⟨p, vs, rfl, .inr (SqL.of e), fin ra f⟩
      | tup ds =>
        obtain ⟨p, vs, rfl, e, ra⟩ := av.tup
        exact ⟨p, vs, rfl, .inl (SqT.of e), fin ra f⟩
      | _ => exact f.elim
    · cases c'
  I := fun X W0 S g tg e c => by cases c
  O := fun X W0 S g e c => by cases c
theorem newL_to {B : Addr → Prop} {α α1 : List Addr} {O O1 : List DO} {H H1 : Hp} {Q0 : ZQ} {Q : VK} (hq : QLow G B α O H Q0 Q) {own : Bool} {ds : List D} (f : newL own ds O1 Q0) (s1 : Stp α O H α1 O1 H1) (w1 : Own G B α1 O1 H1) {vs : List V} (r : Ats G.K (Mu B α1 O1) H1 vs ds) :
    ∀ p, H1 p = none → Q (.ref p) (upd H1 p (.lst vs)) := fun p hp => by
  cases own with
  | true => exact hq.to f (s1.trans (stp_own w1 hp)) (own_own w1 hp r) (.o (by rw [List.getElem?_append_right (by rw [w1.len]; exact Nat.le_refl _)]; rw [w1.len]; simp))
  | false => exact hq.to f (s1.trans (stp_new hp)) (own_new w1 hp) (.d (At.lstNew w1 hp r))
theorem sd_lst (own : Bool) {es : Y} (de : Sd G k Γ es) : Sd G k Γ (.lst own es) := .ofE _ (fun _ => rfl) fun X W0 S g e c => by
  split at c
  · refine pe_imp (pe_lst (de.A X W0 S g _ c)) fun σ H Q ⟨B, α, ρ, O, Q0, E0, R, h, hq, hl⟩ => ?_
    refine seqA R h hl fun us O1 f α1 vs H1 s1 w1 a1 => ?_
    obtain ⟨ds, e1, z, f⟩ := tosK_of f
    have r := Ats.of w1 a1 e1
    exact ⟨by rw [r.length]; exact z, newL_to hq f s1 w1 r⟩
  · cases c
theorem any_plain {pos : Pos} {env : Env} : ∀ {es : List Expr}, es.all noStar = true → (backTo pos (starEach es env)).any (·.1) = false
  | [], _ => rfl
  | e :: es, h => by
    rw [List.all_cons] at h
    obtain ⟨h1, h2⟩ := ba h
    rw [starEach_plain h1]
    show (false || (backTo pos (starEach es env)).any (·.1)) = false
    rw [any_plain h2]
    rfl
theorem glo_of {X : Cx} {W0 : XK} {S : Sx} (g : Good X G W0 k S Γ) {x : Str} (h : gloB S.sc x = true) : Gl X x := by
  have h' := of_decide_eq_true h
  show X.env.kindOf x = _
  rw [← g.sc] at h'
  exact h'
theorem sd_call (i : Nat) {es : Y} (de : Sd G k Γ es) : Sd G k Γ (.call i es) := .ofE _ (fun _ => rfl) fun X W0 S g e c => by
  split at c
  · obtain ⟨c, c6⟩ := ba c
    obtain ⟨c, c5⟩ := ba c
    obtain ⟨c, c4⟩ := ba c
    obtain ⟨c, c3⟩ := ba c
    obtain ⟨c1, c2⟩ := ba c
    have c1 := of_decide_eq_true c1
    rw [List.getElem?_map] at c1
    cases q : Γ[i]? with
    | none => rw [q] at c1; cases c1
    | some p =>
      rw [q] at c1
      cases c1
      obtain ⟨x, P⟩ := p
      obtain ⟨f, fd, ps, hm, hk, F, hb⟩ := g.fns i x P q
      refine pe_imp (pe_call (dvs := []) (E := W0) F g.room (glo_of g c2) hm hk hb .nil (passes_call g.takes fun _ _ _ _ h => h) (de.A X W0 S g _ c6) (okn_of c3).1 (starEach_plain c4) (any_plain c5)) fun σ H Q ⟨B, α, ρ, O, Q0, E0, R, h, hq, hl⟩ => ?_
      refine seqA R h hl fun us O1 f α1 vs H1 s1 w1 a1 => ?_
      simp only [q] at f
      rw [List.append_nil]
      exact call_low w1 a1 f (fun u O' h0 α' v H' s' w' a' => hq.to h0 (s1.trans s') w' a') (hl.stp s1)
  · cases c
theorem nrs_of {B : Addr → Prop} {α : List Addr} {O : List DO} {H : Hp} (w : Own G B α O H) : ∀ {us : List U} {vs : List V} {ds : List D}, AtUs G.K B α O H vs us → nrs O us = some ds → Paired (Vw G.K (Mu B α O) H) vs ds
  | [], _, _, .nil, e => by cases e; exact .nil
  | u :: us, _, _, .cons a r, e => by
    rw [nrs] at e
    cases h1 : nrm O u with
    | none => rw [h1] at e; cases e
    | some d =>
      rw [h1] at e
      cases h2 : nrs O us with
      | none => rw [h2] at e; cases e
      | some ds =>
        rw [h2] at e
        cases e
        exact .cons (Vw.of w a h1) (nrs_of w r h2)
theorem bf_free (f : BF) : f.name ∈ bnames := by cases f <;> decide
theorem blt_pe {X : Cx} {W0 : XK} {S : Sx} (g : Good X G W0 k S Γ) (f : BF) {t : TA} {e : Expr} {es : List Expr} {p pos : Pos} (hg : Gl X f.name) (ha : PA X (e :: es) t) (h1 : noStar e = true) (h2 : es.all noStar = true) : PE X (.Call (.Name f.name p) (e :: es) [] pos) (tCB (rL G f.op) t) := by
  have hm := g.free _ (bf_free f)
  have hs := @starEach_plain e es X.env h1
  have hp := @any_plain pos X.env es h2
  cases f with
  | len => exact pe_callB (cb_len g.hK) hg hm (by decide +kernel) ha (by decide) (by decide) hs hp
  | abs => exact pe_callB (cb_abs g.hK) hg hm (by decide +kernel) ha (by decide) (by decide) hs hp
  | int => exact pe_callTy (cb_int g.hK) hg hm (by decide +kernel) ha (by decide) (by decide) hs hp
  | list => exact pe_callTy (cb_list g.hK) hg hm (by decide +kernel) ha (by decide) (by decide) hs hp
  | tuple => exact pe_callTy (cb_tuple g.hK) hg hm (by decide +kernel) ha (by decide) (by decide) hs hp
  | sum => exact pe_callB (cb_sum g.hK g.calm) hg hm (by decide +kernel) ha (by decide) (by decide) hs hp
  | all => exact pe_callB (cb_all g.hK g.calm) hg hm (by decide +kernel) ha (by decide) (by decide) hs hp
  | any => exact pe_callB (cb_any g.hK g.calm) hg hm (by decide +kernel) ha (by decide) (by decide) hs hp
  | min => exact pe_callB (cb_min g.hK g.calm) hg hm (by decide +kernel) ha (by decide) (by decide) hs hp
  | max => exact pe_callB (cb_max g.hK g.calm) hg hm (by decide +kernel) ha (by decide) (by decide) hs hp
theorem sd_blt (f : BF) {es : Y} (de : Sd G k Γ es) : Sd G k Γ (.blt f es) := .ofE _ (fun _ => rfl) fun X W0 S g e c => by
  split at c
  · obtain ⟨c, c6⟩ := ba c
    obtain ⟨c, c5⟩ := ba c
    obtain ⟨c, c4⟩ := ba c
    obtain ⟨c1, c2⟩ := ba c
    cases of_decide_eq_true c1
    refine pe_imp (blt_pe g f (glo_of g c2) (de.A X W0 S g _ c6) c4 c5) fun σ H Q ⟨B, α, ρ, O, Q0, E0, R, h, hq, hl⟩ => ?_
    refine seqA R h hl fun us O1 f1 α1 vs H1 s1 w1 a1 => ?_
    obtain ⟨ds, e1, f1⟩ := nrsK_of f1
    exact ⟨B, α1, O1, ds, _, w1, nrs_of w1 a1 e1, f1, fun z q v' H' s' w' a' => hq.to q (s1.trans s') w' (.d a')⟩
  · cases c
theorem pa_one {X : Cx} {e : Expr} {te : TE} (h : PE X e te) (c : noStar e = true) : PA X [e] (tCons te tNil) := pa_cons h pa_nil (starEach_plain c)
theorem pa_two {X : Cx} {e f : Expr} {te tf : TE} (h : PE X e te) (h2 : PE X f tf) (c : noStar e = true) (c2 : noStar f = true) : PA X [e, f] (tCons te (tCons tf tNil)) := pa_cons h (pa_one h2 c2) (starEach_plain c)
theorem base_of {o : Expr} {m : Str} {env : Env} (h : plainO o = true) : attributeBase o m env (eval o env) = eval o env := by
  cases o <;> first | rfl | cases h
theorem sd_app {r z : Y} (dr : Sd G k Γ r) (dz : Sd G k Γ z) : Sd G k Γ (.app r z) := .ofE _ (fun _ => rfl) fun X W0 S g e c => by
  split at c
  · rename_i o m ap e cp
    obtain ⟨c, c6⟩ := ba c
    obtain ⟨c, c5⟩ := ba c
    obtain ⟨c, c4⟩ := ba c
    obtain ⟨c, c3⟩ := ba c
    obtain ⟨c1, c2⟩ := ba c
    cases of_decide_eq_true c2
    have hs := @starEach_plain e [] X.env c4
    refine pe_imp (pe_bm PySem.F.plainAttrs_list PySem.F.slot_list_append PySem.F.type_list_append mt_append (dr.E X W0 S g _ c5) (pa_one (dz.E X W0 S g _ c6) c4) (base_of c3) (by rw [hs]; rfl) c1 hs (by rfl)) fun σ H Q ⟨B, α, ρ, O, Q0, E0, R, h, hq, hl⟩ => ?_
    refine seqE R h hl fun u O0 h' α0 v0 H0 s0 w0 a0 => ?_
    cases u with
    | d _ => exact h'.elim
    | t _ => exact h'.elim
    | o k =>
      cases a0 with
      | @o _ a ek =>
      refine ⟨.inl ⟨rfl, ?_⟩, ?_⟩
      · have hk : k < O0.length := by rw [← w0.len]; exact (List.getElem?_eq_some_iff.mp ek).1
        have ho := w0.at_ k a _ ek (List.getElem?_eq_getElem hk)
        cases qo : O0[k] with
        | lst ds => rw [qo] at ho; obtain ⟨vs, e2, _⟩ := ho; exact ⟨vs, SqL.of e2⟩
        | brw ds => rw [qo] at ho; obtain ⟨vs, e2, _⟩ := ho; exact ⟨vs, SqL.of e2⟩
        | frz ds =>
          rw [qo] at ho
          cases (show At G.K (Mu B α0 O0) H0 (.ref a) (.lst ds) from ho) with
          | lst e2 _ _ => exact ⟨_, SqL.of e2⟩
      · refine seqE (R.stp s0 w0) h' (hl.stp s0) fun u O1 f α1 v H1 s1 w1 a1 => ?_
        obtain ⟨x, e3, f⟩ := toK_of f
        have ax := At.of w1 a1 e3
        rw [go_eq] at f
        cases qo : O1[k]? with
        | none => rw [qo] at f; exact f.elim
        | some o =>
          rw [qo] at f
          cases o with
          | frz _ => exact f.elim
          | brw _ => exact f.elim
          | lst ds =>
            have ek1 := s1.idx ek
            obtain ⟨vs, e4, r4⟩ := w1.at_ k a _ ek1 qo
            refine ⟨a, vs, v, rfl, rfl, e4, by rw [r4.length]; exact f.1, ?_⟩
            have f2 := f.2
            rw [so_eq] at f2
            exact hq.to f2 ((s0.trans s1).trans (stp_set ek1 qo rfl)) (own_set w1 ek1 qo (r4.append (.cons ax .nil))) (.d .non)
  · cases c
theorem sd_fz {z : Y} (dz : Sd G k Γ z) : Sd G k Γ (.fz z) := .ofE _ (fun _ => rfl) fun X W0 S g e c => by
  refine pe_imp (dz.E X W0 S g e c) fun σ H Q ⟨B, α, ρ, O, Q0, E0, R, h, hq, hl⟩ => ?_
  refine seqE R h hl fun u O1 f α1 v H1 s1 w1 a1 => ?_
  cases u with
  | d x => exact hq.to f s1 w1 a1
  | t x => exact hq.to f s1 w1 a1
  | o k =>
    have f' : (match go O1 k with
      | some (.lst ds) => Q0 [.d (.lst ds)] (so O1 k (.frz ds))
      | _ => False) := f
    rw [go_eq] at f'
    cases qo : O1[k]? with
    | none => rw [qo] at f'; exact f'.elim
    | some o =>
      rw [qo] at f'
      cases o with
      | frz _ => exact f'.elim
      | brw _ => exact f'.elim
      | lst ds =>
        have f2 : Q0 [.d (.lst ds)] (so O1 k (.frz ds)) := f'
        rw [so_eq] at f2
        cases a1 with
        | @o _ a ek =>
        exact hq.to f2 (s1.trans (stp_frz qo rfl)) (own_frz w1 qo) (.d (by
          have h := (own_frz w1 qo).at_ k a (.frz ds) ek (by rw [List.getElem?_set_self (by exact (List.getElem?_eq_some_iff.mp qo).1)])
          exact h))
theorem sd_lis {z : Y} (dz : Sd G k Γ z) : Sd G k Γ (.lis z) := .ofE _ (fun _ => rfl) fun X W0 S g e c => by
  split at c
  · obtain ⟨c, c4⟩ := ba c
    obtain ⟨c, c3⟩ := ba c
    obtain ⟨c1, c2⟩ := ba c
    cases of_decide_eq_true c1
    refine pe_imp (pe_callTy call_list_of (glo_of g c2) (g.free _ (bf_free .list)) (by decide +kernel) (pa_one (dz.E X W0 S g _ c4) c3) (by decide) (by decide) (starEach_plain c3) rfl) fun σ H Q ⟨B, α, ρ, O, Q0, E0, R, h, hq, hl⟩ => ?_
    refine seqE R h hl fun u O1 f α1 v H1 s1 w1 a1 => ?_
    obtain ⟨x, e1, f⟩ := nrK_of f
    have av := Vw.of w1 a1 e1
    unfold listD at f
    split at f
    · rename_i h0
      cases h0
      obtain ⟨p, ws, rfl, e, r⟩ := av.lst
      exact ⟨_, _, rfl, .inl (SqL.of e), newL_to hq f s1 w1 r⟩
    · rename_i h0
      cases h0
      obtain ⟨p, ws, rfl, e, r⟩ := av.tup
      exact ⟨_, _, rfl, .inr (SqT.of e), newL_to hq f s1 w1 r⟩
    · rename_i h0
      cases h0
      obtain ⟨p, rfl, e⟩ := av.scr
      exact ⟨_, _, rfl, .inl (by rw [g.hK]; exact e), newL_to hq f s1 w1 (Ats.ints _)⟩
    · exact f.elim
  · cases c
theorem sd_rep {a b : Y} (da : Sd G k Γ a) (db : Sd G k Γ b) : Sd G k Γ (.rep a b) := .ofE _ (fun _ => rfl) fun X W0 S g e c => by
  split at c
  · obtain ⟨c2, c3⟩ := ba c
    refine pe_imp (pe_op op_rep (da.E X W0 S g _ c2) (db.E X W0 S g _ c3)) fun σ H Q ⟨B, α, ρ, O, Q0, E0, R, h, hq, hl⟩ => ?_
    refine seq2 R h hl fun u w O2 f α2 v v2 H2 s2 w2 a1 a2 => ?_
    obtain ⟨x, e1, f⟩ := nrK_of f
    obtain ⟨y, e2, f⟩ := nrK_of f
    have ax := Vw.of w2 a1 e1
    have ay := Vw.of w2 a2 e2
    unfold mulD at f
    split at f
    · exact f.2.elim
    · obtain ⟨p, vs, rfl, e, r⟩ := ax.lst
      obtain rfl := ay.int
      exact ⟨p, _, vs, rfl, rfl, e, f.1.1, f.1.2.1, by rw [r.length]; exact f.1.2.2, newL_to hq f.2 s2 w2 (ats_rep r _)⟩
    · exact f.2.elim
    · exact f.elim
  · cases c
theorem tyU_of {B : Addr → Prop} {α : List Addr} {O : List DO} {H : Hp} {u : U} {v : V} {t : String} (w : Own G B α O H) (a : AtU G.K B α O H v u) (h : tyU O u = some t) : TyX G.K H v (.type t) := by
  cases u with
  | d x =>
    cases a with
    | d a =>
      cases a with
      | non => cases h; exact .base .non
      | bl b => cases h; exact .base (.bl b)
      | int b => cases h; exact .base (.int b)
      | str b => cases h; exact .base (.str b)
      | tup e m r => cases h; exact .base (.tup e)
      | lst e m r => cases h; exact .base (.lst e)
      | dct e => cases h; exact .base (.dK e)
      | obj => cases h
      | scr e m => cases h
      | scrK e => cases h
  | o k =>
    have h' : (match go O k with
      | some _ => some "list"
      | none => none) = some t := h
    rw [go_eq] at h'
    cases a with
    | @o _ p ek =>
    cases q : O[k]? with
    | none => rw [q] at h'; cases h'
    | some o =>
      rw [q] at h'
      cases h'
      have ho := w.at_ k p o ek q
      cases o with
      | lst ds => obtain ⟨vs, e, _⟩ := ho; exact .base (.lst e)
      | brw ds => obtain ⟨vs, e, _⟩ := ho; exact .base (.lst e)
      | frz ds =>
        cases (show At G.K (Mu B α O) H (.ref p) (.lst ds) from ho) with
        | lst e2 _ _ => exact .base (.lst e2)
  | t us => cases a with
    | t e m r => cases h; exact .base (.tup e)
theorem bt_of {n : String} (h : ["int", "bool", "str", "list", "tuple", "dict"].contains n = true) : Str.ofString n ∈ bnames ∧ bootBuiltins (Str.ofString n) = some (.type n) ∧ Str.ofString n ≠ "__name__" ∧ (Str.ofString n == ("__debug__" : Str)) = false := by
  rw [List.contains_iff_mem] at h
  simp only [List.mem_cons, List.not_mem_nil, or_false] at h
  rcases h with rfl | rfl | rfl | rfl | rfl | rfl <;> exact ⟨by decide, by decide +kernel, by decide, by decide⟩
def tTy (n : String) : TE := fun _ H Q => Q (.ty n) H
theorem pe_tyN {X : Cx} {x : Str} {p : Pos} {n : String} (hg : Gl X x) (hm : X.mg x = none) (hv : bootBuiltins x = some (.type n)) (hn : x ≠ "__name__") (hdb : (x == ("__debug__" : Str)) = false) : PE X (.Name x p) (tTy n) :=
  ⟨fun pins s σ H Q I h => ld_blt I hg hm hv ⟨.ty n, H, I, rfl, h⟩ hn hdb⟩
theorem pe_tyB {X : Cx} {W0 : XK} {S : Sx} (g : Good X G W0 k S Γ) {t : Str} {n : String} {p : Pos} (h : tyB S.sc t n = true) : PE X (.Name t p) (tTy n) := by
  obtain ⟨h, h3⟩ := ba h
  obtain ⟨h1, h2⟩ := ba h
  cases of_decide_eq_true h1
  obtain ⟨a, b, c, d⟩ := bt_of h3
  exact pe_tyN (glo_of g h2) (g.free _ a) b c d
def tTys (ns : List String) : TA := fun _ H Q => Q (ns.map .ty) H
theorem pa_tys {X : Cx} {W0 : XK} {S : Sx} (g : Good X G W0 k S Γ) : ∀ {ts : List Expr} {ns : List String}, tysB S.sc ts ns = true → PA X ts (tTys ns)
  | [], [], _ => pa_imp pa_nil fun _ _ _ h => h
  | [], _ :: _, h => by cases h
  | .Name t p :: ts, [], h => by cases h
  | .Name t p :: ts, n :: ns, h => by
    obtain ⟨h1, h2⟩ := ba h
    exact pa_imp (pa_cons (pe_tyB g h1) (pa_tys g h2)) fun σ H Q h => h
theorem isiB_any {K : PySem.W.Frag} {t : String} : ∀ {cs : List String} {b : Bool}, isiB t cs = some b → PySem.W.kitAny K (.type t) (cs.map Value.type) = some b
  | [], b, h => h
  | c :: cs, b, h => by
    rw [isiB] at h
    cases q : kitB t c with
    | none => rw [q] at h; cases h
    | some r =>
      rw [q] at h
      cases r with
      | true => exact kitAny_cons (kit_ty q) (fun z => by cases z) (fun _ => by cases h; rfl)
      | false => exact kitAny_cons (kit_ty q) (fun _ => isiB_any h) (fun z => by cases z)
theorem paired_ty : ∀ (cs : List String), Paired ClsV (cs.map V.ty) (cs.map Value.type)
  | [] => .nil
  | c :: cs => .cons (.ty c) (paired_ty cs)
theorem sd_isi {a : Y} (cs : List String) (da : Sd G k Γ a) : Sd G k Γ (.isi a cs) := .ofE _ (fun _ => rfl) fun X W0 S g e c => by
  split at c
  · rename_i x tc _
    obtain ⟨c, c7⟩ := ba c
    obtain ⟨c, c6⟩ := ba c
    obtain ⟨c, c5⟩ := ba c
    obtain ⟨c, c4⟩ := ba c
    obtain ⟨c, c3⟩ := ba c
    obtain ⟨c1, c2⟩ := ba c
    cases of_decide_eq_true c1
    have hz : cs.length ≤ sizeLine := Nat.le_trans (of_decide_eq_true c7) (by decide)
    have hm := g.free "isinstance" (by decide)
    have key : ∀ {σ : L2.St} {H : Hp} {F : V → Hp → Prop} {Q : VK} {B : Addr → Prop} {α : List Addr} {ρ : List (Option U)} {O : List DO} {Q0 : ZQ} {E0 : ZX}, Rep G B α σ H ρ O → vc Γ (.isi a cs) E0 ρ O Q0 → QLow G B α O H Q0 Q → ELow G B W0 α O H E0 →
        (∀ v α1 O1 H1 u t b, Own G B α1 O1 H1 → AtU G.K B α1 O1 H1 v u → tyU O1 u = some t → isiB t cs = some b → (∀ H2, Stp α1 O1 H1 α1 O1 H2 → Own G B α1 O1 H2 → Q (.bl b) H2) → F v H1) → LfE G W0 (vc Γ a) σ H F := by
      intro σ H F Q B α ρ O Q0 E0 R h hq hl kk
      refine seqE R h hl fun u O1 f α1 v H1 s1 w1 a1 => ?_
      cases q : tyU O1 u with
      | none => rw [q] at f; exact f.elim
      | some t =>
        rw [q] at f
        obtain ⟨b, e, f⟩ := f
        exact kk v α1 O1 H1 u t b w1 a1 q e fun H2 s2 w2 => hq.to f (s1.trans s2) w2 (.d (.bl _))
    cases tc with
    | Name t p =>
      match cs, c6 with
      | [n], c6 =>
        have c6' : tyB S.sc t n = true := c6
        refine pe_imp (pe_callB call_isi (glo_of g c2) hm (by decide +kernel) (pa_two (da.E X W0 S g _ c5) (pe_tyB g c6') c3 rfl) (by decide) (by decide) (starEach_plain c3) rfl) fun σ H Q ⟨B, α, ρ, O, Q0, E0, R, h, hq, hl⟩ => ?_
        refine key R h hq hl fun v α1 O1 H1 u t b w1 a1 e1 e2 q => ?_
        have e3 := isiB_any (K := X.K) e2
        refine ⟨v, .ty n, .type t, .type n, b, rfl, .ty n, by rw [g.hK]; exact tyU_of w1 a1 e1, ?_, q H1 Stp.refl w1⟩
        rw [isiB] at e2
        cases qk : kitB t n with
        | none => rw [qk] at e2; cases e2
        | some r =>
          rw [qk] at e2
          cases r with
          | true => cases e2; exact kit_ty qk
          | false => cases e2; exact kit_ty qk
      | [], c6 => cases c6
      | _ :: _ :: _, c6 => cases c6
    | Tuple ts m p =>
      have c6' : tysB S.sc ts cs = true := by
        unfold isiC at c6
        exact c6
      refine pe_imp (pe_callB call_isiT (glo_of g c2) hm (by decide +kernel) (pa_two (da.E X W0 S g _ c5) (pe_tup (pa_tys g c6')) c3 rfl) (by decide) (by decide) (starEach_plain c3) rfl) fun σ H Q ⟨B, α, ρ, O, Q0, E0, R, h, hq, hl⟩ => ?_
      refine key R h hq hl fun v α1 O1 H1 u t b w1 a1 e1 e2 q => ?_
      refine ⟨by rw [List.length_map]; exact hz, fun p hp => ?_⟩
      have s := stp_new (α := α1) (O := O1) (o := .tup (cs.map V.ty)) hp
      have w2 := own_new (o := .tup (cs.map V.ty)) w1 hp
      exact ⟨v, p, cs.map V.ty, .type t, cs.map Value.type, b, rfl, upd_same, paired_ty cs, by rw [g.hK]; exact tyU_of w2 (s.atU a1) e1, isiB_any e2, q _ s w2⟩
    | _ => cases c6
  · cases c
theorem plainIx_of {b : Expr} (h : noSlice b = true) : PlainIx b := by
  intro o i
  cases b <;> first | rfl | cases h
def rIxU (K : PySem.W.Frag) : R2 := rIxT K
theorem AtUs.get {B : Addr → Prop} {α : List Addr} {O : List DO} {H : Hp} {K : PySem.W.Frag} : ∀ {vs : List V} {us : List U} {i : Nat} {u : U}, AtUs K B α O H vs us → us[i]? = some u → ∃ v, vs[i]? = some v ∧ AtU K B α O H v u
  | _, _, _, _, .nil, e => by simp at e
  | _, _, 0, _, .cons a _, e => by simp at e; subst e; exact ⟨_, rfl, a⟩
  | _, _, i + 1, v, .cons _ r, e => by
    obtain ⟨d, h1, h2⟩ := AtUs.get (i := i) (u := v) r (by simpa using e)
    exact ⟨d, by simpa using h1, h2⟩
theorem AtUs.atI {B : Addr → Prop} {α : List Addr} {O : List DO} {H : Hp} {K : PySem.W.Frag} {vs : List V} {us : List U} (r : AtUs K B α O H vs us) {i : Int} {u : U} (e : L2.atI us i = some u) : ∃ v, L2.atI vs i = some v ∧ AtU K B α O H v u := by
  unfold L2.atI at e ⊢
  rw [r.length]
  cases q : ixN us.length i with
  | none => rw [q] at e; cases e
  | some j =>
    rw [q] at e
    exact AtUs.get r e
theorem sd_ix {a b : Y} (da : Sd G k Γ a) (db : Sd G k Γ b) : Sd G k Γ (.ix a b) := .ofE _ (fun _ => rfl) fun X W0 S g e c => by
  split at c
  · obtain ⟨c, c3⟩ := ba c
    obtain ⟨c1, c2⟩ := ba c
    refine pe_imp (pe_ix (.or (ix_r g.hK) ix_tup) (da.E X W0 S g _ c1) (db.E X W0 S g _ c2) (plainIx_of c3)) fun σ H Q ⟨B, α, ρ, O, Q0, E0, R, h, hq, hl⟩ => ?_
    refine seq2 R h hl fun u w O2 f α2 v v2 H2 s2 w2 a1 a2 => ?_
    obtain ⟨y, e2, f⟩ := nrK_of f
    have ay := Vw.of w2 a2 e2
    have dat : (nrK O2 u fun x => ixD x y fun z => Q0 [.d z] O2) → rB G ixD v v2 H2 Q := fun f => by
      obtain ⟨x, e1, f⟩ := nrK_of f
      exact ⟨B, α2, O2, x, y, _, w2, Vw.of w2 a1 e1, ay, f, fun z q v' H' s' w' a' => hq.to q (s2.trans s') w' (.d a')⟩
    cases u with
    | d x => exact .inl (dat f)
    | o k => exact .inl (dat f)
    | t us =>
      cases y with
      | int i =>
        obtain ⟨w, e3, f⟩ := f
        obtain rfl := ay.int
        cases a1 with
        | t e m r =>
        obtain ⟨v3, e4, a3⟩ := r.atI e3
        exact .inr ⟨_, _, i, v3, rfl, rfl, SqT.of e, e4, hq.to f s2 w2 a3⟩
      | _ => exact f.elim
  · cases c
theorem partK_of {us : List U} {k : Option Int → Prop} (h : partK us k) : (us = [] ∧ k none) ∨ ∃ i, us = [.d (.int i)] ∧ k (some i) := by
  unfold partK at h
  split at h
  · exact .inl ⟨rfl, h⟩
  · exact .inr ⟨_, rfl, h⟩
  · exact h.elim
theorem sd_sl {a lo hi : Y} (da : Sd G k Γ a) (dl : Sd G k Γ lo) (dh : Sd G k Γ hi) : Sd G k Γ (.sl a lo hi) := .ofE _ (fun _ => rfl) fun X W0 S g e c => by
  split at c
  · obtain ⟨c, c3⟩ := ba c
    obtain ⟨c1, c2⟩ := ba c
    refine pe_imp (pe_slice (sl_r g.hK) (da.E X W0 S g _ c1) (dl.O X W0 S g _ c2) (dh.O X W0 S g _ c3)) fun σ H Q ⟨B, α, ρ, O, Q0, E0, R, h, hq, hl⟩ => ?_
    refine seqE R h hl fun u O1 f α1 v H1 s1 w1 a1 => ?_
    have part : ∀ {σ : L2.St} {B : Addr → Prop} {α : List Addr} {O : List DO} {H : Hp} {t : ZE} {F : Option Int → List DO → Prop} {Q : Option Int → Hp → Prop}, Rep G B α σ H ρ O → (t E0 ρ O fun ls O2 => partK ls fun l => F l O2) → ELow G B W0 α O H E0 →
        (∀ l O2, F l O2 → ∀ α2 H2, Stp α O H α2 O2 H2 → Own G B α2 O2 H2 → Q l H2) → LfO G W0 t σ H Q := fun {σ B α O H t F Q} R h hl kk =>
      ⟨B, α, ρ, O, _, E0, R, h, fun ls O2 q => by
        rcases partK_of q with ⟨e, q⟩ | ⟨i, e, q⟩
        · exact ⟨none, .inl ⟨e, rfl⟩, kk _ _ q⟩
        · exact ⟨some i, .inr ⟨i, e, rfl⟩, kk _ _ q⟩, hl⟩
    refine part (R.stp s1 w1) f (hl.stp s1) fun l O2 f2 α2 H2 s2 w2 => ?_
    refine part ((R.stp s1 w1).stp s2 w2) f2 ((hl.stp s1).stp s2) fun r O3 f3 α3 H3 s3 w3 => ?_
    obtain ⟨x, e1, f3⟩ := nrK_of f3
    exact ⟨B, α3, O3, x, _, w3, Vw.of w3 (s3.atU (s2.atU a1)) e1, f3, fun z q v' H' s' w' a' => hq.to q (((s1.trans s2).trans s3).trans s') w' (.d a')⟩
  · cases c
end
end Z

set_option Elab.async false
set_option linter.all false
set_option maxRecDepth 100000
set_option maxHeartbeats 4000000
namespace Z
open PySem PySem.Spec PyProof.Rows L2
section
variable {G : Gx} {k : Nat} {Γ : List (Str × ZSp)}
/-- only the walk is to be shown -/
theorem Sd.ofI {z : Y} (hE : ∀ S e, (ck (Γ.map (·.1)) z S).E e = false) (hT : ∀ S e, (ck (Γ.map (·.1)) z S).T e = false) (hA : ∀ S e, (ck (Γ.map (·.1)) z S).A e = false) (hO : ∀ S e, (ck (Γ.map (·.1)) z S).O e = false)
    (h : ∀ X W0 S, Good X G W0 k S Γ → ∀ tg e, (ck (Γ.map (·.1)) z S).I tg e = true → PI X tg e (LfI G W0 (vc Γ z))) : Sd G k Γ z where
  E := fun X W0 S g e c => by rw [hE] at c; cases c
  T := fun X W0 S g e c => by rw [hT] at c; cases c
  W := fun X W0 S g op xs p c => by rw [hT] at c; cases c
  A := fun X W0 S g es c => by rw [hA] at c; cases c
  I := h
  O := fun X W0 S g e c => by rw [hO] at c; cases c
/-- data from here on -/
theorem later {B B2 : Addr → Prop} {α α2 : List Addr} {O O2 : List DO} {H H2 : Hp} (hm : ∀ b, Mu B2 α2 O2 b → Mu B α O b ∨ H b = none) (hk : ∀ b o, H b = some o → ¬ Ho α O b → (∀ ps, o ≠ .tbl ps) → H2 b = some o) :
    ∀ a o, ¬ Mu B α O a → H a = some o → (∀ ps, o ≠ .tbl ps) → H2 a = some o ∧ ¬ Mu B2 α2 O2 a := fun b o m e n =>
  ⟨hk b o e (fun z => m (.inr z.ow)) n, fun z => by
    rcases hm b z with z | z
    · exact m z
    · rw [e] at z; cases z⟩
/-- a walk over a list or a tuple -/
def iSeq (K : PySem.W.Frag) (tl : TE) : TI := fun σ H R => tl σ H fun x H1 => ∃ a, x = .ref a ∧ (((∃ xs, SqL K H1 a xs) ∧ R (Itl K a) H1) ∨ ((∃ xs, SqT K H1 a xs) ∧ R (Itt K a) H1))
theorem pi_seq {X : Cx} {tg l : Expr} {tl : TE} (hl : PE X l tl) : PI X tg l (iSeq X.K tl) := by
  refine ⟨fun pins s σ H R I h => ?_⟩
  refine thn (hl.run pins s σ H _ I h) fun v s1 ⟨x, H1, I1, r1, q1⟩ => ?_
  obtain ⟨a, rfl, q⟩ := q1
  cases r1
  rcases q with ⟨⟨xs, hq⟩, q⟩ | ⟨⟨xs, hq⟩, q⟩
  · obtain ⟨its, rv, p, hz⟩ := I1.list hq
    refine wpAny_pyIter_list p.isList ?_
    refine ⟨s1.heap.objs.size, [s1.heap.objs.size], _, _, H1, rfl, I1.kept (t' := s1.toks) fun b o e => Heap.get?_push_of_some _ e, turn_list a _, ⟨_, Heap.get?_push_size _ rfl, rfl, rfl⟩, fun b hb => ?_, q⟩
    cases (show b = s1.heap.objs.size by simpa using hb)
    exact I1.fpOk (Nat.le_refl _) (I1.hok.fresh (Nat.le_refl _))
  · obtain ⟨its, rv, p, hz⟩ := I1.tuple hq
    refine wpAny_pyIter_tuple (show s1.heap.IsTuple a its.toArray from p) ?_
    refine ⟨s1.heap.objs.size, [s1.heap.objs.size], _, _, H1, rfl, I1.kept (t' := s1.toks) fun b o e => Heap.get?_push_of_some _ e, turn_tuple a _, ⟨_, Heap.get?_push_size _ rfl, rfl, rfl⟩, fun b hb => ?_, q⟩
    cases (show b = s1.heap.objs.size by simpa using hb)
    exact I1.fpOk (Nat.le_refl _) (I1.hok.fresh (Nat.le_refl _))
theorem walkD_of {B : Addr → Prop} {α : List Addr} {O : List DO} {H : Hp} {J : It} {vs : List V} {ds : List D} {Gd : Hp → Prop} (wk : L2.Walk J ds.length Gd (YAt vs)) (r : Ats G.K (Mu B α O) H vs ds)
    (hg : ∀ (B2 : Addr → Prop) (α2 : List Addr) (O2 : List DO) (H2 : Hp), (∀ b, Mu B2 α2 O2 b → Mu B α O b ∨ H b = none) → (∀ b o, H b = some o → ¬ Ho α O b → (∀ ps, o ≠ .tbl ps) → H2 b = some o) → Gd H2) : WalkD G B α O H J ds :=
  ⟨_, _, wk, fun B2 α2 O2 H2 hm hk w => ⟨hg B2 α2 O2 H2 hm hk, fun i x H3 hi y => by
    obtain ⟨rfl, e⟩ := y
    obtain ⟨d, e2, a⟩ := r.get e
    exact ⟨d, e2, .inl rfl, a.imp (later hm hk)⟩⟩⟩
theorem unmap {ds ds' : List D} (h : ds.map U.d = ds'.map U.d) : ds = ds' := (List.map_inj_right (fun _ _ h => by cases h; rfl)).mp h
/-- ready to be walked -/
def Rdy (G : Gx) (B : Addr → Prop) (α : List Addr) (O : List DO) (H : Hp) (v : V) (x : D) : Prop :=
  (∃ ds a vs, x = .lst ds ∧ v = .ref a ∧ H a = some (.lst vs) ∧ ¬ Ho α O a ∧ Ats G.K (Mu B α O) H vs ds) ∨ At G.K (Mu B α O) H v x
theorem Rdy.lst {B : Addr → Prop} {α : List Addr} {O : List DO} {H : Hp} {v : V} {ds : List D} (h : Rdy G B α O H v (.lst ds)) : ∃ a vs, v = .ref a ∧ H a = some (.lst vs) ∧ ¬ Ho α O a ∧ Ats G.K (Mu B α O) H vs ds := by
  rcases h with ⟨ds', a, vs, h1, h2, h3, h4, h5⟩ | h
  · cases h1
    exact ⟨a, vs, h2, h3, h4, h5⟩
  · cases h with
    | lst e m r => exact ⟨_, _, rfl, e, fun z => m (.inr z.ow), r⟩
theorem Rdy.tup {B : Addr → Prop} {α : List Addr} {O : List DO} {H : Hp} {v : V} {ds : List D} (h : Rdy G B α O H v (.tup ds)) : ∃ a vs, v = .ref a ∧ H a = some (.tup vs) ∧ ¬ Ho α O a ∧ Ats G.K (Mu B α O) H vs ds := by
  rcases h with ⟨ds', a, vs, h1, _⟩ | h
  · cases h1
  · cases h with
    | tup e m r => exact ⟨_, _, rfl, e, fun z => m (.inr z.ow), r⟩
theorem Rdy.stp {B : Addr → Prop} {α α' : List Addr} {O O' : List DO} {H H' : Hp} {v : V} {x : D} (h : Rdy G B α O H v x) (s : Stp α O H α' O' H') : Rdy G B α' O' H' v x := by
  rcases h with ⟨ds, a, vs, h1, h2, h3, h4, h5⟩ | h
  · refine .inl ⟨ds, a, vs, h1, h2, s.keep a _ h3 h4 (fun _ z => by cases z), fun z => ?_, s.ats h5⟩
    rcases s.hnew a z with z | z
    · exact h4 z
    · rw [h3] at z; cases z
  · exact .inr (s.at_ h)
theorem brK_of {B : Addr → Prop} {α : List Addr} {O : List DO} {H : Hp} {u : U} {v : V} {kk : D → List DO → Prop} (w : Own G B α O H) (a : AtU G.K B α O H v u) (h : brK O u kk) : ∃ x O2, kk x O2 ∧ Stp α O H α O2 H ∧ Own G B α O2 H ∧ Rdy G B α O2 H v x := by
  have dat : (match toD O u with
    | some x => kk x O
    | none => False) → ∃ x O2, kk x O2 ∧ Stp α O H α O2 H ∧ Own G B α O2 H ∧ Rdy G B α O2 H v x := fun h => by
    cases q : toD O u with
    | none => rw [q] at h; exact h.elim
    | some x =>
      rw [q] at h
      exact ⟨x, O, h, Stp.refl, w, .inr (At.of w a q)⟩
  cases u with
  | d x => exact dat h
  | t x => exact dat h
  | o j =>
    simp only [brK, go_eq] at h
    cases a with
    | @o _ p ep =>
    cases q : O[j]? with
    | none => simp only [q] at h
    | some o =>
      have hat := w.at_ j p o ep q
      cases o with
      | lst ds =>
        simp only [q] at h
        rw [so_eq] at h
        obtain ⟨vs, e, r⟩ := hat
        have hlt := (List.getElem?_eq_some_iff.mp q).1
        have s : Stp α O H α (O.set j (.brw ds)) H := ⟨⟨[], by simp⟩, fun b u e _ _ => e, fun b e => e, fun b m => .inl (ow_set' q rfl m), fun b m => .inl (ho_set' q (fun z => by cases z) m), fun b m => .inl m⟩
        refine ⟨_, _, h, s, ?_, .inl ⟨ds, p, vs, rfl, rfl, e, fun ⟨i, o, e1, e2, l⟩ => ?_, s.ats r⟩⟩
        · refine ⟨by rw [List.length_set]; exact w.len, w.nd, fun i b o e1 e2 => ?_, w.bt, fun b m => w.nb b (ow_set' q rfl m), w.tabs⟩
          by_cases hi : i = j
          · subst hi
            rw [List.getElem?_set_self hlt] at e2
            cases e2
            rw [ep] at e1
            cases e1
            exact ⟨vs, e, s.ats r⟩
          · rw [List.getElem?_set_ne (Ne.symm hi)] at e2
            exact (w.at_ i b o e1 e2).stp s fun _ => rfl
        · have := nodup_at w.nd e1 ep
          subst this
          rw [List.getElem?_set_self hlt] at e2
          cases e2
          cases l
      | brw ds =>
        simp only [q] at h
        obtain ⟨vs, e, r⟩ := hat
        refine ⟨_, _, h, Stp.refl, w, .inl ⟨ds, p, vs, rfl, rfl, e, fun ⟨i, o, e1, e2, l⟩ => ?_, r⟩⟩
        have := nodup_at w.nd e1 ep
        subst this
        rw [q] at e2
        cases e2
        cases l
      | frz ds =>
        simp only [q] at h
        exact ⟨_, _, h, Stp.refl, w, .inr hat⟩
theorem sd_seq {z : Y} (dz : Sd G k Γ z) : Sd G k Γ (.seq z) := .ofI (fun _ _ => rfl) (fun _ _ => rfl) (fun _ _ => rfl) (fun _ _ => rfl) fun X W0 S g tg e c => by
  refine pi_imp (pi_seq (dz.E X W0 S g e c)) fun σ H Q ⟨B, α, ρ, O, Q0, E0, R, h, hq, hl⟩ => ?_
  refine seqE R h hl fun u O1 f α1 v H1 s1 w1 a1 => ?_
  obtain ⟨x, O2, f, s2, w2, ax⟩ := brK_of w1 a1 f
  cases x with
  | lst ds =>
    obtain ⟨a, vs, rfl, e, m, r⟩ := ax.lst
    obtain ⟨ds', e2, f⟩ := hq _ _ f
    cases unmap e2
    refine ⟨a, rfl, .inl ⟨⟨vs, SqL.of e⟩, f α1 H1 _ (s1.trans s2) w2 ?_⟩⟩
    rw [g.hK]
    exact walkD_of (by rw [← r.length]; exact walk_list (xs := vs)) r fun B2 α2 O2 H2 hm hk => SqL.of (hk _ _ e m (fun _ z => by cases z))
  | tup ds =>
    obtain ⟨a, vs, rfl, e, m, r⟩ := ax.tup
    obtain ⟨ds', e2, f⟩ := hq _ _ f
    cases unmap e2
    refine ⟨a, rfl, .inr ⟨⟨vs, SqT.of e⟩, f α1 H1 _ (s1.trans s2) w2 ?_⟩⟩
    rw [g.hK]
    exact walkD_of (by rw [← r.length]; exact walk_tup (xs := vs)) r fun B2 α2 O2 H2 hm hk => SqT.of (hk _ _ e m (fun _ z => by cases z))
  | _ => exact f.elim
theorem walkD_fn {B : Addr → Prop} {α : List Addr} {O : List DO} {H : Hp} {lo : Int} {n : Nat} : WalkD G B α O H (Itr lo n) ((List.range n).map fun (i : Nat) => D.int (lo + (i : Int))) :=
  ⟨_, _, by rw [List.length_map, List.length_range]; exact walk_range, fun B2 α2 O2 H2 hm hk w => ⟨trivial, fun i x H3 hi y => by
    obtain ⟨rfl, rfl⟩ := y
    rw [List.length_map, List.length_range] at hi
    exact ⟨.int (lo + i), by simp [hi], .inl rfl, .int _⟩⟩⟩
theorem sd_rng {a : Y} (da : Sd G k Γ a) : Sd G k Γ (.rng a) := .ofI (fun _ _ => rfl) (fun _ _ => rfl) (fun _ _ => rfl) (fun _ _ => rfl) fun X W0 S g tg e c => by
  have c' : rngC S.sc (ck (Γ.map (·.1)) a S).E e = true := c
  unfold rngC at c'
  split at c'
  · obtain ⟨c, c4⟩ := ba c'
    obtain ⟨c, c3⟩ := ba c
    obtain ⟨c1, c2⟩ := ba c
    cases of_decide_eq_true c1
    refine pi_imp (pi_range1 (glo_of g c2) (g.free "range" (by decide)) (pa_one (da.E X W0 S g _ c4) c3) (starEach_plain c3)) fun σ H Q ⟨B, α, ρ, O, Q0, E0, R, h, hq, hl⟩ => ?_
    refine seqE R h hl fun u O1 f α1 v H1 s1 w1 a1 => ?_
    obtain ⟨x, e1, f⟩ := nrK_of f
    have ax := Vw.of w1 a1 e1
    cases x with
    | int j =>
      obtain rfl := ax.int
      obtain ⟨ds, e2, f2⟩ := hq _ _ f.2
      refine ⟨j, rfl, f.1.1, f.1.2, f2 α1 H1 _ s1 w1 ?_⟩
      rw [← unmap e2]
      exact walkD_fn
    | _ => exact f.elim
  · cases c'
theorem sd_rng2 {a b : Y} (da : Sd G k Γ a) (db : Sd G k Γ b) : Sd G k Γ (.rng2 a b) := .ofI (fun _ _ => rfl) (fun _ _ => rfl) (fun _ _ => rfl) (fun _ _ => rfl) fun X W0 S g tg e c => by
  have c' : rng2C S.sc (ck (Γ.map (·.1)) a S).E (ck (Γ.map (·.1)) b S).E e = true := c
  unfold rng2C at c'
  split at c'
  · obtain ⟨c, c6⟩ := ba c'
    obtain ⟨c, c5⟩ := ba c
    obtain ⟨c, c4⟩ := ba c
    obtain ⟨c, c3⟩ := ba c
    obtain ⟨c1, c2⟩ := ba c
    cases of_decide_eq_true c1
    refine pi_imp (pi_range2 (glo_of g c2) (g.free "range" (by decide)) (pa_two (da.E X W0 S g _ c5) (db.E X W0 S g _ c6) c3 c4) (by rw [starEach_plain c3, starEach_plain c4]; rfl) (by rw [starEach_plain c4]; rfl)) fun σ H Q ⟨B, α, ρ, O, Q0, E0, R, h, hq, hl⟩ => ?_
    refine seq2 R h hl fun u w O2 f α2 v v2 H2 s2 w2 a1 a2 => ?_
    obtain ⟨x, e1, f⟩ := nrK_of f
    obtain ⟨y, e2, f⟩ := nrK_of f
    have ax := Vw.of w2 a1 e1
    have ay := Vw.of w2 a2 e2
    split at f
    · obtain rfl := ax.int
      obtain rfl := ay.int
      obtain ⟨ds, e2, f2⟩ := hq _ _ f.2
      refine ⟨_, _, rfl, f.1, f2 α2 H2 _ s2 w2 ?_⟩
      rw [← unmap e2]
      exact walkD_fn
    · exact f.elim
  · cases c'
theorem isTup_of {e : Expr} (h : isTup e = true) : ∃ es kk p, e = .Tuple es kk p := by
  cases e <;> first | exact ⟨_, _, _, rfl⟩ | cases h
theorem walkD_pair {B : Addr → Prop} {α : List Addr} {O : List DO} {H : Hp} {J : It} {ds : List D} {Gd : Hp → Prop} {xs ys : Nat → Option V} (wk : L2.Walk J ds.length Gd (YPair xs ys))
    (hg : ∀ (B2 : Addr → Prop) (α2 : List Addr) (O2 : List DO) (H2 : Hp), (∀ b, Mu B2 α2 O2 b → Mu B α O b ∨ H b = none) → (∀ b o, H b = some o → ¬ Ho α O b → (∀ ps, o ≠ .tbl ps) → H2 b = some o) → Gd H2)
    (hd : ∀ i x y, i < ds.length → xs i = some x → ys i = some y → ∃ d e, ds[i]? = some (.tup [d, e]) ∧ At G.K (Mu B α O) H x d ∧ At G.K (Mu B α O) H y e) : WalkD G B α O H J ds :=
  ⟨_, _, wk, fun B2 α2 O2 H2 hm hk w => ⟨hg B2 α2 O2 H2 hm hk, fun i x H3 hi y => by
    obtain ⟨T, x, y, rfl, hT, rfl, e1, e2⟩ := y
    obtain ⟨d, e, e3, a1, a2⟩ := hd i x y hi e1 e2
    exact ⟨_, e3, .inr ⟨T, _, hT, rfl⟩, At.tupNew w hT (.cons (a1.imp (later hm hk)) (.cons (a2.imp (later hm hk)) .nil))⟩⟩⟩
theorem sd_enm {z : Y} (dz : Sd G k Γ z) : Sd G k Γ (.enm z) := .ofI (fun _ _ => rfl) (fun _ _ => rfl) (fun _ _ => rfl) (fun _ _ => rfl) fun X W0 S g tg e c => by
  have c' : enmC S.sc (ck (Γ.map (·.1)) z S).E tg e = true := c
  unfold enmC at c'
  split at c'
  · obtain ⟨c, c5⟩ := ba c'
    obtain ⟨c, c4⟩ := ba c
    obtain ⟨c, c3⟩ := ba c
    obtain ⟨c1, c2⟩ := ba c
    cases of_decide_eq_true c2
    obtain ⟨es, kk, tp, rfl⟩ := isTup_of c1
    refine pi_imp (pi_enum (glo_of g c3) (g.free "enumerate" (by decide)) (pa_one (dz.E X W0 S g _ c5) c4) (starEach_plain c4)) fun σ H Q ⟨B, α, ρ, O, Q0, E0, R, h, hq, hl⟩ => ?_
    refine seqE R h hl fun u O1 f α1 v H1 s1 w1 a1 => ?_
    obtain ⟨x, O2, f, s2, w2, ax⟩ := brK_of w1 a1 f
    cases x with
    | lst ds =>
      obtain ⟨a, vs, rfl, e, m, r⟩ := ax.lst
      obtain ⟨ds', e2, f⟩ := hq _ _ f
      refine ⟨a, vs, rfl, SqL.of e, f α1 H1 _ (s1.trans s2) w2 ?_⟩
      rw [← unmap e2, g.hK]
      refine walkD_pair (by rw [List.length_mapIdx, ← r.length]; exact walk_enum (xs := vs)) (fun B2 α2 O2 H2 hm hk => SqL.of (hk _ _ e m (fun _ z => by cases z))) fun i x y hi h1 h2 => ?_
      obtain ⟨d, e3, a3⟩ := r.get h2
      cases h1
      exact ⟨_, d, by rw [List.getElem?_mapIdx, e3]; rfl, .int _, a3⟩
    | _ => exact f.elim
  · cases c'
theorem sd_zip {a b : Y} (da : Sd G k Γ a) (db : Sd G k Γ b) : Sd G k Γ (.zip a b) := .ofI (fun _ _ => rfl) (fun _ _ => rfl) (fun _ _ => rfl) (fun _ _ => rfl) fun X W0 S g tg e c => by
  have c' : zipC S.sc (ck (Γ.map (·.1)) a S).E (ck (Γ.map (·.1)) b S).E tg e = true := c
  unfold zipC at c'
  split at c'
  · obtain ⟨c, c7⟩ := ba c'
    obtain ⟨c, c6⟩ := ba c
    obtain ⟨c, c5⟩ := ba c
    obtain ⟨c, c4⟩ := ba c
    obtain ⟨c, c3⟩ := ba c
    obtain ⟨c1, c2⟩ := ba c
    cases of_decide_eq_true c2
    obtain ⟨es, kk, tp, rfl⟩ := isTup_of c1
    refine pi_imp (RZ.pi_zipA (glo_of g c3) (g.free "zip" (by decide)) (pa_two (da.E X W0 S g _ c6) (db.E X W0 S g _ c7) c4 c5) (starEach_plain c4) (any_plain (by rw [List.all_cons, c5]; rfl))) fun σ H Q ⟨B, α, ρ, O, Q0, E0, R, h, hq, hl⟩ => ?_
    refine seq2 R h hl fun u w O2 f α2 v v2 H2 s2 w2 a1 a2 => ?_
    obtain ⟨x, O3, f, s3, w3, ax⟩ := brK_of w2 a1 f
    obtain ⟨y, O4, f, s4, w4, ay⟩ := brK_of w3 (s3.atU a2) f
    have ax := ax.stp s4
    have s24 := (s2.trans s3).trans s4
    have get : ∀ {vs ws : List V} {ds es : List D}, Ats G.K (Mu B α2 O4) H2 vs ds → Ats G.K (Mu B α2 O4) H2 ws es → ∀ (i : Nat) (x y : V), vs[i]? = some x → ws[i]? = some y → ∃ d e, (List.zipWith (fun d e => D.tup [d, e]) ds es)[i]? = some (D.tup [d, e]) ∧ At G.K (Mu B α2 O4) H2 x d ∧ At G.K (Mu B α2 O4) H2 y e := by
      intro vs ws ds es r1 r2 i x y h1 h2
      obtain ⟨d, e3, a3⟩ := r1.get h1
      obtain ⟨e, e4, a4⟩ := r2.get h2
      exact ⟨d, e, by rw [List.getElem?_zipWith, e3, e4], a3, a4⟩
    split at f
    · obtain ⟨a, vs, rfl, e, m, r⟩ := ax.lst
      obtain ⟨b, ws, rfl, e', m', r'⟩ := ay.lst
      obtain ⟨ds', e2, f⟩ := hq _ _ f
      refine ⟨a, b, vs, ws, rfl, .inl ⟨SqL.of e, SqL.of e', f α2 H2 _ s24 w4 ?_⟩⟩
      rw [← unmap e2, g.hK]
      refine walkD_pair (walk_zip (xs := vs) (ys := ws) (by rw [List.length_zipWith, r.length, r'.length])) (fun B2 α2 O2 H2 hm hk => ⟨SqL.of (hk _ _ e m (fun _ z => by cases z)), SqL.of (hk _ _ e' m' (fun _ z => by cases z))⟩) fun i x y hi h1 h2 => get r r' i x y h1 h2
    · obtain ⟨a, vs, rfl, e, m, r⟩ := ax.tup
      obtain ⟨b, ws, rfl, e', m', r'⟩ := ay.tup
      obtain ⟨ds', e2, f⟩ := hq _ _ f
      refine ⟨a, b, vs, ws, rfl, .inr ⟨SqT.of e, SqT.of e', f α2 H2 _ s24 w4 ?_⟩⟩
      rw [← unmap e2, g.hK]
      refine walkD_pair (Gd := fun H => SqT G.K H a vs ∧ SqT G.K H b ws) (xs := fun i => vs[i]?) (ys := fun i => ws[i]?) ?_ (fun B2 α2 O2 H2 hm hk => ⟨SqT.of (hk _ _ e m (fun _ z => by cases z)), SqT.of (hk _ _ e' m' (fun _ z => by cases z))⟩) fun i x y hi h1 h2 => get r r' i x y h1 h2
      rw [List.length_zipWith, ← r.length, ← r'.length]
      refine ⟨fun i _ hi q => ?_, fun _ q => ⟨vs, ws, q.1, q.2, by omega⟩, fun i H v H' _ q y => ?_⟩
      · have h1 : i < vs.length := by omega
        have h2 : i < ws.length := by omega
        exact ⟨vs, ws, vs[i], ws[i], q.1, q.2, by simp [h1], by simp [h2]⟩
      · obtain ⟨T, x, z, h1, h2, h3, h4, h5⟩ := y
        exact ⟨T, x, z, h1, h2, h3, h4 vs q.1, h5 ws q.2⟩
    · exact f.elim
  · cases c'
theorem sd_rev {z : Y} (dz : Sd G k Γ z) : Sd G k Γ (.rev z) := .ofI (fun _ _ => rfl) (fun _ _ => rfl) (fun _ _ => rfl) (fun _ _ => rfl) fun X W0 S g tg e c => by
  have c' : revC S.sc (ck (Γ.map (·.1)) z S).E e = true := c
  unfold revC at c'
  split at c'
  · obtain ⟨c, c4⟩ := ba c'
    obtain ⟨c, c3⟩ := ba c
    obtain ⟨c1, c2⟩ := ba c
    cases of_decide_eq_true c1
    refine pi_imp (pi_reversed (glo_of g c2) (g.free "reversed" (by decide)) (pa_one (dz.E X W0 S g _ c4) c3) (starEach_plain c3)) fun σ H Q ⟨B, α, ρ, O, Q0, E0, R, h, hq, hl⟩ => ?_
    refine seqE R h hl fun u O1 f α1 v H1 s1 w1 a1 => ?_
    obtain ⟨x, O2, f, s2, w2, ax⟩ := brK_of w1 a1 f
    cases x with
    | lst ds =>
      obtain ⟨a, vs, rfl, e, m, r⟩ := ax.lst
      obtain ⟨ds', e2, f⟩ := hq _ _ f
      refine ⟨a, vs, rfl, SqL.of e, f α1 H1 _ (s1.trans s2) w2 ?_⟩
      rw [← unmap e2, g.hK]
      refine ⟨_, _, by rw [List.length_reverse, ← r.length]; exact walk_rev, fun B2 α2 O2 H2 hm hk w => ⟨SqL.of (hk _ _ e m (fun _ z => by cases z)), fun i x H3 hi y => ?_⟩⟩
      obtain ⟨rfl, e3⟩ := y
      rw [List.length_reverse] at hi
      obtain ⟨d, e4, a4⟩ := r.get e3
      refine ⟨d, ?_, .inl rfl, a4.imp (later hm hk)⟩
      rw [List.getElem?_reverse hi, ← r.length]
      exact e4
    | _ => exact f.elim
  · cases c'
end
end Z

set_option Elab.async false
set_option linter.all false
set_option maxRecDepth 100000
set_option maxHeartbeats 4000000
namespace Z
open PySem PySem.Spec PyProof.Rows L2
/-! ### targets -/
def LfG (G : Gx) (tg : T1) : TG := fun v σ H Q => ∃ B α O ρ d Q0, Rep G B α σ H ρ O ∧ At G.K (Mu B α O) H v d ∧ bindT tg d ρ Q0 ∧
  ∀ ρ', Q0 ρ' → ∀ σ', Rep G B α σ' H ρ' O → (∀ i, i ∉ slots tg → σ'[i]? = σ[i]?) → σ'.length = σ.length → Q σ' H
def LfGs (G : Gx) (tg : T1) : TGs := fun vs σ H Q => ∃ B α O ρ ds Q0, Rep G B α σ H ρ O ∧ Ats G.K (Mu B α O) H vs ds ∧ bindTs tg ds ρ Q0 ∧
  ∀ ρ', Q0 ρ' → ∀ σ', Rep G B α σ' H ρ' O → (∀ i, i ∉ slots tg → σ'[i]? = σ[i]?) → σ'.length = σ.length → Q σ' H
theorem pg_imp {X : Cx} {e : Expr} {t t' : TG} (h : PG X e t) (i : ∀ v σ H Q, t' v σ H Q → t v σ H Q) : PG X e t' := ⟨fun pins s σ H v u Q I r q => h.run pins s σ H v u Q I r (i v σ H Q q)⟩
theorem pgs_imp {X : Cx} {e : List Expr} {t t' : TGs} (h : PGs X e t) (i : ∀ v σ H Q, t' v σ H Q → t v σ H Q) : PGs X e t' := ⟨fun pins s σ H v u Q I r q => h.run pins s σ H v u Q I r (i v σ H Q q)⟩
theorem pts_imp {X : Cx} {e : List Expr} {t t' : TT} (h : PTs X e t) (i : ∀ σ H Q, t' σ H Q → t σ H Q) : PTs X e t' := ⟨fun pins s σ H Q I q => h.run pins s σ H Q I (i σ H Q q)⟩
section
variable {G : Gx} {k : Nat} {Γ : List (Str × ZSp)}
theorem st_len : ∀ (ρ : List (Option U)) (i : Nat) (u : U), (st ρ i u).length = ρ.length
  | [], _, _ => rfl
  | _ :: _, 0, _ => rfl
  | _ :: r, i + 1, u => congrArg (· + 1) (st_len r i u)
theorem gt_lt : ∀ (ρ : List (Option U)) (i : Nat) (u : U), gt ρ i = some u → i < ρ.length
  | [], _, _, h => by cases h
  | _ :: _, 0, _, _ => Nat.succ_pos _
  | _ :: r, i + 1, u, h => Nat.succ_lt_succ (gt_lt r i u h)
theorem Rep.st {B : Addr → Prop} {α : List Addr} {σ : L2.St} {H : Hp} {ρ : List (Option U)} {O : List DO} (R : Rep G B α σ H ρ O) (i : Nat) {v : V} {u : U} (a : AtU G.K B α O H v u) : Rep G B α (σ.set i (some v)) H (st ρ i u) O := by
  refine ⟨fun j w e => ?_, R.own, by rw [st_len, List.length_set]; exact R.len⟩
  have hj := gt_lt _ _ _ e
  rw [st_len] at hj
  rcases gt_st ρ i j u w e with ⟨rfl, rfl⟩ | ⟨hne, e⟩
  · exact ⟨v, by rw [List.getElem?_set_self (Nat.lt_of_lt_of_le hj R.len)], a⟩
  · obtain ⟨v', e1, a1⟩ := R.vars j w e
    exact ⟨v', by rw [List.getElem?_set_ne (Ne.symm hne)]; exact e1, a1⟩
theorem assignEach_plain {e : Expr} {es : List Expr} {env : Env} (h : noStar e = true) : assignEach (e :: es) env = (false, assign e env) :: assignEach es env := by
  cases e <;> first | rfl | cases h
theorem ckGs_star {S : Sx} {env : Env} : ∀ {r : T1} {es : List Expr}, ckGs S r es = true → (assignEach es env).length = es.length ∧ (assignEach es env).findIdx? (·.1) = none
  | _, [], _ => ⟨rfl, rfl⟩
  | .cons a r, e :: es, h => by
    rw [ckGs] at h
    obtain ⟨h, h3⟩ := ba h
    obtain ⟨h1, h2⟩ := ba h
    obtain ⟨i1, i2⟩ := ckGs_star (env := env) h3
    rw [assignEach_plain h1]
    refine ⟨by rw [List.length_cons, List.length_cons, i1], ?_⟩
    rw [List.findIdx?_cons]
    show (if false = true then some 0 else _) = none
    rw [if_neg (by decide), i2]
    rfl
  | .nm _, e :: es, h => by rw [ckGs] at h; cases h; all_goals (intros; contradiction)
  | .tp _, e :: es, h => by rw [ckGs] at h; cases h; all_goals (intros; contradiction)
  | .nil, e :: es, h => by rw [ckGs] at h; cases h; all_goals (intros; contradiction)
def tlen : T1 → Nat
  | .cons _ r => tlen r + 1
  | _ => 0
mutual
theorem bindT_ex : ∀ {t : T1} {d : D} {ρ : List (Option U)} {k : List (Option U) → Prop}, bindT t d ρ k → ∃ ρ', k ρ'
  | .nm i, d, ρ, k, h => ⟨_, h⟩
  | .tp r, d, ρ, k, h => by
    cases d <;> first | exact bindTs_ex (t := r) h | exact False.elim h
  | .nil, d, ρ, k, h => h.elim
  | .cons _ _, d, ρ, k, h => h.elim
theorem bindTs_ex : ∀ {t : T1} {ds : List D} {ρ : List (Option U)} {k : List (Option U) → Prop}, bindTs t ds ρ k → ∃ ρ', k ρ'
  | .nil, [], ρ, k, h => ⟨_, h⟩
  | .nil, _ :: _, ρ, k, h => h.elim
  | .cons a r, d :: ds, ρ, k, h => by
    obtain ⟨ρ1, h⟩ := bindT_ex (t := a) (d := d) h
    exact bindTs_ex h
  | .cons a r, [], ρ, k, h => h.elim
  | .nm _, ds, ρ, k, h => h.elim
  | .tp _, ds, ρ, k, h => h.elim
end
theorem bindTs_len : ∀ {t : T1} {ds : List D} {ρ : List (Option U)} {k : List (Option U) → Prop}, bindTs t ds ρ k → ds.length = tlen t
  | .nil, [], ρ, k, h => rfl
  | .nil, _ :: _, ρ, k, h => h.elim
  | .cons a r, d :: ds, ρ, k, h => by
    obtain ⟨ρ1, h⟩ := bindT_ex (t := a) (d := d) h
    exact congrArg (· + 1) (bindTs_len h)
  | .cons a r, [], ρ, k, h => h.elim
  | .nm _, ds, ρ, k, h => h.elim
  | .tp _, ds, ρ, k, h => h.elim
theorem ckGs_len {S : Sx} : ∀ {r : T1} {es : List Expr}, ckGs S r es = true → es.length = tlen r
  | .nil, [], _ => rfl
  | .cons a r, [], h => by rw [ckGs] at h; cases h; all_goals (intros; contradiction)
  | .nm _, [], h => by rw [ckGs] at h; cases h; all_goals (intros; contradiction)
  | .tp _, [], h => by rw [ckGs] at h; cases h; all_goals (intros; contradiction)
  | .cons a r, e :: es, h => by
    rw [ckGs] at h
    obtain ⟨h, h3⟩ := ba h
    rw [List.length_cons, ckGs_len h3]
    rfl
  | .nm _, e :: es, h => by rw [ckGs] at h; cases h; all_goals (intros; contradiction)
  | .tp _, e :: es, h => by rw [ckGs] at h; cases h; all_goals (intros; contradiction)
  | .nil, e :: es, h => by rw [ckGs] at h; cases h; all_goals (intros; contradiction)
mutual
theorem sd_tg {X : Cx} {W0 : XK} {S : Sx} (g : Good X G W0 k S Γ) : ∀ {t : T1} {e : Expr}, ckG S t e = true → PG X e (LfG G t)
  | .nm i, e, h => by
    rw [ckG.eq_def] at h
    split at h
    · rename_i j x p h0
      cases h0
      obtain ⟨h1, h2⟩ := ba h
      obtain ⟨l, hf⟩ := g.sto x h2
      refine pg_imp (pg_name g.nd (by rw [g.hN]; exact of_decide_eq_true h1) l hf) fun v σ H Q ⟨B, α, O, ρ, d, Q0, R, a, h, hq⟩ => ?_
      refine hq _ h _ (R.st i (.d a)) (fun j hj => ?_) List.length_set
      rw [List.getElem?_set_ne (fun z => hj (by rw [← z]; simp [slots]))]
    · rename_i h0; cases h0
    · cases h
  | .tp r, e, h => by
    rw [ckG.eq_def] at h
    split at h
    · rename_i h0; cases h0
    · rename_i r' es p1 p2 h0
      cases h0
      obtain ⟨i1, i2⟩ := ckGs_star (env := X.env) h
      refine pg_imp (pg_tup g.calm (sd_tgs g h) i1 i2) fun v σ H Q ⟨B, α, O, ρ, d, Q0, R, a, hb, hq⟩ => ?_
      cases d with
      | tup ds =>
        cases a with
        | @tup p vs ds e m r' =>
        have hb' : bindTs r ds ρ Q0 := hb
        refine ⟨p, vs, rfl, by rw [g.hK]; exact SqT.of e, by rw [r'.length, ckGs_len h, bindTs_len hb'], B, α, O, ρ, ds, Q0, R, r', hb', fun ρ' q σ' R' hs hl => hq ρ' q σ' R' (fun i hi => hs i (by simpa [slots] using hi)) hl⟩
      | _ => exact False.elim hb
    · cases h
  | .nil, e, h => by rw [ckG] at h; cases h; all_goals (intros; contradiction)
  | .cons _ _, e, h => by rw [ckG] at h; cases h; all_goals (intros; contradiction)
theorem sd_tgs {X : Cx} {W0 : XK} {S : Sx} (g : Good X G W0 k S Γ) : ∀ {t : T1} {es : List Expr}, ckGs S t es = true → PGs X es (LfGs G t)
  | .nil, [], h => by
    refine pgs_imp pgs_nil fun v σ H Q ⟨B, α, O, ρ, ds, Q0, R, a, hb, hq⟩ => ?_
    cases a with
    | nil => exact ⟨rfl, hq _ hb _ R (fun _ _ => rfl) rfl⟩
    | cons _ _ => exact False.elim hb
  | .cons t r, e :: es, h => by
    rw [ckGs] at h
    obtain ⟨h, h3⟩ := ba h
    obtain ⟨h1, h2⟩ := ba h
    refine pgs_imp (pgs_cons (sd_tg g h2) (sd_tgs g h3) (by rw [assignEach_plain h1]; rfl)) fun v σ H Q ⟨B, α, O, ρ, ds, Q0, R, a, hb, hq⟩ => ?_
    cases a with
    | nil => exact False.elim hb
    | @cons v' d vs' ds a ar =>
      refine ⟨v', vs', rfl, B, α, O, ρ, d, _, R, a, hb, fun ρ1 q1 σ1 R1 hs1 hl1 => ?_⟩
      refine ⟨B, α, O, ρ1, ds, Q0, R1, ar, q1, fun ρ2 q2 σ2 R2 hs2 hl2 => hq ρ2 q2 σ2 R2 (fun i hi => ?_) (hl2.trans hl1)⟩
      have hi' : i ∉ slots t ∧ i ∉ slots r := by simpa [slots] using hi
      rw [hs2 i hi'.2, hs1 i hi'.1]
  | .nil, e :: es, h => by rw [ckGs] at h; cases h; all_goals (intros; contradiction)
  | .cons _ _, [], h => by rw [ckGs] at h; cases h; all_goals (intros; contradiction)
  | .nm _, _, h => by rw [ckGs] at h; cases h; all_goals (intros; contradiction)
  | .tp _, _, h => by rw [ckGs] at h; cases h; all_goals (intros; contradiction)
end
end
end Z

set_option Elab.async false
set_option linter.all false
set_option maxRecDepth 100000
set_option maxHeartbeats 4000000
namespace Z
open PySem PySem.Spec PyProof.Rows L2
section
variable {G : Gx} {k : Nat} {Γ : List (Str × ZSp)}
mutual
theorem AtU.later {B B2 : Addr → Prop} {α α2 : List Addr} {O O2 : List DO} {H H2 : Hp} (hi : ∀ (k : Nat) a, α[k]? = some a → α2[k]? = some a) (h : ∀ a o, ¬ Mu B α O a → H a = some o → (∀ ps, o ≠ .tbl ps) → H2 a = some o ∧ ¬ Mu B2 α2 O2 a) :
    ∀ {v : V} {u : U}, AtU G.K B α O H v u → AtU G.K B2 α2 O2 H2 v u
  | _, _, .d a => .d (a.imp h)
  | _, _, .o e => .o (hi _ _ e)
  | _, _, .t e m r => let ⟨e', m'⟩ := h _ _ m e (fun _ z => by cases z); .t e' m' (AtUs.later hi h r)
theorem AtUs.later {B B2 : Addr → Prop} {α α2 : List Addr} {O O2 : List DO} {H H2 : Hp} (hi : ∀ (k : Nat) a, α[k]? = some a → α2[k]? = some a) (h : ∀ a o, ¬ Mu B α O a → H a = some o → (∀ ps, o ≠ .tbl ps) → H2 a = some o ∧ ¬ Mu B2 α2 O2 a) :
    ∀ {vs : List V} {us : List U}, AtUs G.K B α O H vs us → AtUs G.K B2 α2 O2 H2 vs us
  | _, _, .nil => .nil
  | _, _, .cons a r => .cons (AtU.later hi h a) (AtUs.later hi h r)
end
theorem gt_rm : ∀ (ρ : List (Option U)) (v i : Nat) (u : U), gt (wipeR.rm ρ v) i = some u → i ≠ v ∧ gt ρ i = some u
  | [], _, _, _, h => by cases h
  | _ :: _, 0, 0, _, h => by cases h
  | _ :: _, 0, i + 1, _, h => ⟨by omega, h⟩
  | _ :: _, v + 1, 0, _, h => ⟨by omega, h⟩
  | _ :: r, v + 1, i + 1, u, h => by
    obtain ⟨h1, h2⟩ := gt_rm r v i u h
    exact ⟨by omega, h2⟩
theorem rm_len : ∀ (ρ : List (Option U)) (v : Nat), (wipeR.rm ρ v).length = ρ.length
  | [], _ => rfl
  | _ :: _, 0 => rfl
  | _ :: r, v + 1 => congrArg (· + 1) (rm_len r v)
theorem gt_wipe {ρ : List (Option U)} {i : Nat} {u : U} : ∀ {vs : List Nat}, gt (wipeR ρ vs) i = some u → i ∉ vs ∧ gt ρ i = some u
  | [], h => ⟨by simp, h⟩
  | v :: vs, h => by
    obtain ⟨h1, h2⟩ := gt_rm _ _ _ _ h
    obtain ⟨h3, h4⟩ := gt_wipe h2
    exact ⟨by simp only [List.mem_cons, not_or]; exact ⟨h1, h3⟩, h4⟩
theorem wipeR_len (ρ : List (Option U)) : ∀ vs : List Nat, (wipeR ρ vs).length = ρ.length
  | [] => rfl
  | v :: vs => by rw [wipeR, rm_len, wipeR_len ρ vs]
theorem wipe_at {σ : L2.St} {i : Nat} : ∀ {vs : List Nat}, (wipe σ vs)[i]? = if i ∈ vs then (if i < σ.length then some none else none) else σ[i]?
  | [] => by simp [wipe]
  | v :: vs => by
    have ih := wipe_at (σ := σ) (i := i) (vs := vs)
    unfold wipe
    by_cases h : v = i
    · subst h
      rw [if_pos List.mem_cons_self]
      by_cases hl : v < σ.length
      · rw [if_pos hl, List.getElem?_set_self (by rw [wipe_length]; exact hl)]
      · rw [if_neg hl, List.getElem?_eq_none (by rw [List.length_set, wipe_length]; omega)]
    · rw [List.getElem?_set_ne h, ih]
      by_cases hm : i ∈ vs
      · rw [if_pos hm, if_pos (List.mem_cons_of_mem _ hm)]
      · rw [if_neg hm, if_neg (by simp only [List.mem_cons, not_or]; exact ⟨fun z => h z.symm, hm⟩)]
theorem wipe_back {σ σ2 : L2.St} {vs ss : List Nat} (hs : ∀ i ∈ ss, i ∈ vs) (h : ∀ i, i ∉ ss → σ2[i]? = (wipe σ vs)[i]?) (hl : σ2.length = σ.length) : wipe σ2 vs = wipe σ vs := by
  refine List.ext_getElem? fun i => ?_
  rw [wipe_at, wipe_at, hl]
  by_cases hm : i ∈ vs
  · rw [if_pos hm, if_pos hm]
  · rw [if_neg hm, if_neg hm, h i (fun z => hm (hs i z)), wipe_at, if_neg hm]
theorem len_of {σ σ2 : L2.St} {vs ss : List Nat} (h : ∀ i, i ∉ ss → σ2[i]? = (wipe σ vs)[i]?) : True := trivial
/-- a new list that the block keeps for itself -/
def With (B : Addr → Prop) (D : Addr) : Addr → Prop := fun b => B b ∨ b = D
theorem own_with {B : Addr → Prop} {α : List Addr} {O : List DO} {H : Hp} (w : Own G B α O H) {D : Addr} {o : HO} (hD : H D = none) : Own G (With B D) α O (upd H D o) := by
  have hm : ∀ b, Mu (With B D) α O b → Mu B α O b ∨ H b = none := fun b m => by
    rcases m with (m | rfl) | m
    · exact .inl (.inl m)
    · exact .inr hD
    · exact .inl (.inr m)
  have hk : ∀ b o', H b = some o' → ¬ Ho α O b → (∀ ps, o' ≠ .tbl ps) → upd H D o b = some o' := fun b o' e _ _ => by rw [upd_ne (ne_of_none e hD)]; exact e
  refine ⟨w.len, w.nd, fun j b u e1 e2 => ?_, fun b m => ?_, fun b m z => ?_, tabs_keep w.tabs fun b u e _ => by rw [upd_ne (ne_of_none e hD)]; exact e⟩
  · have h := w.at_ j b u e1 e2
    cases u with
    | lst ds =>
      obtain ⟨vs, e, r⟩ := h
      exact ⟨vs, by rw [upd_ne (ne_of_none e hD)]; exact e, r.imp (later hm hk)⟩
    | brw ds =>
      obtain ⟨vs, e, r⟩ := h
      exact ⟨vs, by rw [upd_ne (ne_of_none e hD)]; exact e, r.imp (later hm hk)⟩
    | frz ds => exact At.imp (later hm hk) h
  · rcases m with m | rfl
    · obtain ⟨o', e⟩ := w.bt b m
      exact ⟨o', by rw [upd_ne (ne_of_none e hD)]; exact e⟩
    · exact ⟨o, upd_same⟩
  · rcases z with z | rfl
    · exact w.nb b m z
    · obtain ⟨o', e⟩ := m.some w
      rw [hD] at e; cases e
theorem own_updB {B : Addr → Prop} {α : List Addr} {O : List DO} {H : Hp} (w : Own G B α O H) {D : Addr} {vs : List V} {o : HO} (hB : B D) (hD : H D = some (.lst vs)) : Own G B α O (upd H D o) := by
  have h1 : ∀ a o', ¬ Mu B α O a → H a = some o' → (∀ ps, o' ≠ .tbl ps) → upd H D o a = some o' ∧ ¬ Mu B α O a := fun b o' m e _ => ⟨by rw [upd_ne (fun z : b = D => m (by rw [z]; exact .inl hB))]; exact e, m⟩
  refine ⟨w.len, w.nd, fun j b u e1 e2 => ?_, fun b m => ?_, w.nb, tabs_keep w.tabs fun b u e z => ?_⟩
  · have h := w.at_ j b u e1 e2
    cases u with
    | lst ds =>
      obtain ⟨vs, e, r⟩ := h
      refine ⟨vs, ?_, r.imp h1⟩
      rw [upd_ne (fun z : b = D => w.nb b ⟨j, _, e1, e2, rfl⟩ (by rw [z]; exact hB))]
      exact e
    | brw ds =>
      obtain ⟨vs, e, r⟩ := h
      refine ⟨vs, ?_, r.imp h1⟩
      rw [upd_ne (fun z : b = D => w.nb b ⟨j, _, e1, e2, rfl⟩ (by rw [z]; exact hB))]
      exact e
    | frz ds => exact At.imp h1 h
  · by_cases e : b = D
    · exact ⟨o, by rw [e, upd_same]⟩
    · rw [upd_ne e]; exact w.bt b m
  · by_cases eb : b = D
    · subst eb
      rw [hD] at e
      cases e
      rcases z with ⟨_, z⟩ | ⟨_, z⟩ <;> cases z
    · rw [upd_ne eb]; exact e
theorem stp_updNew {α α' : List Addr} {O O' : List DO} {H H' : Hp} (s : Stp α O H α' O' H') {D : Addr} {o : HO} (hD : H D = none) : Stp α O H α' O' (upd H' D o) :=
  ⟨s.pre, fun b o' e m n => by rw [upd_ne (ne_of_none e hD)]; exact s.keep b o' e m n, fun b e => by
    by_cases h : b = D
    · rw [h]; exact hD
    · rw [upd_ne h] at e; exact s.there b e, s.new, s.hnew, s.fresh⟩
/-- the new list becomes an owned one, or data -/
theorem own_adopt {B : Addr → Prop} {α : List Addr} {O : List DO} {H : Hp} {D : Addr} {vs : List V} {ds : List Z.D} (w : Own G (With B D) α O H) (hD : H D = some (.lst vs)) (hB : ¬ B D) (ha : D ∉ α) (r : Ats G.K (Mu (With B D) α O) H vs ds) : Own G B (α ++ [D]) (O ++ [.lst ds]) H := by
  have hm : ∀ b, Mu B (α ++ [D]) (O ++ [.lst ds]) b → Mu (With B D) α O b := fun b m => by
    rcases m with m | ⟨j, u, e1, e2, l⟩
    · exact .inl (.inl m)
    · rcases get_snoc e1 with e1 | ⟨e1, eb⟩
      · rcases get_snoc e2 with e2 | ⟨e2, _⟩
        · exact .inr ⟨j, u, e1, e2, l⟩
        · have := (List.getElem?_eq_some_iff.mp e1).1
          have := w.len
          omega
      · exact .inl (.inr eb)
  refine ⟨by simp [w.len], ?_, fun j b u e1 e2 => ?_, fun b m => w.bt b (.inl m), fun b m z => ?_, w.tabs⟩
  · rw [List.nodup_append]
    exact ⟨w.nd, by simp, fun a h1 b h2 => by
      rcases List.mem_singleton.mp h2 with rfl
      exact fun z => ha (by rw [← z]; exact h1)⟩
  · rcases get_snoc e1 with e1 | ⟨e1, rfl⟩
    · rcases get_snoc e2 with e2 | ⟨e2, _⟩
      · exact (w.at_ j b u e1 e2).less hm
      · have := (List.getElem?_eq_some_iff.mp e1).1
        have := w.len
        omega
    · rcases get_snoc e2 with e2 | ⟨e2, rfl⟩
      · have := (List.getElem?_eq_some_iff.mp e2).1
        have := w.len
        omega
      · exact ⟨vs, hD, r.less hm⟩
  · rcases m with ⟨j, u, e1, e2, l⟩
    rcases get_snoc e1 with e1 | ⟨e1, rfl⟩
    · rcases get_snoc e2 with e2 | ⟨e2, _⟩
      · exact w.nb b ⟨j, u, e1, e2, l⟩ (.inl z)
      · have := (List.getElem?_eq_some_iff.mp e1).1
        have := w.len
        omega
    · exact hB z
theorem own_less {B : Addr → Prop} {α : List Addr} {O : List DO} {H : Hp} {D : Addr} (w : Own G (With B D) α O H) : Own G B α O H := by
  have hm : ∀ b, Mu B α O b → Mu (With B D) α O b := fun b m => m.elim (fun m => .inl (.inl m)) .inr
  exact ⟨w.len, w.nd, fun j b u e1 e2 => (w.at_ j b u e1 e2).less hm, fun b m => w.bt b (.inl m), fun b m z => w.nb b m (.inl z), w.tabs⟩
theorem stp_adopt {α α' : List Addr} {O O' : List DO} {H H' : Hp} (s : Stp α O H α' O' H') {D : Addr} {o : DO} (hl : α'.length = O'.length) (hD : H D = none) : Stp α O H (α' ++ [D]) (O' ++ [o]) H' := by
  refine ⟨?_, s.keep, s.there, fun b m => ?_, fun b m => ?_, fun b m => ?_⟩
  · obtain ⟨m, e⟩ := s.pre
    exact ⟨m ++ [D], by rw [e, List.append_assoc]⟩
  · obtain ⟨j, u, e1, e2, l⟩ := m
    rcases get_snoc e1 with e1 | ⟨e1, rfl⟩
    · rcases get_snoc e2 with e2 | ⟨e2, _⟩
      · exact s.new b ⟨j, u, e1, e2, l⟩
      · have := (List.getElem?_eq_some_iff.mp e1).1
        omega
    · exact .inr hD
  · obtain ⟨j, u, e1, e2, l⟩ := m
    rcases get_snoc e1 with e1 | ⟨e1, rfl⟩
    · rcases get_snoc e2 with e2 | ⟨e2, _⟩
      · exact s.hnew b ⟨j, u, e1, e2, l⟩
      · have := (List.getElem?_eq_some_iff.mp e1).1
        omega
    · exact .inr hD
  · rcases List.mem_append.mp m with m | m
    · exact s.fresh b m
    · rw [List.mem_singleton.mp m]; exact .inr hD

/-- what was borrowed for a walk, given back -/
theorem unb1_at (o x : DO) : unb1 o x = x ∨ ∃ ds es, o = .lst es ∧ x = .brw ds ∧ unb1 o x = .lst ds := by
  cases o with
  | lst es => cases x with
    | brw ds => exact .inr ⟨ds, es, rfl, rfl, rfl⟩
    | lst _ => exact .inl rfl
    | frz _ => exact .inl rfl
  | frz _ => exact .inl rfl
  | brw _ => exact .inl rfl
theorem unb_at : ∀ {O O' : List DO} {i : Nat} {x : DO}, (unb O O')[i]? = some x → O'[i]? = some x ∨ ∃ ds es, O[i]? = some (DO.lst es) ∧ O'[i]? = some (DO.brw ds) ∧ x = .lst ds
  | [], _, _, _, h => .inl h
  | _ :: _, [], i, x, h => .inl h
  | o :: r, y :: s, 0, x, h => by
    rw [unb, List.getElem?_cons_zero] at h
    cases h
    rcases unb1_at o y with g | ⟨ds, es, g1, g2, g3⟩
    · exact .inl (by rw [List.getElem?_cons_zero, g])
    · exact .inr ⟨ds, es, by rw [List.getElem?_cons_zero, g1], by rw [List.getElem?_cons_zero, g2], g3⟩
  | o :: r, y :: s, i + 1, x, h => by
    rw [unb, List.getElem?_cons_succ] at h
    rw [List.getElem?_cons_succ, List.getElem?_cons_succ]
    exact unb_at h
theorem unb_len : ∀ (O O' : List DO), (unb O O').length = O'.length
  | [], _ => rfl
  | _ :: _, [] => rfl
  | _ :: r, _ :: s => congrArg (· + 1) (unb_len r s)
theorem unb_ok {B : Addr → Prop} {α α' : List Addr} {O O' : List DO} {H H' : Hp} (s : Stp α O H α' O' H') (w0 : Own G B α O H) (w : Own G B α' O' H') : Stp α O H α' (unb O O') H' ∧ Own G B α' (unb O O') H' ∧ ∀ b, Mu B α' (unb O O') b → Mu B α' O' b := by
  have how : ∀ b, Ow α' (unb O O') b → Ow α' O' b := fun b ⟨i, o, e1, e2, l⟩ => by
    rcases unb_at e2 with g | ⟨ds, es, g1, g2, rfl⟩
    · exact ⟨i, o, e1, g, l⟩
    · exact ⟨i, _, e1, g2, rfl⟩
  have hm : ∀ b, Mu B α' (unb O O') b → Mu B α' O' b := fun b m => m.elim .inl fun m => .inr (how b m)
  refine ⟨⟨s.pre, s.keep, s.there, fun b m => s.new b (how b m), fun b ⟨i, o, e1, e2, l⟩ => ?_, s.fresh⟩, ⟨by rw [unb_len]; exact w.len, w.nd, fun i b o e1 e2 => ?_, w.bt, fun b m => w.nb b (how b m), w.tabs⟩, hm⟩
  · rcases unb_at e2 with g | ⟨ds, es, g1, g2, rfl⟩
    · exact s.hnew b ⟨i, o, e1, g, l⟩
    · refine .inl ⟨i, _, ?_, g1, rfl⟩
      obtain ⟨mm, e⟩ := s.pre
      rw [e, List.getElem?_append_left (by rw [w0.len]; exact (List.getElem?_eq_some_iff.mp g1).1)] at e1
      exact e1
  · rcases unb_at e2 with g | ⟨ds, es, g1, g2, rfl⟩
    · exact (w.at_ i b o e1 g).less hm
    · exact (w.at_ i b _ e1 g2).less hm
theorem lookup_blk {sc scope : Scope} {x : Str} {kd : NameKind} (hk : kd ≠ .free) (h : scope.names.lookup x = some kd) : (relS scope sc).names.lookup x = some kd := lookup_relS_keep hk h
theorem good_blk {X : Cx} {W0 : XK} {S : Sx} (g : Good X G W0 k S Γ) (scope : Scope) (s : Shared) (H : Hp) (C : Addr) (cl : List (Str × Addr)) (fp : List Addr) :
    Good (X.blk s H scope (compEnvC scope cl C X.env) fp) G (fun _ _ _ => False) k ⟨S.N, relS scope S.sc, scope⟩ Γ where
  hN := g.hN
  nd := g.nd
  sc := by rw [← g.sc]; rfl
  calm := g.calm
  hK := g.hK
  takes := fun u s' ⟨_, _, _, _, _, _, _, _, _, _, _, _, _, _, _, _, w⟩ => w.elim
  room := g.room
  fns := fun i x P h => g.fns i x P h
  free := g.free
  sto := fun x h => by
    unfold ownB at h
    have hsc : (compEnvC scope cl C X.env).scope = relS scope X.env.scope := rfl
    split at h
    · rename_i q
      exact ⟨.inl (by rw [hsc]; exact lookup_blk (by decide) q), .inr (by rw [hsc]; exact lookup_blk (by decide) q)⟩
    · rename_i q
      refine ⟨.inr (by rw [hsc]; exact lookup_blk (by decide) q), .inl ?_⟩
      show (scope.names.lookup x == some .cell) = true
      rw [q]; rfl
    · cases h
theorem folded_of {e : Expr} {env : Env} (h : noSet e = true) : ∀ x, foldedSetIterable e env x = pure x := by
  intro x
  cases e <;> first | rfl | cases h
theorem comp_ex (own : Bool) (vs : List Nat) (tg : T1) {src tst elt : Y} (ds : Sd G k Γ src) (dt : Sd G k Γ tst) (de : Sd G k Γ elt) (hy : isYes tst = true → tst = .yes) {X : Cx} {W0 : XK} {S : Sx} (g : Good X G W0 k S Γ) {e : Expr} (c : compC (ck (Γ.map (·.1)) tst) (ck (Γ.map (·.1)) elt) (ck (Γ.map (·.1)) src S) S vs tg (isYes tst) e = true) :
    ∃ (e0 t it : Expr) (ifs : List Expr) (scope : Scope) (pos : Pos) (wi : TI) (gg : TG) (tt : TT) (te : TE), e = .ListComp e0 [⟨t, it, ifs, 0⟩] scope pos ∧ PI X t it wi ∧ BlkOk X.N X.env.scope scope (ownN S.N vs) ∧
      (∀ (s : Shared) (H : Hp) (C : Addr) (cl : List (Str × Addr)) (fp : List Addr), PG (X.blk s H scope (compEnvC scope cl C X.env) fp) t gg) ∧
      (∀ (s : Shared) (H : Hp) (C : Addr) (cl : List (Str × Addr)) (fp : List Addr), PTs (X.blk s H scope (compEnvC scope cl C X.env) fp) ifs tt) ∧
      (∀ (s : Shared) (H : Hp) (C : Addr) (cl : List (Str × Addr)) (fp : List Addr), PE (X.blk s H scope (compEnvC scope cl C X.env) fp) e0 te) ∧ (∀ x, foldedSetIterable it X.env x = pure x) ∧
      ∀ σ H Q, LfE G W0 (vc Γ (.comp own vs tg src tst elt)) σ H Q → tLc wi gg tt te ((ownN S.N vs).map (·.2)) σ H Q := by
  unfold compC at c
  split at c
  · rename_i e0 t it ifs scope pos
    obtain ⟨c, c7⟩ := ba c
    obtain ⟨c, c6⟩ := ba c
    obtain ⟨c, c5⟩ := ba c
    obtain ⟨c, c4⟩ := ba c
    obtain ⟨c, c3⟩ := ba c
    obtain ⟨c1, c2⟩ := ba c
    have gb := fun s H C cl fp => good_blk g scope s H C cl fp
    have ok : BlkOk X.N X.env.scope scope (ownN S.N vs) := by
      rw [g.hN, g.sc]
      exact blkOk_by c1
    have hvs : (ownN S.N vs).map (·.2) = vs := by unfold ownN; rw [List.map_map]; exact List.map_id vs
    have hsl : ∀ i ∈ slots tg, i ∈ vs := fun i hi => by
      have := List.all_eq_true.mp c3 i hi
      simpa using this
    have ht : ∀ (s : Shared) (H : Hp) (C : Addr) (cl : List (Str × Addr)) (fp : List Addr), PTs (X.blk s H scope (compEnvC scope cl C X.env) fp) ifs (LfT G (fun _ _ _ => False) (vc Γ tst)) := fun s H C cl fp => by
      split at c6
      · rw [hy c6]
        exact pts_imp pts_nil fun σ H Q ⟨B, α, ρ, O, Q0, E0, R, h, hq, hl⟩ => hq.to h Stp.refl R.own
      · exact pts_one (dt.T _ _ _ (gb s H C cl fp) _ (ba c6).2)
      · cases c6
    refine ⟨e0, t, it, ifs, scope, pos, _, _, _, _, rfl, ds.I X W0 S g _ _ c4, ok, fun s H C cl fp => sd_tg (gb s H C cl fp) c2, ht, fun s H C cl fp => de.E _ _ _ (gb s H C cl fp) _ c7, folded_of c5, fun σ H Q ⟨B, α, ρ, O, Q0, E0, R, h, hq, hl⟩ => ?_⟩
    rw [hvs]
    refine ⟨B, α, ρ, O, _, E0, R, h, fun us O1 q => ?_, hl⟩
    obtain ⟨xs, rfl, hz, q⟩ := q
    refine ⟨xs, rfl, fun α1 H1 J s1 w1 wk D hD => ?_⟩
    obtain ⟨Gd, Yy, wk, hwk⟩ := wk.ex
    have hDB : ¬ B D := fun m => by
      obtain ⟨o, e⟩ := w1.bt D m
      rw [hD] at e; cases e
    have hDa : D ∉ α1 := own_fresh w1 hD
    have hO1 : O1.length = α1.length := w1.len.symm
    have hm : ∀ {O2 : List DO} {H2 : Hp}, Stp α1 O1 H1 α1 O2 H2 → ∀ b, Mu (With B D) α1 O2 b → Mu B α1 O1 b ∨ H1 b = none := fun s b m => by
      rcases m with (m | rfl) | m
      · exact .inl (.inl m)
      · exact .inr hD
      · rcases s.new b m with z | z
        · exact .inl (.inr z)
        · exact .inr z
    have hkp : ∀ {O2 : List DO} {H2 : Hp}, Stp α1 O1 H1 α1 O2 H2 → ∀ b o, H1 b = some o → ¬ Ho α1 O1 b → (∀ ps, o ≠ .tbl ps) → H2 b = some o := fun s b o e m n => s.keep b o e m n
    refine lc_it wk (fun i H => ∃ O2 acc av, Own G (With B D) α1 O2 H ∧ Stp α1 O1 H1 α1 O2 H ∧ H D = some (.lst av) ∧ Ats G.K (Mu (With B D) α1 O2) H av acc ∧ acc.length ≤ i ∧
      compR tg (vc Γ tst fun _ _ => False) (vc Γ elt fun _ _ => False) (wipeR ρ vs) O1.length (xs.drop i) acc O2 fun acc O2 => newL own acc (unb O O2) Q0) ?_ ?_ ?_ ?_
    · exact ⟨O1, [], [], own_with w1 hD, stp_new hD, upd_same, .nil, Nat.le_refl _, q⟩
    · rintro i H2 hi ⟨O2, acc, av, w2, s2, e2, r2, l2, q2⟩
      exact (hwk _ _ _ _ (hm s2) (hkp s2) w2).1
    · rintro i x H2 H3 hi ⟨O2, acc, av, w2, s2, e2, r2, l2, q2⟩ y
      obtain ⟨d, ed, hH3, ax⟩ := (hwk _ _ _ _ (hm s2) (hkp s2) w2).2 i x H3 hi y
      have st3 : Stp α1 O2 H2 α1 O2 H3 ∧ Own G (With B D) α1 O2 H3 := by
        rcases hH3 with rfl | ⟨p, vs, hp, rfl⟩
        · exact ⟨Stp.refl, w2⟩
        · exact ⟨stp_new hp, own_new w2 hp⟩
      obtain ⟨s3, w3⟩ := st3
      have hdrop : xs.drop i = d :: xs.drop (i + 1) := by
        obtain ⟨hlt, ed⟩ := List.getElem?_eq_some_iff.mp ed
        rw [← ed]
        exact List.drop_eq_getElem_cons hlt
      rw [hdrop, compR] at q2
      have s13 := s2.trans s3
      have R3 : Rep G (With B D) α1 (wipe σ vs) H3 (wipeR ρ vs) O2 := by
        refine ⟨fun j u e => ?_, w3, by rw [wipeR_len, wipe_length]; exact R.len⟩
        obtain ⟨hj, e⟩ := gt_wipe e
        obtain ⟨v, ev, av⟩ := R.vars j u e
        exact ⟨v, by rw [wipe_out hj]; exact ev, AtU.later (fun _ _ z => z) (later (hm s13) (hkp s13)) (s1.atU av)⟩
      refine ⟨With B D, α1, O2, wipeR ρ vs, d, _, R3, ax, q2, fun ρ1 q3 σ2 R4 hs hl4 => ⟨wipe_back hsl hs (by rw [hl4, wipe_length]), ?_⟩⟩
      refine seqT (E0 := fun _ _ => False) R4 q3 (fun _ _ z => z.elim) fun b O5 q5 α5 H5 s5 w5 => ?_
      have kD : ∀ {α6 : List Addr} {O6 : List DO} {H6 : Hp}, Stp α1 O2 H3 α6 O6 H6 → H6 D = some (.lst av) := fun s => s.keep D _ (s3.keep D _ e2 (fun z => w2.nb D z.ow (.inr rfl)) (fun _ z => by cases z)) (fun z => w3.nb D z.ow (.inr rfl)) (fun _ z => by cases z)
      have fin : ∀ {α6 : List Addr} {O6 : List DO} {H6 : Hp}, Stp α1 O2 H3 α6 O6 H6 → Own G (With B D) α6 O6 H6 → Own G (With B D) α1 (O6.take O1.length) H6 ∧ Stp α1 O1 H1 α1 (O6.take O1.length) H6 := fun {α6 O6 H6} s w => by
        have h1 := stp_take s w3
        have h2 := own_take w O1.length
        rw [hO1] at h2 ⊢
        rw [h1.2] at h2
        exact ⟨h2, s13.trans h1.1⟩
      cases b with
      | false =>
        rw [if_neg (by decide)]
        obtain ⟨w6, s6⟩ := fin s5 w5
        refine ⟨O5.take O1.length, acc, av, w6, s6, kD s5, ?_, by omega, q5.2 rfl⟩
        have r5 := s5.ats (s3.ats r2)
        exact r5.less fun b m => by
          rcases m with m | ⟨j, u, e1, e2, l⟩
          · exact .inl m
          · obtain ⟨mm, e⟩ := s5.pre
            refine .inr ⟨j, u, ?_, take_some e2, l⟩
            rw [e, List.getElem?_append_left (List.getElem?_eq_some_iff.mp e1).1]; exact e1
      | true =>
        rw [if_pos rfl]
        refine seqE (E0 := fun _ _ => False) (R4.stp s5 w5) (q5.1 rfl) (fun _ _ z => z.elim) fun u6 O6 q6 α6 v6 H6 s6 w6 a6 => ?_
        obtain ⟨x6, e6, q6⟩ := toK_of q6
        have ax6 := At.of w6 a6 e6
        obtain ⟨w7, s7⟩ := fin (s5.trans s6) w6
        have hD6 := kD (s5.trans s6)
        have hlt : acc.length < sizeLine := by omega
        have less6 : ∀ b, Mu (With B D) α1 (O6.take O1.length) b → Mu (With B D) α6 O6 b := fun b m => by
          rcases m with m | ⟨j, u, e1, e2, l⟩
          · exact .inl m
          · obtain ⟨mm, e⟩ := (s5.trans s6).pre
            refine .inr ⟨j, u, ?_, take_some e2, l⟩
            rw [e, List.getElem?_append_left (List.getElem?_eq_some_iff.mp e1).1]; exact e1
        have r6 := ((s5.trans s6).ats (s3.ats r2)).less less6
        have ax7 := ax6.less less6
        refine ⟨av, hD6, by rw [r6.length]; exact hlt, O6.take O1.length, acc ++ [x6], av ++ [v6], own_updB w7 (.inr rfl) hD6, stp_updNew s7 hD, upd_same, ?_, by rw [List.length_append]; simp; omega, q6⟩
        exact Ats.imp (fun b o m e _ => ⟨by rw [upd_ne (fun z : b = D => m (by rw [z]; exact .inl (.inr rfl)))]; exact e, m⟩) (r6.append (.cons ax7 .nil))
    · rintro H2 ⟨O2, acc, av, w2, s2, e2, r2, l2, q2⟩
      rw [List.drop_length, compR] at q2
      obtain ⟨s12, w3, hmu⟩ := unb_ok (B := B) (s1.trans s2) R.own (own_less w2)
      have ub : Own G (With B D) α1 (unb O O2) H2 := by
        refine ⟨w3.len, w3.nd, fun i b o g1 g2 => ?_, w2.bt, fun b m z => ?_, w3.tabs⟩
        · have hm2 : ∀ b, Mu (With B D) α1 (unb O O2) b → Mu (With B D) α1 O2 b := fun b m => by
            rcases m with m | ⟨i, o, g1, g2, l⟩
            · exact .inl m
            · rcases unb_at g2 with g | ⟨ds, es, _, g3, rfl⟩
              · exact .inr ⟨i, o, g1, g, l⟩
              · exact .inr ⟨i, _, g1, g3, rfl⟩
          rcases unb_at g2 with g | ⟨ds, es, _, g3, rfl⟩
          · exact (w2.at_ i b o g1 g).less hm2
          · exact (w2.at_ i b _ g1 g3).less hm2
        · obtain ⟨i, o, g1, g2, l⟩ := m
          rcases unb_at g2 with g | ⟨ds, es, _, g3, rfl⟩
          · exact w2.nb b ⟨i, o, g1, g, l⟩ z
          · exact w2.nb b ⟨i, _, g1, g3, rfl⟩ z
      have r3 : Ats G.K (Mu (With B D) α1 (unb O O2)) H2 av acc := r2.less fun b m => by
        rcases m with m | ⟨i, o, g1, g2, l⟩
        · exact .inl m
        · rcases unb_at g2 with g | ⟨ds, es, _, g3, rfl⟩
          · exact .inr ⟨i, o, g1, g, l⟩
          · exact .inr ⟨i, _, g1, g3, rfl⟩
      have hDH : H D = none := s1.there D hD
      cases own with
      | true =>
        refine hq.to q2 (stp_adopt s12 w3.len hDH) (own_adopt ub e2 hDB hDa r3) (.o ?_)
        rw [List.getElem?_append_right (by rw [w3.len]; exact Nat.le_refl _), w3.len]
        simp
      | false =>
        refine hq.to q2 s12 w3 (.d (.lst e2 (fun m => ?_) (r3.less fun b m => m.elim (fun m => .inl (.inl m)) .inr)))
        rcases m with m | m
        · exact hDB m
        · exact ub.nb D m (.inr rfl)
  · cases c

theorem sd_comp (own : Bool) (vs : List Nat) (tg : T1) {src tst elt : Y} (ds : Sd G k Γ src) (dt : Sd G k Γ tst) (de : Sd G k Γ elt) (hy : isYes tst = true → tst = .yes) : Sd G k Γ (.comp own vs tg src tst elt) := .ofE _ (fun _ => rfl) fun X W0 S g e c => by
  obtain ⟨e0, t, it, ifs, scope, pos, wi, gg, tt, te, rfl, hi, ok, hg, ht, he, hs, imp⟩ := comp_ex own vs tg ds dt de hy g c
  exact pe_imp (pe_lc g.calm g.nd hi ok hg ht he hs) imp
theorem sd_all : ∀ z : Y, Sd G k Γ z
  | .var i => sd_var i
  | .int i => sd_int i
  | .bl b => sd_bl b
  | .non => sd_non
  | .str x => sd_str x
  | .gint _ _ => sd_none _ fun _ => rfl
  | .gstr _ _ => sd_none _ fun _ => rfl
  | .bin op a b => sd_bin op (sd_all a) (sd_all b)
  | .neg a => sd_neg (sd_all a)
  | .not a => sd_not (sd_all a)
  | .and a b => sd_and (sd_all a) (sd_all b)
  | .or a b => sd_or (sd_all a) (sd_all b)
  | .one a => sd_one (sd_all a)
  | .cmp op a b => sd_cmp op (sd_all a) (sd_all b)
  | .chain o p a b c => sd_chain o p (sd_all a) (sd_all b) (sd_all c)
  | .ite c a b => sd_ite (sd_all c) (sd_all a) (sd_all b)
  | .tup es => sd_tup (sd_all es)
  | .tupU es => sd_tupU (sd_all es)
  | .lst own es => sd_lst own (sd_all es)
  | .call g es => sd_call g (sd_all es)
  | .blt f es => sd_blt f (sd_all es)
  | .lis z => sd_lis (sd_all z)
  | .isi a cs => sd_isi cs (sd_all a)
  | .ix a b => sd_ix (sd_all a) (sd_all b)
  | .sl a lo hi => sd_sl (sd_all a) (sd_all lo) (sd_all hi)
  | .rep a b => sd_rep (sd_all a) (sd_all b)
  | .comp own vs tg src tst elt => sd_comp own vs tg (sd_all src) (sd_all tst) (sd_all elt) (by
      intro h
      cases tst <;> first | rfl | cases h)
  | .app r z => sd_app (sd_all r) (sd_all z)
  | .fz z => sd_fz (sd_all z)
  | .nil => sd_nil
  | .cons a r => sd_cons (sd_all a) (sd_all r)
  | .star a r => sd_star (sd_all a) (sd_all r)
  | .nop => sd_nop
  | .sm a => sd_sm (sd_all a)
  | .yes => sd_none _ fun _ => rfl
  | .seq z => sd_seq (sd_all z)
  | .rng a => sd_rng (sd_all a)
  | .rng2 a b => sd_rng2 (sd_all a) (sd_all b)
  | .enm z => sd_enm (sd_all z)
  | .zip a b => sd_zip (sd_all a) (sd_all b)
  | .rev z => sd_rev (sd_all z)
end
end Z

set_option Elab.async false
set_option linter.all false
set_option maxRecDepth 100000
set_option maxHeartbeats 4000000
namespace Z
open PySem PySem.Spec PyProof.Rows L2
/-! ### statements -/
inductive YS where
  | nil | seq (a r : YS) | pas | doc | ex (y : Y) | set (i : Nat) (y : Y) | tgt (t : T1) (y : Y) | par (i j : Nat) (es : Y) | par3 (i j l : Nat) (es : Y)
  | seti (o ix y : Y) | ite (c : Y) (a b : YS) | for_ (t : T1) (src : Y) (b : YS) | whl (c : Y) (b : YS) | ret (y : Y) | ret0 | brk | cnt | nev
structure ZD where
  nx : List (Option U) → List DO → Prop
  rt : U → List DO → Prop
  bk : List (Option U) → List DO → Prop
  ct : List (Option U) → List DO → Prop
abbrev ZS := ZX → ZD → List (Option U) → List DO → Prop
/-- a for over data; O0: the places ahead of it -/
def forR (tg : T1) (body : ZS) (E : ZX) (D : ZD) (O0 : List DO) : List Z.D → List (Option U) → List DO → Prop
  | [], ρ, O => D.nx ρ (unb O0 O)
  | d :: ds, ρ, O => bindT tg d ρ fun ρ1 => body (fun x O' => E x (unb O0 O')) ⟨fun ρ' O' => forR tg body E D O0 ds ρ' O', fun u O' => D.rt u (unb O0 O'), fun ρ' O' => D.nx ρ' (unb O0 O'), fun ρ' O' => forR tg body E D O0 ds ρ' O'⟩ ρ1 O
def vcS (Γ : List (Str × ZSp)) : YS → ZS
  | .nil => fun _ D ρ O => D.nx ρ O
  | .seq a r => fun E D ρ O => vcS Γ a E { D with nx := fun ρ' O' => vcS Γ r E D ρ' O' } ρ O
  | .pas => fun _ D ρ O => D.nx ρ O
  | .doc => fun _ D ρ O => D.nx ρ O
  | .ex y => fun E D ρ O => vc Γ y E ρ O fun us O1 => oneK us fun _ => D.nx ρ O1
  | .set i y => fun E D ρ O => vc Γ y E ρ O fun us O1 => oneK us fun u => D.nx (st ρ i u) O1
  | .tgt t y => fun E D ρ O => vc Γ y E ρ O fun us O1 => oneK us fun u => toK O1 u fun d => bindT t d ρ fun ρ1 => D.nx ρ1 O1
  | .par i j es => fun E D ρ O => vc Γ es E ρ O fun us O1 => match us with
    | [u, w] => D.nx (st (st ρ i u) j w) O1
    | _ => False
  | .par3 i j l es => fun E D ρ O => vc Γ es E ρ O fun us O1 => match us with
    | [u, w, v] => D.nx (st (st (st ρ i u) j w) l v) O1
    | _ => False
  | .seti o ix y => fun E D ρ O => vc Γ y E ρ O fun us O1 => oneK us fun u => vc Γ o E ρ O1 fun rs O2 => oneK rs fun r => vc Γ ix E ρ O2 fun ks O3 => oneK ks fun kx => match r, kx with
    | .o k, .d (.int i) => (match go O3 k with
      | some (.lst ds) => toK O3 u fun x => ∃ j, ixN ds.length i = some j ∧ D.nx ρ (so O3 k (.lst (ds.set j x)))
      | _ => False)
    | _, _ => False
  | .ite c a b => fun E D ρ O => vc Γ c E ρ O fun us O1 => boolK us fun t => (t = true → vcS Γ a E D ρ O1) ∧ (t = false → vcS Γ b E D ρ O1)
  | .for_ t src b => fun E D ρ O => vc Γ src E ρ O fun us O1 => ∃ ds, us = ds.map .d ∧ forR t (vcS Γ b) E D O ds ρ O1
  | .whl c b => fun E D ρ O => ∃ W : Nat → List (Option U) → List DO → Prop, (∃ m, W m ρ O) ∧ ∀ m ρ1 O1, W m ρ1 O1 → vc Γ c E ρ1 O1 fun us O2 => boolK us fun t =>
      (t = true → vcS Γ b E ⟨fun ρ2 O3 => ∃ m', m' < m ∧ W m' ρ2 O3, D.rt, D.nx, fun ρ2 O3 => ∃ m', m' < m ∧ W m' ρ2 O3⟩ ρ1 O2) ∧ (t = false → D.nx ρ1 O2)
  | .ret y => fun E D ρ O => vc Γ y E ρ O fun us O1 => oneK us fun u => D.rt u O1
  | .ret0 => fun _ D _ O => D.rt (.d .non) O
  | .brk => fun _ D ρ O => D.bk ρ O
  | .cnt => fun _ D ρ O => D.ct ρ O
  | .nev => fun _ _ _ _ => False
/-! ### the check -/
def noComp : Expr → Bool
  | .ListComp _ _ _ _ => false
  | .SetComp _ _ _ _ => false
  | .DictComp _ _ _ _ _ => false
  | _ => true
def swC (sc : Scope) (x : Str) (px : Pos) : Expr → Bool
  | .ListComp _ _ scope pos => (px.line == pos.line) && decide (sc.names.lookup x = some .local) && !(scope.names.any fun (n, k) => n == x && (k == .local || k == .cell)) && (match sc.kind with | .function => true | _ => false)
  | _ => false
def noswC (sc : Scope) (x : Str) (px : Pos) : Expr → Bool
  | .ListComp _ _ scope pos => !(px.line == pos.line) || decide (sc.names.lookup x ≠ some .local) || (scope.names.any fun (n, k) => n == x && (k == .local || k == .cell))
  | .SetComp _ _ _ _ => false
  | .DictComp _ _ _ _ _ => false
  | _ => true
def noTup : Expr → Bool
  | .Tuple _ _ _ => false
  | _ => true
/-- a tuple of targets whose stores are not swapped -/
def nonLoc (sc : Scope) : Expr → Bool
  | .Name x _ => decide (sc.names.lookup x ≠ some .local)
  | _ => true
def nosw2 (sc : Scope) (ts : List Expr) : Bool := ts.any (nonLoc sc) || !(ts.length == 2 || ts.length == 3)

structure CkS where
  S : Stmt → Bool := fun _ => false
  B : List Stmt → Bool := fun _ => false
def exS (f : Expr → Bool) : Stmt → Bool
  | .Expr e _ => noComp e && f e
  | _ => false
def docS : Stmt → Bool
  | .Expr (.Constant (.str _) _ _) _ => true
  | _ => false
def pasS : Stmt → Bool
  | .Pass _ => true
  | _ => false
def brkS : Stmt → Bool
  | .Break _ => true
  | _ => false
def cntS : Stmt → Bool
  | .Continue _ => true
  | _ => false
def setS (S : Sx) (i : Nat) (f g : Expr → Bool) : Stmt → Bool
  | .Assign [.Name x px] e _ => decide (S.N[i]? = some x) && ownB S.so x && ((f e && noswC S.sc x px e) || (g e && swC S.sc x px e))
  | _ => false
def tgtS (S : Sx) (t : T1) (f : Expr → Bool) : Stmt → Bool
  | .Assign [.Tuple ts kk p] e _ => ckG S t (.Tuple ts kk p) && f e && (noTup e || nosw2 S.sc ts)
  | _ => false
def parS (S : Sx) (i j : Nat) (f : List Expr → Bool) : Stmt → Bool
  | .Assign [.Tuple [.Name x px, .Name y py] _ _] (.Tuple [a, b] _ _) _ => decide (S.N[i]? = some x) && decide (S.N[j]? = some y) && decide (i ≠ j) && decide (S.sc.names.lookup x = some .local) && decide (S.sc.names.lookup y = some .local) &&
      (px.line == py.line) && decide (x ≠ y) && noStar a && noStar b && !(foldedForSure 8 a && foldedForSure 8 b) && !(constantsAlone 8 a && constantsAlone 8 b) && f [a, b]
  | _ => false
def par3S (S : Sx) (i j l : Nat) (f : List Expr → Bool) : Stmt → Bool
  | .Assign [.Tuple [.Name x px, .Name y py, .Name z pz] _ _] (.Tuple [a, b, c] _ _) _ => decide (S.N[i]? = some x) && decide (S.N[j]? = some y) && decide (S.N[l]? = some z) && decide (i ≠ j ∧ i ≠ l ∧ j ≠ l) && decide (S.sc.names.lookup x = some .local) && decide (S.sc.names.lookup y = some .local) && decide (S.sc.names.lookup z = some .local) &&
      (px.line == py.line) && (px.line == pz.line) && decide (x ≠ y ∧ x ≠ z ∧ y ≠ z) && noStar a && noStar b && noStar c && !(foldedForSure 8 a && foldedForSure 8 b && foldedForSure 8 c) && !(constantsAlone 8 a && constantsAlone 8 b && constantsAlone 8 c) && f [a, b, c]
  | _ => false
def setiS (f g h : Expr → Bool) : Stmt → Bool
  | .Assign [.Subscript o i _] e _ => f o && g i && h e && noSlice i && noComp e
  | _ => false
def iteS (f : Expr → Bool) (g h : List Stmt → Bool) : Stmt → Bool
  | .If c a b _ => f c && g a && h b
  | _ => false
def forS (S : Sx) (t : T1) (f : Expr → Expr → Bool) (g : List Stmt → Bool) : Stmt → Bool
  | .For tg it b [] _ => ckG S t tg && f tg it && noSet it && g b
  | _ => false
def whlS (f : Expr → Bool) (g : List Stmt → Bool) : Stmt → Bool
  | .While c b [] _ => f c && g b
  | _ => false
def retS (f : Expr → Bool) : Stmt → Bool
  | .Return (some e) _ => f e
  | _ => false
def ret0S : Stmt → Bool
  | .Return none _ => true
  | _ => false
def nilB : List Stmt → Bool
  | [] => true
  | _ => false
def seqB' (f : Stmt → Bool) (g : List Stmt → Bool) : List Stmt → Bool
  | s :: r => f s && g r
  | _ => false
/-- the check of a comprehension, for a store that is swapped in -/
def compCk (Γn : List Str) (S : Sx) : Y → Expr → Bool
  | .comp _ vs tg src tst elt => compC (ck Γn tst) (ck Γn elt) (ck Γn src S) S vs tg (isYes tst)
  | _ => fun _ => false
def ckS (Γn : List Str) : YS → Sx → CkS
  | .nil, _ => { B := nilB }
  | .seq a r, S => { B := seqB' (ckS Γn a S).S (ckS Γn r S).B }
  | .pas, _ => { S := pasS }
  | .doc, _ => { S := docS }
  | .ex y, S => { S := exS (ck Γn y S).E }
  | .set i y, S => { S := setS S i (ck Γn y S).E (compCk Γn S y) }
  | .tgt t y, S => { S := tgtS S t (ck Γn y S).E }
  | .par i j es, S => { S := parS S i j (ck Γn es S).A }
  | .par3 i j l es, S => { S := par3S S i j l (ck Γn es S).A }
  | .seti o ix y, S => { S := setiS (ck Γn o S).E (ck Γn ix S).E (ck Γn y S).E }
  | .ite c a b, S => { S := iteS (ck Γn c S).T (ckS Γn a S).B (ckS Γn b S).B }
  | .for_ t src b, S => { S := forS S t (ck Γn src S).I (ckS Γn b S).B }
  | .whl c b, S => { S := whlS (ck Γn c S).T (ckS Γn b S).B }
  | .ret y, S => { S := retS (ck Γn y S).E }
  | .ret0, _ => { S := ret0S }
  | .brk, _ => { S := brkS }
  | .cnt, _ => { S := cntS }
  | .nev, _ => { S := fun _ => true }

/-! ### soundness -/
structure DLow (G : Gx) (B : Addr → Prop) (α : List Addr) (O : List DO) (H : Hp) (D0 : ZD) (D : Ends) : Prop where
  nx : ∀ ρ' O', D0.nx ρ' O' → ∀ α' σ' H', Stp α O H α' O' H' → Rep G B α' σ' H' ρ' O' → D.nx σ' H'
  rt : ∀ u O', D0.rt u O' → ∀ α' v H', Stp α O H α' O' H' → Own G B α' O' H' → AtU G.K B α' O' H' v u → D.rt v H'
  bk : ∀ ρ' O', D0.bk ρ' O' → ∀ α' σ' H', Stp α O H α' O' H' → Rep G B α' σ' H' ρ' O' → D.bk σ' H'
  ct : ∀ ρ' O', D0.ct ρ' O' → ∀ α' σ' H', Stp α O H α' O' H' → Rep G B α' σ' H' ρ' O' → D.ct σ' H'
def LfS (G : Gx) (W0 : XK) (t : ZS) : TS := fun D σ H => ∃ B α ρ O D0 E0, Rep G B α σ H ρ O ∧ t E0 D0 ρ O ∧ DLow G B α O H D0 D ∧ ELow G B W0 α O H E0
theorem DLow.stp {G : Gx} {B : Addr → Prop} {α α' : List Addr} {O O' : List DO} {H H' : Hp} {D0 : ZD} {D : Ends} (d : DLow G B α O H D0 D) (s : Stp α O H α' O' H') : DLow G B α' O' H' D0 D :=
  ⟨fun ρ O e α σ H s2 r => d.nx ρ O e α σ H (s.trans s2) r, fun u O e α v H s2 w a => d.rt u O e α v H (s.trans s2) w a, fun ρ O e α σ H s2 r => d.bk ρ O e α σ H (s.trans s2) r, fun ρ O e α σ H s2 r => d.ct ρ O e α σ H (s.trans s2) r⟩
theorem ps_imp {X : Cx} {e : Stmt} {t t' : TS} (h : PS X e t) (i : ∀ D σ H, t' D σ H → t D σ H) : PS X e t' := ⟨fun pins s σ H D I q => h.run pins s σ H D I (i D σ H q)⟩
theorem pss_imp {X : Cx} {e : List Stmt} {t t' : TS} (h : PSs X e t) (i : ∀ D σ H, t' D σ H → t D σ H) : PSs X e t' := ⟨fun pins s σ H D I q => h.run pins s σ H D I (i D σ H q)⟩
structure GoodS (X : Cx) (G : Gx) (W0 : XK) (k : Nat) (S : Sx) (Γ : List (Str × ZSp)) : Prop extends Good X G W0 k S Γ where
  po : PassesOwn (model X.prog X.w) X.A X.env X.xe
  fk : X.env.scope.kind = .function
structure SdS (G : Gx) (k : Nat) (Γ : List (Str × ZSp)) (z : YS) : Prop where
  S : ∀ X W0 S, GoodS X G W0 k S Γ → ∀ e, (ckS (Γ.map (·.1)) z S).S e = true → PS X e (LfS G W0 (vcS Γ z))
  B : ∀ X W0 S, GoodS X G W0 k S Γ → ∀ e, (ckS (Γ.map (·.1)) z S).B e = true → PSs X e (LfS G W0 (vcS Γ z))
section
variable {G : Gx} {k : Nat} {Γ : List (Str × ZSp)}
theorem SdS.ofS {z : YS} (f : Sx → Stmt → Bool) (hf : ∀ S, ckS (Γ.map (·.1)) z S = { S := f S }) (h : ∀ X W0 S, GoodS X G W0 k S Γ → ∀ e, f S e = true → PS X e (LfS G W0 (vcS Γ z))) : SdS G k Γ z where
  S := fun X W0 S g e c => h X W0 S g e (by rw [hf S] at c; exact c)
  B := fun X W0 S g e c => by rw [hf S] at c; cases c
theorem ss_nil : SdS G k Γ .nil where
  S := fun X W0 S g e c => by cases c
  B := fun X W0 S g e c => by
    have c' : nilB e = true := c
    unfold nilB at c'
    split at c'
    · exact pss_imp pss_nil fun D σ H ⟨B, α, ρ, O, D0, E0, R, h, hd, hl⟩ => hd.nx _ _ h _ _ _ Stp.refl R
    · cases c'
theorem ss_seq {a r : YS} (da : SdS G k Γ a) (dr : SdS G k Γ r) : SdS G k Γ (.seq a r) where
  S := fun X W0 S g e c => by cases c
  B := fun X W0 S g e c => by
    have c' : seqB' (ckS (Γ.map (·.1)) a S).S (ckS (Γ.map (·.1)) r S).B e = true := c
    unfold seqB' at c'
    split at c'
    · obtain ⟨c1, c2⟩ := ba c'
      refine pss_imp (pss_cons (da.S X W0 S g _ c1) (dr.B X W0 S g _ c2)) fun D σ H ⟨B, α, ρ, O, D0, E0, R, h, hd, hl⟩ => ?_
      exact ⟨B, α, ρ, O, _, E0, R, h, ⟨fun ρ' O' q α' σ' H' s R' => ⟨B, α', ρ', O', D0, E0, R', q, hd.stp s, hl.stp s⟩, hd.rt, hd.bk, hd.ct⟩, hl⟩
    · cases c'
theorem ss_pas : SdS G k Γ .pas := .ofS _ (fun _ => rfl) fun X W0 S g e c => by
  unfold pasS at c
  split at c
  · exact ps_imp ps_pass fun D σ H ⟨B, α, ρ, O, D0, E0, R, h, hd, hl⟩ => hd.nx _ _ h _ _ _ Stp.refl R
  · cases c
theorem ss_doc : SdS G k Γ .doc := .ofS _ (fun _ => rfl) fun X W0 S g e c => by
  unfold docS at c
  split at c
  · exact ps_imp ps_doc fun D σ H ⟨B, α, ρ, O, D0, E0, R, h, hd, hl⟩ => hd.nx _ _ h _ _ _ Stp.refl R
  · cases c
theorem ss_brk : SdS G k Γ .brk := .ofS _ (fun _ => rfl) fun X W0 S g e c => by
  unfold brkS at c
  split at c
  · exact ps_imp ps_break fun D σ H ⟨B, α, ρ, O, D0, E0, R, h, hd, hl⟩ => hd.bk _ _ h _ _ _ Stp.refl R
  · cases c
theorem ss_cnt : SdS G k Γ .cnt := .ofS _ (fun _ => rfl) fun X W0 S g e c => by
  unfold cntS at c
  split at c
  · exact ps_imp ps_continue fun D σ H ⟨B, α, ρ, O, D0, E0, R, h, hd, hl⟩ => hd.ct _ _ h _ _ _ Stp.refl R
  · cases c
theorem ss_nev : SdS G k Γ .nev := .ofS _ (fun _ => rfl) fun X W0 S g e c => ps_imp ps_never fun D σ H ⟨B, α, ρ, O, D0, E0, R, h, hd, hl⟩ => h
theorem ss_ret0 : SdS G k Γ .ret0 := .ofS _ (fun _ => rfl) fun X W0 S g e c => by
  unfold ret0S at c
  split at c
  · exact ps_imp ps_retN fun D σ H ⟨B, α, ρ, O, D0, E0, R, h, hd, hl⟩ => hd.rt _ _ h _ _ _ Stp.refl R.own (.d .non)
  · cases c
theorem nosw_none {e : Expr} {l : Nat} {env : Env} (h : noComp e = true) : swapsWith e none l env = pure false := by
  cases e <;> first | rfl | cases h
theorem nosw_sub {e o i : Expr} {p : Pos} {l : Nat} {env : Env} (h : noComp e = true) : swapsWithSole [.Subscript o i p] e l env = pure false := by
  cases e <;> first | rfl | cases h
theorem nosw_tup {e : Expr} {ts : List Expr} {kk : Nat} {p : Pos} {l : Nat} {env : Env} : swapsWithSole [.Tuple ts kk p] e l env = pure false := by
  cases e <;> rfl
theorem sws_sub {e o i : Expr} {p : Pos} {env : Env} : swappedStores [.Subscript o i p] e env = pure none := by
  cases e <;> rfl
theorem ss_ex {y : Y} : SdS G k Γ (.ex y) := .ofS _ (fun _ => rfl) fun X W0 S g e c => by
  unfold exS at c
  split at c
  · obtain ⟨c1, c2⟩ := ba c
    refine ps_imp (ps_expr ((sd_all y).E X W0 S g.toGood _ c2) (nosw_none c1)) fun D σ H ⟨B, α, ρ, O, D0, E0, R, h, hd, hl⟩ => ?_
    exact seqE R h hl fun u O1 f α1 v H1 s1 w1 a1 => hd.nx _ _ f _ _ _ s1 (R.stp s1 w1)
  · cases c
theorem ss_ret {y : Y} : SdS G k Γ (.ret y) := .ofS _ (fun _ => rfl) fun X W0 S g e c => by
  unfold retS at c
  split at c
  · refine ps_imp (ps_ret ((sd_all y).E X W0 S g.toGood _ c)) fun D σ H ⟨B, α, ρ, O, D0, E0, R, h, hd, hl⟩ => ?_
    exact seqE R h hl fun u O1 f α1 v H1 s1 w1 a1 => hd.rt _ _ f _ _ _ s1 w1 a1
  · cases c
theorem ss_ite {c : Y} {a b : YS} (da : SdS G k Γ a) (db : SdS G k Γ b) : SdS G k Γ (.ite c a b) := .ofS _ (fun _ => rfl) fun X W0 S g e ch => by
  unfold iteS at ch
  split at ch
  · obtain ⟨ch, c3⟩ := ba ch
    obtain ⟨c1, c2⟩ := ba ch
    refine ps_imp (ps_if ((sd_all c).T X W0 S g.toGood _ c1) (da.B X W0 S g _ c2) (db.B X W0 S g _ c3)) fun D σ H ⟨B, α, ρ, O, D0, E0, R, h, hd, hl⟩ => ?_
    refine seqT R h hl fun t O1 f α1 H1 s1 w1 => ?_
    cases t with
    | true => rw [if_pos rfl]; exact ⟨B, α1, ρ, O1, D0, E0, R.stp s1 w1, f.1 rfl, hd.stp s1, hl.stp s1⟩
    | false => rw [if_neg (by decide)]; exact ⟨B, α1, ρ, O1, D0, E0, R.stp s1 w1, f.2 rfl, hd.stp s1, hl.stp s1⟩
  · cases ch
end
end Z

set_option Elab.async false
set_option linter.all false
set_option maxRecDepth 100000
set_option maxHeartbeats 4000000
namespace Z
open PySem PySem.Spec PyProof.Rows L2
theorem nosw_name {e : Expr} {x : Str} {px : Pos} {l : Nat} {env : Env} (h : noswC env.scope x px e = true) : swapsWith e (some (.Name x px)) l env = pure false := by
  cases e with
  | ListComp elt gs scope pos =>
    have e1 : swapsWith (.ListComp elt gs scope pos) (some (.Name x px)) l env = pure (env.blockKind == .function && env.kindOf x == some .local && px.line == pos.line && !(scope.names.any fun (n, k) => n == x && (k == .local || k == .cell))) := rfl
    rw [e1]
    congr 1
    have h' : (!(px.line == pos.line) || decide (env.scope.names.lookup x ≠ some .local) || (scope.names.any fun (n, k) => n == x && (k == .local || k == .cell))) = true := h
    rw [Bool.or_eq_true, Bool.or_eq_true] at h'
    rcases h' with (h' | h') | h'
    · have : (px.line == pos.line) = false := by simpa using h'
      rw [this, Bool.and_false, Bool.false_and]
    · have h2 := of_decide_eq_true h'
      have : (env.kindOf x == some .local) = false := by
        show (env.scope.names.lookup x == some .local) = false
        exact beq_eq_false_iff_ne.mpr h2
      rw [this, Bool.and_false, Bool.false_and, Bool.false_and]
    · rw [h', Bool.not_true, Bool.and_false]
  | SetComp _ _ _ _ => cases h
  | DictComp _ _ _ _ _ => cases h
  | _ => rfl
theorem sws_noTup {e : Expr} {ts : List Expr} {kk : Nat} {p : Pos} {env : Env} (h : noTup e = true) : swappedStores [.Tuple ts kk p] e env = pure none := by
  cases e <;> first | rfl | cases h
def nms (env : Env) (ts : List Expr) : List Str := ts.filterMap fun
    | .Name id pos => if (env.kindOf id == some .local && pos.line == ((ts.head?.map (·.pos.line)).getD 0)) = true then some id else none
    | _ => none
theorem sws_eq {ts vs : List Expr} {kk k2 : Nat} {p p2 : Pos} {env : Env} : ∃ X, swappedStores [.Tuple ts kk p] (.Tuple vs k2 p2) env =
    if (!(ts.length == 2 || ts.length == 3) || vs.length != ts.length || env.blockKind != .function) = true then pure none else
    if (vs.any fun | .Starred .. => true | _ => false) = true then pure none else
    if ((nms env ts).length != ts.length || (nms env ts).eraseDups.length != (nms env ts).length) = true then pure none else
    if (vs.all (foldedForSure 8)) = true then pure none else
    if (vs.all (constantsAlone 8)) = true then X else
    pure (some (nms env ts)) := ⟨_, rfl⟩
theorem fm_lt {α β : Type} {f : α → Option β} : ∀ {l : List α} {a : α}, a ∈ l → f a = none → (l.filterMap f).length < l.length
  | x :: l, a, hm, hf => by
    rcases List.mem_cons.mp hm with rfl | hm
    · rw [List.filterMap_cons_none hf, List.length_cons]
      exact Nat.lt_succ_of_le (List.length_filterMap_le f l)
    · have ih := fm_lt hm hf
      rw [List.length_cons]
      cases q : f x with
      | none => rw [List.filterMap_cons_none q]; omega
      | some y => rw [List.filterMap_cons_some q, List.length_cons]; omega
theorem sws_tup {e : Expr} {ts : List Expr} {kk : Nat} {p : Pos} {env : Env} (h : (noTup e || nosw2 env.scope ts) = true) : swappedStores [.Tuple ts kk p] e env = pure none := by
  rw [Bool.or_eq_true] at h
  rcases h with h | h
  · exact sws_noTup h
  · by_cases hn : noTup e = true
    · exact sws_noTup hn
    · cases e with
      | Tuple vs k2 p2 =>
        obtain ⟨X, e1⟩ := @sws_eq ts vs kk k2 p p2 env
        rw [e1]
        by_cases c1 : (!(ts.length == 2 || ts.length == 3) || vs.length != ts.length || env.blockKind != .function) = true
        · rw [if_pos c1]
        · rw [if_neg c1]
          by_cases c2 : (vs.any fun | .Starred .. => true | _ => false) = true
          · rw [if_pos c2]
          · rw [if_neg c2, if_pos]
            unfold nosw2 at h
            rw [Bool.or_eq_true] at h
            rcases h with h | h
            · obtain ⟨t, hm, ht⟩ := List.any_eq_true.mp h
              rw [Bool.or_eq_true]
              left
              have : (nms env ts).length < ts.length := by
                refine fm_lt hm ?_
                cases t with
                | Name x px =>
                  have h2 : (env.kindOf x == some .local) = false := beq_eq_false_iff_ne.mpr (of_decide_eq_true ht)
                  show (if (env.kindOf x == some .local && _) = true then some x else none) = none
                  rw [h2, Bool.false_and, if_neg (by decide)]
                | _ => rfl
              exact bne_iff_ne.mpr (Nat.ne_of_lt this)
            · exact absurd (by rw [h]; rfl) c1
      | _ => exact absurd rfl hn
theorem nms_loc {env : Env} {l : Nat} : ∀ {xs : List (Str × Pos)}, (∀ p ∈ xs, env.scope.names.lookup p.1 = some .local ∧ (p.2.line == l) = true) → (xs.filterMap fun p => if (env.kindOf p.1 == some .local && p.2.line == l) = true then some p.1 else none) = xs.map (·.1)
  | [], _ => rfl
  | p :: xs, h => by
    obtain ⟨h1, h2⟩ := h p List.mem_cons_self
    have h3 : (env.kindOf p.1 == some .local) = true := beq_iff_eq.mpr h1
    rw [List.filterMap_cons_some (b := p.1) (by rw [h3, h2]; rfl), nms_loc fun q hq => h q (List.mem_cons_of_mem _ hq)]
    rfl
theorem sws_par {x y : Str} {px py : Pos} {a b : Expr} {kk k2 : Nat} {p p2 : Pos} {env : Env} (hk : env.scope.kind = .function) (hx : env.scope.names.lookup x = some .local) (hy : env.scope.names.lookup y = some .local) (hl : (px.line == py.line) = true) (hne : x ≠ y)
    (ha : noStar a = true) (hb : noStar b = true) (hf : (foldedForSure 8 a && foldedForSure 8 b) = false) (hc : (constantsAlone 8 a && constantsAlone 8 b) = false) :
    swappedStores [.Tuple [.Name x px, .Name y py] kk p] (.Tuple [a, b] k2 p2) env = pure (some [x, y]) := by
  obtain ⟨X, e1⟩ := @sws_eq [.Name x px, .Name y py] [a, b] kk k2 p p2 env
  have hn : nms env [.Name x px, .Name y py] = [x, y] := by
    have h3 : (env.kindOf x == some .local) = true := beq_iff_eq.mpr hx
    have h4 : (env.kindOf y == some .local) = true := beq_iff_eq.mpr hy
    have hl' : (py.line == px.line) = true := by rw [beq_iff_eq] at hl ⊢; exact hl.symm
    unfold nms
    rw [List.filterMap_cons_some (b := x) (by show (if (env.kindOf x == some .local && px.line == px.line) = true then some x else none) = some x; rw [h3]; simp), List.filterMap_cons_some (b := y) (by show (if (env.kindOf y == some .local && py.line == px.line) = true then some y else none) = some y; rw [h4, hl']; rfl)]
    rfl
  have hbk : env.blockKind = .function := by unfold Env.blockKind; rw [hk]; rfl
  have star : ∀ {e : Expr}, noStar e = true → (match e with | .Starred .. => true | _ => false) = false := fun {e} h => by cases e <;> first | rfl | cases h
  rw [e1, if_neg (by rw [hbk]; show ¬ (false = true); decide), if_neg, hn, if_neg, if_neg, if_neg]
  · simp only [List.all_cons, List.all_nil, Bool.and_true]; rw [hc]; decide
  · simp only [List.all_cons, List.all_nil, Bool.and_true]; rw [hf]; decide
  · have : [x, y].eraseDups = [x, y] := by
      have h2 : (y == x) = false := beq_eq_false_iff_ne.mpr (Ne.symm hne)
      simp [List.eraseDups_cons, h2]
    rw [this]
    show ¬ (false = true)
    decide
  · simp only [List.any_cons, List.any_nil]
    have h1 := star ha
    have h2 := star hb
    simp only [Bool.or_false, Bool.or_eq_true, not_or]
    exact ⟨by rw [Bool.not_eq_true]; exact h1, by rw [Bool.not_eq_true]; exact h2⟩
theorem sws_par3 {x y z : Str} {px py pz : Pos} {a b c : Expr} {kk k2 : Nat} {p p2 : Pos} {env : Env} (hk : env.scope.kind = .function) (hx : env.scope.names.lookup x = some .local) (hy : env.scope.names.lookup y = some .local) (hz : env.scope.names.lookup z = some .local) (hl : (px.line == py.line) = true) (hl2 : (px.line == pz.line) = true) (hne : x ≠ y ∧ x ≠ z ∧ y ≠ z)
    (ha : noStar a = true) (hb : noStar b = true) (hcs : noStar c = true) (hf : (foldedForSure 8 a && foldedForSure 8 b && foldedForSure 8 c) = false) (hc : (constantsAlone 8 a && constantsAlone 8 b && constantsAlone 8 c) = false) :
    swappedStores [.Tuple [.Name x px, .Name y py, .Name z pz] kk p] (.Tuple [a, b, c] k2 p2) env = pure (some [x, y, z]) := by
  obtain ⟨X, e1⟩ := @sws_eq [.Name x px, .Name y py, .Name z pz] [a, b, c] kk k2 p p2 env
  have hn : nms env [.Name x px, .Name y py, .Name z pz] = [x, y, z] := by
    have h3 : (env.kindOf x == some .local) = true := beq_iff_eq.mpr hx
    have h4 : (env.kindOf y == some .local) = true := beq_iff_eq.mpr hy
    have h5 : (env.kindOf z == some .local) = true := beq_iff_eq.mpr hz
    have hl' : (py.line == px.line) = true := by rw [beq_iff_eq] at hl ⊢; exact hl.symm
    have hl3 : (pz.line == px.line) = true := by rw [beq_iff_eq] at hl2 ⊢; exact hl2.symm
    unfold nms
    rw [List.filterMap_cons_some (b := x) (by show (if (env.kindOf x == some .local && px.line == px.line) = true then some x else none) = some x; rw [h3]; simp), List.filterMap_cons_some (b := y) (by show (if (env.kindOf y == some .local && py.line == px.line) = true then some y else none) = some y; rw [h4, hl']; rfl), List.filterMap_cons_some (b := z) (by show (if (env.kindOf z == some .local && pz.line == px.line) = true then some z else none) = some z; rw [h5, hl3]; rfl)]
    rfl
  have hbk : env.blockKind = .function := by unfold Env.blockKind; rw [hk]; rfl
  have star : ∀ {e : Expr}, noStar e = true → (match e with | .Starred .. => true | _ => false) = false := fun {e} h => by cases e <;> first | rfl | cases h
  rw [e1, if_neg (by rw [hbk]; show ¬ (false = true); decide), if_neg, hn, if_neg, if_neg, if_neg]
  · simp only [List.all_cons, List.all_nil, Bool.and_true]; rw [← Bool.and_assoc, hc]; decide
  · simp only [List.all_cons, List.all_nil, Bool.and_true]; rw [← Bool.and_assoc, hf]; decide
  · have : [x, y, z].eraseDups = [x, y, z] := by
      have h1 : (y == x) = false := beq_eq_false_iff_ne.mpr (Ne.symm hne.1)
      have h2 : (z == x) = false := beq_eq_false_iff_ne.mpr (Ne.symm hne.2.1)
      have h3 : (z == y) = false := beq_eq_false_iff_ne.mpr (Ne.symm hne.2.2)
      simp [List.eraseDups_cons, h1, h2, h3]
    rw [this]
    show ¬ (false = true)
    decide
  · simp only [List.any_cons, List.any_nil]
    have h1 := star ha
    have h2 := star hb
    have h3 := star hcs
    simp only [Bool.or_false, Bool.or_eq_true, not_or]
    exact ⟨by rw [Bool.not_eq_true]; exact h1, by rw [Bool.not_eq_true]; exact h2, by rw [Bool.not_eq_true]; exact h3⟩

section
variable {G : Gx} {k : Nat} {Γ : List (Str × ZSp)}
theorem bnot {b : Bool} (h : (!b) = true) : b = false := by cases b <;> first | rfl | cases h
theorem kind_of_swC {sc : Scope} {x : Str} {px : Pos} {e : Expr} (h : swC sc x px e = true) : ∃ elt gs scope pos, e = .ListComp elt gs scope pos ∧ (px.line == pos.line) = true ∧ sc.names.lookup x = some .local ∧ (scope.names.any fun (n, k) => n == x && (k == .local || k == .cell)) = false ∧ sc.kind = .function := by
  cases e with
  | ListComp elt gs scope pos =>
    have h' : ((px.line == pos.line) && decide (sc.names.lookup x = some .local) && !(scope.names.any fun (n, k) => n == x && (k == .local || k == .cell)) && (match sc.kind with | .function => true | _ => false)) = true := h
    obtain ⟨h', h4⟩ := ba h'
    obtain ⟨h', h3⟩ := ba h'
    obtain ⟨h1, h2⟩ := ba h'
    refine ⟨elt, gs, scope, pos, rfl, h1, of_decide_eq_true h2, by simpa using h3, ?_⟩
    cases q : sc.kind <;> rw [q] at h4 <;> first | rfl | cases h4
  | _ => cases h
theorem ss_set (i : Nat) (y : Y) : SdS G k Γ (.set i y) := .ofS _ (fun _ => rfl) fun X W0 S g e c => by
  unfold setS at c
  split at c
  · rename_i x px e sp
    obtain ⟨c, c3⟩ := ba c
    obtain ⟨c1, c2⟩ := ba c
    obtain ⟨l, hf⟩ := g.sto x c2
    have hi : X.N[i]? = some x := by rw [g.hN]; exact of_decide_eq_true c1
    have low : ∀ D σ H, LfS G W0 (vcS Γ (.set i y)) D σ H → tAsg (LfE G W0 (vc Γ y)) (gName i) D σ H := fun D σ H ⟨B, α, ρ, O, D0, E0, R, h, hd, hl⟩ => by
      exact seqE R h hl fun u O1 f α1 v H1 s1 w1 a1 => hd.nx _ _ f _ _ _ s1 ((R.stp s1 w1).st i a1)
    rw [Bool.or_eq_true] at c3
    rcases c3 with c3 | c3
    · obtain ⟨c3, c4⟩ := ba c3
      exact ps_imp (ps_set g.nd hi l ((sd_all y).E X W0 S g.toGood _ c3) (nosw_name (by rw [g.sc]; exact c4)) hf) low
    · obtain ⟨c3, c4⟩ := ba c3
      cases y with
      | comp own vs tg src tst elt =>
        obtain ⟨e0, t, it, ifs, scope, pos, wi, gg, tt, te, rfl, pi, ok, hg, ht, he, hs, imp⟩ := comp_ex own vs tg (sd_all src) (sd_all tst) (sd_all elt) (by
          intro h
          cases tst <;> first | rfl | cases h) g.toGood c3
        obtain ⟨elt', gs', scope', pos', e1, h1, h2, h3, h4⟩ := kind_of_swC c4
        cases e1
        rw [← g.sc] at h2 h4
        exact ps_imp (ps_setLc g.calm g.nd hi h2 (sw_true h4 h2 h1 h3) pi ok hg ht he hs) fun D σ H h => imp _ _ _ (low D σ H h)
      | _ => cases c3
  · cases c
theorem ss_tgt (t : T1) (y : Y) : SdS G k Γ (.tgt t y) := .ofS _ (fun _ => rfl) fun X W0 S g e c => by
  unfold tgtS at c
  split at c
  · obtain ⟨c, c3⟩ := ba c
    obtain ⟨c1, c2⟩ := ba c
    refine ps_imp (ps_asg ((sd_all y).E X W0 S g.toGood _ c2) (sd_tg g.toGood c1) nosw_tup (sws_tup (by rw [g.sc]; exact c3)) rfl) fun D σ H ⟨B, α, ρ, O, D0, E0, R, h, hd, hl⟩ => ?_
    refine seqE R h hl fun u O1 f α1 v H1 s1 w1 a1 => ?_
    obtain ⟨d, e1, f⟩ := toK_of f
    exact ⟨B, α1, O1, ρ, d, _, R.stp s1 w1, At.of w1 a1 e1, f, fun ρ' q σ' R' _ _ => hd.nx _ _ q _ _ _ s1 R'⟩
  · cases c
theorem ss_par (i j : Nat) (es : Y) : SdS G k Γ (.par i j es) := .ofS _ (fun _ => rfl) fun X W0 S g e c => by
  unfold parS at c
  split at c
  · obtain ⟨c, c12⟩ := ba c
    obtain ⟨c, c11⟩ := ba c
    obtain ⟨c, c10⟩ := ba c
    obtain ⟨c, c9⟩ := ba c
    obtain ⟨c, c8⟩ := ba c
    obtain ⟨c, c7⟩ := ba c
    obtain ⟨c, c6⟩ := ba c
    obtain ⟨c, c5⟩ := ba c
    obtain ⟨c, c4⟩ := ba c
    obtain ⟨c, c3⟩ := ba c
    obtain ⟨c1, c2⟩ := ba c
    have hx := of_decide_eq_true c4
    have hy := of_decide_eq_true c5
    rw [← g.sc] at hx hy
    refine ps_imp (ps_par g.calm g.nd (by rw [g.hN]; exact of_decide_eq_true c1) (by rw [g.hN]; exact of_decide_eq_true c2) (of_decide_eq_true c3) hx hy ((sd_all es).A X W0 S g.toGood _ c12) (sws_par g.fk hx hy c6 (of_decide_eq_true c7) c8 c9 (bnot c10) (bnot c11))) fun D σ H ⟨B, α, ρ, O, D0, E0, R, h, hd, hl⟩ => ?_
    refine seqA R h hl fun us O1 f α1 vs H1 s1 w1 a1 => ?_
    split at f
    · cases a1 with
      | cons a r => cases r with
        | cons a2 r => cases r with
          | nil => exact ⟨_, _, rfl, hd.nx _ _ f _ _ _ s1 (((R.stp s1 w1).st i a).st j a2)⟩
    · exact f.elim
  · cases c
theorem ss_par3 (i j l : Nat) (es : Y) : SdS G k Γ (.par3 i j l es) := .ofS _ (fun _ => rfl) fun X W0 S g e c => by
  unfold par3S at c
  split at c
  · obtain ⟨c, c16⟩ := ba c
    obtain ⟨c, c15⟩ := ba c
    obtain ⟨c, c14⟩ := ba c
    obtain ⟨c, c13⟩ := ba c
    obtain ⟨c, c12⟩ := ba c
    obtain ⟨c, c11⟩ := ba c
    obtain ⟨c, c10⟩ := ba c
    obtain ⟨c, c9⟩ := ba c
    obtain ⟨c, c8⟩ := ba c
    obtain ⟨c, c7⟩ := ba c
    obtain ⟨c, c6⟩ := ba c
    obtain ⟨c, c5⟩ := ba c
    obtain ⟨c, c4⟩ := ba c
    obtain ⟨c, c3⟩ := ba c
    obtain ⟨c1, c2⟩ := ba c
    have hx := of_decide_eq_true c5
    have hy := of_decide_eq_true c6
    have hz := of_decide_eq_true c7
    rw [← g.sc] at hx hy hz
    obtain ⟨n1, n2, n3⟩ := of_decide_eq_true c4
    refine ps_imp (ps_par3 g.calm g.nd (by rw [g.hN]; exact of_decide_eq_true c1) (by rw [g.hN]; exact of_decide_eq_true c2) (by rw [g.hN]; exact of_decide_eq_true c3) n1 n2 n3 hx hy hz ((sd_all es).A X W0 S g.toGood _ c16) (sws_par3 g.fk hx hy hz c8 c9 (of_decide_eq_true c10) c11 c12 c13 (bnot c14) (bnot c15))) fun D σ H ⟨B, α, ρ, O, D0, E0, R, h, hd, hl⟩ => ?_
    refine seqA R h hl fun us O1 f α1 vs H1 s1 w1 a1 => ?_
    split at f
    · cases a1 with
      | cons a r => cases r with
        | cons a2 r => cases r with
          | cons a3 r => cases r with
            | nil => exact ⟨_, _, _, rfl, hd.nx _ _ f _ _ _ s1 ((((R.stp s1 w1).st i a).st j a2).st l a3)⟩
    · exact f.elim
  · cases c
theorem asg_sub {o i : Expr} {pos : Pos} {env : Env} (h : noSlice i = true) (v : Value) : assign (.Subscript o i pos) env v = (do
      let ov ← holding [v] (eval o env)
      let iv ← holding [v, ov] (eval i env)
      standAt pos
      holding [v, ov, iv] (setItem ov iv v)
      release [v, ov, iv] []) := by
  cases i <;> first | rfl | cases h
theorem ss_seti (o ix y : Y) : SdS G k Γ (.seti o ix y) := .ofS _ (fun _ => rfl) fun X W0 S g e c => by
  unfold setiS at c
  split at c
  · obtain ⟨c, c5⟩ := ba c
    obtain ⟨c, c4⟩ := ba c
    obtain ⟨c, c3⟩ := ba c
    obtain ⟨c1, c2⟩ := ba c
    refine ps_imp (ps_asg ((sd_all y).E X W0 S g.toGood _ c3) (pg_sub ((sd_all o).E X W0 S g.toGood _ c1) ((sd_all ix).E X W0 S g.toGood _ c2) set_list (asg_sub c4)) (nosw_sub c5) sws_sub rfl) fun D σ H ⟨B, α, ρ, O, D0, E0, R, h, hd, hl⟩ => ?_
    refine seqE R h hl fun u O1 f α1 v H1 s1 w1 a1 => ?_
    refine seqE (R.stp s1 w1) f (hl.stp s1) fun r O2 f2 α2 v2 H2 s2 w2 a2 => ?_
    refine seqE ((R.stp s1 w1).stp s2 w2) f2 ((hl.stp s1).stp s2) fun kx O3 f3 α3 v3 H3 s3 w3 a3 => ?_
    split at f3
    · rename_i k' i'
      rw [go_eq] at f3
      cases q : O3[k']? with
      | none => rw [q] at f3; exact f3.elim
      | some oo =>
        rw [q] at f3
        cases oo with
        | frz _ => exact f3.elim
        | brw _ => exact f3.elim
        | lst ds =>
          obtain ⟨x, e1, j, e2, f3⟩ := toK_of f3
          cases (s3.atU a2) with
          | @o _ a ek =>
          cases a3 with
          | d a3 =>
          cases a3
          obtain ⟨vs, e4, r4⟩ := w3.at_ k' a _ ek q
          have ax := At.of w3 ((s2.trans s3).atU a1) e1
          rw [so_eq] at f3
          have S3 := (s1.trans s2).trans s3
          refine ⟨a, vs, i', j, rfl, rfl, e4, by rw [r4.length]; exact e2, ?_⟩
          have s5 : Stp α3 O3 H3 α3 (O3.set k' (.lst (ds.set j x))) (upd H3 a (.lst (vs.set j v))) := stp_set ek q rfl
          exact hd.nx _ _ f3 _ _ _ (S3.trans s5) ((R.stp S3 w3).stp s5 (own_set w3 ek q (r4.set ax j)))
    · exact f3.elim
  · cases c
theorem AtU.unb {B : Addr → Prop} {α : List Addr} {O O2 : List DO} {H : Hp} (h : ∀ b, Mu B α O2 b → Mu B α O b) {v : V} {u : U} (a : AtU G.K B α O H v u) : AtU G.K B α O2 H v u := a.later (fun _ _ z => z) fun b o m e _ => ⟨e, fun z => m (h b z)⟩
theorem ss_for (t : T1) (src : Y) {b : YS} (db : SdS G k Γ b) : SdS G k Γ (.for_ t src b) := .ofS _ (fun _ => rfl) fun X W0 S g e c => by
  unfold forS at c
  split at c
  · obtain ⟨c, c4⟩ := ba c
    obtain ⟨c, c3⟩ := ba c
    obtain ⟨c1, c2⟩ := ba c
    refine ps_imp (ps_for g.po g.calm ((sd_all src).I X W0 S g.toGood _ _ c2) (sd_tg g.toGood c1) (db.B X W0 S g _ c4) (folded_of c3)) fun D σ H ⟨B, α, ρ, O, D0, E0, R, h, hd, hl⟩ => ?_
    refine ⟨B, α, ρ, O, _, E0, R, h, fun us O1 q => ?_, hl⟩
    obtain ⟨xs, rfl, q⟩ := q
    refine ⟨xs, rfl, fun α1 H1 J s1 w1 wk => ?_⟩
    obtain ⟨Gd, Yy, wk, hwk⟩ := wk.ex
    refine for_it wk (fun i σ H => ∃ α2 ρ2 O2, Stp α1 O1 H1 α2 O2 H ∧ Rep G B α2 σ H ρ2 O2 ∧ forR t (vcS Γ b) E0 D0 O (xs.drop i) ρ2 O2) ?_ ?_ ?_ ?_
    · exact ⟨α1, ρ, O1, Stp.refl, R.stp s1 w1, q⟩
    · rintro i σ2 H2 hi ⟨α2, ρ2, O2, s2, R2, q2⟩
      exact (hwk _ _ _ _ (fun b m => by
        rcases m with m | m
        · exact .inl (.inl m)
        · rcases s2.new b m with z | z
          · exact .inl (.inr z)
          · exact .inr z) (fun b o e m n => s2.keep b o e m n) R2.own).1
    · rintro i x σ2 H2 H3 hi ⟨α2, ρ2, O2, s2, R2, q2⟩ y
      obtain ⟨d, ed, hH3, ax⟩ := (hwk _ _ _ _ (fun b m => by
        rcases m with m | m
        · exact .inl (.inl m)
        · rcases s2.new b m with z | z
          · exact .inl (.inr z)
          · exact .inr z) (fun b o e m n => s2.keep b o e m n) R2.own).2 i x H3 hi y
      have st3 : Stp α2 O2 H2 α2 O2 H3 ∧ Own G B α2 O2 H3 := by
        rcases hH3 with rfl | ⟨p, vs, hp, rfl⟩
        · exact ⟨Stp.refl, R2.own⟩
        · exact ⟨stp_new hp, own_new R2.own hp⟩
      obtain ⟨s3, w3⟩ := st3
      have hdrop : xs.drop i = d :: xs.drop (i + 1) := by
        obtain ⟨hlt, ed⟩ := List.getElem?_eq_some_iff.mp ed
        rw [← ed]
        exact List.drop_eq_getElem_cons hlt
      rw [hdrop, forR] at q2
      have S03 := s1.trans (s2.trans s3)
      refine ⟨B, α2, O2, ρ2, d, _, R2.stp s3 w3, ax, q2, fun ρ3 q3 σ3 R3 _ _ => ?_⟩
      refine ⟨B, α2, ρ3, O2, _, _, R3, q3, ⟨fun ρ' O' e α' σ' H' s' R' => ⟨α', ρ', O', (s2.trans s3).trans s', R', e⟩, fun u O' e α' v H' s' w' a' => ?_, fun ρ' O' e α' σ' H' s' R' => ?_, fun ρ' O' e α' σ' H' s' R' => ⟨α', ρ', O', (s2.trans s3).trans s', R', e⟩⟩, fun x O' e α' cls dd H' s' w' ex => ?_⟩
      · obtain ⟨z1, z2, z3⟩ := unb_ok (S03.trans s') R.own w'
        exact hd.rt _ _ e _ _ _ z1 z2 (a'.unb z3)
      · obtain ⟨z1, z2, z3⟩ := unb_ok (S03.trans s') R.own R'.own
        exact hd.nx _ _ e _ _ _ z1 ⟨fun j u e => let ⟨v, h1, h2⟩ := R'.vars j u e; ⟨v, h1, h2.unb z3⟩, z2, R'.len⟩
      · obtain ⟨z1, z2, z3⟩ := unb_ok (S03.trans s') R.own w'
        obtain ⟨h1, dx, fs, h2, h3, h4, h5, h6⟩ := ex
        exact hl _ _ e _ _ _ _ z1 z2 ⟨h1, dx, fs, h2, h3, fun m => h4 (z3 _ m), h5, h6.less z3⟩
    · rintro σ2 H2 ⟨α2, ρ2, O2, s2, R2, q2⟩
      rw [List.drop_length, forR] at q2
      obtain ⟨z1, z2, z3⟩ := unb_ok (s1.trans s2) R.own R2.own
      exact hd.nx _ _ q2 _ _ _ z1 ⟨fun j u e => let ⟨v, h1, h2⟩ := R2.vars j u e; ⟨v, h1, h2.unb z3⟩, z2, R2.len⟩
  · cases c
theorem ss_whl (c : Y) {b : YS} (db : SdS G k Γ b) : SdS G k Γ (.whl c b) := .ofS _ (fun _ => rfl) fun X W0 S g e ch => by
  unfold whlS at ch
  split at ch
  · obtain ⟨c1, c2⟩ := ba ch
    refine ps_imp (ps_while g.po ((sd_all c).T X W0 S g.toGood _ c1) (db.B X W0 S g _ c2)) fun D σ H ⟨B, α, ρ, O, D0, E0, R, ⟨W, ⟨m, h0⟩, hw⟩, hd, hl⟩ => ?_
    refine ⟨fun n σ H1 => ∃ α1 ρ1 O1, Stp α O H α1 O1 H1 ∧ Rep G B α1 σ H1 ρ1 O1 ∧ W n ρ1 O1, ⟨m, α, ρ, O, Stp.refl, R, h0⟩, ?_⟩
    rintro n σ1 H1 ⟨α1, ρ1, O1, s1, R1, w1⟩
    refine seqT R1 (hw n ρ1 O1 w1) (hl.stp s1) fun t O2 f α2 H2 s2 w2 => ?_
    cases t with
    | true =>
      rw [if_pos rfl]
      have s12 := s1.trans s2
      refine ⟨fun σ3 H3 => ∃ m', m' < n ∧ ∃ α1 ρ1 O1, Stp α O H α1 O1 H3 ∧ Rep G B α1 σ3 H3 ρ1 O1 ∧ W m' ρ1 O1, fun _ _ h => h, B, α2, ρ1, O2, _, E0, R1.stp s2 w2, f.1 rfl, ?_, hl.stp s12⟩
      exact ⟨fun ρ' O' ⟨m', hm, q⟩ α' σ' H' s R' => ⟨m', hm, α', ρ', O', s12.trans s, R', q⟩, fun u O' q α' v H' s w a => hd.rt _ _ q _ _ _ (s12.trans s) w a, fun ρ' O' q α' σ' H' s R' => hd.nx _ _ q _ _ _ (s12.trans s) R',
        fun ρ' O' ⟨m', hm, q⟩ α' σ' H' s R' => ⟨m', hm, α', ρ', O', s12.trans s, R', q⟩⟩
    | false =>
      rw [if_neg (by decide)]
      exact hd.nx _ _ (f.2 rfl) _ _ _ (s1.trans s2) (R1.stp s2 w2)
  · cases ch
theorem ss_all : ∀ z : YS, SdS G k Γ z
  | .nil => ss_nil
  | .seq a r => ss_seq (ss_all a) (ss_all r)
  | .pas => ss_pas
  | .doc => ss_doc
  | .ex _ => ss_ex
  | .set i y => ss_set i y
  | .tgt t y => ss_tgt t y
  | .par i j es => ss_par i j es
  | .par3 i j l es => ss_par3 i j l es
  | .seti o ix y => ss_seti o ix y
  | .ite _ a b => ss_ite (ss_all a) (ss_all b)
  | .for_ t src b => ss_for t src (ss_all b)
  | .whl c b => ss_whl c (ss_all b)
  | .ret _ => ss_ret
  | .ret0 => ss_ret0
  | .brk => ss_brk
  | .cnt => ss_cnt
  | .nev => ss_nev
end
end Z

set_option Elab.async false
set_option linter.all false
set_option maxRecDepth 100000
set_option maxHeartbeats 4000000
namespace Z
open PySem PySem.Spec PyProof.Rows L2
/-- the def x keeps the promise S, without a context -/
def FnT (P : Program) (w : World) (K : PySem.W.Frag) (mg : Str → Option Value) (base : Heap) (G : Gx) (k : Nat) (x : Str) (S : ZSp) : Prop :=
  ∃ f fd ps, mg x = some (.ref f) ∧ PySem.W.keepIn K (.ref f) = true ∧ FnOk P w K mg base (L2.CX P w) k f fd ps (lowSp G S) ∧ Binds K fd ps []
theorem FnT.mono {P : Program} {w : World} {K : PySem.W.Frag} {mg : Str → Option Value} {base : Heap} {G : Gx} {j k : Nat} {x : Str} {S : ZSp} (h : FnT P w K mg base G j x S) (l : j ≤ k) : FnT P w K mg base G k x S :=
  let ⟨f, fd, ps, h1, h2, h3, h4⟩ := h; ⟨f, fd, ps, h1, h2, h3.mono l, h4⟩
/-- the body does as the promise says -/
def Keeps (Γ : List (Str × ZSp)) (z : YS) (n : Nat) (S : ZSp) : Prop := ∀ us O Q E, S us O Q E →
  vcS Γ z E ⟨fun _ O' => Q (.d .non) O', Q, fun _ _ => False, fun _ _ => False⟩ (us.map some ++ List.replicate (n - us.length) none) O
/-- .. for a def that gives data alone: its own places are left behind -/
def KeepsD (Γ : List (Str × ZSp)) (z : YS) (n : Nat) (S : ZSp) : Prop := ∀ us O Q E, S us O Q E →
  vcS Γ z E ⟨fun _ O' => Q (.d .non) (O'.take O.length), fun u O' => ∃ x, u = .d x ∧ Q u (O'.take O.length), fun _ _ => False, fun _ _ => False⟩ (us.map some ++ List.replicate (n - us.length) none) O
theorem gt_start : ∀ {us : List U} {m i : Nat} {u : U}, gt (us.map some ++ List.replicate m none) i = some u → us[i]? = some u
  | [], 0, _, _, h => by cases h
  | [], m + 1, 0, _, h => by cases h
  | [], m + 1, i + 1, u, h => by
    have h' : gt (([] : List U).map some ++ List.replicate m none) i = some u := h
    have := gt_start h'
    simp at this
  | v :: us, m, 0, u, h => h
  | v :: us, m, i + 1, u, h => by
    have h' : gt (us.map some ++ List.replicate m none) i = some u := h
    have := gt_start h'
    simpa using this
theorem ownB_loc {sc : Scope} {x : Str} (h : ownB sc x = true) : Loc sc x := by
  unfold ownB at h
  split at h
  · exact .inl (by assumption)
  · exact .inr (by assumption)
  · cases h
section
variable {P : Program} {w : World} {K : PySem.W.Frag} {mg : Str → Option Value} {base : Heap} {G : Gx} {k : Nat}
theorem fnOk_of {x qual : Str} {params : Arguments} {body : List Stmt} {scope : Scope} {kws : List (Str × V)} {dvs : List V} {f : Addr} {fd : FuncData} {N ps : List Str} {Γ : List (Str × ZSp)} {z : YS} {S : ZSp} (F : FunD K x qual params body scope dvs kws f fd) (hK : K = G.K)
    (hS : C8.scC N ps scope = true) (hck : (ckS (Γ.map (·.1)) z ⟨N, scope, scope⟩).B body = true) (hfree : ∀ y ∈ bnames, mg y = none)
    (hfn : ∀ (i : Nat) (y : Str) (Q : ZSp), Γ[i]? = some (y, Q) → FnT P w K mg base G k y Q) (len : ∀ us O Q E, S us O Q E → us.length = ps.length) (spec : Keeps Γ z N.length S) : FnOk P w K mg base (L2.CX P w) (k + 1) f fd ps (lowSp G S) := by
  have fs := C8.fnScope_by hS
  refine F.ok fs (fun vs H Q E ⟨B, α, O, us, Q0, E0, ow, ha, h, hq, he⟩ => by rw [ha.length]; exact len _ _ _ _ h) fun cdv A outer s H vs Q E hr ⟨B, α, O, us, Q0, E0, ow, ha, h, hq, he⟩ => ?_
  have good : GoodS (cxOf (L2.CX P w) P w K mg base N qual scope f cdv A outer s H E) G E k ⟨N, scope, scope⟩ Γ := {
    hN := rfl
    nd := fs.nd
    sc := rfl
    calm := rfl
    hK := hK
    takes := takes_of rfl rfl rfl rfl
    room := hr
    fns := fun i y Q h => hfn i y Q h
    free := hfree
    sto := fun x h => ⟨ownB_loc h, .inl rfl⟩
    po := passes_of rfl
    fk := fs.kind }
  refine ⟨_, (ss_all z).B _ E _ good _ hck, B, α, _, O, _, E0, ⟨fun i u e => ?_, ow, ?_⟩, spec _ _ _ _ h, ⟨fun ρ' O' q α' σ' H' s R' => hq _ _ q _ _ _ s R'.own (.d .non), fun u O' q α' v H' s w a => hq _ _ q _ _ _ s w a, fun _ _ q => q.elim, fun _ _ q => q.elim⟩, he⟩
  · have e := gt_start e
    obtain ⟨v, e1, a1⟩ := ha.get e
    refine ⟨v, ?_, a1⟩
    unfold L2.start
    rw [List.getElem?_append_left (by rw [List.length_map]; exact (List.getElem?_eq_some_iff.mp e1).1), List.getElem?_map, e1]
    rfl
  · unfold L2.start
    rw [List.length_append, List.length_append, List.length_map, List.length_map, List.length_replicate, List.length_replicate, ha.length]
    exact Nat.le_refl _
theorem fnOkD_of {x qual : Str} {params : Arguments} {body : List Stmt} {scope : Scope} {kws : List (Str × V)} {dvs : List V} {f : Addr} {fd : FuncData} {N ps : List Str} {Γ : List (Str × ZSp)} {z : YS} {S : ZSp} (F : FunD K x qual params body scope dvs kws f fd) (hK : K = G.K)
    (hS : C8.scC N ps scope = true) (hck : (ckS (Γ.map (·.1)) z ⟨N, scope, scope⟩).B body = true) (hfree : ∀ y ∈ bnames, mg y = none)
    (hfn : ∀ (i : Nat) (y : Str) (Q : ZSp), Γ[i]? = some (y, Q) → FnT P w K mg base G k y Q) (len : ∀ us O Q E, S us O Q E → us.length = ps.length) (spec : KeepsD Γ z N.length S) : FnOk P w K mg base (L2.CX P w) (k + 1) f fd ps (lowSp G S) := by
  have fs := C8.fnScope_by hS
  refine F.ok fs (fun vs H Q E ⟨B, α, O, us, Q0, E0, ow, ha, h, hq, he⟩ => by rw [ha.length]; exact len _ _ _ _ h) fun cdv A outer s H vs Q E hr ⟨B, α, O, us, Q0, E0, ow, ha, h, hq, he⟩ => ?_
  have good : GoodS (cxOf (L2.CX P w) P w K mg base N qual scope f cdv A outer s H E) G E k ⟨N, scope, scope⟩ Γ := {
    hN := rfl
    nd := fs.nd
    sc := rfl
    calm := rfl
    hK := hK
    takes := takes_of rfl rfl rfl rfl
    room := hr
    fns := fun i y Q h => hfn i y Q h
    free := hfree
    sto := fun x h => ⟨ownB_loc h, .inl rfl⟩
    po := passes_of rfl
    fk := fs.kind }
  have cut : ∀ {x : D} {v : V} (O' : List DO), Q0 (.d x) (O'.take O.length) → ∀ α' H', Stp α O H α' O' H' → Own G B α' O' H' → AtU G.K B α' O' H' v (.d x) → Q v H' := fun {x v} O' q α' H' s w a => by
    have h1 := stp_take s ow
    have h2 := own_take w α.length
    rw [h1.2] at h2
    rw [← ow.len] at q
    cases a with
    | d a =>
      refine hq _ _ q _ _ _ h1.1 h2 (.d (a.less fun b m => ?_))
      rcases m with m | ⟨j, o, e1, e2, l⟩
      · exact .inl m
      · exact .inr ⟨j, o, s.idx e1, take_some e2, l⟩
  refine ⟨_, (ss_all z).B _ E _ good _ hck, B, α, _, O, _, E0, ⟨fun i u e => ?_, ow, ?_⟩, spec _ _ _ _ h, ⟨fun ρ' O' q α' σ' H' s R' => cut _ q _ _ s R'.own (.d .non), fun u O' ⟨x, e, q⟩ α' v H' s w a => by
      subst e
      cases a with
      | d a => exact cut _ q _ _ s w (.d a), fun _ _ q => q.elim, fun _ _ q => q.elim⟩, he⟩
  · have e := gt_start e
    obtain ⟨v, e1, a1⟩ := ha.get e
    refine ⟨v, ?_, a1⟩
    unfold L2.start
    rw [List.getElem?_append_left (by rw [List.length_map]; exact (List.getElem?_eq_some_iff.mp e1).1), List.getElem?_map, e1]
    rfl
  · unfold L2.start
    rw [List.length_append, List.length_append, List.length_map, List.length_map, List.length_replicate, List.length_replicate, ha.length]
    exact Nat.le_refl _
theorem fnT_of {x qual : Str} {params : Arguments} {body : List Stmt} {scope : Scope} {kws : List (Str × V)} {dvs : List V} {f : Addr} {fd : FuncData} {N ps : List Str} {Γ : List (Str × ZSp)} {z : YS} {S : ZSp} (F : FunD K x qual params body scope dvs kws f fd) (hK : K = G.K) (hm : mg x = some (.ref f)) (hb : Binds K fd ps [])
    (hS : C8.scC N ps scope = true) (hck : (ckS (Γ.map (·.1)) z ⟨N, scope, scope⟩).B body = true) (hfree : ∀ y ∈ bnames, mg y = none)
    (hfn : ∀ (i : Nat) (y : Str) (Q : ZSp), Γ[i]? = some (y, Q) → FnT P w K mg base G k y Q) (len : ∀ us O Q E, S us O Q E → us.length = ps.length) (spec : Keeps Γ z N.length S) : FnT P w K mg base G (k + 1) x S :=
  ⟨f, fd, ps, hm, F.kp, fnOk_of F hK hS hck hfree hfn len spec, hb⟩
theorem fnTD_of {x qual : Str} {params : Arguments} {body : List Stmt} {scope : Scope} {kws : List (Str × V)} {dvs : List V} {f : Addr} {fd : FuncData} {N ps : List Str} {Γ : List (Str × ZSp)} {z : YS} {S : ZSp} (F : FunD K x qual params body scope dvs kws f fd) (hK : K = G.K) (hm : mg x = some (.ref f)) (hb : Binds K fd ps [])
    (hS : C8.scC N ps scope = true) (hck : (ckS (Γ.map (·.1)) z ⟨N, scope, scope⟩).B body = true) (hfree : ∀ y ∈ bnames, mg y = none)
    (hfn : ∀ (i : Nat) (y : Str) (Q : ZSp), Γ[i]? = some (y, Q) → FnT P w K mg base G k y Q) (len : ∀ us O Q E, S us O Q E → us.length = ps.length) (spec : KeepsD Γ z N.length S) : FnT P w K mg base G (k + 1) x S :=
  ⟨f, fd, ps, hm, F.kp, fnOkD_of F hK hS hck hfree hfn len spec, hb⟩
/-- the law's own promise: one script, no places -/
def lawZ (n : Nat) : ZSp := fun us O Q _ => ∃ ns : List Int, us = [.d (.scr ns)] ∧ O = [] ∧ ns.length ≤ n ∧ ∀ O', Q (.d (.bl true)) O'
theorem lawZ_low {n : Nat} {H : Hp} {a : Addr} {ns : List Int} (hT : G.T = []) (hl : ns.length ≤ n) (hS : SqL G.K H a (ns.map V.int)) : lowSp G (lawZ n) [.ref a] H (fun v _ => v = .bl true) fun _ _ _ => False := by
  refine ⟨fun _ => False, [], [], [.d (.scr ns)], fun u _ => u = .d (.bl true), fun _ _ => False, ⟨rfl, List.nodup_nil, fun k a o e => by simp at e, fun _ z => z.elim, fun a _ z => z, by rw [hT]; intro p hp; cases hp⟩, .cons (.d ?_) .nil, ⟨ns, rfl, rfl, hl, fun _ => rfl⟩, fun u O' e α' v H' s w a => ?_, fun _ _ z => z.elim⟩
  · have hn : ¬ Mu (fun _ => False) [] [] a := fun m => m.elim id fun ⟨k, o, e, _⟩ => by simp at e
    rcases hS with h | h
    · exact .scr h hn
    · exact .scrK fun _ => .inr h
  · cases e
    cases a with
    | d a => cases a; rfl
end
end Z

set_option Elab.async false
set_option linter.all false
set_option maxRecDepth 100000
set_option maxHeartbeats 0
namespace Z
open PySem PySem.Spec PyProof.Rows L2
def top (i : Nat) : Stmt := PySem.Challenge.pw_endlessnets_k05_whole_systems_solved.main.body.getD i (.Pass ⟨0, 0, 0, 0⟩)
def N_common_divisor : List Str := ["one", "other", "large", "small"]
def ps_common_divisor : List Str := ["one", "other"]
def gm_common_divisor : List Str := []
def y_common_divisor : YS := (.seq (.set 2 (.blt .abs (.cons (.var 0) .nil))) (.seq (.set 3 (.blt .abs (.cons (.var 1) .nil))) (.seq (.whl (.cmp .NotEq (.var 3) (.int 0)) (.seq (.par 2 3 (.cons (.var 3) (.cons (.bin .Mod (.var 2) (.var 3)) .nil))) .nil)) (.seq (.ret (.var 2)) .nil))))
def N_ratio : List Str := ["over", "under", "shared"]
def ps_ratio : List Str := ["over", "under"]
def gm_ratio : List Str := ["common_divisor"]
def y_ratio : YS := (.seq (.ite (.cmp .Eq (.var 1) (.int 0)) (.seq .nev .nil) .nil) (.seq (.set 2 (.call 0 (.cons (.var 0) (.cons (.var 1) .nil)))) (.seq (.ite (.cmp .Lt (.var 1) (.int 0)) (.seq (.set 2 (.neg (.var 2))) .nil) .nil) (.seq (.ret (.tup (.cons (.bin .FloorDiv (.var 0) (.var 2)) (.cons (.bin .FloorDiv (.var 1) (.var 2)) .nil)))) .nil))))
def N_minus : List Str := ["one", "other"]
def ps_minus : List Str := ["one", "other"]
def gm_minus : List Str := ["ratio"]
def y_minus : YS := (.seq (.ite (.chain .Eq .Eq (.ix (.var 0) (.int 1)) (.ix (.var 1) (.int 1)) (.int 1)) (.seq (.ret (.tup (.cons (.bin .Sub (.ix (.var 0) (.int 0)) (.ix (.var 1) (.int 0))) (.cons (.int 1) .nil)))) .nil) .nil) (.seq (.ret (.call 0 (.cons (.bin .Sub (.bin .Mult (.ix (.var 0) (.int 0)) (.ix (.var 1) (.int 1))) (.bin .Mult (.ix (.var 1) (.int 0)) (.ix (.var 0) (.int 1)))) (.cons (.bin .Mult (.ix (.var 0) (.int 1)) (.ix (.var 1) (.int 1))) .nil)))) .nil))
def N_times : List Str := ["one", "other"]
def ps_times : List Str := ["one", "other"]
def gm_times : List Str := ["ratio"]
def y_times : YS := (.seq (.ite (.chain .Eq .Eq (.ix (.var 0) (.int 1)) (.ix (.var 1) (.int 1)) (.int 1)) (.seq (.ret (.tup (.cons (.bin .Mult (.ix (.var 0) (.int 0)) (.ix (.var 1) (.int 0))) (.cons (.int 1) .nil)))) .nil) .nil) (.seq (.ret (.call 0 (.cons (.bin .Mult (.ix (.var 0) (.int 0)) (.ix (.var 1) (.int 0))) (.cons (.bin .Mult (.ix (.var 0) (.int 1)) (.ix (.var 1) (.int 1))) .nil)))) .nil))
def N_common : List Str := ["points", "least", "point", "fraction"]
def ps_common : List Str := ["points"]
def gm_common : List Str := ["common_divisor"]
def y_common : YS := (.seq (.set 1 (.int 1)) (.seq (.for_ (.nm 2) (.seq (.var 0)) (.seq (.for_ (.nm 3) (.seq (.var 2)) (.seq (.set 1 (.bin .Mult (.bin .FloorDiv (.var 1) (.call 0 (.cons (.var 1) (.cons (.ix (.var 3) (.int 1)) .nil)))) (.ix (.var 3) (.int 1)))) .nil)) .nil)) (.seq (.ret (.var 1)) .nil)))
def N_multiplied : List Str := ["point", "number", "fraction"]
def ps_multiplied : List Str := ["point", "number"]
def gm_multiplied : List Str := []
def y_multiplied : YS := (.seq (.ret (.blt .tuple (.cons (.comp false [2] (.nm 2) (.seq (.var 0)) .yes (.bin .Mult (.ix (.var 2) (.int 0)) (.bin .FloorDiv (.var 1) (.ix (.var 2) (.int 1))))) .nil))) .nil)
def N_lowest : List Str := ["row", "shared", "number"]
def ps_lowest : List Str := ["row"]
def gm_lowest : List Str := ["common_divisor"]
def y_lowest : YS := (.seq (.set 1 (.int 0)) (.seq (.for_ (.nm 2) (.seq (.var 0)) (.seq (.set 1 (.call 0 (.cons (.var 1) (.cons (.var 2) .nil)))) (.seq (.ite (.cmp .Eq (.var 1) (.int 1)) (.seq (.ret (.var 0)) .nil) .nil) .nil))) (.seq (.ite (.cmp .Eq (.var 1) (.int 0)) (.seq (.ret (.var 0)) .nil) .nil) (.seq (.ret (.comp false [2] (.nm 2) (.seq (.var 0)) .yes (.bin .FloorDiv (.var 2) (.var 1)))) .nil))))
def N_cleared : List Str := ["row", "pivot", "column", "shared", "more", "less", "x", "y"]
def ps_cleared : List Str := ["row", "pivot", "column"]
def gm_cleared : List Str := ["lowest", "common_divisor"]
def y_cleared : YS := (.seq (.ite (.cmp .Eq (.ix (.var 0) (.var 2)) (.int 0)) (.seq (.ret (.var 0)) .nil) .nil) (.seq (.set 3 (.call 1 (.cons (.ix (.var 0) (.var 2)) (.cons (.ix (.var 1) (.var 2)) .nil)))) (.seq (.set 4 (.bin .FloorDiv (.ix (.var 1) (.var 2)) (.var 3))) (.seq (.set 5 (.bin .FloorDiv (.ix (.var 0) (.var 2)) (.var 3))) (.seq (.ret (.call 0 (.cons (.comp false [6, 7] (.tp (.cons (.nm 6) (.cons (.nm 7) .nil))) (.zip (.var 0) (.var 1)) .yes (.bin .Sub (.bin .Mult (.var 4) (.var 6)) (.bin .Mult (.var 5) (.var 7)))) .nil))) .nil)))))
def N_place_of : List Str := ["rows", "column", "at", "row"]
def ps_place_of : List Str := ["rows", "column"]
def gm_place_of : List Str := []
def y_place_of : YS := (.seq (.for_ (.tp (.cons (.nm 2) (.cons (.nm 3) .nil))) (.enm (.var 0)) (.seq (.ite (.cmp .NotEq (.ix (.var 3) (.var 1)) (.int 0)) (.seq (.ret (.var 2)) .nil) .nil) .nil)) (.seq (.ret .non) .nil))
def N_filled : List Str := ["steps", "width", "values", "column", "row", "left", "at"]
def ps_filled : List Str := ["steps", "width"]
def gm_filled : List Str := ["ratio", "minus", "times"]
def y_filled : YS := (.seq (.set 2 (.rep (.lst false (.cons (.tup (.cons (.int 0) (.cons (.int 1) .nil))) .nil)) (.var 1))) (.seq (.for_ (.tp (.cons (.nm 3) (.cons (.nm 4) .nil))) (.rev (.var 0)) (.seq (.set 5 (.tup (.cons (.ix (.var 4) (.var 1)) (.cons (.int 1) .nil)))) (.seq (.for_ (.nm 6) (.rng2 (.bin .Add (.var 3) (.int 1)) (.var 1)) (.seq (.ite (.and (.cmp .NotEq (.ix (.var 4) (.var 6)) (.int 0)) (.one (.cmp .NotEq (.ix (.ix (.var 2) (.var 6)) (.int 0)) (.int 0)))) (.seq (.set 5 (.call 1 (.cons (.var 5) (.cons (.call 2 (.cons (.tup (.cons (.ix (.var 4) (.var 6)) (.cons (.int 1) .nil))) (.cons (.ix (.var 2) (.var 6)) .nil))) .nil)))) .nil) .nil) .nil)) (.seq (.seti (.var 2) (.var 3) (.call 0 (.cons (.ix (.var 5) (.int 0)) (.cons (.bin .Mult (.ix (.var 5) (.int 1)) (.ix (.var 4) (.var 3))) .nil)))) .nil)))) (.seq (.ret (.blt .tuple (.cons (.var 2) .nil))) .nil)))
def N_solved : List Str := ["rows", "results", "width", "waiting", "steps", "column", "row", "result", "fractions", "at", "pivot", "rest"]
def ps_solved : List Str := ["rows", "results"]
def gm_solved : List Str := ["filled", "cleared", "place_of", "lowest", "multiplied", "common"]
def y_solved : YS := (.seq (.set 2 (.blt .len (.cons (.ix (.var 0) (.int 0)) .nil))) (.seq (.set 3 (.lst true .nil)) (.seq (.for_ (.tp (.cons (.nm 6) (.cons (.nm 7) .nil))) (.zip (.var 0) (.var 1)) (.seq (.set 8 (.lst false (.star (.var 6) (.cons (.var 7) .nil)))) (.seq (.ex (.app (.var 3) (.call 3 (.cons (.blt .list (.cons (.call 4 (.cons (.var 8) (.cons (.call 5 (.cons (.lst false (.cons (.var 8) .nil)) .nil)) .nil))) .nil)) .nil)))) .nil))) (.seq (.set 4 (.lst true .nil)) (.seq (.for_ (.nm 5) (.rng (.var 2)) (.seq (.set 9 (.call 2 (.cons (.var 3) (.cons (.var 5) .nil)))) (.seq (.ite (.cmp .IsNot (.var 9) .non) (.seq (.set 10 (.ix (.var 3) (.var 9))) (.seq (.set 11 (.bin .Add (.sl (.var 3) .nop (.sm (.var 9))) (.sl (.var 3) (.sm (.bin .Add (.var 9) (.int 1))) .nop))) (.seq (.set 3 (.comp true [6] (.nm 6) (.seq (.var 11)) .yes (.call 1 (.cons (.var 6) (.cons (.var 10) (.cons (.var 5) .nil)))))) (.seq (.ex (.app (.var 4) (.tup (.cons (.var 5) (.cons (.var 10) .nil))))) .nil)))) .nil) .nil))) (.seq (.for_ (.nm 6) (.seq (.var 3)) (.seq (.ite (.cmp .NotEq (.ix (.var 6) (.var 2)) (.int 0)) (.seq (.ret .non) .nil) .nil) .nil)) (.seq (.ret (.call 0 (.cons (.var 4) (.cons (.var 2) .nil)))) .nil)))))))
def N__law_bag : List Str := ["_law_script", "_law_cells"]
def ps__law_bag : List Str := ["_law_script"]
def gm__law_bag : List Str := []
def y__law_bag : YS := (.seq (.set 1 (.blt .list (.cons (.sl (.var 0) .nop (.sm (.int 63))) .nil))) (.seq (.ret (.lst true (.cons (.var 1) (.cons (.int 0) (.cons (.int 0) (.cons (.bin .Add (.int 12035) (.bin .Mult (.int 37) (.blt .len (.cons (.var 1) .nil)))) (.cons (.int 0) .nil))))))) .nil))
def N__law_draw : List Str := ["_law_bag_here", "_law_size", "_law_seed", "_law_cell", "_law_digit"]
def ps__law_draw : List Str := ["_law_bag_here", "_law_size"]
def gm__law_draw : List Str := []
def y__law_draw : YS := (.seq (.seti (.var 0) (.int 4) (.bin .Add (.ix (.var 0) (.int 4)) (.int 1))) (.seq (.ite (.and (.cmp .Eq (.ix (.var 0) (.int 2)) (.int 0)) (.one (.cmp .Lt (.ix (.var 0) (.int 1)) (.blt .len (.cons (.ix (.var 0) (.int 0)) .nil))))) (.seq (.set 3 (.blt .abs (.cons (.ix (.ix (.var 0) (.int 0)) (.ix (.var 0) (.int 1))) .nil))) (.seq (.seti (.var 0) (.int 1) (.bin .Add (.ix (.var 0) (.int 1)) (.int 1))) (.seq (.ite (.cmp .GtE (.var 3) (.bin .Pow (.int 10) (.int 18))) (.seq (.seti (.var 0) (.int 2) (.var 3)) .nil) (.seq (.seti (.var 0) (.int 3) (.bin .Mod (.blt .int (.cons (.bin .Add (.bin .Add (.bin .Mult (.ix (.var 0) (.int 3)) (.int 48731)) (.bin .Mult (.bin .Mod (.blt .int (.cons (.var 3) .nil)) (.int 2147483029)) (.int 613))) (.int 29)) .nil)) (.int 2147483249))) .nil)) .nil))) .nil) (.seq (.ite (.cmp .Gt (.ix (.var 0) (.int 2)) (.int 0)) (.seq (.set 4 (.bin .Mod (.blt .int (.cons (.ix (.var 0) (.int 2)) .nil)) (.var 1))) (.seq (.seti (.var 0) (.int 2) (.bin .FloorDiv (.ix (.var 0) (.int 2)) (.var 1))) (.seq (.ret (.var 4)) .nil))) .nil) (.seq (.set 2 (.ix (.var 0) (.int 3))) (.seq (.seti (.var 0) (.int 3) (.bin .Mod (.blt .int (.cons (.bin .Add (.bin .Add (.bin .Add (.bin .Pow (.var 2) (.int 3)) (.bin .Mult (.var 2) (.int 31181))) (.bin .Mult (.ix (.var 0) (.int 4)) (.int 1299721))) (.int 60637)) .nil)) (.int 2147483249))) (.seq (.ret (.bin .Mod (.blt .int (.cons (.bin .Add (.bin .FloorDiv (.ix (.var 0) (.int 3)) (.int 71)) (.bin .Mult (.bin .Mod (.blt .int (.cons (.ix (.var 0) (.int 3)) .nil)) (.int 8111)) (.int 59))) .nil)) (.var 1))) .nil))))))
def N__law_pick : List Str := ["_law_bag_here", "_law_some"]
def ps__law_pick : List Str := ["_law_bag_here", "_law_some"]
def gm__law_pick : List Str := ["_law_draw"]
def y__law_pick : YS := (.seq (.ret (.ix (.var 1) (.call 0 (.cons (.var 0) (.cons (.blt .len (.cons (.var 1) .nil)) .nil))))) .nil)
def N__law_huge : List Str := ["_law_bag_here", "_law_found"]
def ps__law_huge : List Str := ["_law_bag_here"]
def gm__law_huge : List Str := ["_law_pick", "_law_draw"]
def y__law_huge : YS := (.seq (.set 1 (.bin .Add (.bin .Add (.bin .Mult (.call 1 (.cons (.var 0) (.cons (.bin .Pow (.int 10) (.int 7)) .nil))) (.bin .Pow (.int 10) (.int 27))) (.bin .Mult (.call 1 (.cons (.var 0) (.cons (.bin .Pow (.int 10) (.int 7)) .nil))) (.bin .Pow (.int 10) (.int 13)))) (.call 1 (.cons (.var 0) (.cons (.bin .Pow (.int 10) (.int 7)) .nil))))) (.seq (.ret (.bin .FloorDiv (.var 1) (.call 0 (.cons (.var 0) (.cons (.lst false (.cons (.int 1) (.cons (.bin .Pow (.int 10) (.int 10)) (.cons (.bin .Pow (.int 10) (.int 20)) .nil)))) .nil))))) .nil))
def N__law_int : List Str := ["_law_x"]
def ps__law_int : List Str := ["_law_x"]
def gm__law_int : List Str := []
def y__law_int : YS := (.seq (.ret (.and (.isi (.var 0) ["int"]) (.one (.not (.isi (.var 0) ["bool"]))))) .nil)
def N__law_same : List Str := ["_law_found", "_law_due", "_law_x", "_law_y"]
def ps__law_same : List Str := ["_law_found", "_law_due"]
def gm__law_same : List Str := ["_law_same"]
def y__law_same : YS := (.seq (.ite (.isi (.var 1) ["list", "tuple"]) (.seq (.ite (.or (.cmp .NotEq (.isi (.var 0) ["list"]) (.isi (.var 1) ["list"])) (.one (.cmp .NotEq (.isi (.var 0) ["tuple"]) (.isi (.var 1) ["tuple"])))) (.seq (.ret (.bl false)) .nil) .nil) (.seq (.ret (.and (.cmp .Eq (.blt .len (.cons (.var 0) .nil)) (.blt .len (.cons (.var 1) .nil))) (.one (.blt .all (.cons (.comp false [2, 3] (.tp (.cons (.nm 2) (.cons (.nm 3) .nil))) (.zip (.var 0) (.var 1)) .yes (.call 0 (.cons (.var 2) (.cons (.var 3) .nil)))) .nil))))) .nil)) .nil) (.seq (.ite (.or (.cmp .Is (.var 1) .non) (.one (.cmp .Is (.var 0) .non))) (.seq (.ret (.and (.cmp .Is (.var 1) .non) (.one (.cmp .Is (.var 0) .non)))) .nil) .nil) (.seq (.ite (.isi (.var 1) ["dict"]) (.seq (.ret (.and (.isi (.var 0) ["dict"]) (.one (.call 0 (.cons (.comp false [2] (.nm 2) (.seq (.var 0)) .yes (.lst false (.cons (.var 2) (.cons (.ix (.var 0) (.var 2)) .nil)))) (.cons (.comp false [2] (.nm 2) (.seq (.var 1)) .yes (.lst false (.cons (.var 2) (.cons (.ix (.var 1) (.var 2)) .nil)))) .nil)))))) .nil) .nil) (.seq (.ite (.or (.isi (.var 1) ["bool"]) (.one (.isi (.var 0) ["bool"]))) (.seq (.ret (.and (.isi (.var 1) ["bool"]) (.and (.isi (.var 0) ["bool"]) (.one (.cmp .Eq (.var 0) (.var 1)))))) .nil) .nil) (.seq (.ite (.isi (.var 1) ["int"]) (.seq (.ret (.and (.isi (.var 0) ["int"]) (.one (.cmp .Eq (.var 0) (.var 1))))) .nil) .nil) (.seq (.ret (.and (.isi (.var 1) ["str"]) (.and (.isi (.var 0) ["str"]) (.one (.cmp .Eq (.var 0) (.var 1)))))) .nil))))))
def N__law_gcd : List Str := ["_law_x", "_law_y"]
def ps__law_gcd : List Str := ["_law_x", "_law_y"]
def gm__law_gcd : List Str := []
def y__law_gcd : YS := (.seq (.par 0 1 (.cons (.blt .abs (.cons (.var 0) .nil)) (.cons (.blt .abs (.cons (.var 1) .nil)) .nil))) (.seq (.whl (.cmp .NotEq (.var 1) (.int 0)) (.seq (.par 0 1 (.cons (.var 1) (.cons (.bin .Mod (.blt .int (.cons (.var 0) .nil)) (.var 1)) .nil))) .nil)) (.seq (.ret (.var 0)) .nil)))
def N__law_low : List Str := ["_law_n", "_law_m", "_law_div"]
def ps__law_low : List Str := ["_law_n", "_law_m"]
def gm__law_low : List Str := ["_law_gcd"]
def y__law_low : YS := (.seq (.set 2 (.bin .Mult (.call 0 (.cons (.var 0) (.cons (.var 1) .nil))) (.ite (.cmp .Gt (.var 1) (.int 0)) (.int 1) (.neg (.int 1))))) (.seq (.ret (.tup (.cons (.bin .FloorDiv (.var 0) (.var 2)) (.cons (.bin .FloorDiv (.var 1) (.var 2)) .nil)))) .nil))
def N__law_is_fraction : List Str := ["_law_x", "_law_n"]
def ps__law_is_fraction : List Str := ["_law_x"]
def gm__law_is_fraction : List Str := ["_law_gcd", "_law_int"]
def y__law_is_fraction : YS := (.seq (.ret (.and (.isi (.var 0) ["tuple"]) (.and (.cmp .Eq (.blt .len (.cons (.var 0) .nil)) (.int 2)) (.and (.blt .all (.cons (.comp false [1] (.nm 1) (.seq (.var 0)) .yes (.call 1 (.cons (.var 1) .nil))) .nil)) (.and (.cmp .GtE (.ix (.var 0) (.int 1)) (.int 1)) (.one (.cmp .Eq (.call 0 (.cons (.ix (.var 0) (.int 0)) (.cons (.ix (.var 0) (.int 1)) .nil))) (.int 1)))))))) .nil)
def N__law_few : List Str := ["_law_bag_here", "_law_near"]
def ps__law_few : List Str := ["_law_bag_here", "_law_near"]
def gm__law_few : List Str := ["_law_low", "_law_draw"]
def y__law_few : YS := (.seq (.ret (.call 0 (.cons (.bin .Sub (.call 1 (.cons (.var 0) (.cons (.bin .Add (.bin .Mult (.int 2) (.var 1)) (.int 1)) .nil))) (.var 1)) (.cons (.bin .Add (.int 1) (.call 1 (.cons (.var 0) (.cons (.int 4) .nil)))) .nil)))) .nil)
def N__law_is_point : List Str := ["_law_x", "_law_wide", "_law_n"]
def ps__law_is_point : List Str := ["_law_x", "_law_wide"]
def gm__law_is_point : List Str := ["_law_is_fraction"]
def y__law_is_point : YS := (.seq (.ret (.and (.isi (.var 0) ["tuple"]) (.and (.cmp .Eq (.blt .len (.cons (.var 0) .nil)) (.var 1)) (.one (.blt .all (.cons (.comp false [2] (.nm 2) (.seq (.var 0)) .yes (.call 0 (.cons (.var 2) .nil))) .nil)))))) .nil)
def N__law_plus : List Str := ["_law_x", "_law_y"]
def ps__law_plus : List Str := ["_law_x", "_law_y"]
def gm__law_plus : List Str := []
def y__law_plus : YS := (.seq (.ret (.tup (.cons (.bin .Add (.bin .Mult (.ix (.var 0) (.int 0)) (.ix (.var 1) (.int 1))) (.bin .Mult (.ix (.var 1) (.int 0)) (.ix (.var 0) (.int 1)))) (.cons (.bin .Mult (.ix (.var 0) (.int 1)) (.ix (.var 1) (.int 1))) .nil)))) .nil)
def N__law_by : List Str := ["_law_x", "_law_y"]
def ps__law_by : List Str := ["_law_x", "_law_y"]
def gm__law_by : List Str := []
def y__law_by : YS := (.seq (.ret (.tup (.cons (.bin .Mult (.ix (.var 0) (.int 0)) (.ix (.var 1) (.int 0))) (.cons (.bin .Mult (.ix (.var 0) (.int 1)) (.ix (.var 1) (.int 1))) .nil)))) .nil)
def N__law_dot : List Str := ["_law_x", "_law_y", "_law_found", "_law_a", "_law_b"]
def ps__law_dot : List Str := ["_law_x", "_law_y"]
def gm__law_dot : List Str := ["_law_plus", "_law_by"]
def y__law_dot : YS := (.seq (.set 2 (.tup (.cons (.int 0) (.cons (.int 1) .nil)))) (.seq (.for_ (.tp (.cons (.nm 3) (.cons (.nm 4) .nil))) (.zip (.var 0) (.var 1)) (.seq (.set 2 (.call 0 (.cons (.var 2) (.cons (.call 1 (.cons (.var 3) (.cons (.var 4) .nil))) .nil)))) .nil)) (.seq (.ret (.var 2)) .nil)))
def N__law_rank : List Str := ["_law_rows", "_law_j", "_law_left", "_law_found", "_law_live", "_law_top", "_law_rest", "_law_row", "_law_n", "_law_m"]
def ps__law_rank : List Str := ["_law_rows"]
def gm__law_rank : List Str := []
def y__law_rank : YS := (.seq (.par 2 3 (.cons (.comp false [7] (.nm 7) (.seq (.var 0)) .yes (.blt .list (.cons (.var 7) .nil))) (.cons (.int 0) .nil))) (.seq (.for_ (.nm 1) (.rng (.blt .len (.cons (.ix (.var 0) (.int 0)) .nil))) (.seq (.set 4 (.comp false [7] (.nm 7) (.seq (.var 2)) (.cmp .NotEq (.ix (.var 7) (.var 1)) (.int 0)) (.var 7))) (.seq (.ite (.cmp .NotEq (.var 4) (.lst false .nil)) (.seq (.set 5 (.ix (.var 4) (.int 0))) (.seq (.set 6 (.comp false [7] (.nm 7) (.seq (.sl (.var 4) (.sm (.int 1)) .nop)) .yes (.comp false [8, 9] (.tp (.cons (.nm 8) (.cons (.nm 9) .nil))) (.zip (.var 7) (.var 5)) .yes (.bin .Sub (.bin .Mult (.var 8) (.ix (.var 5) (.var 1))) (.bin .Mult (.var 9) (.ix (.var 7) (.var 1))))))) (.seq (.set 2 (.bin .Add (.comp false [7] (.nm 7) (.seq (.var 2)) (.cmp .Eq (.ix (.var 7) (.var 1)) (.int 0)) (.var 7)) (.var 6))) (.seq (.set 3 (.bin .Add (.var 3) (.int 1))) .nil)))) .nil) .nil))) (.seq (.ret (.var 3)) .nil)))
def N__law_whole_row : List Str := ["_law_row", "_law_by_here", "_law_x"]
def ps__law_whole_row : List Str := ["_law_row"]
def gm__law_whole_row : List Str := ["_law_gcd"]
def y__law_whole_row : YS := (.seq (.set 1 (.int 1)) (.seq (.for_ (.nm 2) (.seq (.var 0)) (.seq (.set 1 (.bin .FloorDiv (.bin .Mult (.var 1) (.ix (.var 2) (.int 1))) (.call 0 (.cons (.var 1) (.cons (.ix (.var 2) (.int 1)) .nil))))) .nil)) (.seq (.ret (.comp false [2] (.nm 2) (.seq (.var 0)) .yes (.bin .Mult (.ix (.var 2) (.int 0)) (.bin .FloorDiv (.var 1) (.ix (.var 2) (.int 1)))))) .nil)))
def N__law_system : List Str := ["_law_bag_here", "_law_wide", "_law_found", "_law_k", "_law_way", "_law_pairs", "_law_x", "_law_y", "_law_by_here", "_law_far", "_law_a", "_law_b", "_law_j"]
def ps__law_system : List Str := ["_law_bag_here", "_law_wide"]
def gm__law_system : List Str := ["_law_draw", "_law_low", "_law_plus", "_law_by", "_law_few", "_law_pick", "_law_huge"]
def y__law_system : YS := (.seq (.set 2 (.lst true .nil)) (.seq (.for_ (.nm 3) (.rng (.bin .Add (.int 1) (.call 0 (.cons (.var 0) (.cons (.int 5) .nil))))) (.seq (.set 4 (.call 0 (.cons (.var 0) (.cons (.int 6) .nil)))) (.seq (.ite (.and (.cmp .NotEq (.var 2) (.lst false .nil)) (.one (.cmp .Lt (.var 4) (.int 2)))) (.seq (.tgt (.tp (.cons (.nm 6) (.cons (.nm 7) (.cons (.nm 8) .nil)))) (.tup (.cons (.call 5 (.cons (.var 0) (.cons (.var 2) .nil))) (.cons (.call 5 (.cons (.var 0) (.cons (.var 2) .nil))) (.cons (.call 4 (.cons (.var 0) (.cons (.int 2) .nil))) .nil))))) (.seq (.set 5 (.comp false [10, 11] (.tp (.cons (.nm 10) (.cons (.nm 11) .nil))) (.zip (.var 6) (.var 7)) .yes (.call 2 (.cons (.var 10) (.cons (.call 3 (.cons (.var 11) (.cons (.var 8) .nil))) .nil))))) (.seq (.ex (.app (.var 2) (.blt .tuple (.cons (.comp false [10] (.nm 10) (.seq (.var 5)) .yes (.call 1 (.cons (.ix (.var 10) (.int 0)) (.cons (.ix (.var 10) (.int 1)) .nil)))) .nil)))) .nil))) (.seq (.ite (.cmp .Eq (.var 4) (.int 2)) (.seq (.set 9 (.bin .FloorDiv (.call 6 (.cons (.var 0) .nil)) (.bin .Pow (.int 10) (.int 20)))) (.seq (.ex (.app (.var 2) (.blt .tuple (.cons (.comp false [12] (.nm 12) (.rng (.var 1)) .yes (.call 1 (.cons (.bin .Sub (.bin .Mult (.call 0 (.cons (.var 0) (.cons (.int 7) .nil))) (.var 9)) (.int 3)) (.cons (.bin .Add (.int 1) (.call 0 (.cons (.var 0) (.cons (.int 3) .nil)))) .nil)))) .nil)))) .nil)) (.seq (.ex (.app (.var 2) (.blt .tuple (.cons (.comp false [12] (.nm 12) (.rng (.var 1)) .yes (.call 5 (.cons (.var 0) (.cons (.lst false (.cons (.tup (.cons (.int 0) (.cons (.int 1) .nil))) (.cons (.call 4 (.cons (.var 0) (.cons (.int 3) .nil))) .nil))) .nil)))) .nil)))) .nil)) .nil)) .nil))) (.seq (.ret (.fz (.var 2))) .nil)))
def N__law_system_so : List Str := ["_law_rows", "_law_results", "_law_told", "_law_left", "_law_wider", "_law_fits", "_law_sums", "_law_handed", "_law_asked", "_law_row", "_law_worth", "_law_x", "_law_y"]
def ps__law_system_so : List Str := ["_law_rows", "_law_results"]
def gm__law_system_so : List Str := ["_law_dot", "_law_is_point", "_law_rank", "_law_whole_row", "solved", "_law_same"]
def y__law_system_so : YS := (.seq (.par 7 8 (.cons (.blt .list (.cons (.var 0) .nil)) (.cons (.blt .list (.cons (.var 1) .nil)) .nil))) (.seq (.set 2 (.call 4 (.cons (.var 7) (.cons (.var 8) .nil)))) (.seq (.ite (.or (.not (.call 5 (.cons (.lst false (.cons (.var 7) (.cons (.var 8) .nil))) (.cons (.lst false (.cons (.var 0) (.cons (.var 1) .nil))) .nil)))) (.one (.cmp .NotEq (.cmp .Is (.call 4 (.cons (.blt .tuple (.cons (.var 7) .nil)) (.cons (.blt .tuple (.cons (.var 8) .nil)) .nil))) .non) (.cmp .Is (.var 2) .non)))) (.seq (.ret (.bl false)) .nil) .nil) (.seq (.set 3 (.comp false [9] (.nm 9) (.seq (.var 0)) .yes (.call 3 (.cons (.var 9) .nil)))) (.seq (.set 4 (.comp false [9, 10] (.tp (.cons (.nm 9) (.cons (.nm 10) .nil))) (.zip (.var 0) (.var 1)) .yes (.call 3 (.cons (.bin .Add (.var 9) (.tup (.cons (.var 10) .nil))) .nil)))) (.seq (.set 5 (.cmp .Eq (.call 2 (.cons (.var 3) .nil)) (.call 2 (.cons (.var 4) .nil)))) (.seq (.ite (.or (.cmp .Is (.var 2) .non) (.one (.not (.var 5)))) (.seq (.ret (.and (.cmp .Is (.var 2) .non) (.one (.not (.var 5))))) .nil) .nil) (.seq (.ite (.not (.call 1 (.cons (.var 2) (.cons (.blt .len (.cons (.ix (.var 0) (.int 0)) .nil)) .nil)))) (.seq (.ret (.bl false)) .nil) .nil) (.seq (.set 6 (.comp false [9] (.nm 9) (.seq (.var 0)) .yes (.call 0 (.cons (.var 9) (.cons (.var 2) .nil))))) (.seq (.ret (.blt .all (.cons (.comp false [11, 12] (.tp (.cons (.nm 11) (.cons (.nm 12) .nil))) (.zip (.var 6) (.var 1)) .yes (.cmp .Eq (.bin .Mult (.ix (.var 11) (.int 0)) (.ix (.var 12) (.int 1))) (.bin .Mult (.ix (.var 12) (.int 0)) (.ix (.var 11) (.int 1))))) .nil))) .nil))))))))))
def N_law : List Str := ["_law_script", "_law_bag_here", "_law_turn", "_law_wide", "_law_rows", "_law_x", "_law_sums", "_law_results", "_law_moved", "_law_spot", "_law_by_here", "_law_row", "_law_a", "_law_k"]
def ps_law : List Str := ["_law_script"]
def gm_law : List Str := ["_law_system_so", "_law_pick", "_law_low", "_law_plus", "_law_draw", "_law_dot", "_law_few", "_law_system", "_law_bag"]
def y_law : YS := (.seq (.set 1 (.call 8 (.cons (.var 0) .nil))) (.seq (.for_ (.nm 2) (.rng (.int 3)) (.seq (.set 3 (.bin .Add (.int 1) (.call 4 (.cons (.var 1) (.cons (.int 4) .nil))))) (.seq (.set 4 (.call 7 (.cons (.var 1) (.cons (.var 3) .nil)))) (.seq (.set 5 (.blt .tuple (.cons (.comp false [13] (.nm 13) (.rng (.var 3)) .yes (.call 6 (.cons (.var 1) (.cons (.int 9) .nil)))) .nil))) (.seq (.set 6 (.comp false [11] (.nm 11) (.seq (.var 4)) .yes (.call 5 (.cons (.var 11) (.cons (.var 5) .nil))))) (.seq (.set 7 (.comp false [12] (.nm 12) (.seq (.var 6)) .yes (.call 2 (.cons (.ix (.var 12) (.int 0)) (.cons (.ix (.var 12) (.int 1)) .nil))))) (.seq (.ite (.not (.call 0 (.cons (.var 4) (.cons (.var 7) .nil)))) (.seq (.ret (.bl false)) .nil) .nil) (.seq (.par 9 10 (.cons (.call 4 (.cons (.var 1) (.cons (.blt .len (.cons (.var 4) .nil)) .nil))) (.cons (.call 1 (.cons (.var 1) (.cons (.lst false (.cons (.tup (.cons (.int 1) (.cons (.int 1) .nil))) (.cons (.tup (.cons (.neg (.int 1)) (.cons (.int 2) .nil))) (.cons (.tup (.cons (.int 5) (.cons (.int 3) .nil))) .nil)))) .nil))) .nil))) (.seq (.set 8 (.call 3 (.cons (.ix (.var 7) (.var 9)) (.cons (.var 10) .nil)))) (.seq (.ite (.not (.call 0 (.cons (.var 4) (.cons (.bin .Add (.bin .Add (.sl (.var 7) .nop (.sm (.var 9))) (.lst false (.cons (.call 2 (.cons (.ix (.var 8) (.int 0)) (.cons (.ix (.var 8) (.int 1)) .nil))) .nil))) (.sl (.var 7) (.sm (.bin .Add (.var 9) (.int 1))) .nop)) .nil)))) (.seq (.ret (.bl false)) .nil) .nil) (.seq (.ite (.not (.call 0 (.cons (.bin .Add (.var 4) (.lst false (.cons (.bin .Mult (.tup (.cons (.tup (.cons (.int 0) (.cons (.int 1) .nil))) .nil)) (.var 3)) .nil))) (.cons (.bin .Add (.var 7) (.lst false (.cons (.call 1 (.cons (.var 1) (.cons (.lst false (.cons (.tup (.cons (.int 0) (.cons (.int 1) .nil))) (.cons (.tup (.cons (.int 1) (.cons (.int 3) .nil))) .nil))) .nil))) .nil))) .nil)))) (.seq (.ret (.bl false)) .nil) .nil) .nil))))))))))) (.seq (.ret (.bl true)) .nil)))
theorem ck_common_divisor : (ckS gm_common_divisor y_common_divisor ⟨N_common_divisor, defScope (top 4), defScope (top 4)⟩).B (defBody (top 4)) = true := by decide +kernel
theorem ck_ratio : (ckS gm_ratio y_ratio ⟨N_ratio, defScope (top 5), defScope (top 5)⟩).B (defBody (top 5)) = true := by decide +kernel
theorem ck_minus : (ckS gm_minus y_minus ⟨N_minus, defScope (top 6), defScope (top 6)⟩).B (defBody (top 6)) = true := by decide +kernel
theorem ck_times : (ckS gm_times y_times ⟨N_times, defScope (top 7), defScope (top 7)⟩).B (defBody (top 7)) = true := by decide +kernel
theorem ck_common : (ckS gm_common y_common ⟨N_common, defScope (top 9), defScope (top 9)⟩).B (defBody (top 9)) = true := by decide +kernel
theorem ck_multiplied : (ckS gm_multiplied y_multiplied ⟨N_multiplied, defScope (top 10), defScope (top 10)⟩).B (defBody (top 10)) = true := by decide +kernel
theorem ck_lowest : (ckS gm_lowest y_lowest ⟨N_lowest, defScope (top 11), defScope (top 11)⟩).B (defBody (top 11)) = true := by decide +kernel
theorem ck_cleared : (ckS gm_cleared y_cleared ⟨N_cleared, defScope (top 12), defScope (top 12)⟩).B (defBody (top 12)) = true := by decide +kernel
theorem ck_place_of : (ckS gm_place_of y_place_of ⟨N_place_of, defScope (top 13), defScope (top 13)⟩).B (defBody (top 13)) = true := by decide +kernel
theorem ck_filled : (ckS gm_filled y_filled ⟨N_filled, defScope (top 14), defScope (top 14)⟩).B (defBody (top 14)) = true := by decide +kernel
theorem ck_solved : (ckS gm_solved y_solved ⟨N_solved, defScope (top 15), defScope (top 15)⟩).B (defBody (top 15)) = true := by decide +kernel
theorem ck__law_bag : (ckS gm__law_bag y__law_bag ⟨N__law_bag, defScope (top 17), defScope (top 17)⟩).B (defBody (top 17)) = true := by decide +kernel
theorem ck__law_draw : (ckS gm__law_draw y__law_draw ⟨N__law_draw, defScope (top 18), defScope (top 18)⟩).B (defBody (top 18)) = true := by decide +kernel
theorem ck__law_pick : (ckS gm__law_pick y__law_pick ⟨N__law_pick, defScope (top 19), defScope (top 19)⟩).B (defBody (top 19)) = true := by decide +kernel
theorem ck__law_huge : (ckS gm__law_huge y__law_huge ⟨N__law_huge, defScope (top 20), defScope (top 20)⟩).B (defBody (top 20)) = true := by decide +kernel
theorem ck__law_int : (ckS gm__law_int y__law_int ⟨N__law_int, defScope (top 21), defScope (top 21)⟩).B (defBody (top 21)) = true := by decide +kernel
theorem ck__law_same : (ckS gm__law_same y__law_same ⟨N__law_same, defScope (top 22), defScope (top 22)⟩).B (defBody (top 22)) = true := by decide +kernel
theorem ck__law_gcd : (ckS gm__law_gcd y__law_gcd ⟨N__law_gcd, defScope (top 23), defScope (top 23)⟩).B (defBody (top 23)) = true := by decide +kernel
theorem ck__law_low : (ckS gm__law_low y__law_low ⟨N__law_low, defScope (top 24), defScope (top 24)⟩).B (defBody (top 24)) = true := by decide +kernel
theorem ck__law_is_fraction : (ckS gm__law_is_fraction y__law_is_fraction ⟨N__law_is_fraction, defScope (top 25), defScope (top 25)⟩).B (defBody (top 25)) = true := by decide +kernel
theorem ck__law_few : (ckS gm__law_few y__law_few ⟨N__law_few, defScope (top 26), defScope (top 26)⟩).B (defBody (top 26)) = true := by decide +kernel
theorem ck__law_is_point : (ckS gm__law_is_point y__law_is_point ⟨N__law_is_point, defScope (top 27), defScope (top 27)⟩).B (defBody (top 27)) = true := by decide +kernel
theorem ck__law_plus : (ckS gm__law_plus y__law_plus ⟨N__law_plus, defScope (top 28), defScope (top 28)⟩).B (defBody (top 28)) = true := by decide +kernel
theorem ck__law_by : (ckS gm__law_by y__law_by ⟨N__law_by, defScope (top 29), defScope (top 29)⟩).B (defBody (top 29)) = true := by decide +kernel
theorem ck__law_dot : (ckS gm__law_dot y__law_dot ⟨N__law_dot, defScope (top 30), defScope (top 30)⟩).B (defBody (top 30)) = true := by decide +kernel
theorem ck__law_rank : (ckS gm__law_rank y__law_rank ⟨N__law_rank, defScope (top 31), defScope (top 31)⟩).B (defBody (top 31)) = true := by decide +kernel
theorem ck__law_whole_row : (ckS gm__law_whole_row y__law_whole_row ⟨N__law_whole_row, defScope (top 32), defScope (top 32)⟩).B (defBody (top 32)) = true := by decide +kernel
theorem ck__law_system : (ckS gm__law_system y__law_system ⟨N__law_system, defScope (top 33), defScope (top 33)⟩).B (defBody (top 33)) = true := by decide +kernel
theorem ck__law_system_so : (ckS gm__law_system_so y__law_system_so ⟨N__law_system_so, defScope (top 34), defScope (top 34)⟩).B (defBody (top 34)) = true := by decide +kernel
theorem ck_law : (ckS gm_law y_law ⟨N_law, defScope (top 35), defScope (top 35)⟩).B (defBody (top 35)) = true := by decide +kernel
theorem sc_common_divisor : C8.scC N_common_divisor ps_common_divisor (defScope (top 4)) = true := by decide +kernel
theorem sc_ratio : C8.scC N_ratio ps_ratio (defScope (top 5)) = true := by decide +kernel
theorem sc_minus : C8.scC N_minus ps_minus (defScope (top 6)) = true := by decide +kernel
theorem sc_times : C8.scC N_times ps_times (defScope (top 7)) = true := by decide +kernel
theorem sc_common : C8.scC N_common ps_common (defScope (top 9)) = true := by decide +kernel
theorem sc_multiplied : C8.scC N_multiplied ps_multiplied (defScope (top 10)) = true := by decide +kernel
theorem sc_lowest : C8.scC N_lowest ps_lowest (defScope (top 11)) = true := by decide +kernel
theorem sc_cleared : C8.scC N_cleared ps_cleared (defScope (top 12)) = true := by decide +kernel
theorem sc_place_of : C8.scC N_place_of ps_place_of (defScope (top 13)) = true := by decide +kernel
theorem sc_filled : C8.scC N_filled ps_filled (defScope (top 14)) = true := by decide +kernel
theorem sc_solved : C8.scC N_solved ps_solved (defScope (top 15)) = true := by decide +kernel
theorem sc__law_bag : C8.scC N__law_bag ps__law_bag (defScope (top 17)) = true := by decide +kernel
theorem sc__law_draw : C8.scC N__law_draw ps__law_draw (defScope (top 18)) = true := by decide +kernel
theorem sc__law_pick : C8.scC N__law_pick ps__law_pick (defScope (top 19)) = true := by decide +kernel
theorem sc__law_huge : C8.scC N__law_huge ps__law_huge (defScope (top 20)) = true := by decide +kernel
theorem sc__law_int : C8.scC N__law_int ps__law_int (defScope (top 21)) = true := by decide +kernel
theorem sc__law_same : C8.scC N__law_same ps__law_same (defScope (top 22)) = true := by decide +kernel
theorem sc__law_gcd : C8.scC N__law_gcd ps__law_gcd (defScope (top 23)) = true := by decide +kernel
theorem sc__law_low : C8.scC N__law_low ps__law_low (defScope (top 24)) = true := by decide +kernel
theorem sc__law_is_fraction : C8.scC N__law_is_fraction ps__law_is_fraction (defScope (top 25)) = true := by decide +kernel
theorem sc__law_few : C8.scC N__law_few ps__law_few (defScope (top 26)) = true := by decide +kernel
theorem sc__law_is_point : C8.scC N__law_is_point ps__law_is_point (defScope (top 27)) = true := by decide +kernel
theorem sc__law_plus : C8.scC N__law_plus ps__law_plus (defScope (top 28)) = true := by decide +kernel
theorem sc__law_by : C8.scC N__law_by ps__law_by (defScope (top 29)) = true := by decide +kernel
theorem sc__law_dot : C8.scC N__law_dot ps__law_dot (defScope (top 30)) = true := by decide +kernel
theorem sc__law_rank : C8.scC N__law_rank ps__law_rank (defScope (top 31)) = true := by decide +kernel
theorem sc__law_whole_row : C8.scC N__law_whole_row ps__law_whole_row (defScope (top 32)) = true := by decide +kernel
theorem sc__law_system : C8.scC N__law_system ps__law_system (defScope (top 33)) = true := by decide +kernel
theorem sc__law_system_so : C8.scC N__law_system_so ps__law_system_so (defScope (top 34)) = true := by decide +kernel
theorem sc_law : C8.scC N_law ps_law (defScope (top 35)) = true := by decide +kernel
end Z

set_option Elab.async false
set_option linter.all false
set_option maxRecDepth 100000
set_option maxHeartbeats 4000000
namespace Z
open PySem PySem.Spec PyProof.Rows L2
/-! ### steps of the reading, by cases -/
theorem nrm_d {O : List DO} {x : D} : nrm O (.d x) = some x := rfl
theorem toD_d {O : List DO} {x : D} : toD O (.d x) = some x := by rw [toD]
theorem nrK_d {O : List DO} {x : D} {k : D → Prop} : nrK O (.d x) k = k x := rfl
theorem toK_d {O : List DO} {x : D} {k : D → Prop} : toK O (.d x) k = k x := by unfold toK; rw [toD_d]
theorem nrK_lst {O : List DO} {i : Nat} {ds : List D} {k : D → Prop} (h : go O i = some (.lst ds)) : nrK O (.o i) k = k (.lst ds) := by simp only [nrK, nrm, h]
theorem nrK_lst0 {O : List DO} {ds : List D} {k : D → Prop} : nrK (.lst ds :: O) (.o 0) k = k (.lst ds) := rfl
theorem nrK_lst1 {O : List DO} {x : DO} {ds : List D} {k : D → Prop} : nrK (x :: .lst ds :: O) (.o 1) k = k (.lst ds) := rfl
theorem nrK_frz {O : List DO} {i : Nat} {ds : List D} {k : D → Prop} (h : go O i = some (.frz ds)) : nrK O (.o i) k = k (.lst ds) := by simp only [nrK, nrm, h]
theorem nrK_frz0 {O : List DO} {ds : List D} {k : D → Prop} : nrK (.frz ds :: O) (.o 0) k = k (.lst ds) := rfl
theorem nrK_frz1 {O : List DO} {x : DO} {ds : List D} {k : D → Prop} : nrK (x :: .frz ds :: O) (.o 1) k = k (.lst ds) := rfl
theorem nrK_brw {O : List DO} {i : Nat} {ds : List D} {k : D → Prop} (h : go O i = some (.brw ds)) : nrK O (.o i) k = k (.lst ds) := by simp only [nrK, nrm, h]
theorem nrK_brw0 {O : List DO} {ds : List D} {k : D → Prop} : nrK (.brw ds :: O) (.o 0) k = k (.lst ds) := rfl
theorem nrK_brw1 {O : List DO} {x : DO} {ds : List D} {k : D → Prop} : nrK (x :: .brw ds :: O) (.o 1) k = k (.lst ds) := rfl
theorem oneK_1 {u : U} {k : U → Prop} : oneK [u] k = k u := rfl
theorem boolK_1 {b : Bool} {k : Bool → Prop} : boolK [.d (.bl b)] k = k b := rfl
theorem nrs_nil {O : List DO} : nrs O [] = some [] := rfl
theorem nrs_d {O : List DO} {x : D} {us : List U} : nrs O (.d x :: us) = (nrs O us).map (x :: ·) := by
  rw [nrs, nrm_d]
  cases nrs O us <;> rfl
theorem toDs_nil {O : List DO} : toDs O [] = some [] := by rw [toDs]
theorem toDs_d {O : List DO} {x : D} {us : List U} : toDs O (.d x :: us) = (toDs O us).map (x :: ·) := by
  rw [toDs, toD_d]
  cases toDs O us <;> rfl
theorem nrsK_some {O : List DO} {us : List U} {ds : List D} {k : List D → Prop} (h : nrs O us = some ds) : nrsK O us k = k ds := by unfold nrsK; rw [h]
theorem tosK_some {O : List DO} {us : List U} {ds : List D} {k : List D → Prop} (h : toDs O us = some ds) : tosK O us k = k ds := by unfold tosK; rw [h]
theorem nrsK_1 {O : List DO} {x : D} {k : List D → Prop} : nrsK O [.d x] k = k [x] := rfl
theorem nrsK_2 {O : List DO} {x y : D} {k : List D → Prop} : nrsK O [.d x, .d y] k = k [x, y] := rfl
theorem nrsK_o {O : List DO} {i : Nat} {ds : List D} {k : List D → Prop} (h : nrm O (.o i) = some (.lst ds)) : nrsK O [.o i] k = k [.lst ds] := by unfold nrsK; rw [nrs, h]; rfl
theorem tosK_0 {O : List DO} {k : List D → Prop} : tosK O [] k = k [] := tosK_some toDs_nil
theorem tosK_1 {O : List DO} {x : D} {k : List D → Prop} : tosK O [.d x] k = k [x] := tosK_some (by simp [toDs_d, toDs_nil])
theorem tosK_2 {O : List DO} {x y : D} {k : List D → Prop} : tosK O [.d x, .d y] k = k [x, y] := tosK_some (by simp [toDs_d, toDs_nil])
theorem tosK_3 {O : List DO} {x y z : D} {k : List D → Prop} : tosK O [.d x, .d y, .d z] k = k [x, y, z] := tosK_some (by simp [toDs_d, toDs_nil])
theorem tosK_5 {O : List DO} {x y z a b : D} {k : List D → Prop} : tosK O [.d x, .d y, .d z, .d a, .d b] k = k [x, y, z, a, b] := tosK_some (by simp [toDs_d, toDs_nil])
theorem add_i {i j : Int} {Q : D → Prop} : binD .Add (.int i) (.int j) Q = Q (.int (i + j)) := rfl
theorem sub_i {i j : Int} {Q : D → Prop} : binD .Sub (.int i) (.int j) Q = Q (.int (i - j)) := rfl
theorem mul_i {i j : Int} {Q : D → Prop} : binD .Mult (.int i) (.int j) Q = (MulOk i j ∧ Q (.int (i * j))) := rfl
theorem div_i {i j : Int} {Q : D → Prop} : binD .FloorDiv (.int i) (.int j) Q = (DivOk j ∧ Q (.int (i.fdiv j))) := rfl
theorem mod_i {i j : Int} {Q : D → Prop} : binD .Mod (.int i) (.int j) Q = (j ≠ 0 ∧ Q (.int (i.fmod j))) := rfl
theorem pow_i {i j : Int} {Q : D → Prop} : binD .Pow (.int i) (.int j) Q = (CPow i j ∧ Q (.int (i ^ j.toNat))) := rfl
theorem eq_i {i j : Int} {Q : Bool → Prop} : cmpD .Eq (.int i) (.int j) Q = Q (decide (i = j)) := rfl
theorem ne_i {i j : Int} {Q : Bool → Prop} : cmpD .NotEq (.int i) (.int j) Q = Q (!(decide (i = j))) := rfl
theorem lt_i {i j : Int} {Q : Bool → Prop} : cmpD .Lt (.int i) (.int j) Q = Q (decide (i < j)) := rfl
theorem le_i {i j : Int} {Q : Bool → Prop} : cmpD .LtE (.int i) (.int j) Q = Q (decide (i ≤ j)) := rfl
theorem gt_i {i j : Int} {Q : Bool → Prop} : cmpD .Gt (.int i) (.int j) Q = Q (decide (i > j)) := rfl
theorem ge_i {i j : Int} {Q : Bool → Prop} : cmpD .GtE (.int i) (.int j) Q = Q (decide (i ≥ j)) := rfl
theorem len_l {ds : List D} {Q : D → Prop} : BF.op .len [.lst ds] Q = Q (.int ds.length) := rfl
theorem len_t {ds : List D} {Q : D → Prop} : BF.op .len [.tup ds] Q = Q (.int ds.length) := rfl
theorem abs_i {i : Int} {Q : D → Prop} : BF.op .abs [.int i] Q = Q (.int (i.natAbs : Nat)) := rfl
theorem int_i {i : Int} {Q : D → Prop} : BF.op .int [.int i] Q = Q (.int i) := rfl
theorem int_b {b : Bool} {Q : D → Prop} : BF.op .int [.bl b] Q = Q (.int (if b = true then 1 else 0)) := rfl
theorem list_l {ds : List D} {Q : D → Prop} : BF.op .list [.lst ds] Q = Q (.lst ds) := rfl
theorem list_t {ds : List D} {Q : D → Prop} : BF.op .list [.tup ds] Q = Q (.lst ds) := rfl
theorem tuple_l {ds : List D} {Q : D → Prop} : BF.op .tuple [.lst ds] Q = Q (.tup ds) := rfl
theorem tuple_t {ds : List D} {Q : D → Prop} : BF.op .tuple [.tup ds] Q = Q (.tup ds) := rfl
theorem ix_l {ds : List D} {i : Int} {Q : D → Prop} : ixD (.lst ds) (.int i) Q = ∃ d, atI ds i = some d ∧ Q d := rfl
theorem ix_t {ds : List D} {i : Int} {Q : D → Prop} : ixD (.tup ds) (.int i) Q = ∃ d, atI ds i = some d ∧ Q d := rfl
theorem ex_some {α : Type} {a : α} {P : α → Prop} : (∃ d, some a = some d ∧ P d) = P a := by
  refine propext ⟨?_, fun h => ⟨a, rfl, h⟩⟩
  rintro ⟨d, e, h⟩
  cases e
  exact h
theorem at_0 {α : Type} {a : α} {l : List α} : atI (a :: l) 0 = some a := by
  unfold atI ixN
  rw [if_pos (by decide), if_pos (by simp)]
  rfl
theorem at_1 {α : Type} {a b : α} {l : List α} : atI (a :: b :: l) 1 = some b := atI_nat (j := 1) rfl
theorem at_2 {α : Type} {a b c : α} {l : List α} : atI (a :: b :: c :: l) 2 = some c := atI_nat (j := 2) rfl
theorem at_3 {α : Type} {a b c d : α} {l : List α} : atI (a :: b :: c :: d :: l) 3 = some d := atI_nat (j := 3) rfl
theorem at_4 {α : Type} {a b c d e : α} {l : List α} : atI (a :: b :: c :: d :: e :: l) 4 = some e := atI_nat (j := 4) rfl
theorem ixN_nat {n j : Nat} (h : j < n) : ixN n (j : Int) = some j := by
  unfold ixN
  rw [if_pos (by omega), if_pos (by omega)]
  rfl
theorem ixN_0 {n : Nat} : ixN (n + 1) 0 = some 0 := ixN_nat (j := 0) (by omega)
theorem ixN_5 {i : Int} {a b c d e : D} (j : Nat) (h : i = j) (l : j < 5) : ixN [a, b, c, d, e].length i = some j := by rw [h]; exact ixN_nat l
theorem at_nat {α : Type} {l : List α} {j : Nat} (h : j < l.length) : atI l (j : Int) = some l[j] := atI_nat (List.getElem?_eq_getElem h)
theorem ix5_0 {α : Type} {a b c d e : α} : ixN [a, b, c, d, e].length 0 = some 0 := ixN_nat (j := 0) (by decide : 0 < 5)
theorem ix5_1 {α : Type} {a b c d e : α} : ixN [a, b, c, d, e].length 1 = some 1 := ixN_nat (j := 1) (by decide : 1 < 5)
theorem ix5_2 {α : Type} {a b c d e : α} : ixN [a, b, c, d, e].length 2 = some 2 := ixN_nat (j := 2) (by decide : 2 < 5)
theorem ix5_3 {α : Type} {a b c d e : α} : ixN [a, b, c, d, e].length 3 = some 3 := ixN_nat (j := 3) (by decide : 3 < 5)
theorem ix5_4 {α : Type} {a b c d e : α} : ixN [a, b, c, d, e].length 4 = some 4 := ixN_nat (j := 4) (by decide : 4 < 5)
theorem true_and' {p q : Prop} : ((true = true → p) ∧ (true = false → q)) = p := propext ⟨fun h => h.1 rfl, fun h => ⟨fun _ => h, fun z => by cases z⟩⟩
theorem false_and' {p q : Prop} : ((false = true → p) ∧ (false = false → q)) = q := propext ⟨fun h => h.2 rfl, fun h => ⟨fun z => (by cases z), fun _ => h⟩⟩
theorem dec_t {p : Prop} [Decidable p] {a b : Prop} (h : p) : ((decide p = true → a) ∧ (decide p = false → b)) = a := by rw [decide_eq_true h]; exact true_and'
theorem dec_f {p : Prop} [Decidable p] {a b : Prop} (h : ¬ p) : ((decide p = true → a) ∧ (decide p = false → b)) = b := by rw [decide_eq_false h]; exact false_and'
/-- two ways by a test -/
theorem way {p : Prop} [Decidable p] {a b : Prop} (h1 : p → a) (h2 : ¬ p → b) : (decide p = true → a) ∧ (decide p = false → b) := ⟨fun h => h1 (of_decide_eq_true h), fun h => h2 (of_decide_eq_false h)⟩
theorem wayN {p : Prop} [Decidable p] {a b : Prop} (h1 : ¬ p → a) (h2 : p → b) : ((!(decide p)) = true → a) ∧ ((!(decide p)) = false → b) :=
  ⟨fun h => h1 (of_decide_eq_false (by simpa using h)), fun h => h2 (by simpa using h)⟩
/-! ### calls -/
theorem lendU_d {O : List DO} : ∀ {ds : List D} {f : Bool} {j : Nat}, lendU O f (ds.map .d) j = some (ds.map .d, [], [])
  | [], _, _ => by rw [List.map_nil, lendU]
  | d :: ds, f, j => by
    have ih := @lendU_d O ds false j
    rw [List.map_cons, lendU]
    · simp only [toD_d, ih]
    · intro k z
      cases z
theorem mrg_nil {A O : List DO} : mrg [] [] A O = some (O ++ A) := by rw [mrg]
theorem shU_d {f : Nat → Nat} {d : D} : shU f (.d d) = .d d := by rw [shU]
theorem shU_o {f : Nat → Nat} {k : Nat} : shU f (.o k) = .o (f k) := by rw [shU]
/-- a call by data -/
theorem callD {P : ZSp} {O : List DO} {Q : U → List DO → Prop} {E : ZX} (ds : List D) (h : P (ds.map .d) [] (fun u O' => Q (shU (ren [] O.length) u) (O ++ O')) (fun x O' => E x ((O ++ O').take O.length))) : callZ P (ds.map .d) O Q E :=
  ⟨ds.map .d, [], [], lendU_d, List.nodup_nil, by simpa only [mrg_nil, ex_some'] using h⟩
where ex_some' : ∀ {α : Type} {a : α} {P : α → Prop}, (∃ d, some a = some d ∧ P d) = P a := ex_some
/-- .. that gives data alone -/
theorem callD0 {P : ZSp} {O : List DO} {Q : U → List DO → Prop} {E : ZX} (ds : List D) (h : ∀ F X, (∀ d, Q (.d d) O → F (.d d) []) → P (ds.map .d) [] F X) : callZ P (ds.map .d) O Q E :=
  callD ds (h _ _ fun d q => by
    show Q (shU _ (.d d)) (O ++ [])
    rw [shU_d, List.append_nil]
    exact q)
/-- the first argument is an owned list, the others are data; data comes back -/
theorem callO {P : ZSp} {O : List DO} {Q : U → List DO → Prop} {E : ZX} {k : Nat} {l : List D} (ds : List D) (e : go O k = some (.lst l)) (h : ∀ F X, (∀ d l', Q (.d d) (so O k (.lst l')) → F (.d d) [.lst l']) → P (.o 0 :: ds.map .d) [.lst l] F X) : callZ P (.o k :: ds.map .d) O Q E := by
  refine ⟨.o 0 :: ds.map .d, [k], [.lst l], ?_, by simp, h _ _ fun d l' q => ⟨so O k (.lst l'), ?_, by rw [shU_d]; exact q⟩⟩
  · rw [lendU]
    simp only [e, lendU_d]
    rfl
  · rw [mrg, mrg_nil, List.append_nil]
/-- .. and a second owned list, to be read -/
theorem callOB {P : ZSp} {O : List DO} {Q : U → List DO → Prop} {E : ZX} {k j : Nat} {l m : List D} (ds : List D) (e : go O k = some (.lst l)) (e2 : go O j = some (.lst m)) (hkj : k ≠ j) (h : ∀ F X, (∀ d l', Q (.d d) (so O k (.lst l')) → F (.d d) [.lst l', .brw m]) → P (.o 0 :: .o 1 :: ds.map .d) [.lst l, .brw m] F X) : callZ P (.o k :: .o j :: ds.map .d) O Q E := by
  refine ⟨.o 0 :: .o 1 :: ds.map .d, [k, j], [.lst l, .brw m], ?_, by simp [hkj], h _ _ fun d l' q => ⟨so O k (.lst l'), ?_, by rw [shU_d]; exact q⟩⟩
  · rw [lendU]
    simp only [e]
    rw [lendU]
    simp only [e2, lendU_d]
    rfl
  · rw [mrg, mrg, mrg_nil, List.append_nil]
/-! ### for, comprehensions -/
theorem compR_nil {tg : T1} {vt ve : List (Option U) → List DO → ZQ → Prop} {ρ0 : List (Option U)} {n : Nat} {acc : List D} {O : List DO} {Q : List D → List DO → Prop} : compR tg vt ve ρ0 n [] acc O Q = Q acc O := by rw [compR]
mutual
theorem bindT_mono : ∀ {t : T1} {d : D} {ρ : List (Option U)} {k k' : List (Option U) → Prop}, (∀ ρ, k ρ → k' ρ) → bindT t d ρ k → bindT t d ρ k'
  | .nm i, d, ρ, k, k', h, q => h _ q
  | .tp r, d, ρ, k, k', h, q => by
    cases d <;> first | exact bindTs_mono (t := r) h q | exact False.elim q
  | .nil, d, ρ, k, k', h, q => q.elim
  | .cons _ _, d, ρ, k, k', h, q => q.elim
theorem bindTs_mono : ∀ {t : T1} {ds : List D} {ρ : List (Option U)} {k k' : List (Option U) → Prop}, (∀ ρ, k ρ → k' ρ) → bindTs t ds ρ k → bindTs t ds ρ k'
  | .nil, [], ρ, k, k', h, q => h _ q
  | .nil, _ :: _, ρ, k, k', h, q => q.elim
  | .cons a r, d :: ds, ρ, k, k', h, q => by
    have q' : bindT a d ρ fun ρ1 => bindTs r ds ρ1 k := q
    exact bindT_mono (t := a) (d := d) (k' := fun ρ1 => bindTs r ds ρ1 k') (fun ρ1 z => bindTs_mono h z) q'
  | .cons a r, [], ρ, k, k', h, q => q.elim
  | .nm _, ds, ρ, k, k', h, q => q.elim
  | .tp _, ds, ρ, k, k', h, q => q.elim
end
/-- no test -/
abbrev yesV : List (Option U) → List DO → ZQ → Prop := fun _ O Q => Q [.d (.bl true)] O
section
variable {Γ : List (Str × ZSp)} {tg : T1} {ve : List (Option U) → List DO → ZQ → Prop} {ρ0 : List (Option U)} {n : Nat} {Q : List D → List DO → Prop}
/-- a comprehension without a test, by an invariant -/
theorem compR_inv (I : Nat → List D → List DO → Prop) : ∀ (ds acc : List D) (O : List DO) (i : Nat), I i acc O →
    (∀ (j : Nat) d acc O, ds[j]? = some d → I (i + j) acc O → ∀ F : ZQ, (∀ x O2, I (i + j + 1) (acc ++ [x]) (O2.take n) → F [.d x] O2) → bindT tg d ρ0 fun ρ1 => ve ρ1 O F) → (∀ acc O, I (i + ds.length) acc O → Q acc O) →
    compR tg yesV ve ρ0 n ds acc O Q
  | [], acc, O, i, h0, hs, hq => by
    rw [compR_nil]
    exact hq _ _ h0
  | d :: ds, acc, O, i, h0, hs, hq => by
    rw [compR]
    refine bindT_mono (fun ρ1 z => ?_) (hs 0 d acc O rfl h0 (fun ws O2 => oneK ws fun w => toK O2 w fun x => compR tg yesV ve ρ0 n ds (acc ++ [x]) (O2.take n) Q) fun x O2 hx => ?_)
    · show boolK [.d (.bl true)] _
      rw [boolK_1]
      exact ⟨fun _ => z, fun h => by cases h⟩
    · rw [oneK_1, toK_d]
      refine compR_inv I ds (acc ++ [x]) (O2.take n) (i + 1) hx (fun j d' acc' O' e hi F hF => ?_) fun acc' O' hi => hq _ _ (by rw [List.length_cons, show i + (ds.length + 1) = i + 1 + ds.length by omega]; exact hi)
      refine hs (j + 1) d' acc' O' (by simpa using e) (by rw [show i + (j + 1) = i + 1 + j by omega]; exact hi) F fun x O2 hx => hF x O2 (by rw [show i + 1 + j + 1 = i + (j + 1) + 1 by omega]; exact hx)
/-- .. each item by f, the places as they are -/
theorem compR_map (f : D → D) {O : List DO} (hO : O.length ≤ n) (ds : List D) (hs : ∀ d ∈ ds, ∀ F : ZQ, F [.d (f d)] O → bindT tg d ρ0 fun ρ1 => ve ρ1 O F) (hq : Q (ds.map f) O) : compR tg yesV ve ρ0 n ds [] O Q := by
  have ht : O.take n = O := List.take_of_length_le hO
  refine compR_inv (fun i acc O' => acc = (ds.take i).map f ∧ O' = O) ds [] O 0 ⟨rfl, rfl⟩ (fun j d acc O' e ⟨h1, h2⟩ F hF => ?_) fun acc O' ⟨h1, h2⟩ => ?_
  · subst h2
    refine hs d (List.mem_of_getElem? e) F (hF _ _ ⟨?_, ht⟩)
    rw [h1, Nat.zero_add]
    obtain ⟨hj, e⟩ := List.getElem?_eq_some_iff.mp e
    rw [List.take_succ, List.getElem?_eq_getElem hj, e]
    simp
  · subst h2
    rw [h1, Nat.zero_add, List.take_length]
    exact hq
/-- .. those that pass a test alone -/
theorem compR_filter {vt : List (Option U) → List DO → ZQ → Prop} (p : D → Bool) (f : D → D) {O : List DO} (hO : O.length ≤ n) : ∀ (ds acc : List D)
    (hs : ∀ d ∈ ds, ∀ (F : ZQ) (S : List DO → Prop), (p d = true → F [.d (f d)] O) → (p d = false → S O) → bindT tg d ρ0 fun ρ1 => vt ρ1 O fun us O1 => boolK us fun b => (b = true → ve ρ1 O1 F) ∧ (b = false → S O1)) (hq : Q (acc ++ (ds.filter p).map f) O), compR tg vt ve ρ0 n ds acc O Q
  | [], acc, hs, hq => by
    rw [compR_nil]
    simpa using hq
  | d :: ds, acc, hs, hq => by
    have ht : O.take n = O := List.take_of_length_le hO
    have rest : ∀ acc, Q (acc ++ (ds.filter p).map f) O → compR tg vt ve ρ0 n ds acc O Q := fun acc hq => compR_filter p f hO ds acc (fun d h => hs d (List.mem_cons_of_mem _ h)) hq
    rw [compR]
    refine hs d List.mem_cons_self (fun ws O2 => oneK ws fun w => toK O2 w fun x => compR tg vt ve ρ0 n ds (acc ++ [x]) (O2.take n) Q) (fun O1 => compR tg vt ve ρ0 n ds acc (O1.take n) Q) (fun hp => ?_) fun hp => ?_
    · rw [oneK_1, toK_d, ht]
      refine rest _ ?_
      rw [List.filter_cons_of_pos hp] at hq
      simpa using hq
    · show compR tg vt ve ρ0 n ds acc (O.take n) Q
      rw [ht]
      refine rest _ ?_
      rw [List.filter_cons_of_neg (by simp [hp])] at hq
      exact hq
end
/-- a for by an invariant -/
theorem forR_inv {tg : T1} {body : ZS} {E : ZX} {D : ZD} {O0 : List DO} (I : Nat → List (Option U) → List DO → Prop) : ∀ (ds : List Z.D) (ρ : List (Option U)) (O : List DO) (i : Nat), I i ρ O →
    (∀ (j : Nat) d ρ O, ds[j]? = some d → I (i + j) ρ O → ∀ N : List (Option U) → List DO → Prop, (∀ ρ' O', I (i + j + 1) ρ' O' → N ρ' O') → bindT tg d ρ fun ρ1 => body (fun x O' => E x (unb O0 O')) ⟨N, fun u O' => D.rt u (unb O0 O'), fun ρ' O' => D.nx ρ' (unb O0 O'), N⟩ ρ1 O) →
    (∀ ρ O, I (i + ds.length) ρ O → D.nx ρ (unb O0 O)) → forR tg body E D O0 ds ρ O
  | [], ρ, O, i, h0, hs, hq => by
    rw [forR]
    exact hq _ _ h0
  | d :: ds, ρ, O, i, h0, hs, hq => by
    rw [forR]
    refine hs 0 d ρ O rfl h0 _ fun ρ' O' hi => ?_
    refine forR_inv I ds ρ' O' (i + 1) hi (fun j d' ρ2 O2 e h N hN => ?_) fun ρ2 O2 h => hq _ _ (by rw [List.length_cons, show i + (ds.length + 1) = i + 1 + ds.length by omega]; exact h)
    exact hs (j + 1) d' ρ2 O2 (by simpa using e) (by rw [show i + (j + 1) = i + 1 + j by omega]; exact h) N fun ρ' O' h => hN ρ' O' (by rw [show i + 1 + j + 1 = i + (j + 1) + 1 by omega]; exact h)
theorem unb_nil {O : List DO} : unb [] O = O := by rw [unb]
theorem brK_d {O : List DO} {x : D} {k : D → List DO → Prop} : brK O (.d x) k = k x O := by
  unfold brK
  show (match toD O (.d x) with
    | some x => k x O
    | none => False) = _
  rw [toD_d]
theorem unb_0 {O : List DO} : unb [] O = O := by rw [unb]
end Z

set_option Elab.async false
set_option linter.all false
set_option maxRecDepth 100000
set_option maxHeartbeats 4000000
namespace Z
open PySem PySem.Spec PyProof.Rows L2
/-- gcd of two numbers -/
def gcdZ : ZSp := fun us O Q _ => ∃ a b : Int, us = [.d (.int a), .d (.int b)] ∧ O = [] ∧ Q (.d (.int (Int.gcd a b : Nat))) []
theorem k_common_divisor : Keeps [] y_common_divisor N_common_divisor.length gcdZ := by
  rintro us O Q E ⟨a, b, rfl, rfl, h⟩
  show vcS [] y_common_divisor E _ [some (.d (.int a)), some (.d (.int b)), none, none] []
  simp only [y_common_divisor, vcS, vc, gt, st, oneK_1, nrsK_1, abs_i]
  refine ⟨fun m ρ O => ∃ x y : Nat, ρ = [some (.d (.int a)), some (.d (.int b)), some (.d (.int x)), some (.d (.int y))] ∧ O = [] ∧ m = y ∧ Nat.gcd x y = Int.gcd a b, ⟨_, a.natAbs, b.natAbs, rfl, rfl, rfl, rfl⟩, ?_⟩
  rintro m ρ O ⟨x, y, rfl, rfl, rfl, hg⟩
  simp only [gt, st, oneK_1, nrK_d, ne_i, boolK_1, mod_i]
  have e1 : (x : Int).fmod m = ((x % m : Nat) : Int) := by rw [Int.fmod_eq_emod_of_nonneg _ (by omega)]; rfl
  refine wayN (fun hy => ⟨hy, x % m, Nat.mod_lt _ (by omega), m, x % m, by rw [e1], trivial, rfl, ?_⟩) (fun hy => ?_)
  · rw [← hg, Nat.gcd_comm m, ← Nat.gcd_rec, Nat.gcd_comm]
  · have : m = 0 := by omega
    subst this
    rw [Nat.gcd_zero_right] at hg
    rw [hg]
    exact h
theorem k_law_gcd : Keeps [] y__law_gcd N__law_gcd.length gcdZ := by
  rintro us O Q E ⟨a, b, rfl, rfl, h⟩
  show vcS [] y__law_gcd E _ [some (.d (.int a)), some (.d (.int b))] []
  simp only [y__law_gcd, vcS, vc, gt, st, oneK_1, nrsK_1, abs_i]
  refine ⟨fun m ρ O => ∃ x y : Nat, ρ = [some (.d (.int x)), some (.d (.int y))] ∧ O = [] ∧ m = y ∧ Nat.gcd x y = Int.gcd a b, ⟨_, a.natAbs, b.natAbs, rfl, rfl, rfl, rfl⟩, ?_⟩
  rintro m ρ O ⟨x, y, rfl, rfl, rfl, hg⟩
  simp only [gt, st, oneK_1, nrK_d, ne_i, boolK_1, mod_i, nrsK_1, int_i]
  have e1 : (x : Int).fmod m = ((x % m : Nat) : Int) := by rw [Int.fmod_eq_emod_of_nonneg _ (by omega)]; rfl
  refine wayN (fun hy => ⟨hy, x % m, Nat.mod_lt _ (by omega), m, x % m, by rw [e1], trivial, rfl, ?_⟩) (fun hy => ?_)
  · rw [← hg, Nat.gcd_comm m, ← Nat.gcd_rec, Nat.gcd_comm]
  · have : m = 0 := by omega
    subst this
    rw [Nat.gcd_zero_right] at hg
    rw [hg]
    exact h
/-! ### the bag -/
def BagOk (ds : List D) : Prop := ∃ (cs : List Int) (pos left seed cnt : Int), ds = [.lst (cs.map .int), .int pos, .int left, .int seed, .int cnt] ∧ 0 ≤ pos ∧ 0 ≤ left ∧ 0 ≤ seed ∧ seed < 2147483249
def bagZ : ZSp := fun us O Q _ => ∃ ns : List Int, us = [.d (.scr ns)] ∧ O = [] ∧ ∀ ds, BagOk ds → Q (.o 0) [.lst ds]
theorem cutL_len {β : Type} (xs : List β) (n : Nat) : (cutL xs none (some (n : Int))).length ≤ n := by
  unfold cutL
  rw [List.length_take, HT.sIx_nat, HT.sIx_none]
  omega
theorem k_law_bag : Keeps [] y__law_bag N__law_bag.length bagZ := by
  rintro us O Q E ⟨ns, rfl, rfl, h⟩
  show vcS [] y__law_bag E _ [some (.d (.scr ns)), none] []
  simp only [y__law_bag, vcS, vc, gt, st, oneK_1, nrsK_1, partK, nrK_d, slD, list_l, len_l, mul_i, add_i, tosK_5, newL]
  have hl := cutL_len ns 63
  refine ⟨mulOk_l (by decide) (by decide), (by decide : 5 ≤ sizeLine), h _ ⟨_, 0, 0, _, 0, rfl, by decide, by decide, ?_, ?_⟩⟩
  · omega
  · rw [List.length_map]
    have : (cutL ns none (some 63)).length ≤ 63 := hl
    omega
def drawZ : ZSp := fun us O Q _ => ∃ (ds : List D) (n : Int), us = [.o 0, .d (.int n)] ∧ O = [.lst ds] ∧ BagOk ds ∧ 1 ≤ n ∧ n < 2 ^ 200 ∧ ∀ r ds', 0 ≤ r → r < n → BagOk ds' → Q (.d (.int r)) [.lst ds']
theorem divOk_pos {n : Int} (h : 1 ≤ n) (h2 : n < 2 ^ 200) : DivOk n := ⟨by omega, by
  have : n.natAbs < 2 ^ 200 := by omega
  have := PySem.Flt.log2_lt_of (by decide) this
  omega⟩
theorem k_law_draw : Keeps [] y__law_draw N__law_draw.length drawZ := by
  rintro us O Q E ⟨ds, n, rfl, rfl, ⟨cs, pos, left, seed, cnt, rfl, hp, hl, hs0, hs1⟩, hn, hn2, h⟩
  show vcS [] y__law_draw E _ [some (.o 0), some (.d (.int n)), none, none, none] _
  simp only [y__law_draw, vcS, vc, gt, st, go, so, oneK_1, nrK_d, nrK_lst0, ix_l, at_0, at_1, at_2, at_3, at_4, ex_some, add_i, toK_d, eq_i, boolK_1, ix5_0, ix5_1, ix5_2, ix5_3, ix5_4, List.set_cons_zero, List.set_cons_succ, nrsK_1, len_l, lt_i, gt_i, int_i, mod_i, mul_i, div_i, pow_i]
  have cnt' : ∀ c : Int, MulOk c 1299721 := fun c => mulOk_r (by decide) (by decide)
  have seedOk : ∀ x : Int, 0 ≤ x.fmod 2147483249 ∧ x.fmod 2147483249 < 2147483249 := fun x => ⟨Int.fmod_nonneg_of_pos _ (by decide), Int.fmod_lt_of_pos _ (by decide)⟩
  have digit : ∀ (x pos left seed cnt : Int), 0 ≤ pos → 0 ≤ left → 0 ≤ seed → seed < 2147483249 → Q (.d (.int (x.fmod n))) [.lst [.lst (cs.map .int), .int pos, .int left, .int seed, .int cnt]] := fun x pos left seed cnt h1 h2 h3 h4 =>
    h _ _ (Int.fmod_nonneg_of_pos _ (by omega)) (Int.fmod_lt_of_pos _ (by omega)) ⟨cs, pos, left, seed, cnt, rfl, h1, h2, h3, h4⟩
  have pow3 : ∀ s : Int, 0 ≤ s → s < 2147483249 → CPow s 3 := fun s h1 h2 => ⟨by decide, by decide, by omega⟩
  have dn : DivOk n := divOk_pos hn hn2
  have dn0 : n ≠ 0 := by omega
  have d71 : DivOk 71 := divOk_pos (by decide) (by decide)
  have fd : ∀ x : Int, 0 ≤ x → 0 ≤ x.fdiv n := fun x hx => Int.fdiv_nonneg hx (by omega)
  have gen : ∀ (x pos seed cnt : Int), 0 ≤ pos → 0 ≤ seed → seed < 2147483249 → 0 ≤ x → (CPow seed 3 ∧ MulOk seed 31181 ∧ MulOk cnt 1299721 ∧ (2147483249 : Int) ≠ 0 ∧ DivOk 71 ∧ (8111 : Int) ≠ 0 ∧ MulOk ((((seed ^ Int.toNat 3 + seed * 31181 + cnt * 1299721 + 60637).fmod 2147483249)).fmod 8111) 59 ∧ n ≠ 0 ∧
      Q (.d (.int ((((seed ^ Int.toNat 3 + seed * 31181 + cnt * 1299721 + 60637).fmod 2147483249).fdiv 71 + ((seed ^ Int.toNat 3 + seed * 31181 + cnt * 1299721 + 60637).fmod 2147483249).fmod 8111 * 59).fmod n)))
        [.lst [.lst (cs.map .int), .int pos, .int x, .int ((seed ^ Int.toNat 3 + seed * 31181 + cnt * 1299721 + 60637).fmod 2147483249), .int cnt]]) := fun x pos seed cnt h1 h2 h3 hx =>
    ⟨pow3 seed h2 h3, mulOk_r (by decide) (by decide), cnt' _, by decide, d71, by decide, mulOk_r (by decide) (by decide), dn0, digit _ _ _ _ _ h1 hx (seedOk _).1 (seedOk _).2⟩
  refine way (fun h0 => way (fun h1 => ?_) fun h1 => ?_) fun h0 => ?_
  · rw [List.length_map] at h1
    obtain ⟨j, rfl⟩ := Int.eq_ofNat_of_zero_le hp
    have hj : j < cs.length := by omega
    refine ⟨.int cs[j], atI_nat (by simp [hj]), ?_⟩
    simp only [abs_i, ge_i, boolK_1, gt_i, int_i, mod_i, mul_i, add_i, div_i, pow_i]
    refine ⟨⟨by decide, by decide, by decide⟩, way (fun h2 => way (fun h3 => ⟨dn0, dn, digit _ _ _ _ _ (by omega) (fd _ (by omega)) hs0 hs1⟩) fun h3 => gen _ _ _ _ (by omega) hs0 hs1 (by omega)) fun h2 => ?_⟩
    refine ⟨mulOk_r (by decide) (by decide), by decide, mulOk_r (by decide) (by decide), by decide, way (fun h3 => ⟨dn0, dn, digit _ _ _ _ _ (by omega) (fd _ hl) (seedOk _).1 (seedOk _).2⟩) fun h3 => gen _ _ _ _ (by omega) (seedOk _).1 (seedOk _).2 hl⟩
  · exact way (fun h3 => ⟨dn0, dn, digit _ _ _ _ _ hp (fd _ hl) hs0 hs1⟩) fun h3 => gen _ _ _ _ hp hs0 hs1 hl
  · exact ⟨(fun z => by cases z), fun _ => way (fun h3 => ⟨dn0, dn, digit _ _ _ _ _ hp (fd _ hl) hs0 hs1⟩) fun h3 => gen _ _ _ _ hp hs0 hs1 hl⟩
end Z

set_option Elab.async false
set_option linter.all false
set_option maxRecDepth 100000
set_option maxHeartbeats 4000000
namespace Z
open PySem PySem.Spec PyProof.Rows L2
def fr (p q : Int) : D := .tup [.int p, .int q]
/-! ### whole numbers -/
theorem low_math {n m : Int} (hm : m ≠ 0) (s : Int) (hs : s = if m > 0 then 1 else -1) : 0 < m.fdiv ((Int.gcd n m : Nat) * s) ∧ Int.gcd (n.fdiv ((Int.gcd n m : Nat) * s)) (m.fdiv ((Int.gcd n m : Nat) * s)) = 1 ∧ n.fdiv ((Int.gcd n m : Nat) * s) * m = n * m.fdiv ((Int.gcd n m : Nat) * s) := by
  have hg : 0 < Int.gcd n m := Int.gcd_pos_of_ne_zero_right n hm
  obtain ⟨a, ha⟩ : ((Int.gcd n m : Nat) : Int) ∣ n := Int.gcd_dvd_left ..
  obtain ⟨b, hb⟩ : ((Int.gcd n m : Nat) : Int) ∣ m := Int.gcd_dvd_right ..
  generalize hgg : Int.gcd n m = g at *
  have hg0 : ((g : Nat) : Int) ≠ 0 := by omega
  have hcop : Int.gcd a b = 1 := by
    have h := Int.gcd_mul_left (g : Int) a b
    rw [← ha, ← hb, hgg] at h
    have h2 : ((g : Nat) : Int).natAbs = g := by omega
    rw [h2] at h
    exact (Nat.eq_of_mul_eq_mul_left hg (by omega : g * Int.gcd a b = g * 1))
  have hb0 : b ≠ 0 := fun z => hm (by rw [hb, z, Int.mul_zero])
  by_cases hp : m > 0
  · rw [if_pos hp] at hs
    subst hs
    have e1 : n.fdiv ((g : Int) * 1) = a := by rw [Int.mul_one, ha, Int.mul_fdiv_cancel_left _ hg0]
    have e2 : m.fdiv ((g : Int) * 1) = b := by rw [Int.mul_one, hb, Int.mul_fdiv_cancel_left _ hg0]
    rw [e1, e2]
    refine ⟨?_, hcop, ?_⟩
    · rw [hb] at hp
      exact Int.pos_of_mul_pos_right hp (by omega)
    · rw [ha, hb]
      rw [Int.mul_left_comm, ← Int.mul_assoc]
  · rw [if_neg hp] at hs
    subst hs
    have e1 : n.fdiv ((g : Int) * -1) = -a := by
      have h : n = ((g : Int) * -1) * (-a) := by rw [Int.mul_neg, Int.mul_neg, Int.mul_one, Int.neg_mul, Int.neg_neg]; exact ha
      rw [h, Int.mul_fdiv_cancel_left _ (by omega)]
    have e2 : m.fdiv ((g : Int) * -1) = -b := by
      have h : m = ((g : Int) * -1) * (-b) := by rw [Int.mul_neg, Int.mul_neg, Int.mul_one, Int.neg_mul, Int.neg_neg]; exact hb
      rw [h, Int.mul_fdiv_cancel_left _ (by omega)]
    rw [e1, e2]
    refine ⟨?_, by rw [Int.neg_gcd, Int.gcd_neg]; exact hcop, ?_⟩
    · have hmn : (g : Int) * b < 0 := by rw [← hb]; omega
      have : b < 0 := by
        by_cases hbn : b < 0
        · exact hbn
        · have := Int.mul_nonneg (by omega : (0 : Int) ≤ g) (by omega : (0 : Int) ≤ b)
          omega
      omega
    · rw [ha, hb]
      rw [Int.neg_mul, Int.mul_neg, Int.mul_left_comm, ← Int.mul_assoc]

theorem divOk_b {j : Int} {b : Nat} (h0 : j ≠ 0) (h : j.natAbs < 2 ^ b) (hb : 0 < b) (hl : b ≤ 9000) : DivOk j := ⟨h0, by have := PySem.Flt.log2_lt_of hb h; omega⟩
theorem gcd_le {n m : Int} (hm : m ≠ 0) : Int.gcd n m ≤ m.natAbs := Nat.le_of_dvd (by omega) (Int.gcd_dvd_natAbs_right n m)
/-- lowest terms -/
def lowZ : ZSp := fun us O Q _ => ∃ n m : Int, us = [.d (.int n), .d (.int m)] ∧ O = [] ∧ m ≠ 0 ∧ m.natAbs < 2 ^ 8999 ∧ ∀ p q, 0 < q → Int.gcd p q = 1 → p * m = n * q → Q (.d (fr p q)) []
theorem k_law_low : Keeps [("_law_gcd", gcdZ)] y__law_low N__law_low.length lowZ := by
  rintro us O Q E ⟨n, m, rfl, rfl, hm, hb, h⟩
  show vcS _ y__law_low E _ [some (.d (.int n)), some (.d (.int m)), none] []
  have hg := gcd_le (n := n) hm
  have hg0 : 0 < Int.gcd n m := Int.gcd_pos_of_ne_zero_right n hm
  simp only [y__law_low, vcS, vc, gt, st, oneK_1, nrK_d, gt_i, boolK_1, List.getElem?_cons_zero]
  refine callD0 [.int n, .int m] fun F X hF => ⟨n, m, rfl, rfl, hF _ ?_⟩
  have key : ∀ s : Int, s = (if m > 0 then 1 else -1) → MulOk ((Int.gcd n m : Nat) : Int) s ∧ DivOk ((Int.gcd n m : Nat) * s) ∧ Q (.d (.tup [.int (n.fdiv ((Int.gcd n m : Nat) * s)), .int (m.fdiv ((Int.gcd n m : Nat) * s))])) [] := fun s hs => by
    obtain ⟨h1, h2, h3⟩ := low_math (n := n) hm s hs
    refine ⟨mulOk_r (by rw [hs]; split <;> decide) (by rw [hs]; split <;> decide), divOk_b (b := 8999) ?_ ?_ (by decide) (by decide), h _ _ h1 h2 h3⟩
    · rw [hs]; split <;> omega
    · have : (((Int.gcd n m : Nat) : Int) * s).natAbs = Int.gcd n m := by rw [hs]; split <;> omega
      omega
  refine way (fun hp => ?_) fun hp => ?_
  · obtain ⟨h1, h2, h3⟩ := key 1 (by rw [if_pos hp])
    simp only [gt, st, oneK_1, nrK_d, mul_i, div_i, tosK_2]
    exact ⟨h1, h2, h2, (by decide : 2 ≤ sizeLine), h3⟩
  · obtain ⟨h1, h2, h3⟩ := key (-1) (by rw [if_neg hp])
    simp only [gt, st, oneK_1, nrK_d, mul_i, div_i, tosK_2]
    exact ⟨h1, h2, h2, (by decide : 2 ≤ sizeLine), h3⟩
/-- the program's ratio -/
theorem k_ratio : Keeps [("common_divisor", gcdZ)] y_ratio N_ratio.length lowZ := by
  rintro us O Q E ⟨n, m, rfl, rfl, hm, hb, h⟩
  show vcS _ y_ratio E _ [some (.d (.int n)), some (.d (.int m)), none] []
  have hg := gcd_le (n := n) hm
  have hg0 : 0 < Int.gcd n m := Int.gcd_pos_of_ne_zero_right n hm
  simp only [y_ratio, vcS, vc, gt, st, oneK_1, nrK_d, eq_i, lt_i, boolK_1, List.getElem?_cons_zero]
  refine way (fun z => absurd z hm) fun _ => ?_
  refine callD0 [.int n, .int m] fun F X hF => ⟨n, m, rfl, rfl, hF _ ?_⟩
  have key : ∀ s : Int, s = (if m > 0 then 1 else -1) → DivOk ((Int.gcd n m : Nat) * s) ∧ Q (.d (.tup [.int (n.fdiv ((Int.gcd n m : Nat) * s)), .int (m.fdiv ((Int.gcd n m : Nat) * s))])) [] := fun s hs => by
    obtain ⟨h1, h2, h3⟩ := low_math (n := n) hm s hs
    refine ⟨divOk_b (b := 8999) ?_ ?_ (by decide) (by decide), h _ _ h1 h2 h3⟩
    · rw [hs]; split <;> omega
    · have : (((Int.gcd n m : Nat) : Int) * s).natAbs = Int.gcd n m := by rw [hs]; split <;> omega
      omega
  refine way (fun hp => ?_) fun hp => ?_
  · obtain ⟨h2, h3⟩ := key (-1) (by rw [if_neg (by omega)])
    rw [Int.mul_neg, Int.mul_one] at h2 h3
    simp only [gt, st, oneK_1, nrK_d, mul_i, div_i, tosK_2]
    exact ⟨h2, h2, (by decide : 2 ≤ sizeLine), h3⟩
  · obtain ⟨h2, h3⟩ := key 1 (by rw [if_pos (by omega)])
    rw [Int.mul_one] at h2 h3
    simp only [gt, st, oneK_1, nrK_d, mul_i, div_i, tosK_2]
    exact ⟨h2, h2, (by decide : 2 ≤ sizeLine), h3⟩
/-- a whole number, no bool -/
def intZ : ZSp := fun us O Q _ => ∃ i : Int, us = [.d (.int i)] ∧ O = [] ∧ Q (.d (.bl true)) []
theorem isi_ii : isiB "int" ["int"] = some true := by decide +kernel
theorem isi_ib : isiB "int" ["bool"] = some false := by decide +kernel
theorem isi_tt : isiB "tuple" ["tuple"] = some true := by decide +kernel
theorem k_law_int : Keeps [] y__law_int N__law_int.length intZ := by
  rintro us O Q E ⟨i, rfl, rfl, h⟩
  show vcS _ y__law_int E _ [some (.d (.int i))] []
  simp only [y__law_int, vcS, vc, gt, st, oneK_1, boolK_1, tyU, tyD, isi_ii, isi_ib, ex_some, true_and']
  exact ⟨fun _ => h, fun z => by cases z⟩
/-- one of some -/
def pickZ : ZSp := fun us O Q _ => ∃ (ds xs : List D), ((us = [.o 0, .d (.lst xs)] ∧ O = [.lst ds]) ∨ (us = [.o 0, .o 1] ∧ O = [.lst ds, .brw xs])) ∧ BagOk ds ∧ 1 ≤ xs.length ∧ xs.length < 2 ^ 60 ∧ ∀ x ds', x ∈ xs → BagOk ds' → Q (.d x) (.lst ds' :: O.tail)
theorem k_law_pick : Keeps [("_law_draw", drawZ)] y__law_pick N__law_pick.length pickZ := by
  rintro us O Q E ⟨ds, xs, ho, hb, h1, h2, h⟩
  rcases ho with ⟨rfl, rfl⟩ | ⟨rfl, rfl⟩
  · show vcS _ y__law_pick E _ [some (.o 0), some (.d (.lst xs))] _
    simp only [y__law_pick, vcS, vc, gt, st, oneK_1, nrsK_1, len_l, List.getElem?_cons_zero]
    refine callO [.int xs.length] rfl fun F X hF => ⟨ds, xs.length, rfl, rfl, hb, by omega, by omega, fun r ds' h3 h4 h5 => hF _ _ ?_⟩
    simp only [oneK_1, nrK_d, ix_l]
    obtain ⟨j, rfl⟩ := Int.eq_ofNat_of_zero_le h3
    have hj : j < xs.length := by omega
    exact ⟨xs[j], at_nat hj, h _ _ (List.getElem_mem hj) h5⟩
  · show vcS _ y__law_pick E _ [some (.o 0), some (.o 1)] _
    simp only [y__law_pick, vcS, vc, gt, st, oneK_1, List.getElem?_cons_zero]
    rw [nrsK_o rfl, len_l]
    refine callO [.int xs.length] rfl fun F X hF => ⟨ds, xs.length, rfl, rfl, hb, by omega, by omega, fun r ds' h3 h4 h5 => hF _ _ ?_⟩
    simp only [oneK_1, nrK_d]
    show nrK (.lst ds' :: .brw xs :: []) (.o 1) _
    rw [nrK_brw1, ix_l]
    obtain ⟨j, rfl⟩ := Int.eq_ofNat_of_zero_le h3
    have hj : j < xs.length := by omega
    exact ⟨xs[j], at_nat hj, h _ _ (List.getElem_mem hj) h5⟩
end Z

set_option Elab.async false
set_option linter.all false
set_option maxRecDepth 100000
set_option maxHeartbeats 4000000
namespace Z
open PySem PySem.Spec PyProof.Rows L2
/-! ### sizes -/
def Bd (b : Nat) (x : Int) : Prop := x.natAbs < 2 ^ b
theorem Bd.mono {a b : Nat} {x : Int} (h : Bd a x) (l : a ≤ b) : Bd b x := Nat.lt_of_lt_of_le h (Nat.pow_le_pow_right (by decide) l)
theorem Bd.mul {a b : Nat} {x y : Int} (h : Bd a x) (k : Bd b y) : Bd (a + b) (x * y) := by
  unfold Bd at *
  rw [Int.natAbs_mul, Nat.pow_add]
  by_cases hx : x.natAbs = 0
  · rw [hx, Nat.zero_mul]
    exact Nat.mul_pos (Nat.pow_pos (by decide)) (Nat.pow_pos (by decide))
  · exact Nat.mul_lt_mul'' h k
theorem Bd.add {a b : Nat} {x y : Int} (h : Bd a x) (k : Bd b y) : Bd (max a b + 1) (x + y) := by
  have h1 := h.mono (Nat.le_max_left a b)
  have k1 := k.mono (Nat.le_max_right a b)
  unfold Bd at *
  rw [Nat.pow_succ]
  have := Int.natAbs_add_le x y
  omega
theorem Bd.neg {a : Nat} {x : Int} (h : Bd a x) : Bd a (-x) := by
  unfold Bd at *
  rw [Int.natAbs_neg]
  exact h
theorem Bd.sub {a b : Nat} {x y : Int} (h : Bd a x) (k : Bd b y) : Bd (max a b + 1) (x - y) := by
  rw [Int.sub_eq_add_neg]
  exact h.add k.neg
theorem Bd.le {a : Nat} {x y : Int} (h : Bd a x) (l : y.natAbs ≤ x.natAbs) : Bd a y := Nat.lt_of_le_of_lt l h
theorem Bd.dvd {a : Nat} {x y : Int} (h : Bd a x) (l : y ∣ x) (h0 : x ≠ 0) : Bd a y := h.le (Nat.le_of_dvd (by omega) (Int.natAbs_dvd_natAbs.mpr l))
theorem Bd.ok {a b : Nat} {x y : Int} (h : Bd a x) (k : Bd b y) (l : a + b ≤ 999998) : MulOk x y := by
  refine mulOk_bits (a := a + 1) (b := b + 1) (h.mono (Nat.le_succ a)) (k.mono (Nat.le_succ b)) (by omega) (by omega) (by omega)
theorem Bd.div {a : Nat} {j : Int} (h : Bd a j) (h0 : j ≠ 0) (l : a ≤ 8999) : DivOk j := divOk_b (b := a + 1) h0 (h.mono (Nat.le_succ a)) (by omega) (by omega)
theorem Bd.lo {a : Nat} {j : Int} (h : Bd a j) (l : a ≤ 8999) : j.natAbs < 2 ^ 8999 := h.mono l
theorem Bd.gcd {a : Nat} {n m : Int} (h : Bd a m) (h0 : m ≠ 0) : Bd a (Int.gcd n m : Nat) := h.le (by have := gcd_le (n := n) h0; omega)
theorem Bd.ediv {a : Nat} {n : Int} (m : Int) (h : Bd a n) : Bd a (n / m) := h.le (Int.natAbs_ediv_le_natAbs n m)
theorem dvd_cop {k m n : Int} (hc : Int.gcd k m = 1) (h : k ∣ m * n) : k ∣ n := by
  have h1 := Int.natAbs_dvd_natAbs.mpr h
  rw [Int.natAbs_mul] at h1
  exact Int.natAbs_dvd_natAbs.mp (Nat.Coprime.dvd_of_dvd_mul_left (Nat.coprime_iff_gcd_eq_one.mpr hc) h1)
/-- a fraction that was brought to lowest terms is no larger -/
theorem low_bd {a : Nat} {n m p q : Int} (hm : m ≠ 0) (hq : 0 < q) (hc : Int.gcd p q = 1) (e : p * m = n * q) : q ∣ m ∧ (n ≠ 0 → p ∣ n) ∧ (n = 0 → p = 0) := by
  have h1 : q ∣ p * m := ⟨n, by rw [e, Int.mul_comm]⟩
  have h2 : q ∣ m := dvd_cop (by rw [Int.gcd_comm]; exact hc) h1
  have h3 : p ∣ n * q := ⟨m, e.symm⟩
  refine ⟨h2, fun hn => dvd_cop hc (by rw [Int.mul_comm]; exact h3), fun hn => ?_⟩
  rw [hn, Int.zero_mul] at e
  rcases Int.mul_eq_zero.mp e with h | h
  · exact h
  · exact absurd h hm
theorem low_num {a : Nat} {n m p q : Int} (hm : m ≠ 0) (hq : 0 < q) (hc : Int.gcd p q = 1) (e : p * m = n * q) (h : Bd a n) : Bd a p := by
  obtain ⟨_, h2, h3⟩ := low_bd (a := a) hm hq hc e
  by_cases hn : n = 0
  · rw [h3 hn, ← hn]; exact h
  · exact h.dvd (h2 hn) hn
theorem low_den {a : Nat} {n m p q : Int} (hm : m ≠ 0) (hq : 0 < q) (hc : Int.gcd p q = 1) (e : p * m = n * q) (h : Bd a m) : Bd a q := h.dvd (low_bd (a := a) hm hq hc e).1 hm
/-! ### fractions -/
def plusZ : ZSp := fun us O Q _ => ∃ a b c d : Int, us = [.d (fr a b), .d (fr c d)] ∧ O = [] ∧ (∃ k, k ≤ 400000 ∧ Bd k a ∧ Bd k b ∧ Bd k c ∧ Bd k d) ∧ Q (.d (fr (a * d + c * b) (b * d))) []
theorem k_law_plus : Keeps [] y__law_plus N__law_plus.length plusZ := by
  rintro us O Q E ⟨a, b, c, d, rfl, rfl, ⟨k, hk, h1, h2, h3, h4⟩, h⟩
  show vcS _ y__law_plus E _ [some (.d (fr a b)), some (.d (fr c d))] []
  simp only [y__law_plus, fr, vcS, vc, gt, st, oneK_1, nrK_d, ix_t, at_0, at_1, ex_some, mul_i, add_i, tosK_2]
  exact ⟨h1.ok h4 (by omega), h3.ok h2 (by omega), h2.ok h4 (by omega), (by decide : 2 ≤ sizeLine), h⟩
def byZ : ZSp := fun us O Q _ => ∃ a b c d : Int, us = [.d (fr a b), .d (fr c d)] ∧ O = [] ∧ (∃ k, k ≤ 400000 ∧ Bd k a ∧ Bd k b ∧ Bd k c ∧ Bd k d) ∧ Q (.d (fr (a * c) (b * d))) []
theorem k_law_by : Keeps [] y__law_by N__law_by.length byZ := by
  rintro us O Q E ⟨a, b, c, d, rfl, rfl, ⟨k, hk, h1, h2, h3, h4⟩, h⟩
  show vcS _ y__law_by E _ [some (.d (fr a b)), some (.d (fr c d))] []
  simp only [y__law_by, fr, vcS, vc, gt, st, oneK_1, nrK_d, ix_t, at_0, at_1, ex_some, mul_i, add_i, tosK_2]
  exact ⟨h1.ok h3 (by omega), h2.ok h4 (by omega), (by decide : 2 ≤ sizeLine), h⟩
/-- minus, times of the program: the value in lowest terms -/
def minusZ : ZSp := fun us O Q _ => ∃ a b c d : Int, us = [.d (fr a b), .d (fr c d)] ∧ O = [] ∧ 0 < b ∧ 0 < d ∧ (∃ k, k ≤ 400000 ∧ Bd k a ∧ Bd k b ∧ Bd k c ∧ Bd k d) ∧ Bd 8999 (b * d) ∧ ∀ p q, 0 < q → Int.gcd p q = 1 → p * (b * d) = (a * d - c * b) * q → Q (.d (fr p q)) []
theorem k_minus : Keeps [("ratio", lowZ)] y_minus N_minus.length minusZ := by
  rintro us O Q E ⟨a, b, c, d, rfl, rfl, hb, hd, ⟨k, hk, h1, h2, h3, h4⟩, hbd, h⟩
  show vcS _ y_minus E _ [some (.d (fr a b)), some (.d (fr c d))] []
  have hbd0 : b * d ≠ 0 := by
    have := Int.mul_pos hb hd
    omega
  have rest : MulOk a d ∧ MulOk c b ∧ MulOk b d ∧ callZ lowZ [.d (.int (a * d - c * b)), .d (.int (b * d))] [] (fun u O2 => oneK [u] fun u => Q u O2) E :=
    ⟨h1.ok h4 (by omega), h3.ok h2 (by omega), h2.ok h4 (by omega), callD0 [.int (a * d - c * b), .int (b * d)] fun F X hF => ⟨_, _, rfl, rfl, hbd0, hbd.lo (Nat.le_refl _), fun p q hq hc e => hF _ (h p q hq hc e)⟩⟩
  simp only [y_minus, fr, vcS, vc, gt, st, oneK_1, nrK_d, ix_t, at_0, at_1, ex_some, mul_i, sub_i, tosK_2, eq_i, boolK_1, List.getElem?_cons_zero]
  refine way (fun e => way (fun e2 => ?_) fun _ => rest) fun _ => ⟨fun z => (by cases z), fun _ => rest⟩
  subst e2
  subst e
  exact ⟨(by decide : 2 ≤ sizeLine), h (a - c) 1 (by decide) (Int.gcd_one_right _) (by simp)⟩
def timesZ : ZSp := fun us O Q _ => ∃ a b c d : Int, us = [.d (fr a b), .d (fr c d)] ∧ O = [] ∧ 0 < b ∧ 0 < d ∧ (∃ k, k ≤ 400000 ∧ Bd k a ∧ Bd k b ∧ Bd k c ∧ Bd k d) ∧ Bd 8999 (b * d) ∧ ∀ p q, 0 < q → Int.gcd p q = 1 → p * (b * d) = (a * c) * q → Q (.d (fr p q)) []
theorem k_times : Keeps [("ratio", lowZ)] y_times N_times.length timesZ := by
  rintro us O Q E ⟨a, b, c, d, rfl, rfl, hb, hd, ⟨k, hk, h1, h2, h3, h4⟩, hbd, h⟩
  show vcS _ y_times E _ [some (.d (fr a b)), some (.d (fr c d))] []
  have hbd0 : b * d ≠ 0 := by
    have := Int.mul_pos hb hd
    omega
  have rest : MulOk a c ∧ MulOk b d ∧ callZ lowZ [.d (.int (a * c)), .d (.int (b * d))] [] (fun u O2 => oneK [u] fun u => Q u O2) E :=
    ⟨h1.ok h3 (by omega), h2.ok h4 (by omega), callD0 [.int (a * c), .int (b * d)] fun F X hF => ⟨_, _, rfl, rfl, hbd0, hbd.lo (Nat.le_refl _), fun p q hq hc e => hF _ (h p q hq hc e)⟩⟩
  simp only [y_times, fr, vcS, vc, gt, st, oneK_1, nrK_d, ix_t, at_0, at_1, ex_some, mul_i, sub_i, tosK_2, eq_i, boolK_1, List.getElem?_cons_zero]
  refine way (fun e => way (fun e2 => ?_) fun _ => rest) fun _ => ⟨fun z => (by cases z), fun _ => rest⟩
  subst e2
  subst e
  exact ⟨h1.ok h3 (by omega), (by decide : 2 ≤ sizeLine), h (a * c) 1 (by decide) (Int.gcd_one_right _) (by simp)⟩
end Z

set_option Elab.async false
set_option linter.all false
set_option maxRecDepth 100000
set_option maxHeartbeats 4000000
namespace Z
open PySem PySem.Spec PyProof.Rows L2
def hugeZ : ZSp := fun us O Q _ => ∃ ds, us = [.o 0] ∧ O = [.lst ds] ∧ BagOk ds ∧ ∀ h ds', 0 ≤ h → h < 10 ^ 35 → BagOk ds' → Q (.d (.int h)) [.lst ds']
theorem k_law_huge : Keeps [("_law_pick", pickZ), ("_law_draw", drawZ)] y__law_huge N__law_huge.length hugeZ := by
  rintro us O Q E ⟨ds, rfl, rfl, hb, h⟩
  show vcS _ y__law_huge E _ [some (.o 0), none] _
  have e7 : (10 : Int) ^ Int.toNat 7 = 10000000 := by decide
  have e27 : (10 : Int) ^ Int.toNat 27 = 10 ^ 27 := by decide
  have e13 : (10 : Int) ^ Int.toNat 13 = 10 ^ 13 := by decide
  have e10 : (10 : Int) ^ Int.toNat 10 = 10 ^ 10 := by decide
  have e20 : (10 : Int) ^ Int.toNat 20 = 10 ^ 20 := by decide
  have cp : ∀ n : Int, 0 ≤ n → n ≤ 1000 → CPow 10 n := fun n h1 h2 => ⟨h1, by omega, by decide⟩
  simp only [y__law_huge, vcS, vc, gt, st, oneK_1, nrK_d, pow_i, e7, e27, e13, e10, e20, List.getElem?_cons_zero, List.getElem?_cons_succ]
  refine ⟨cp 7 (by decide) (by decide), ?_⟩
  refine callO [.int 10000000] rfl fun F X hF => ⟨ds, _, rfl, rfl, hb, by decide, by decide, fun r1 ds1 a1 b1 c1 => hF _ _ ?_⟩
  simp only [oneK_1, nrK_d, mul_i, so]
  refine ⟨cp 27 (by decide) (by decide), mulOk_l (by omega) (by omega), cp 7 (by decide) (by decide), ?_⟩
  refine callO [.int 10000000] rfl fun F X hF => ⟨ds1, _, rfl, rfl, c1, by decide, by decide, fun r2 ds2 a2 b2 c2 => hF _ _ ?_⟩
  simp only [oneK_1, nrK_d, mul_i, so]
  refine ⟨cp 13 (by decide) (by decide), mulOk_l (by omega) (by omega), ?_⟩
  simp only [oneK_1, nrK_d, add_i]
  refine ⟨cp 7 (by decide) (by decide), ?_⟩
  refine callO [.int 10000000] rfl fun F X hF => ⟨ds2, _, rfl, rfl, c2, by decide, by decide, fun r3 ds3 a3 b3 c3 => hF _ _ ?_⟩
  simp only [oneK_1, nrK_d, add_i, so, gt, st, tosK_3, newL]
  refine ⟨cp 10 (by decide) (by decide), cp 20 (by decide) (by decide), (by decide : 3 ≤ sizeLine), ?_⟩
  refine callO [.lst [.int 1, .int (10 ^ 10), .int (10 ^ 20)]] rfl fun F X hF => ⟨ds3, [.int 1, .int (10 ^ 10), .int (10 ^ 20)], .inl ⟨rfl, rfl⟩, c3, by decide, by decide, fun x ds4 hx c4 => hF _ _ ?_⟩
  have hx' : ∃ v : Int, x = .int v ∧ 1 ≤ v ∧ v < 2 ^ 200 := by
    simp only [List.mem_cons, List.not_mem_nil, or_false] at hx
    rcases hx with rfl | rfl | rfl
    · exact ⟨1, rfl, by decide, by decide⟩
    · exact ⟨10 ^ 10, rfl, by decide, by decide⟩
    · exact ⟨10 ^ 20, rfl, by decide, by decide⟩
  obtain ⟨v, rfl, hv1, hv2⟩ := hx'
  simp only [oneK_1, nrK_d, div_i, so]
  have hs : 0 ≤ r1 * 10 ^ 27 + r2 * 10 ^ 13 + r3 ∧ r1 * 10 ^ 27 + r2 * 10 ^ 13 + r3 < 10 ^ 35 := by omega
  refine ⟨divOk_pos hv1 hv2, h _ _ (Int.fdiv_nonneg hs.1 (by omega)) ?_ c4⟩
  rw [Int.fdiv_eq_ediv_of_nonneg _ (by omega)]
  exact Int.lt_of_le_of_lt (Int.ediv_le_self _ hs.1) hs.2
def fewZ : ZSp := fun us O Q _ => ∃ (ds : List D) (w : Int), us = [.o 0, .d (.int w)] ∧ O = [.lst ds] ∧ BagOk ds ∧ 0 ≤ w ∧ w < 1000 ∧ ∀ n m p q ds', -w ≤ n → n ≤ w → 1 ≤ m → m ≤ 4 → 0 < q → Int.gcd p q = 1 → p * m = n * q → BagOk ds' → Q (.d (fr p q)) [.lst ds']
theorem k_law_few : Keeps [("_law_low", lowZ), ("_law_draw", drawZ)] y__law_few N__law_few.length fewZ := by
  rintro us O Q E ⟨ds, w, rfl, rfl, hb, h0, h1, h⟩
  show vcS _ y__law_few E _ [some (.o 0), some (.d (.int w))] _
  simp only [y__law_few, vcS, vc, gt, st, oneK_1, nrK_d, mul_i, add_i, List.getElem?_cons_zero, List.getElem?_cons_succ]
  refine ⟨mulOk_l (by decide) (by decide), ?_⟩
  refine callO [.int (2 * w + 1)] rfl fun F X hF => ⟨ds, _, rfl, rfl, hb, by omega, by omega, fun r1 ds1 a1 b1 c1 => hF _ _ ?_⟩
  simp only [oneK_1, nrK_d, sub_i, so]
  refine callO [.int 4] rfl fun F X hF => ⟨ds1, _, rfl, rfl, c1, by decide, by decide, fun r2 ds2 a2 b2 c2 => hF _ _ ?_⟩
  simp only [oneK_1, nrK_d, add_i, so]
  refine callD0 [.int (r1 - w), .int (1 + r2)] fun F X hF => ⟨_, _, rfl, rfl, by omega, ?_, fun p q hq hc e => hF _ (h (r1 - w) (1 + r2) p q _ (by omega) (by omega) (by omega) (by omega) hq hc e c2)⟩
  exact Bd.lo (a := 10) (by unfold Bd; omega) (by decide)
end Z

set_option Elab.async false
set_option linter.all false
set_option maxRecDepth 100000
set_option maxHeartbeats 4000000
namespace Z
open PySem PySem.Spec PyProof.Rows L2
theorem lcm_step {l q L : Int} (hl : 0 < l) (hq : 0 < q) (h1 : l ∣ L) (h2 : q ∣ L) : 0 < l.fdiv (Int.gcd l q : Nat) * q ∧ l.fdiv (Int.gcd l q : Nat) * q ∣ L ∧ l ∣ l.fdiv (Int.gcd l q : Nat) * q ∧ q ∣ l.fdiv (Int.gcd l q : Nat) * q ∧ (l * q).fdiv (Int.gcd l q : Nat) = l.fdiv (Int.gcd l q : Nat) * q := by
  have hg : 0 < Int.gcd l q := Int.gcd_pos_of_ne_zero_right l (by omega)
  obtain ⟨a, ha⟩ : ((Int.gcd l q : Nat) : Int) ∣ l := Int.gcd_dvd_left ..
  obtain ⟨b, hb⟩ : ((Int.gcd l q : Nat) : Int) ∣ q := Int.gcd_dvd_right ..
  generalize hgg : Int.gcd l q = g at *
  have hg0 : ((g : Nat) : Int) ≠ 0 := by omega
  have hcop : Int.gcd a b = 1 := by
    have h := Int.gcd_mul_left (g : Int) a b
    rw [← ha, ← hb, hgg] at h
    have h2 : ((g : Nat) : Int).natAbs = g := by omega
    rw [h2] at h
    exact (Nat.eq_of_mul_eq_mul_left hg (by omega : g * Int.gcd a b = g * 1))
  have e1 : l.fdiv (g : Int) = a := by rw [ha, Int.mul_fdiv_cancel_left _ hg0]
  have hap : 0 < a := by
    rw [ha] at hl
    exact Int.pos_of_mul_pos_right hl (by omega)
  rw [e1]
  refine ⟨Int.mul_pos hap hq, ?_, ⟨b, by rw [ha, hb]; rw [Int.mul_left_comm, Int.mul_assoc]⟩, ⟨a, Int.mul_comm ..⟩, ?_⟩
  · obtain ⟨x, hx⟩ := h1
    obtain ⟨y, hy⟩ := h2
    have hxy : a * x = b * y := by
      have : (g : Int) * (a * x) = (g : Int) * (b * y) := by rw [← Int.mul_assoc, ← Int.mul_assoc, ← ha, ← hb, ← hx, ← hy]
      exact Int.eq_of_mul_eq_mul_left hg0 this
    have hbx : b ∣ x := dvd_cop (by rw [Int.gcd_comm]; exact hcop) ⟨y, hxy⟩
    obtain ⟨z, hz⟩ := hbx
    refine ⟨z, ?_⟩
    rw [hx, hz, ha, hb]
    simp only [Int.mul_assoc, Int.mul_left_comm, Int.mul_comm]
  · rw [ha, Int.mul_assoc, Int.mul_fdiv_cancel_left _ hg0]
def frP (f : Int × Int) : D := fr f.1 f.2
def commonZ : ZSp := fun us O Q _ => ∃ (fs : List (Int × Int)) (L : Int), us = [.d (.lst [.lst (fs.map frP)])] ∧ O = [] ∧ 0 < L ∧ Bd 8000 L ∧ (∀ f ∈ fs, 0 < f.2 ∧ f.2 ∣ L) ∧ ∀ c, 0 < c → c ∣ L → (∀ f ∈ fs, f.2 ∣ c) → Q (.d (.int c)) []
theorem k_common : Keeps [("common_divisor", gcdZ)] y_common N_common.length commonZ := by
  rintro us O Q E ⟨fs, L, rfl, rfl, hL, hb, hf, h⟩
  show vcS _ y_common E _ [some (.d (.lst [.lst (fs.map frP)])), none, none, none] _
  simp only [y_common, vcS, vc, gt, st, oneK_1, brK_d, List.getElem?_cons_zero]
  refine ⟨[.lst (fs.map frP)], rfl, ?_⟩
  rw [forR]
  simp only [bindT, gt, st, oneK_1, brK_d, nrK_d, unb_0]
  refine ⟨fs.map frP, rfl, ?_⟩
  refine forR_inv (fun i ρ O => O = [] ∧ ∃ (l : Int) (x : Option U), ρ = [some (.d (.lst [.lst (fs.map frP)])), some (.d (.int l)), some (.d (.lst (fs.map frP))), x] ∧ 0 < l ∧ l ∣ L ∧ ∀ f ∈ fs.take i, f.2 ∣ l) _ _ _ 0 ⟨rfl, 1, none, rfl, by decide, ⟨L, by simp⟩, by simp⟩ ?_ ?_
  · rintro j d ρ O e ⟨rfl, l, x, rfl, hl, hlL, hi⟩ N hN
    rw [List.getElem?_map] at e
    cases q : fs[j]? with
    | none => rw [q] at e; cases e
    | some f =>
      rw [q] at e
      cases e
      have hfm := List.mem_of_getElem? q
      obtain ⟨f1, f2⟩ := hf f hfm
      obtain ⟨s1, s2, s3, s4, _⟩ := lcm_step hl f1 hlL f2
      simp only [bindT, frP, fr, gt, st, oneK_1, nrK_d, ix_t, at_1, ex_some, List.getElem?_cons_zero]
      refine callD0 [.int l, .int f.2] fun F X hF => ⟨_, _, rfl, rfl, hF _ ?_⟩
      have hL0 : L ≠ 0 := by omega
      have bl : Bd 8000 l := hb.dvd hlL hL0
      have bf : Bd 8000 f.2 := hb.dvd f2 hL0
      have bg : Bd 8000 (Int.gcd l f.2 : Nat) := bf.gcd (by omega)
      have hg : 0 < Int.gcd l f.2 := Int.gcd_pos_of_ne_zero_right l (by omega)
      simp only [oneK_1, nrK_d, div_i, gt, ix_t, at_1, ex_some, mul_i]
      refine ⟨bg.div (by omega) (by decide), ?_, hN _ _ ⟨rfl, _, _, rfl, s1, s2, fun f' hf' => ?_⟩⟩
      · have : Bd 8000 (l.fdiv (Int.gcd l f.2 : Nat)) := by
          rw [Int.fdiv_eq_ediv_of_nonneg _ (by omega)]
          exact bl.ediv _
        exact this.ok bf (by decide)
      · rw [Nat.zero_add, List.take_succ, q] at hf'
        rcases List.mem_append.mp hf' with m | m
        · exact Int.dvd_trans (hi f' (by rw [Nat.zero_add]; exact m)) s3
        · have : f' = f := by simpa using m
          rw [this]; exact s4
  · rintro ρ O ⟨rfl, l, x, rfl, hl, hlL, hi⟩
    simp only [forR, gt, oneK_1, unb_0]
    rw [List.length_map, Nat.zero_add, List.take_length] at hi
    exact h l hl hlL hi
def rowD (r : List Int) : D := .lst (r.map .int)
/-- a row as whole numbers, a number times as large -/
def whole (fs : List (Int × Int)) (c : Int) : List Int := fs.map fun f => f.1 * (c.fdiv f.2)
def multipliedZ : ZSp := fun us O Q _ => ∃ (fs : List (Int × Int)) (c : Int), us = [.d (.lst (fs.map frP)), .d (.int c)] ∧ O = [] ∧ 0 < c ∧ Bd 8000 c ∧ fs.length ≤ 100 ∧ (∀ f ∈ fs, 0 < f.2 ∧ f.2 ∣ c ∧ Bd 8000 f.1) ∧ Q (.d (.tup ((whole fs c).map .int))) []
theorem k_multiplied : Keeps [] y_multiplied N_multiplied.length multipliedZ := by
  rintro us O Q E ⟨fs, c, rfl, rfl, hc, hb, hlen, hf, h⟩
  show vcS _ y_multiplied E _ [some (.d (.lst (fs.map frP))), some (.d (.int c)), none] _
  simp only [y_multiplied, vcS, vc, gt, st, oneK_1, brK_d, wipeR, wipeR.rm]
  refine ⟨fs.map frP, rfl, by rw [List.length_map]; exact Nat.le_trans hlen (by decide), ?_⟩
  refine compR_map (fun d => match d with
    | .tup [.int a, .int b] => .int (a * (c.fdiv b))
    | _ => .non) (Nat.le_refl _) _ (fun d hd F hF => ?_) ?_
  · obtain ⟨f, hfm, rfl⟩ := List.mem_map.mp hd
    obtain ⟨f1, f2, f3⟩ := hf f hfm
    simp only [bindT, frP, fr, gt, st, nrK_d, ix_t, at_0, at_1, ex_some, div_i, mul_i]
    have hc0 : c ≠ 0 := by omega
    have b2 : Bd 8000 (c.fdiv f.2) := by
      rw [Int.fdiv_eq_ediv_of_nonneg _ (by omega)]
      exact hb.ediv _
    exact ⟨(hb.dvd f2 hc0).div (by omega) (by decide), f3.ok b2 (by decide), hF⟩
  · simp only [newL, oneK_1, nrsK_1, tuple_l, unb_0]
    have e : (fs.map frP).map (fun d => match d with
      | .tup [.int a, .int b] => D.int (a * (c.fdiv b))
      | _ => .non) = (whole fs c).map .int := by
      unfold whole
      rw [List.map_map, List.map_map]
      rfl
    rw [e]
    exact h
end Z

set_option Elab.async false
set_option linter.all false
set_option maxRecDepth 100000
set_option maxHeartbeats 4000000
namespace Z
open PySem PySem.Spec PyProof.Rows L2
def lowestZ : ZSp := fun us O Q _ => ∃ (r : List Int) (b : Nat), us = [.d (rowD r)] ∧ O = [] ∧ r.length ≤ 100 ∧ b ≤ 8999 ∧ (∀ x ∈ r, Bd b x) ∧ ∀ (s : Int) (r' : List Int), 0 < s → r = r'.map (s * ·) → Q (.d (rowD r')) []
theorem k_lowest : Keeps [("common_divisor", gcdZ)] y_lowest N_lowest.length lowestZ := by
  rintro us O Q E ⟨r, b, rfl, rfl, hlen, hb, hx, h⟩
  show vcS _ y_lowest E _ [some (.d (rowD r)), none, none] _
  have h1 : Q (.d (.lst (r.map .int))) [] := h 1 r (by decide) (by simp)
  simp only [y_lowest, rowD, vcS, vc, gt, st, oneK_1, brK_d, List.getElem?_cons_zero]
  refine ⟨r.map .int, rfl, ?_⟩
  refine forR_inv (fun i ρ O => O = [] ∧ ∃ (g : Nat) (x : Option U), ρ = [some (.d (.lst (r.map .int))), some (.d (.int g)), x] ∧ (∀ y ∈ r.take i, (g : Int) ∣ y) ∧ (g ≠ 0 → Bd b g)) _ _ _ 0 ⟨rfl, 0, none, rfl, by simp, fun z => absurd rfl z⟩ ?_ ?_
  · rintro j d ρ O e ⟨rfl, g, x, rfl, hg, hgb⟩ N hN
    rw [List.getElem?_map] at e
    cases q : r[j]? with
    | none => rw [q] at e; cases e
    | some y =>
      rw [q] at e
      cases e
      have hym := List.mem_of_getElem? q
      simp only [bindT, gt, st, oneK_1, nrK_d, List.getElem?_cons_zero]
      refine callD0 [.int g, .int y] fun F X hF => ⟨_, _, rfl, rfl, hF _ ?_⟩
      simp only [oneK_1, nrK_d, gt, st, eq_i, boolK_1]
      refine way (fun _ => by rw [unb_0]; exact h1) fun _ => ?_
      refine hN _ _ ⟨rfl, Int.gcd g y, _, rfl, fun y' hy' => ?_, fun hne => ?_⟩
      · rw [Nat.zero_add, List.take_succ, q] at hy'
        rcases List.mem_append.mp hy' with m | m
        · exact Int.dvd_trans (Int.gcd_dvd_left ..) (hg y' (by rw [Nat.zero_add]; exact m))
        · have : y' = y := by simpa using m
          rw [this]
          exact Int.gcd_dvd_right ..
      · by_cases hg0 : g = 0
        · have : (Int.gcd (g : Int) y) = y.natAbs := by rw [hg0]; exact Int.gcd_zero_left y
          exact (hx y hym).le (by rw [this]; omega)
        · exact (hgb hg0).dvd (Int.gcd_dvd_left ..) (by omega)
  · rintro ρ O ⟨rfl, g, x, rfl, hg, hgb⟩
    rw [List.length_map, Nat.zero_add, List.take_length] at hg
    simp only [unb_0, vcS, vc, gt, st, oneK_1, nrK_d, eq_i, boolK_1, brK_d, wipeR, wipeR.rm]
    refine way (fun _ => h1) fun hg0 => ?_
    refine ⟨r.map .int, rfl, by rw [List.length_map]; exact Nat.le_trans hlen (by decide), ?_⟩
    refine compR_map (fun d => match d with
      | .int a => .int (a.fdiv g)
      | _ => .non) (Nat.le_refl _) _ (fun d hd F hF => ?_) ?_
    · obtain ⟨y, hym, rfl⟩ := List.mem_map.mp hd
      simp only [bindT, gt, st, nrK_d, div_i]
      exact ⟨(hgb (by omega)).div hg0 (by omega), hF⟩
    · simp only [newL, oneK_1, unb_0]
      have e : (r.map D.int).map (fun d => match d with
        | .int a => D.int (a.fdiv g)
        | _ => .non) = (r.map fun a => a.fdiv g).map .int := by
        rw [List.map_map, List.map_map]
        rfl
      rw [e]
      refine h g _ (by omega) ?_
      rw [List.map_map]
      conv => lhs; rw [← List.map_id r]
      refine List.map_congr_left fun a ha => ?_
      obtain ⟨k, hk⟩ := hg a ha
      show a = (g : Int) * a.fdiv g
      rw [hk, Int.mul_fdiv_cancel_left _ hg0]
def clearedZ : ZSp := fun us O Q _ => ∃ (r p : List Int) (c b : Nat), us = [.d (rowD r), .d (rowD p), .d (.int c)] ∧ O = [] ∧ r.length = p.length ∧ r.length ≤ 100 ∧ b ≤ 4000 ∧ (∀ x ∈ r, Bd b x) ∧ (∀ x ∈ p, Bd b x) ∧ (∃ z, p[c]? = some z ∧ z ≠ 0) ∧
  ∀ r', Comb p c r r' → (∀ x ∈ r', Bd (2 * b + 1) x) → Q (.d (rowD r')) []
theorem zip_rows {r p : List Int} : List.zipWith (fun d e => D.tup [d, e]) (r.map .int) (p.map .int) = (List.zip r p).map fun q => D.tup [.int q.1, .int q.2] := by
  rw [List.zipWith_map, List.zip_eq_zipWith, List.map_zipWith]
theorem Bd.fdivg {b : Nat} {x : Int} (h : Bd b x) {g : Int} (hg : 0 < g) : Bd b (x.fdiv g) := by
  rw [Int.fdiv_eq_ediv_of_nonneg _ (by omega)]
  exact h.ediv _
theorem k_cleared : Keeps [("lowest", lowestZ), ("common_divisor", gcdZ)] y_cleared N_cleared.length clearedZ := by
  rintro us O Q E ⟨r, p, c, b, rfl, rfl, hrp, hlen, hb, hr, hp, ⟨z, hz, hz0⟩, h⟩
  show vcS _ y_cleared E _ [some (.d (rowD r)), some (.d (rowD p)), some (.d (.int c)), none, none, none, none, none] _
  have hcl : c < r.length := by rw [hrp]; exact (List.getElem?_eq_some_iff.mp hz).1
  have hx : r[c]? = some r[c] := List.getElem?_eq_getElem hcl
  generalize r[c] = x at hx
  have ar : atI (r.map D.int) (c : Int) = some (.int x) := atI_nat (by rw [List.getElem?_map, hx]; rfl)
  have ap : atI (p.map D.int) (c : Int) = some (.int z) := atI_nat (by rw [List.getElem?_map, hz]; rfl)
  have bx : Bd b x := hr x (List.mem_of_getElem? hx)
  have bz : Bd b z := hp z (List.mem_of_getElem? hz)
  simp only [y_cleared, rowD, vcS, vc, gt, st, oneK_1, nrK_d, ix_l, ar, ap, ex_some, eq_i, boolK_1, List.getElem?_cons_zero, List.getElem?_cons_succ]
  refine way (fun e => ?_) fun e => ?_
  · refine h r ⟨1, 0, 1, by decide, by decide, ?_, by rw [hx, e]⟩ fun y hy => (hr y hy).mono (by omega)
    have : ∀ (r p : List Int), r.length = p.length → r.map (1 * ·) = List.zipWith (fun x y => 1 * x - 0 * y) r p := by
      intro r
      induction r with
      | nil => intro p _; cases p <;> rfl
      | cons y r ih =>
        intro p hl
        cases p with
        | nil => simp at hl
        | cons w p =>
          rw [List.map_cons, List.zipWith_cons_cons, ih p (by simpa using hl)]
          simp
    exact this r p hrp
  · refine callD0 [.int x, .int z] fun F X hF => ⟨_, _, rfl, rfl, hF _ ?_⟩
    have hg : 0 < Int.gcd x z := Int.gcd_pos_of_ne_zero_right x hz0
    have bg : Bd b (Int.gcd x z : Nat) := bz.gcd hz0
    have dg : DivOk (Int.gcd x z : Nat) := bg.div (by omega) (by omega)
    generalize hgg : Int.gcd x z = g at *
    have b1 : Bd b (z.fdiv g) := bz.fdivg (by omega)
    have b2 : Bd b (x.fdiv g) := bx.fdivg (by omega)
    simp only [oneK_1, nrK_d, ix_l, ar, ap, ex_some, div_i, gt, st, brK_d, zip_rows, wipeR, wipeR.rm]
    refine ⟨dg, dg, _, rfl, by rw [List.length_map, List.length_zip]; exact Nat.le_trans (Nat.min_le_left ..) (Nat.le_trans hlen (by decide)), ?_⟩
    refine compR_map (fun d => match d with
      | .tup [.int u, .int w] => .int (z.fdiv g * u - x.fdiv g * w)
      | _ => .non) (Nat.le_refl _) _ (fun d hd F hF => ?_) ?_
    · obtain ⟨⟨u, w⟩, hm, rfl⟩ := List.mem_map.mp hd
      have hu : Bd b u := hr u (List.of_mem_zip hm).1
      have hw : Bd b w := hp w (List.of_mem_zip hm).2
      simp only [bindT, bindTs, gt, st, nrK_d, mul_i, sub_i]
      exact ⟨b1.ok hu (by omega), b2.ok hw (by omega), hF⟩
    · simp only [newL, oneK_1, unb_0]
      have e2 : ((List.zip r p).map fun q => D.tup [.int q.1, .int q.2]).map (fun d => match d with
        | .tup [.int u, .int w] => D.int (z.fdiv g * u - x.fdiv g * w)
        | _ => .non) = (List.zipWith (fun u w => z.fdiv g * u - x.fdiv g * w) r p).map .int := by
        rw [List.map_map, List.map_zipWith, List.zip_eq_zipWith, List.map_zipWith]
        rfl
      rw [e2]
      have hZ : ∀ y ∈ List.zipWith (fun u w => z.fdiv g * u - x.fdiv g * w) r p, Bd (2 * b + 1) y := fun y hy => by
        rw [← List.map_uncurry_zip_eq_zipWith] at hy
        obtain ⟨⟨u, w⟩, hm, rfl⟩ := List.mem_map.mp hy
        have hu : Bd b u := hr u (List.of_mem_zip hm).1
        have hw : Bd b w := hp w (List.of_mem_zip hm).2
        exact ((b1.mul hu).sub (b2.mul hw)).mono (by omega)
      obtain ⟨z', ez⟩ : ((g : Nat) : Int) ∣ z := by rw [← hgg]; exact Int.gcd_dvd_right ..
      obtain ⟨x', ex'⟩ : ((g : Nat) : Int) ∣ x := by rw [← hgg]; exact Int.gcd_dvd_left ..
      refine callD0 [rowD (List.zipWith (fun u w => z.fdiv g * u - x.fdiv g * w) r p)] fun F X hF2 => ⟨_, 2 * b + 1, rfl, rfl, ?_, by omega, ?_, fun s r' hs e3 => hF2 _ (h r' ⟨z.fdiv g, x.fdiv g, s, ?_, hs, e3.symm, ?_⟩ ?_)⟩
      · rw [List.length_zipWith]; exact Nat.le_trans (Nat.min_le_left ..) hlen
      · exact hZ
      · intro hz'
        have := Int.mul_fdiv_cancel_left z' (by omega : (g : Int) ≠ 0)
        rw [← ez, hz'] at this
        rw [← this, Int.mul_zero] at ez
        exact hz0 ez
      · have hl : c < r'.length := by
          have := congrArg List.length e3
          rw [List.length_zipWith, List.length_map] at this
          omega
        have e4 : (List.zipWith (fun u w => z.fdiv g * u - x.fdiv g * w) r p)[c]? = (r'.map (s * ·))[c]? := by rw [e3]
        rw [List.getElem?_zipWith, hx, hz, List.getElem?_map, List.getElem?_eq_getElem hl] at e4
        have e5 : z.fdiv g * x - x.fdiv g * z = s * r'[c] := by simpa using e4
        have e6 : z.fdiv g * x - x.fdiv g * z = 0 := by
          rw [ez, ex', Int.mul_fdiv_cancel_left _ (by omega : (g : Int) ≠ 0), Int.mul_fdiv_cancel_left _ (by omega : (g : Int) ≠ 0)]
          rw [Int.mul_left_comm z', Int.mul_left_comm x', Int.mul_comm z']
          omega
        rw [e6] at e5
        rcases Int.mul_eq_zero.mp e5.symm with h0 | h0
        · omega
        · rw [List.getElem?_eq_getElem hl, h0]
      · intro y hy
        have hm : s * y ∈ List.zipWith (fun u w => z.fdiv g * u - x.fdiv g * w) r p := by
          rw [e3]; exact List.mem_map.mpr ⟨y, hy, rfl⟩
        refine (hZ _ hm).le ?_
        rw [Int.natAbs_mul]
        exact Nat.le_mul_of_pos_left _ (by omega)
end Z

set_option Elab.async false
set_option linter.all false
set_option maxRecDepth 100000
set_option maxHeartbeats 4000000
namespace Z
open PySem PySem.Spec PyProof.Rows L2
def rowsD (rs : List (List Int)) : List D := rs.map rowD
def place_ofZ : ZSp := fun us O Q _ => ∃ (rs : List (List Int)) (c : Nat), us = [.o 0, .d (.int c)] ∧ O = [.lst (rowsD rs)] ∧ (∀ r ∈ rs, c < r.length) ∧
  (∀ (j : Nat) r z, rs[j]? = some r → r[c]? = some z → z ≠ 0 → Q (.d (.int j)) [.lst (rowsD rs)]) ∧ ((∀ r ∈ rs, r[c]? = some 0) → Q (.d .non) [.lst (rowsD rs)])
theorem brK_lst0 {ds : List D} {O : List DO} {k : D → List DO → Prop} : brK (.lst ds :: O) (.o 0) k = k (.lst ds) (.brw ds :: O) := rfl
theorem k_place_of : Keeps [] y_place_of N_place_of.length place_ofZ := by
  rintro us O Q E ⟨rs, c, rfl, rfl, hc, h1, h2⟩
  show vcS _ y_place_of E _ [some (.o 0), some (.d (.int c)), none, none] _
  simp only [y_place_of, vcS, vc, gt, st, oneK_1, brK_lst0]
  refine ⟨_, rfl, ?_⟩
  refine forR_inv (fun i ρ O => O = [.brw (rowsD rs)] ∧ ∃ (x y : Option U), ρ = [some (.o 0), some (.d (.int c)), x, y] ∧ ∀ r ∈ rs.take i, r[c]? = some 0) _ _ _ 0 ⟨rfl, none, none, rfl, by simp⟩ ?_ ?_
  · rintro j d ρ O e ⟨rfl, x, y, rfl, hi⟩ N hN
    rw [List.getElem?_mapIdx] at e
    cases q : (rowsD rs)[j]? with
    | none => rw [q] at e; cases e
    | some d' =>
      rw [q] at e
      cases e
      unfold rowsD at q
      rw [List.getElem?_map] at q
      cases q2 : rs[j]? with
      | none => rw [q2] at q; cases q
      | some r =>
        rw [q2] at q
        cases q
        have hcl := hc r (List.mem_of_getElem? q2)
        have hx : r[c]? = some r[c] := List.getElem?_eq_getElem hcl
        generalize r[c] = z at hx
        have ar : atI (r.map D.int) (c : Int) = some (.int z) := atI_nat (by rw [List.getElem?_map, hx]; rfl)
        simp only [bindT, bindTs, rowD, gt, st, oneK_1, nrK_d, ix_l, ar, ex_some, ne_i, boolK_1]
        refine wayN (fun hz => h1 j r z q2 hx hz) fun hz => hN _ _ ⟨rfl, _, _, rfl, fun r' hr' => ?_⟩
        rw [Nat.zero_add, List.take_succ, q2] at hr'
        rcases List.mem_append.mp hr' with m | m
        · exact hi r' (by rw [Nat.zero_add]; exact m)
        · have : r' = r := by simpa using m
          rw [this, hx, hz]
  · rintro ρ O ⟨rfl, x, y, rfl, hi⟩
    refine h2 fun r hr => hi r ?_
    rw [List.length_mapIdx, Nat.zero_add]
    unfold rowsD
    rw [List.length_map, List.take_length]
    exact hr
/-- the law's whole row -/
def whole_rowZ : ZSp := fun us O Q _ => ∃ (fs : List (Int × Int)) (L : Int), us = [.d (.tup (fs.map frP))] ∧ O = [] ∧ 0 < L ∧ Bd 4000 L ∧ fs.length ≤ 100 ∧ (∀ f ∈ fs, 0 < f.2 ∧ f.2 ∣ L ∧ Bd 4000 f.1) ∧ ∀ c, 0 < c → c ∣ L → (∀ f ∈ fs, f.2 ∣ c) → Q (.d (rowD (whole fs c))) []
theorem k_law_whole_row : Keeps [("_law_gcd", gcdZ)] y__law_whole_row N__law_whole_row.length whole_rowZ := by
  rintro us O Q E ⟨fs, L, rfl, rfl, hL, hb, hlen, hf, h⟩
  show vcS _ y__law_whole_row E _ [some (.d (.tup (fs.map frP))), none, none] _
  simp only [y__law_whole_row, vcS, vc, gt, st, oneK_1, brK_d, List.getElem?_cons_zero]
  refine ⟨fs.map frP, rfl, ?_⟩
  have hL0 : L ≠ 0 := by omega
  refine forR_inv (fun i ρ O => O = [] ∧ ∃ (l : Int) (x : Option U), ρ = [some (.d (.tup (fs.map frP))), some (.d (.int l)), x] ∧ 0 < l ∧ l ∣ L ∧ ∀ f ∈ fs.take i, f.2 ∣ l) _ _ _ 0 ⟨rfl, 1, none, rfl, by decide, ⟨L, by simp⟩, by simp⟩ ?_ ?_
  · rintro j d ρ O e ⟨rfl, l, x, rfl, hl, hlL, hi⟩ N hN
    rw [List.getElem?_map] at e
    cases q : fs[j]? with
    | none => rw [q] at e; cases e
    | some f =>
      rw [q] at e
      cases e
      obtain ⟨f1, f2, f3⟩ := hf f (List.mem_of_getElem? q)
      obtain ⟨s1, s2, s3, s4, s5⟩ := lcm_step hl f1 hlL f2
      have bl : Bd 4000 l := hb.dvd hlL hL0
      have bf : Bd 4000 f.2 := hb.dvd f2 hL0
      have bg : Bd 4000 (Int.gcd l f.2 : Nat) := bf.gcd (by omega)
      have hg : 0 < Int.gcd l f.2 := Int.gcd_pos_of_ne_zero_right l (by omega)
      simp only [bindT, frP, fr, gt, st, oneK_1, nrK_d, ix_t, at_1, ex_some, mul_i, List.getElem?_cons_zero]
      refine ⟨bl.ok bf (by decide), callD0 [.int l, .int f.2] fun F X hF => ⟨_, _, rfl, rfl, hF _ ?_⟩⟩
      simp only [oneK_1, nrK_d, div_i]
      refine ⟨bg.div (by omega) (by decide), hN _ _ ⟨rfl, _, _, by rw [s5], s1, s2, fun f' hf' => ?_⟩⟩
      rw [Nat.zero_add, List.take_succ, q] at hf'
      rcases List.mem_append.mp hf' with m | m
      · exact Int.dvd_trans (hi f' (by rw [Nat.zero_add]; exact m)) s3
      · have : f' = f := by simpa using m
        rw [this]; exact s4
  · rintro ρ O ⟨rfl, l, x, rfl, hl, hlL, hi⟩
    rw [List.length_map, Nat.zero_add, List.take_length] at hi
    simp only [unb_0, vcS, vc, gt, st, oneK_1, nrK_d, brK_d, wipeR, wipeR.rm]
    refine ⟨fs.map frP, rfl, by rw [List.length_map]; exact Nat.le_trans hlen (by decide), ?_⟩
    refine compR_map (fun d => match d with
      | .tup [.int a, .int b] => .int (a * (l.fdiv b))
      | _ => .non) (Nat.le_refl _) _ (fun d hd F hF => ?_) ?_
    · obtain ⟨f, hfm, rfl⟩ := List.mem_map.mp hd
      obtain ⟨f1, f2, f3⟩ := hf f hfm
      simp only [bindT, frP, fr, gt, st, nrK_d, ix_t, at_0, at_1, ex_some, div_i, mul_i]
      have bl : Bd 4000 l := hb.dvd hlL hL0
      exact ⟨((hb.dvd f2 hL0).div (by omega) (by decide)), f3.ok (bl.fdivg f1) (by decide), hF⟩
    · simp only [newL, oneK_1, unb_0]
      have e : (fs.map frP).map (fun d => match d with
        | .tup [.int a, .int b] => D.int (a * (l.fdiv b))
        | _ => .non) = (whole fs l).map .int := by
        unfold whole
        rw [List.map_map, List.map_map]
        rfl
      rw [e]
      exact h l hl hlL hi
/-- sums of products -/
def dotF : List ((Int × Int) × (Int × Int)) → Int × Int → Int × Int
  | [], s => s
  | (x, y) :: r, s => dotF r (s.1 * (x.2 * y.2) + (x.1 * y.1) * s.2, s.2 * (x.2 * y.2))
def dotZ : ZSp := fun us O Q _ => ∃ (xs ys : List (Int × Int)) (b : Nat), us = [.d (.tup (xs.map frP)), .d (.tup (ys.map frP))] ∧ O = [] ∧ xs.length ≤ 10 ∧ b ≤ 5000 ∧ (∀ f ∈ xs, Bd b f.1 ∧ Bd b f.2) ∧ (∀ f ∈ ys, Bd b f.1 ∧ Bd b f.2) ∧ Q (.d (frP (dotF (List.zip xs ys) (0, 1)))) []
theorem dotF_take : ∀ (zs : List ((Int × Int) × (Int × Int))) (j : Nat) (s : Int × Int) (x y : Int × Int), zs[j]? = some (x, y) → dotF (zs.take (j + 1)) s = ((dotF (zs.take j) s).1 * (x.2 * y.2) + (x.1 * y.1) * (dotF (zs.take j) s).2, (dotF (zs.take j) s).2 * (x.2 * y.2))
  | (a, b) :: zs, 0, s, x, y, h => by
    cases h
    simp only [List.take_succ_cons, List.take_zero, dotF]
  | (a, b) :: zs, j + 1, s, x, y, h => by
    rw [List.take_succ_cons, List.take_succ_cons, dotF, dotF]
    exact dotF_take zs j _ x y (by simpa using h)
theorem k_law_dot : Keeps [("_law_plus", plusZ), ("_law_by", byZ)] y__law_dot N__law_dot.length dotZ := by
  rintro us O Q E ⟨xs, ys, b, rfl, rfl, hlen, hb, hx, hy, h⟩
  show vcS _ y__law_dot E _ [some (.d (.tup (xs.map frP))), some (.d (.tup (ys.map frP))), none, none, none] _
  simp only [y__law_dot, vcS, vc, gt, st, oneK_1, brK_d, tosK_2, nrK_d, List.getElem?_cons_zero, List.getElem?_cons_succ]
  refine ⟨(by decide : 2 ≤ sizeLine), _, rfl, ?_⟩
  refine forR_inv (fun i ρ O => O = [] ∧ ∃ (x y : Option U), ρ = [some (.d (.tup (xs.map frP))), some (.d (.tup (ys.map frP))), some (.d (frP (dotF ((List.zip xs ys).take i) (0, 1)))), x, y] ∧
    i ≤ 10 ∧ Bd ((2 * b + 1) * i + 2) (dotF ((List.zip xs ys).take i) (0, 1)).1 ∧ Bd ((2 * b + 1) * i + 2) (dotF ((List.zip xs ys).take i) (0, 1)).2) _ _ _ 0 ⟨rfl, none, none, rfl, by decide, by rw [List.take_zero, dotF, Nat.mul_zero]; unfold Bd; decide, by rw [List.take_zero, dotF, Nat.mul_zero]; unfold Bd; decide⟩ ?_ ?_
  · rintro j d ρ O e ⟨rfl, x, y, rfl, hi, b1, b2⟩ N hN
    rw [List.zipWith_map, ← List.map_uncurry_zip_eq_zipWith, List.getElem?_map] at e
    cases q : (List.zip xs ys)[j]? with
    | none => rw [q] at e; cases e
    | some f =>
      rw [q] at e
      obtain ⟨u, v⟩ := f
      cases e
      have hm := List.of_mem_zip (List.mem_of_getElem? q)
      obtain ⟨u1, u2⟩ := hx u hm.1
      obtain ⟨v1, v2⟩ := hy v hm.2
      have hj : j < 10 := by
        have := (List.getElem?_eq_some_iff.mp q).1
        rw [List.length_zip] at this
        omega
      rw [Nat.zero_add] at b1 b2 hi
      have hjb : (2 * b + 1) * j ≤ (2 * b + 1) * 10 := Nat.mul_le_mul_left _ (by omega)
      simp only [Function.uncurry, bindT, bindTs, gt, st, oneK_1, nrK_d, List.getElem?_cons_zero, List.getElem?_cons_succ, Nat.zero_add]
      refine callD0 [frP u, frP v] fun F X hF => ⟨u.1, u.2, v.1, v.2, rfl, rfl, ⟨b, by omega, u1, u2, v1, v2⟩, hF _ ?_⟩
      refine callD0 [frP (dotF ((List.zip xs ys).take j) (0, 1)), fr (u.1 * v.1) (u.2 * v.2)] fun F X hF => ⟨_, _, _, _, rfl, rfl, ⟨(2 * b + 1) * j + 2 + 2 * b, by omega, b1.mono (by omega), b2.mono (by omega), (u1.mul v1).mono (by omega), (u2.mul v2).mono (by omega)⟩, hF _ ?_⟩
      have et := dotF_take (List.zip xs ys) j (0, 1) u v q
      refine hN _ _ ⟨rfl, some (.d (frP u)), some (.d (frP v)), ?_, by omega, ?_, ?_⟩
      · rw [show 0 + j + 1 = j + 1 by omega, et]
        rfl
      · rw [show 0 + j + 1 = j + 1 by omega, et]
        refine ((b1.mul (u2.mul v2)).add ((u1.mul v1).mul b2)).mono ?_
        rw [Nat.mul_add]
        omega
      · rw [show 0 + j + 1 = j + 1 by omega, et]
        refine (b2.mul (u2.mul v2)).mono ?_
        rw [Nat.mul_add]
        omega
  · rintro ρ O ⟨rfl, x, y, rfl, hi, b1, b2⟩
    simp only [unb_0, vcS, vc, gt, oneK_1]
    rw [List.length_zipWith, List.length_map, List.length_map, Nat.zero_add, ← List.length_zip, List.take_length]
    exact h
end Z

set_option Elab.async false
set_option linter.all false
set_option maxRecDepth 100000
set_option maxHeartbeats 4000000
namespace Z
open PySem PySem.Spec PyProof.Rows L2
/-! ### what the law asks of a told point -/
theorem all_l {bs : List Bool} {Q : D → Prop} (h : Q (.bl (bs.all id))) : BF.op .all [.lst (bs.map .bl)] Q := ⟨bs, rfl, h⟩
def isfrZ : ZSp := fun us O Q _ => ∃ p q : Int, us = [.d (fr p q)] ∧ O = [] ∧ 1 ≤ q ∧ Int.gcd p q = 1 ∧ Q (.d (.bl true)) []
theorem k_law_is_fraction : Keeps [("_law_gcd", gcdZ), ("_law_int", intZ)] y__law_is_fraction N__law_is_fraction.length isfrZ := by
  rintro us O Q E ⟨p, q, rfl, rfl, hq, hc, h⟩
  show vcS _ y__law_is_fraction E _ [some (.d (fr p q)), none] _
  simp only [y__law_is_fraction, fr, vcS, vc, gt, st, oneK_1, boolK_1, tyU, tyD, isi_tt, ex_some, true_and', nrsK_1, nrK_d, len_t, brK_d, wipeR, wipeR.rm, List.getElem?_cons_zero, List.getElem?_cons_succ]
  refine ⟨fun _ => ?_, fun z => by cases z⟩
  refine way (fun _ => ?_) fun z => absurd rfl z
  refine ⟨[.int p, .int q], rfl, (by decide : 2 ≤ sizeLine), ?_⟩
  refine compR_map (fun _ => .bl true) (Nat.le_refl _) _ (fun d hd F hF => ?_) ?_
  · have hd' : ∃ i, d = .int i := by
      simp only [List.mem_cons, List.not_mem_nil, or_false] at hd
      rcases hd with rfl | rfl
      · exact ⟨_, rfl⟩
      · exact ⟨_, rfl⟩
    obtain ⟨i, rfl⟩ := hd'
    simp only [bindT, gt, st]
    exact callD0 [.int i] fun F' X hF' => ⟨i, rfl, rfl, hF' _ hF⟩
  · simp only [newL, oneK_1, nrsK_1, unb_0]
    refine all_l (bs := [true, true]) ?_
    simp only [boolK_1, nrK_d, ix_t, at_0, at_1, ex_some, ge_i, gt, st, oneK_1, eq_i]
    refine ⟨fun _ => way (fun _ => ?_) fun z => absurd hq z, fun z => by cases z⟩
    refine callD0 [.int p, .int q] fun F X hF => ⟨p, q, rfl, rfl, hF _ ?_⟩
    simp only [oneK_1, nrK_d, eq_i]
    have e : decide (((Int.gcd p q : Nat) : Int) = 1) = true := decide_eq_true (by rw [hc]; rfl)
    rw [e]
    exact h
def isptZ : ZSp := fun us O Q _ => ∃ fs : List (Int × Int), us = [.d (.tup (fs.map frP)), .d (.int fs.length)] ∧ O = [] ∧ fs.length ≤ 100 ∧ (∀ f ∈ fs, 1 ≤ f.2 ∧ Int.gcd f.1 f.2 = 1) ∧ Q (.d (.bl true)) []
theorem k_law_is_point : Keeps [("_law_is_fraction", isfrZ)] y__law_is_point N__law_is_point.length isptZ := by
  rintro us O Q E ⟨fs, rfl, rfl, hlen, hf, h⟩
  show vcS _ y__law_is_point E _ [some (.d (.tup (fs.map frP))), some (.d (.int fs.length)), none] _
  simp only [y__law_is_point, vcS, vc, gt, st, oneK_1, boolK_1, tyU, tyD, isi_tt, ex_some, nrsK_1, nrK_d, len_t, brK_d, wipeR, wipeR.rm, List.getElem?_cons_zero, eq_i, List.length_map]
  refine ⟨fun _ => way (fun _ => ?_) fun z => absurd trivial z, fun z => by cases z⟩
  refine ⟨_, rfl, by rw [List.length_map]; exact Nat.le_trans hlen (by decide), ?_⟩
  refine compR_map (fun _ => .bl true) (Nat.le_refl _) _ (fun d hd F hF => ?_) ?_
  · obtain ⟨f, hm, rfl⟩ := List.mem_map.mp hd
    obtain ⟨h1, h2⟩ := hf f hm
    simp only [bindT, gt, st]
    exact callD0 [frP f] fun F' X hF' => ⟨f.1, f.2, rfl, rfl, h1, h2, hF' _ hF⟩
  · simp only [newL, oneK_1, nrsK_1, unb_0]
    have e : (fs.map frP).map (fun _ => D.bl true) = (fs.map fun _ => true).map .bl := by
      rw [List.map_map, List.map_map]
      rfl
    rw [e]
    refine all_l ?_
    have e2 : (fs.map fun _ => true).all id = true := by simp
    rw [e2]
    exact h
end Z

set_option Elab.async false
set_option linter.all false
set_option maxRecDepth 100000
set_option maxHeartbeats 4000000
namespace Z
open PySem PySem.Spec PyProof.Rows L2
/-! ### plain data -/
inductive Pl : Nat → D → Prop
  | non {n : Nat} : Pl n .non
  | bl {n : Nat} (b : Bool) : Pl n (.bl b)
  | int {n : Nat} (i : Int) : Pl n (.int i)
  | lst {n : Nat} {ds : List D} : ds.length ≤ 1000 → (∀ d ∈ ds, Pl n d) → Pl (n + 1) (.lst ds)
  | tup {n : Nat} {ds : List D} : ds.length ≤ 1000 → (∀ d ∈ ds, Pl n d) → Pl (n + 1) (.tup ds)
theorem pls {n : Nat} : ∀ {ds : List D}, (∀ d ∈ ds, (toP d).canLay0 = true ∧ (toP d).depth ≤ n) → PyData.canLayAll0 (toPs ds) = true ∧ PyData.depthAll (toPs ds) ≤ n
  | [], _ => ⟨by rw [toPs, PyData.canLayAll0], by rw [toPs, PyData.depthAll]; exact Nat.zero_le _⟩
  | d :: ds, h => by
    obtain ⟨h1, h2⟩ := h d List.mem_cons_self
    obtain ⟨h3, h4⟩ := pls fun e he => h e (List.mem_cons_of_mem _ he)
    exact ⟨by rw [toPs, PyData.canLayAll0, h1, h3]; rfl, by rw [toPs, PyData.depthAll]; exact Nat.max_le.mpr ⟨h2, h4⟩⟩
theorem Pl.ok {n : Nat} {d : D} (h : Pl n d) : (toP d).canLay0 = true ∧ (toP d).depth ≤ n := by
  induction h with
  | non => exact ⟨by rw [toP, PyData.canLay0], by rw [toP, PyData.depth]; exact Nat.zero_le _⟩
  | bl b => exact ⟨by rw [toP, PyData.canLay0], by rw [toP, PyData.depth]; exact Nat.zero_le _⟩
  | int i => exact ⟨by rw [toP, PyData.canLay0], by rw [toP, PyData.depth]; exact Nat.zero_le _⟩
  | lst _ _ ih =>
    obtain ⟨h1, h2⟩ := pls ih
    exact ⟨by rw [toP, PyData.canLay0]; exact h1, by rw [toP, PyData.depth]; exact Nat.succ_le_succ h2⟩
  | tup _ _ ih =>
    obtain ⟨h1, h2⟩ := pls ih
    exact ⟨by rw [toP, PyData.canLay0]; exact h1, by rw [toP, PyData.depth]; exact Nat.succ_le_succ h2⟩
theorem Pl.shp {n : Nat} {d : D} (h : Pl n d) (hn : n ≤ 64) : Shp d := by
  obtain ⟨h1, h2⟩ := h.ok
  unfold Shp SeqAt.shaped
  rw [h1, decide_eq_true (Nat.le_trans h2 hn)]
  rfl
theorem Pl.mono {n m : Nat} {d : D} (h : Pl n d) (l : n ≤ m) : Pl m d := by
  induction h generalizing m with
  | non => exact .non
  | bl b => exact .bl b
  | int i => exact .int i
  | lst hl _ ih =>
    obtain ⟨k, rfl⟩ : ∃ k, m = k + 1 := ⟨m - 1, by omega⟩
    exact .lst hl fun d hd => ih d hd (by omega)
  | tup hl _ ih =>
    obtain ⟨k, rfl⟩ : ∃ k, m = k + 1 := ⟨m - 1, by omega⟩
    exact .tup hl fun d hd => ih d hd (by omega)
theorem pl_row {r : List Int} (h : r.length ≤ 1000) : Pl 1 (rowD r) := .lst (by rw [List.length_map]; exact h) fun d hd => by
  obtain ⟨i, _, rfl⟩ := List.mem_map.mp hd
  exact .int i
theorem pl_rows {rs : List (List Int)} (h : rs.length ≤ 1000) (h2 : ∀ r ∈ rs, r.length ≤ 1000) : Pl 2 (.lst (rowsD rs)) := .lst (by unfold rowsD; rw [List.length_map]; exact h) fun d hd => by
  unfold rowsD at hd
  obtain ⟨r, hr, rfl⟩ := List.mem_map.mp hd
  exact pl_row (h2 r hr)
theorem pl_fr {p q : Int} : Pl 1 (fr p q) := .tup (by show 2 ≤ 1000; decide) fun d hd => by
  simp only [List.mem_cons, List.not_mem_nil, or_false] at hd
  rcases hd with rfl | rfl <;> exact .int _
/-- x != [] -/
theorem ne_nil {n : Nat} {ds : List D} {Q : Bool → Prop} (h : Pl n (.lst ds)) (hn : n ≤ 64) (q : Q (!ds.isEmpty)) : cmpD .NotEq (.lst ds) (.lst []) Q := by
  have h0 : Pl 1 (.lst []) := .lst (by show 0 ≤ 1000; decide) fun d hd => by cases hd
  refine ⟨h.shp hn, h0.shp (by decide), ?_⟩
  have e : PyData.eqv (toP (.lst ds)) (toP (.lst [])) = ds.isEmpty := by
    cases ds with
    | nil => simp [toP, toPs, PyData.eqv, PyData.eqvAll]
    | cons a b => simp [toP, toPs, PyData.eqv, PyData.eqvAll]
  show Q (!(PyData.eqv (toP (.lst ds)) (toP (.lst []))))
  rw [e]
  exact q
theorem ne_b {a b : Bool} {Q : Bool → Prop} (q : Q (!(a == b))) : cmpD .NotEq (.bl a) (.bl b) Q := by
  refine ⟨(Pl.bl (n := 0) a).shp (by decide), (Pl.bl (n := 0) b).shp (by decide), ?_⟩
  show Q (!(PyData.eqv (toP (.bl a)) (toP (.bl b))))
  rw [toP, toP, PyData.eqv]
  exact q
theorem eq_b {a b : Bool} {Q : Bool → Prop} (q : Q (a == b)) : cmpD .Eq (.bl a) (.bl b) Q := by
  refine ⟨(Pl.bl (n := 0) a).shp (by decide), (Pl.bl (n := 0) b).shp (by decide), ?_⟩
  show Q (PyData.eqv (toP (.bl a)) (toP (.bl b)))
  rw [toP, toP, PyData.eqv]
  exact q
/-! ### the same of the same -/
def sameZ (n : Nat) : ZSp := fun us O Q _ => ∃ x : D, us = [.d x, .d x] ∧ O = [] ∧ Pl n x ∧ Q (.d (.bl true)) []
theorem isi_tab : isiB "list" ["list", "tuple"] = some true ∧ isiB "tuple" ["list", "tuple"] = some true ∧ isiB "int" ["list", "tuple"] = some false ∧ isiB "bool" ["list", "tuple"] = some false ∧ isiB "NoneType" ["list", "tuple"] = some false ∧
    isiB "list" ["list"] = some true ∧ isiB "list" ["tuple"] = some false ∧ isiB "tuple" ["list"] = some false ∧ isiB "tuple" ["tuple"] = some true ∧ isiB "int" ["dict"] = some false ∧ isiB "bool" ["dict"] = some false ∧ isiB "int" ["bool"] = some false ∧ isiB "bool" ["bool"] = some true ∧ isiB "int" ["int"] = some true := by decide +kernel
theorem zip_self : ∀ ds : List D, List.zipWith (fun d e => D.tup [d, e]) ds ds = ds.map fun d => D.tup [d, d]
  | [] => rfl
  | d :: ds => by rw [List.zipWith_cons_cons, zip_self ds]; rfl
theorem is_nn {Q : Bool → Prop} : cmpD .Is .non .non Q = Q true := rfl
theorem is_in {i : Int} {Q : Bool → Prop} : cmpD .Is (.int i) .non Q = Q false := rfl
theorem is_bn {i : Bool} {Q : Bool → Prop} : cmpD .Is (.bl i) .non Q = Q false := rfl
theorem k_law_same (n : Nat) (S : ZSp) (hS : ∀ m, n = m + 1 → S = sameZ m) : Keeps [("_law_same", S)] y__law_same N__law_same.length (sameZ n) := by
  rintro us O Q E ⟨x, rfl, rfl, hx, h⟩
  show vcS _ y__law_same E _ [some (.d x), some (.d x), none, none] _
  obtain ⟨t1, t2, t3, t4, t5, t6, t7, t8, t9, t10, t11, t12, t13, t14⟩ := isi_tab
  have seq : ∀ (m : Nat) (ds : List D), n = m + 1 → ds.length ≤ 1000 → (∀ d ∈ ds, Pl m d) → ∀ F : List D → List DO → Prop, F (ds.map fun _ => .bl true) [] →
      compR (.tp (.cons (.nm 2) (.cons (.nm 3) .nil))) yesV (fun ρ O Q => vc [("_law_same", S)] (.call 0 (.cons (.var 2) (.cons (.var 3) .nil))) (fun _ _ => False) ρ O Q) [some (.d x), some (.d x), none, none] 0 (ds.map fun d => D.tup [d, d]) [] [] F := fun m ds hm hl hd F hF => by
    refine compR_map (fun _ => D.bl true) (Nat.le_refl 0) (ds.map fun d => D.tup [d, d]) (fun d hd' G hG => ?_) (by
      rw [List.map_map]
      exact hF)
    obtain ⟨e, he, rfl⟩ := List.mem_map.mp hd'
    simp only [bindT, bindTs, vc, gt, st, oneK_1, List.getElem?_cons_zero]
    refine callD0 [e, e] fun F X hF => ?_
    rw [hS m hm]
    exact ⟨e, rfl, rfl, hd e he, hF _ hG⟩
  have e2 : ∀ ds : List D, (ds.map fun _ => D.bl true) = (ds.map fun _ => true).map .bl := fun ds => by
    rw [List.map_map]
    rfl
  have e3 : ∀ ds : List D, (ds.map fun _ => true).all id = true := fun ds => by simp
  cases hx with
  | @lst m ds hl hd =>
    simp only [y__law_same, vcS, vc, gt, st, oneK_1, boolK_1, tyU, tyD, t1, t6, t7, ex_some, nrK_d, nrsK_1, brK_d, len_l, eq_i, wipeR, wipeR.rm, zip_self, Bool.false_eq_true, Bool.true_eq_false, false_implies, true_implies, true_and, and_true]
    refine ne_b ⟨(fun z => by cases z), fun _ => ne_b ⟨(fun z => by cases z), fun _ => ?_⟩⟩
    rw [decide_eq_true trivial]
    refine ⟨fun _ => ⟨_, rfl, by rw [List.length_map]; exact Nat.le_trans hl (by decide), seq m ds rfl hl hd _ ?_⟩, fun z => by cases z⟩
    simp only [newL, unb_0, oneK_1, nrsK_1]
    rw [e2]
    refine all_l ?_
    rw [e3]
    exact h
  | @tup m ds hl hd =>
    simp only [y__law_same, vcS, vc, gt, st, oneK_1, boolK_1, tyU, tyD, t2, t8, t9, ex_some, nrK_d, nrsK_1, brK_d, len_t, eq_i, wipeR, wipeR.rm, zip_self, Bool.false_eq_true, Bool.true_eq_false, false_implies, true_implies, true_and, and_true]
    refine ne_b ⟨(fun z => by cases z), fun _ => ne_b ⟨(fun z => by cases z), fun _ => ?_⟩⟩
    rw [decide_eq_true trivial]
    refine ⟨fun _ => ⟨_, rfl, by rw [List.length_map]; exact Nat.le_trans hl (by decide), seq m ds rfl hl hd _ ?_⟩, fun z => by cases z⟩
    simp only [newL, unb_0, oneK_1, nrsK_1]
    rw [e2]
    refine all_l ?_
    rw [e3]
    exact h
  | non =>
    simp only [y__law_same, vcS, vc, gt, st, oneK_1, boolK_1, tyU, tyD, t5, ex_some, nrK_d, is_nn]
    refine ⟨fun z => (by cases z), fun _ => ?_⟩
    refine ⟨fun _ => ⟨fun _ => ⟨fun _ => h, fun z => (by cases z)⟩, fun z => (by cases z)⟩, fun z => (by cases z)⟩
  | int i =>
    simp only [y__law_same, vcS, vc, gt, st, oneK_1, boolK_1, tyU, tyD, t3, t10, t12, t14, ex_some, nrK_d, is_in, eq_i, Bool.false_eq_true, Bool.true_eq_false, false_implies, true_implies, true_and, and_true]
    rw [decide_eq_true trivial]
    exact h
  | bl b =>
    simp only [y__law_same, vcS, vc, gt, st, oneK_1, boolK_1, tyU, tyD, t4, t11, t13, ex_some, nrK_d, is_bn, Bool.false_eq_true, Bool.true_eq_false, false_implies, true_implies, true_and, and_true]
    refine eq_b ?_
    rw [beq_self_eq_true]
    exact h
end Z

set_option Elab.async false
set_option linter.all false
set_option maxRecDepth 100000
set_option maxHeartbeats 4000000
namespace Z
open PySem PySem.Spec PyProof.Rows L2
/-! ### the walk of the law's rank -/
def rankZ : ZSp := fun us O Q _ => ∃ (rs : List (List Int)) (n b : Nat), us = [.d (.lst (rowsD rs))] ∧ O = [] ∧ rs ≠ [] ∧ (∀ r ∈ rs, r.length = n) ∧ rs.length ≤ 100 ∧ n ≤ 8 ∧ b ≤ 1000 ∧ (∀ r ∈ rs, ∀ x ∈ r, Bd b x) ∧ Q (.d (.int (rankF 0 n rs))) []
/-- rows of n numbers of b bits, at most 100 -/
structure Rws (n b : Nat) (rs : List (List Int)) : Prop where
  len : ∀ r ∈ rs, r.length = n
  bd : ∀ r ∈ rs, ∀ x ∈ r, Bd b x
  few : rs.length ≤ 100
theorem getD_of {r : List Int} {j : Nat} (h : j < r.length) : r[j]? = some (r.getD j 0) := by
  rw [List.getD_eq_getElem?_getD, List.getElem?_eq_getElem h]
  rfl
theorem at_row {r : List Int} {j : Nat} (h : j < r.length) : atI (r.map D.int) (j : Int) = some (.int (r.getD j 0)) := atI_nat (by rw [List.getElem?_map, getD_of h]; rfl)
theorem rowsD_filter (p : List Int → Bool) (q : D → Bool) (h : ∀ r, q (rowD r) = p r) : ∀ rs : List (List Int), (rowsD rs).filter q = rowsD (rs.filter p)
  | [] => rfl
  | r :: rs => by
    have ih := rowsD_filter p q h rs
    unfold rowsD at ih ⊢
    rw [List.map_cons, List.filter_cons, List.filter_cons, h r, ih]
    split <;> rfl
def rowOf : D → List Int
  | .lst ds => ds.map fun d => match d with
    | .int i => i
    | _ => 0
  | _ => []
theorem rowOf_row (r : List Int) : rowOf (rowD r) = r := by
  show ((r.map D.int).map fun d => match d with
    | .int i => i
    | _ => 0) = r
  rw [List.map_map]
  exact List.map_id r
theorem fil_len {α : Type} (p : α → Bool) : ∀ l : List α, (l.filter p).length + (l.filter fun x => !p x).length = l.length
  | [] => rfl
  | x :: l => by
    have ih := fil_len p l
    rw [List.filter_cons, List.filter_cons, List.length_cons]
    cases p x <;> simp <;> omega
theorem step_ok {n b j : Nat} {rs : List (List Int)} (h : Rws n b rs) (hj : j < n) : Rws n (2 * b + 1) (step j rs) := by
  unfold step
  cases q : liveR j rs with
  | nil => exact ⟨h.len, fun r hr x hx => (h.bd r hr x hx).mono (by omega), h.few⟩
  | cons top rest =>
    have hmem : ∀ r, r ∈ top :: rest → r ∈ rs := fun r hr => by
      rw [← q] at hr
      exact (List.mem_filter.mp hr).1
    have ht := hmem top List.mem_cons_self
    have row : ∀ r ∈ rest, (List.zipWith (fun n m => n * top.getD j 0 - m * r.getD j 0) r top).length = n ∧ ∀ x ∈ List.zipWith (fun n m => n * top.getD j 0 - m * r.getD j 0) r top, Bd (2 * b + 1) x := fun r hr => by
      have hr' := hmem r (List.mem_cons_of_mem _ hr)
      refine ⟨by rw [List.length_zipWith, h.len r hr', h.len top ht, Nat.min_self], fun x hx => ?_⟩
      rw [← List.map_uncurry_zip_eq_zipWith] at hx
      obtain ⟨⟨u, w⟩, hm, rfl⟩ := List.mem_map.mp hx
      have hu := h.bd r hr' u (List.of_mem_zip hm).1
      have hw := h.bd top ht w (List.of_mem_zip hm).2
      have g1 := h.bd top ht (top.getD j 0) (List.mem_of_getElem? (getD_of (by rw [h.len top ht]; exact hj)))
      have g2 := h.bd r hr' (r.getD j 0) (List.mem_of_getElem? (getD_of (by rw [h.len r hr']; exact hj)))
      exact ((hu.mul g1).sub (hw.mul g2)).mono (by omega)
    refine ⟨fun r hr => ?_, fun r hr => ?_, ?_⟩
    · rcases List.mem_append.mp hr with m | m
      · exact h.len r (List.mem_filter.mp m).1
      · obtain ⟨r0, hr0, rfl⟩ := List.mem_map.mp m
        exact (row r0 hr0).1
    · rcases List.mem_append.mp hr with m | m
      · exact fun x hx => (h.bd r (List.mem_filter.mp m).1 x hx).mono (by omega)
      · obtain ⟨r0, hr0, rfl⟩ := List.mem_map.mp m
        exact (row r0 hr0).2
    · rw [List.length_append, List.length_map]
      have h1 : (rs.filter fun r => decide (r.getD j 0 = 0)).length + (rs.filter fun r => !decide (r.getD j 0 = 0)).length = rs.length := by
        exact fil_len (fun r => decide (r.getD j 0 = 0)) rs
      have h2 : (liveR j rs).length = rest.length + 1 := by rw [q]; rfl
      unfold liveR at h2
      have := h.few
      omega
theorem k_law_rank : Keeps [] y__law_rank N__law_rank.length rankZ := by
  rintro us O Q E ⟨rs, n, b, rfl, rfl, hne, hl, hfew, hn, hb, hbd, h⟩
  show vcS _ y__law_rank E _ [some (.d (.lst (rowsD rs))), none, none, none, none, none, none, none, none, none] _
  cases rs with
  | nil => exact absurd rfl hne
  | cons r0 rs0 =>
  generalize hrs : r0 :: rs0 = rs at *
  have e0 : atI (rowsD rs) 0 = some (rowD r0) := by
    rw [← hrs]
    exact at_0
  have hr0 : r0.length = n := hl r0 (by rw [← hrs]; exact List.mem_cons_self)
  simp only [y__law_rank, vcS, vc, gt, st, oneK_1, brK_d, nrK_d, nrsK_1, wipeR, wipeR.rm, ix_l, e0, ex_some, list_l]
  refine ⟨rowsD rs, rfl, by unfold rowsD; rw [List.length_map]; exact Nat.le_trans hfew (by decide), ?_⟩
  refine compR_map (fun d => d) (Nat.le_refl _) _ (fun d hd F hF => ?_) ?_
  · unfold rowsD at hd
    obtain ⟨r, hr, rfl⟩ := List.mem_map.mp hd
    simp only [bindT, rowD, gt, st, nrsK_1, list_l]
    exact hF
  rw [List.map_id']
  simp only [newL, oneK_1, unb_0, rowD, len_l, gt, st, nrK_d, ix_l, e0, ex_some, nrsK_1, List.length_map, hr0]
  refine ⟨⟨by omega, by omega⟩, _, rfl, ?_⟩
  refine forR_inv (fun i ρ O => O = [] ∧ ∃ (x1 x4 x5 x6 : Option U) (rj : List (List Int)) (k : Nat), ρ = [some (.d (.lst (rowsD rs))), x1, some (.d (.lst (rowsD rj))), some (.d (.int k)), x4, x5, x6, none, none, none] ∧
    i ≤ n ∧ Rws n (2 ^ i * (b + 1) - 1) rj ∧ k + rankF i (n - i) rj = rankF 0 n rs) _ _ _ 0 ⟨rfl, none, none, none, none, rs, 0, rfl, Nat.zero_le _, ⟨hl, fun r hr x hx => (hbd r hr x hx).mono (by omega), hfew⟩, by rw [Nat.zero_add]; rfl⟩ ?_ ?_
  · rintro j d ρ O e ⟨rfl, x1, x4, x5, x6, rj, k, rfl, hi, hw, hk⟩ N hN
    rw [Nat.zero_add] at hi hw hk hN
    have hj : j < n := by
      have := (List.getElem?_eq_some_iff.mp e).1
      rw [List.length_map, List.length_range] at this
      omega
    have ed : d = .int (j : Int) := by
      rw [List.getElem?_map, List.getElem?_range (by omega)] at e
      simpa using e.symm
    subst ed
    have hlenj : ∀ r ∈ rj, j < r.length := fun r hr => by rw [hw.len r hr]; exact hj
    have hz : (rowsD rj).length ≤ sizeLine := by unfold rowsD; rw [List.length_map]; exact Nat.le_trans hw.few (by decide)
    have fil1 : (rowsD rj).filter (fun d => !decide ((rowOf d).getD j 0 = 0)) = rowsD (liveR j rj) := rowsD_filter _ _ (fun r => by rw [rowOf_row]) rj
    have fil0 : (rowsD rj).filter (fun d => decide ((rowOf d).getD j 0 = 0)) = rowsD (rj.filter fun r => decide (r.getD j 0 = 0)) := rowsD_filter _ _ (fun r => by rw [rowOf_row]) rj
    have hlive : ∀ r ∈ liveR j rj, r ∈ rj := fun r hr => (List.mem_filter.mp hr).1
    have hliveL : (liveR j rj).length ≤ 100 := Nat.le_trans (List.length_filter_le ..) hw.few
    simp only [bindT, gt, st, oneK_1, brK_d, wipeR, wipeR.rm]
    refine ⟨rowsD rj, rfl, hz, ?_⟩
    refine compR_filter (fun d => !decide ((rowOf d).getD j 0 = 0)) (fun d => d) (Nat.le_refl _) _ _ (fun d hd F S hF hS => ?_) ?_
    · unfold rowsD at hd
      obtain ⟨r, hr, rfl⟩ := List.mem_map.mp hd
      rw [rowOf_row] at hF hS
      have ar := at_row (hlenj r hr)
      simp only [bindT, rowD, gt, st, nrK_d, ix_l, ar, ex_some, ne_i, boolK_1]
      exact ⟨fun h => hF h, fun h => hS h⟩
    rw [List.nil_append, List.map_id', fil1]
    simp only [newL, oneK_1, unb_0, gt, st, tosK_0, nrK_d]
    refine ⟨(by decide : 0 ≤ sizeLine), ?_⟩
    refine ne_nil (pl_rows (by omega) fun r hr => by rw [hw.len r (hlive r hr)]; omega) (by decide) ?_
    have hsub : n - j = (n - (j + 1)) + 1 := by omega
    cases ql : liveR j rj with
    | nil =>
      refine ⟨(fun z => by cases z), fun _ => ?_⟩
      refine hN _ _ ⟨rfl, _, _, _, _, rj, k, rfl, hj, ?_, ?_⟩
      · exact ⟨hw.len, fun r hr x hx => (hw.bd r hr x hx).mono (Nat.sub_le_sub_right (Nat.mul_le_mul_right _ (Nat.pow_le_pow_right (by decide) (by omega))) 1), hw.few⟩
      · rw [hsub, rankF] at hk
        have e2 : step j rj = rj := by unfold step; rw [ql]
        have e3 : found j rj = 0 := by unfold found; rw [if_pos ql]
        rw [e2, e3] at hk
        rw [← hk]
        omega
    | cons top rest =>
      have hok := step_ok hw hj
      have htop : top ∈ rj := hlive top (by rw [ql]; exact List.mem_cons_self)
      have hrest : ∀ r ∈ rest, r ∈ rj := fun r hr => hlive r (by rw [ql]; exact List.mem_cons_of_mem _ hr)
      have hrl : rest.length ≤ 100 := by rw [ql, List.length_cons] at hliveL; omega
      refine ⟨fun _ => ?_, fun z => by cases z⟩
      have e1 : atI (rowsD (top :: rest)) 0 = some (rowD top) := at_0
      have e2 : cutL (rowsD (top :: rest)) (some 1) none = rowsD rest := by
        have h1 := HT.sIx_nat (rowsD (top :: rest)).length 0 1
        unfold cutL
        rw [show (1 : Int) = ((1 : Nat) : Int) from rfl, h1, HT.sIx_none]
        have h2 : (rowsD (top :: rest)).length = rest.length + 1 := by unfold rowsD; simp
        rw [h2, show min 1 (rest.length + 1) = 1 by omega]
        show ((rowsD (top :: rest)).drop 1).take (rest.length + 1 - 1) = _
        have h3 : (rowsD (top :: rest)).drop 1 = rowsD rest := rfl
        rw [h3, List.take_of_length_le (by unfold rowsD; simp)]
      have bt : ∀ x ∈ top, Bd (2 ^ j * (b + 1) - 1) x := hw.bd top htop
      have hpw : 2 ^ j * (b + 1) ≤ 2 ^ 8 * 1001 := Nat.mul_le_mul (Nat.pow_le_pow_right (by decide) (by omega)) (by omega)
      have atop := at_row (hlenj top htop)
      have btj : Bd (2 ^ j * (b + 1) - 1) (top.getD j 0) := bt _ (List.mem_of_getElem? (getD_of (hlenj top htop)))
      simp only [gt, st, oneK_1, nrK_d, ix_l, e1, ex_some, partK, slD, e2, brK_d, wipeR, wipeR.rm]
      refine ⟨rowsD rest, rfl, by unfold rowsD; rw [List.length_map]; exact Nat.le_trans hrl (by decide), ?_⟩
      refine compR_map (fun d => rowD (List.zipWith (fun n m => n * top.getD j 0 - m * (rowOf d).getD j 0) (rowOf d) top)) (Nat.le_refl _) _ (fun d hd F hF => ?_) ?_
      · unfold rowsD at hd
        obtain ⟨r, hr, rfl⟩ := List.mem_map.mp hd
        rw [rowOf_row] at hF
        have ar := at_row (hlenj r (hrest r hr))
        have br : ∀ x ∈ r, Bd (2 ^ j * (b + 1) - 1) x := hw.bd r (hrest r hr)
        have brj := br _ (List.mem_of_getElem? (getD_of (hlenj r (hrest r hr))))
        simp only [bindT, rowD, gt, st, nrK_d, brK_d, oneK_1, zip_rows, wipeR, wipeR.rm]
        refine ⟨_, rfl, by rw [List.length_map, List.length_zip, hw.len r (hrest r hr)]; exact Nat.le_trans (Nat.min_le_left ..) (Nat.le_trans hn (by decide)), ?_⟩
        refine compR_map (fun d => match d with
          | .tup [.int u, .int w] => .int (u * top.getD j 0 - w * r.getD j 0)
          | _ => .non) (Nat.le_refl _) _ (fun d hd F hF => ?_) ?_
        · obtain ⟨⟨u, w⟩, hm, rfl⟩ := List.mem_map.mp hd
          have hu := br u (List.of_mem_zip hm).1
          have hw' := bt w (List.of_mem_zip hm).2
          simp only [bindT, bindTs, gt, st, nrK_d, ix_l, atop, ar, ex_some, mul_i, sub_i]
          exact ⟨hu.ok btj (by omega), hw'.ok brj (by omega), hF⟩
        · simp only [newL, oneK_1, unb_0]
          have e3 : ((List.zip r top).map fun q => D.tup [.int q.1, .int q.2]).map (fun d => match d with
            | .tup [.int u, .int w] => D.int (u * top.getD j 0 - w * r.getD j 0)
            | _ => .non) = (List.zipWith (fun u w => u * top.getD j 0 - w * r.getD j 0) r top).map .int := by
            rw [List.map_map, List.map_zipWith, List.zip_eq_zipWith, List.map_zipWith]
            rfl
          rw [e3]
          exact hF
      simp only [newL, oneK_1, unb_0, gt, st, nrK_d, brK_d, wipeR, wipeR.rm]
      refine ⟨rowsD rj, rfl, hz, ?_⟩
      refine compR_filter (fun d => decide ((rowOf d).getD j 0 = 0)) (fun d => d) (Nat.le_refl _) _ _ (fun d hd F S hF hS => ?_) ?_
      · unfold rowsD at hd
        obtain ⟨r, hr, rfl⟩ := List.mem_map.mp hd
        rw [rowOf_row] at hF hS
        have ar := at_row (hlenj r hr)
        simp only [bindT, rowD, gt, st, nrK_d, ix_l, ar, ex_some, eq_i, boolK_1]
        exact ⟨fun h => hF h, fun h => hS h⟩
      rw [List.nil_append, List.map_id', fil0]
      simp only [newL, oneK_1, unb_0, gt, st, nrK_d, add_i]
      have es : rowsD (rj.filter fun r => decide (r.getD j 0 = 0)) ++ (rowsD rest).map (fun d => rowD (List.zipWith (fun n m => n * top.getD j 0 - m * (rowOf d).getD j 0) (rowOf d) top)) = rowsD (step j rj) := by
        unfold step
        rw [ql]
        unfold rowsD
        rw [List.map_append, List.map_map, List.map_map]
        congr 1
        refine List.map_congr_left fun r _ => ?_
        show rowD (List.zipWith (fun n m => n * top.getD j 0 - m * (rowOf (rowD r)).getD j 0) (rowOf (rowD r)) top) = _
        rw [rowOf_row]
        rfl
      refine ⟨?_, ?_⟩
      · rw [← List.length_append, es]
        unfold rowsD
        rw [List.length_map]
        exact Nat.le_trans hok.few (by decide)
      · rw [es]
        refine hN _ _ ⟨rfl, _, _, _, _, step j rj, k + 1, rfl, hj, ?_, ?_⟩
        · refine ⟨hok.len, fun r hr x hx => (hok.bd r hr x hx).mono ?_, hok.few⟩
          have h0 : 0 < 2 ^ j * (b + 1) := Nat.mul_pos (Nat.pow_pos (by decide)) (by omega)
          have h1 : 2 ^ (j + 1) * (b + 1) = 2 * (2 ^ j * (b + 1)) := by rw [Nat.pow_succ, Nat.mul_comm (2 ^ j) 2, Nat.mul_assoc]
          rw [h1]
          omega
        · rw [hsub, rankF] at hk
          have e3 : found j rj = 1 := by unfold found; rw [if_neg (by rw [ql]; exact List.cons_ne_nil _ _)]
          rw [e3] at hk
          rw [← hk]
          omega
  · rintro ρ O ⟨rfl, x1, x4, x5, x6, rj, k, rfl, hi, hw, hk⟩
    have e1 : (0 + ((List.range ((n : Nat) : Int).toNat).map fun (i : Nat) => D.int (0 + (i : Int))).length) = n := by
      rw [List.length_map, List.length_range]
      omega
    rw [e1] at hk
    simp only [unb_0, vcS, vc, gt, oneK_1]
    have : k = rankF 0 n rs := by
      rw [← hk, Nat.sub_self, rankF]
      omega
    rw [this]
    exact h
end Z

set_option Elab.async false
set_option linter.all false
set_option maxRecDepth 100000
set_option maxHeartbeats 4000000
namespace Z
open PySem PySem.Spec PyProof.Rows L2
def stepD (s : Nat × List Int) : D := .tup [.int s.1, rowD s.2]
/-- told values: y_i / M -/
structure Vls (w : Nat) (fs : List (Int × Int)) (y : List Int) (M : Int) : Prop where
  len : fs.length = w
  ylen : y.length = w + 1
  pos : 0 < M
  den : y.getD w 0 = -M
  ok : ∀ i, i < w → 0 < (fs.getD i (0, 1)).2 ∧ Int.gcd (fs.getD i (0, 1)).1 (fs.getD i (0, 1)).2 = 1 ∧ y.getD i 0 * (fs.getD i (0, 1)).2 = (fs.getD i (0, 1)).1 * M
def filledZ : ZSp := fun us O Q _ => ∃ (w : Nat) (ss : List (Nat × List Int)), us = [.o 0, .d (.int w)] ∧ O = [.lst (ss.map stepD)] ∧ Stps w ss ∧ (ss.Pairwise fun s t => s.1 < t.1) ∧ 1 ≤ w ∧ w ≤ 4 ∧ (∀ s ∈ ss, ∀ x ∈ s.2, Bd (2 ^ s.1 * 101 - 1) x) ∧
  ∀ fs y M, Vls w fs y M → (∀ s ∈ ss, dotI s.2 y = 0) → (∀ f ∈ fs, Bd 4380 f.1 ∧ Bd 4380 f.2) → Q (.d (.tup (fs.map frP))) [.lst (ss.map stepD)]
def qb : Nat → Nat
  | 0 => 4380
  | 1 => 2240
  | 2 => 1220
  | _ => 810
def sb (c : Nat) : Nat → Nat
  | 0 => 0
  | m + 1 => sb c m + qb (c + 1 + m)
theorem qb_le (k : Nat) : 810 ≤ qb k ∧ qb k ≤ 4380 := by
  unfold qb
  split <;> exact ⟨by decide, by decide⟩
theorem sb_le {c m : Nat} (h : c + 1 + m ≤ 4) : sb c m ≤ 4270 ∧ 2 ^ c * 101 - 1 + sb c m + m + 1 ≤ qb c := by
  have hc : c < 4 := by omega
  have hm : m < 4 := by omega
  obtain rfl | rfl | rfl | rfl : c = 0 ∨ c = 1 ∨ c = 2 ∨ c = 3 := by omega
  all_goals (obtain rfl | rfl | rfl | rfl : m = 0 ∨ m = 1 ∨ m = 2 ∨ m = 3 := by omega)
  all_goals first | (exfalso; omega) | exact ⟨by decide, by decide⟩
theorem rev0 {ds ws : List D} {k : D → List DO → Prop} : brK ([.lst ds] ++ [.lst ws]) (.o 0) k = k (.lst ds) [.brw ds, .lst ws] := rfl
theorem unb_bl {a b c : List D} : unb [.brw a, .lst b] [.brw a, .lst c] = [.brw a, .lst c] := rfl
theorem unb_ll {a b c : List D} : unb [.lst a, .lst b] [.brw a, .lst c] = [.lst a, .lst c] := rfl
theorem getD_set {α : Type} {l : List α} {c i : Nat} {x d : α} (hc : c < l.length) : (l.set c x).getD i d = if i = c then x else l.getD i d := by
  by_cases e : i = c
  · subst e
    rw [if_pos rfl, List.getD_eq_getElem?_getD, List.getElem?_set_self hc]
    rfl
  · rw [if_neg e, List.getD_eq_getElem?_getD, List.getElem?_set_ne (Ne.symm e), ← List.getD_eq_getElem?_getD]
theorem at_fs {fs : List (Int × Int)} {i : Nat} (h : i < fs.length) : atI (fs.map frP) (i : Int) = some (frP (fs.getD i (0, 1))) := atI_nat (by
  rw [List.getElem?_map, List.getD_eq_getElem?_getD, List.getElem?_eq_getElem h]
  rfl)
theorem pair_rev {ss : List (Nat × List Int)} (h : ss.Pairwise fun s t => s.1 < t.1) {j : Nat} {s : Nat × List Int} (e : ss.reverse[j]? = some s) : ∀ t ∈ ss.reverse.take j, s.1 < t.1 := by
  have hr : ss.reverse.Pairwise fun s t => t.1 < s.1 := List.pairwise_reverse.mpr h
  intro t ht
  obtain ⟨i, hi, rfl⟩ := List.mem_iff_getElem.mp ht
  rw [List.getElem_take]
  rw [List.length_take] at hi
  obtain ⟨hj, rfl⟩ := List.getElem?_eq_some_iff.mp e
  exact List.pairwise_iff_getElem.mp hr i j (by omega) hj (by omega)
theorem k_filled : KeepsD [("ratio", lowZ), ("minus", minusZ), ("times", timesZ)] y_filled N_filled.length filledZ := by
  rintro us O Q E ⟨w, ss, rfl, rfl, hst, hinc, hw1, hw4, hb, h⟩
  show vcS _ y_filled E _ [some (.o 0), some (.d (.int w)), none, none, none, none, none] _
  simp only [y_filled, vcS, vc, gt, st, oneK_1, nrK_d, tosK_1, tosK_2, newL, mulD, List.length_cons, List.length_nil, rev0]
  refine ⟨(by decide : 2 ≤ sizeLine), (by decide : 1 ≤ sizeLine), ⟨by omega, by omega, by rw [sizeLine_eq]; omega⟩, _, rfl, ?_⟩
  have e0 : (List.replicate ((w : Int)).toNat [D.tup [.int 0, .int 1]]).flatten = (List.replicate w (0, 1)).map frP := by
    rw [show ((w : Int)).toNat = w by omega]
    clear hst hinc hb h hw1 hw4
    induction w with
    | zero => rfl
    | succ n ih => rw [List.replicate_succ, List.flatten_cons, ih, List.replicate_succ]; rfl
  rw [e0]
  refine forR_inv (fun i ρ O => ∃ (fs : List (Int × Int)) (y : List Int) (M : Int) (x3 x4 x5 x6 : Option U), O = [.brw (ss.map stepD), .lst (fs.map frP)] ∧ ρ = [some (.o 0), some (.d (.int w)), some (.o 1), x3, x4, x5, x6] ∧ Vls w fs y M ∧
    (∀ s ∈ ss.reverse.take i, dotI s.2 y = 0) ∧ ∀ k, k < w → Bd (qb k) (fs.getD k (0, 1)).1 ∧ Bd (qb k) (fs.getD k (0, 1)).2) _ _ _ 0 ?_ ?_ ?_
  · refine ⟨List.replicate w (0, 1), List.replicate w 0 ++ [-1], 1, none, none, none, none, rfl, rfl, ⟨by simp, by simp, by decide, ?_, fun i hi => ?_⟩, by simp, fun k hk => ?_⟩
    · rw [List.getD_eq_getElem?_getD, List.getElem?_append_right (by simp)]
      simp
    · have e1 : (List.replicate w ((0 : Int), (1 : Int))).getD i (0, 1) = (0, 1) := by
        rw [List.getD_eq_getElem?_getD, List.getElem?_replicate, if_pos hi]
        rfl
      have e2 : (List.replicate w (0 : Int) ++ [-1]).getD i 0 = 0 := by
        rw [List.getD_eq_getElem?_getD, List.getElem?_append_left (by simpa using hi), List.getElem?_replicate, if_pos hi]
        rfl
      rw [e1, e2]
      exact ⟨by decide, by decide, by decide⟩
    · have e1 : (List.replicate w ((0 : Int), (1 : Int))).getD k (0, 1) = (0, 1) := by
        rw [List.getD_eq_getElem?_getD, List.getElem?_replicate, if_pos hk]
        rfl
      rw [e1]
      have := (qb_le k).1
      exact ⟨Bd.mono (a := 1) (by unfold Bd; decide) (by omega), Bd.mono (a := 1) (by unfold Bd; decide) (by omega)⟩
  · rintro j d ρ O e ⟨fs, y, M, x3, x4, x5, x6, rfl, rfl, hv, hd, hbd⟩ N hN
    rw [Nat.zero_add] at hd hN
    rw [← List.map_reverse, List.getElem?_map] at e
    cases q : ss.reverse[j]? with
    | none => rw [q] at e; cases e
    | some s =>
    rw [q] at e
    cases e
    have hbefore := pair_rev hinc q
    have hs : s ∈ ss := List.mem_reverse.mp (List.mem_of_getElem? q)
    obtain ⟨rl, hcw, rc0, rz⟩ := hst s hs
    have hrb := hb s hs
    obtain ⟨c, row⟩ := s
    simp only at rl hcw rc0 rz hrb hbefore
    have hrow : ∀ i, i < w + 1 → atI (row.map D.int) (i : Int) = some (.int (row.getD i 0)) := fun i hi => at_row (by omega)
    have brow : ∀ i, i < w + 1 → Bd (2 ^ c * 101 - 1) (row.getD i 0) := fun i hi => hrb _ (List.mem_of_getElem? (getD_of (by omega)))
    have hmc : 2 ^ c * 101 ≤ 2 ^ 3 * 101 := Nat.mul_le_mul_right _ (Nat.pow_le_pow_right (by decide) (by omega))
    simp only [stepD, rowD, bindT, bindTs, gt, st, oneK_1, nrK_d, ix_l, hrow w (by omega), ex_some, tosK_2, add_i]
    refine ⟨(by decide : 2 ≤ sizeLine), ⟨by omega, by omega, by omega, by omega⟩, _, rfl, ?_⟩
    refine forR_inv (fun m ρ O => ∃ (a b : Int) (x6 : Option U), O = [.brw (ss.map stepD), .lst (fs.map frP)] ∧ ρ = [some (.o 0), some (.d (.int w)), some (.o 1), some (.d (.int c)), some (.d (.lst (row.map .int))), some (.d (fr a b)), x6] ∧
      c + 1 + m ≤ w ∧ 0 < b ∧ a * M = -(b * psum row y w c m) ∧ Bd (2 ^ c * 101 - 1 + sb c m + m + 1) a ∧ Bd (1 + sb c m) b) _ _ _ 0 ?_ ?_ ?_
    · refine ⟨row.getD w 0, 1, x6, rfl, rfl, by omega, by decide, ?_, (brow w (by omega)).mono (by omega), Bd.mono (a := 1) (by unfold Bd; decide) (by omega)⟩
      unfold psum
      rw [sumN, hv.den, Int.one_mul, Int.add_zero, Int.mul_neg, Int.neg_neg]
    · rintro m d ρ O e ⟨a, b, x6, rfl, rfl, hcm, hb0, ha, hba, hbb⟩ N2 hN2
      rw [Nat.zero_add] at hcm ha hba hbb hN2
      have hm : m < w - c - 1 := by
        have := (List.getElem?_eq_some_iff.mp e).1
        rw [List.length_map, List.length_range] at this
        omega
      have ed : d = .int ((c + 1 + m : Nat) : Int) := by
        rw [List.getElem?_map, List.getElem?_range (by omega)] at e
        have : d = .int ((c : Int) + 1 + (m : Int)) := by simpa using e.symm
        rw [this]
        congr 1 <;> omega
      subst ed
      have hi : c + 1 + m < w := by omega
      have hsb := sb_le (c := c) (m := m) (by omega)
      have hq := qb_le (c + 1 + m)
      obtain ⟨v1, v2, v3⟩ := hv.ok (c + 1 + m) hi
      obtain ⟨w1, w2⟩ := hbd (c + 1 + m) hi
      have bri := brow (c + 1 + m) (by omega)
      have efs := at_fs (fs := fs) (i := c + 1 + m) (by rw [hv.len]; exact hi)
      have skip : row.getD (c + 1 + m) 0 * y.getD (c + 1 + m) 0 = 0 → N2 [some (.o 0), some (.d (.int w)), some (.o 1), some (.d (.int c)), some (.d (.lst (row.map .int))), some (.d (fr a b)), some (.d (.int ((c + 1 + m : Nat) : Int)))] [.brw (ss.map stepD), .lst (fs.map frP)] := fun z =>
        hN2 _ _ ⟨a, b, _, rfl, rfl, by omega, hb0, by rw [psum_succ, z, Int.add_zero]; exact ha, hba.mono (by rw [sb]; omega), hbb.mono (by rw [sb]; omega)⟩
      generalize hf : fs.getD (c + 1 + m) (0, 1) = f at *
      obtain ⟨p, qq⟩ := f
      simp only at v1 v2 v3 w1 w2
      simp only [bindT, gt, st, oneK_1, nrK_d, ix_l, hrow (c + 1 + m) (by omega), ex_some, ne_i, boolK_1, nrK_lst1, efs, frP, fr, ix_t, at_0]
      refine wayN (fun hr => ?_) fun hr => ⟨fun z => (by cases z), fun _ => skip (by rw [hr, Int.zero_mul])⟩
      refine wayN (fun hp => ?_) fun hp => skip (by
        rw [hp, Int.zero_mul] at v3
        rcases Int.mul_eq_zero.mp v3 with z | z
        · rw [z, Int.mul_zero]
        · omega)
      simp only [tosK_2, List.getElem?_cons_zero, List.getElem?_cons_succ, oneK_1, nrK_d, ix_l, hrow (c + 1 + m) (by omega), ex_some, nrK_lst1, efs, frP, fr]
      refine ⟨(by decide : 2 ≤ sizeLine), ?_⟩
      have b1 : Bd 1 (1 : Int) := by unfold Bd; decide
      refine callD0 [fr (row.getD (c + 1 + m) 0) 1, fr p qq] fun F X hF => ⟨_, _, _, _, rfl, rfl, by decide, v1, ⟨10000, by decide, bri.mono (by omega), b1.mono (by omega), w1.mono (by omega), w2.mono (by omega)⟩, by rw [Int.one_mul]; exact w2.mono (by omega), fun e1 e2 he2 hg he => hF _ ?_⟩
      rw [Int.one_mul] at he
      have hqq : qq ≠ 0 := by omega
      have be1 : Bd (2 ^ c * 101 - 1 + qb (c + 1 + m)) e1 := low_num hqq he2 hg he (bri.mul w1)
      have be2 : Bd (qb (c + 1 + m)) e2 := low_den hqq he2 hg he w2
      have bbe : Bd (1 + sb c m + qb (c + 1 + m)) (b * e2) := hbb.mul be2
      have bnum : Bd (2 ^ c * 101 - 1 + sb c (m + 1) + (m + 1) + 1) (a * e2 - e1 * b) := ((hba.mul be2).sub (be1.mul hbb)).mono (by rw [sb]; omega)
      have hbe0 : b * e2 ≠ 0 := by
        have := Int.mul_pos hb0 he2
        omega
      refine callD0 [fr a b, fr e1 e2] fun F X hF => ⟨_, _, _, _, rfl, rfl, hb0, he2, ⟨10000, by decide, hba.mono (by omega), hbb.mono (by omega), be1.mono (by omega), be2.mono (by omega)⟩, bbe.mono (by omega), fun a2 b2 hb2 hg2 hm2 => hF _ ?_⟩
      refine hN2 _ _ ⟨a2, b2, _, rfl, rfl, by omega, hb2, ?_, low_num hbe0 hb2 hg2 hm2 bnum, (low_den hbe0 hb2 hg2 hm2 bbe).mono (by rw [sb]; omega)⟩
      rw [psum_succ]
      exact less_term v1 hb0 v3 ha e1 e2 he2 he hb2 hm2
    · rintro ρ O ⟨a, b, x6, rfl, rfl, hcm, hb0, ha, hba, hbb⟩
      have em : 0 + ((List.range ((w : Int) - ((c : Int) + 1)).toNat).map fun (m : Nat) => D.int ((c : Int) + 1 + (m : Int))).length = w - c - 1 := by
        rw [List.length_map, List.length_range]
        omega
      rw [em] at hcm ha hba hbb
      rw [psum_all rl hv.ylen hcw rz] at ha
      have hsb := sb_le (c := c) (m := w - c - 1) (by omega)
      have hqc := qb_le c
      have erow := hrow c (by omega)
      have brc := brow c (by omega)
      have hbr0 : b * row.getD c 0 ≠ 0 := fun z => by
        rcases Int.mul_eq_zero.mp z with z | z
        · omega
        · exact rc0 z
      have bden : Bd (1 + sb c (w - c - 1) + (2 ^ c * 101 - 1)) (b * row.getD c 0) := hbb.mul brc
      simp only [unb_bl, vcS, vc, gt, st, oneK_1, nrK_d, fr, ix_t, ix_l, at_0, at_1, ex_some, erow, mul_i, List.getElem?_cons_zero]
      refine ⟨hbb.ok brc (by omega), ?_⟩
      refine callD0 [.int a, .int (b * row.getD c 0)] fun F X hF => ⟨_, _, rfl, rfl, hbr0, bden.lo (by omega), fun p q hq hg he => hF _ ?_⟩
      simp only [oneK_1, go, so, toK_d]
      refine ⟨c, by rw [List.length_map]; exact ixN_nat (by rw [hv.len]; exact hcw), ?_⟩
      have efs : (fs.map frP).set c (fr p q) = (fs.set c (p, q)).map frP := by
        rw [List.map_set]
        rfl
      rw [efs]
      have bp : Bd (qb c) p := (low_num hbr0 hq hg he hba).mono (by omega)
      have bq : Bd (qb c) q := (low_den hbr0 hq hg he bden).mono (by omega)
      have hcl : c < fs.length := by rw [hv.len]; exact hcw
      refine hN _ _ ⟨fs.set c (p, q), (y.map (q * ·)).set c (p * M), q * M, _, _, _, _, rfl, rfl, ⟨by rw [List.length_set]; exact hv.len, by rw [List.length_set, List.length_map]; exact hv.ylen, Int.mul_pos hq hv.pos, ?_, fun i hi => ?_⟩, fun s hs => ?_, fun k hk => ?_⟩
      · rw [fill_at hv.ylen hcw, if_neg (by omega), hv.den, Int.mul_neg]
      · rw [fill_at hv.ylen hcw, getD_set hcl]
        by_cases ei : i = c
        · rw [if_pos ei, if_pos ei]
          exact ⟨hq, hg, by show p * M * q = p * (q * M); rw [Int.mul_assoc, Int.mul_comm M q]⟩
        · rw [if_neg ei, if_neg ei]
          obtain ⟨u1, u2, u3⟩ := hv.ok i hi
          refine ⟨u1, u2, ?_⟩
          rw [Int.mul_assoc, u3, Int.mul_left_comm]
      · rw [List.take_succ, show ss.reverse[j]? = some (c, row) from ‹_›] at hs
        rcases List.mem_append.mp hs with m | m
        · have hlt := hbefore s m
          obtain ⟨sl, _, _, sz⟩ := hst s (List.mem_reverse.mp (List.mem_of_mem_take m))
          exact fill_keep sl hv.ylen hcw (sz c hlt) (hd s m)
        · have : s = (c, row) := by simpa using m
          rw [this]
          exact fill_step rl hv.ylen hcw hv.pos (by omega) ha he
      · rw [getD_set hcl]
        by_cases ek : k = c
        · rw [if_pos ek, ek]
          exact ⟨bp, bq⟩
        · rw [if_neg ek]
          exact hbd k hk
  · rintro ρ O ⟨fs, y, M, x3, x4, x5, x6, rfl, rfl, hv, hd, hbd⟩
    have eu : unb ([.lst (ss.map stepD)] ++ [.lst ((List.replicate w (0, 1)).map frP)]) [.brw (ss.map stepD), .lst (fs.map frP)] = [.lst (ss.map stepD), .lst (fs.map frP)] := rfl
    rw [eu]
    simp only [vcS, vc, gt, oneK_1]
    rw [nrsK_o (ds := fs.map frP) rfl, tuple_l]
    refine ⟨_, rfl, h fs y M hv (fun s hs => hd s ?_) fun f hf => ?_⟩
    · rw [List.take_of_length_le (by simp)]
      exact List.mem_reverse.mpr hs
    · obtain ⟨k, hk, rfl⟩ := List.mem_iff_getElem.mp hf
      rw [hv.len] at hk
      have := hbd k hk
      rw [List.getD_eq_getElem?_getD, List.getElem?_eq_getElem (by rw [hv.len]; exact hk)] at this
      have hq := qb_le k
      exact ⟨this.1.mono hq.2, this.2.mono hq.2⟩
end Z

set_option Elab.async false
set_option linter.all false
set_option maxRecDepth 100000
set_option maxHeartbeats 4000000
namespace Z
open PySem PySem.Spec PyProof.Rows L2
/-! ### fractions of a bounded size -/
/-- in lowest terms, the denominator a divisor of 12 ^ k, at most v -/
structure Fq (k v : Nat) (f : Int × Int) : Prop where
  pos : 0 < f.2
  cop : Int.gcd f.1 f.2 = 1
  dvd : f.2 ∣ 12 ^ k
  le : f.1.natAbs ≤ v * f.2.natAbs
theorem Fq.mono {k v k' v' : Nat} {f : Int × Int} (h : Fq k v f) (hk : k ≤ k') (hv : v ≤ v') : Fq k' v' f :=
  ⟨h.pos, h.cop, Int.dvd_trans h.dvd ⟨12 ^ (k' - k), by rw [← Int.pow_add]; congr 1; omega⟩, Nat.le_trans h.le (Nat.mul_le_mul_right _ hv)⟩
/-- the common multiple -/
def LL : Int := 12 ^ 7
abbrev Fz := Fq 7 (2 ^ 67)
theorem Fq.den_le {k v : Nat} {f : Int × Int} (h : Fq k v f) : f.2.natAbs ≤ 12 ^ k := by
  have h1 := Int.natAbs_dvd_natAbs.mpr h.dvd
  rw [Int.natAbs_pow] at h1
  exact Nat.le_of_dvd (Nat.pow_pos (by decide)) h1
theorem Fz.bd2 {f : Int × Int} (h : Fz f) : Bd 26 f.2 := Nat.lt_of_le_of_lt h.den_le (by decide)
theorem Fz.bd1 {f : Int × Int} (h : Fz f) : Bd 94 f.1 :=
  Nat.lt_of_le_of_lt h.le (Nat.lt_of_le_of_lt (Nat.mul_le_mul_left _ h.den_le) (by decide))
theorem Fz.bd {f : Int × Int} (h : Fz f) : Bd 94 f.1 ∧ Bd 94 f.2 := ⟨h.bd1, h.bd2.mono (by decide)⟩
theorem whole_bd {f : Int × Int} (h : Fz f) {c : Int} (hc : 0 < c) (hL : c ∣ LL) (hd : f.2 ∣ c) : Bd 100 (f.1 * c.fdiv f.2) := by
  obtain ⟨k, hk⟩ := hd
  have h2 := h.pos
  have e : c.fdiv f.2 = k := by rw [hk, Int.mul_fdiv_cancel_left _ (by omega)]
  rw [e]
  unfold Bd
  rw [Int.natAbs_mul]
  have h3 : f.1.natAbs * k.natAbs ≤ 2 ^ 67 * f.2.natAbs * k.natAbs := Nat.mul_le_mul_right _ h.le
  have h4 : f.2.natAbs * k.natAbs = c.natAbs := by rw [hk, Int.natAbs_mul]
  rw [Nat.mul_assoc, h4] at h3
  have h5 : c.natAbs ≤ 12 ^ 7 := by
    have := Int.natAbs_dvd_natAbs.mpr hL
    exact Nat.le_of_dvd (by decide) this
  exact Nat.lt_of_le_of_lt (Nat.le_trans h3 (Nat.mul_le_mul_left _ h5)) (by decide)
theorem whole_prop {fs : List (Int × Int)} {c c' : Int} (h : ∀ f ∈ fs, 0 < f.2 ∧ f.2 ∣ c ∧ f.2 ∣ c') : (whole fs c).map (c' * ·) = (whole fs c').map (c * ·) := by
  unfold whole
  rw [List.map_map, List.map_map]
  refine List.map_congr_left fun f hf => ?_
  obtain ⟨h1, ⟨a, ha⟩, ⟨b, hb⟩⟩ := h f hf
  have e1 : c.fdiv f.2 = a := by rw [ha, Int.mul_fdiv_cancel_left _ (by omega)]
  have e2 : c'.fdiv f.2 = b := by rw [hb, Int.mul_fdiv_cancel_left _ (by omega)]
  show c' * (f.1 * c.fdiv f.2) = c * (f.1 * c'.fdiv f.2)
  rw [e1, e2, ha, hb]
  simp only [Int.mul_assoc, Int.mul_left_comm, Int.mul_comm]
theorem dot_scaled {r r' : List Int} {a b : Int} (ha : a ≠ 0) (hb : b ≠ 0) (h : r.map (a * ·) = r'.map (b * ·)) (y : List Int) : dotI r y = 0 ↔ dotI r' y = 0 := by
  have e : a * dotI r y = b * dotI r' y := by rw [← dotI_map, ← dotI_map, h]
  constructor
  · intro z
    rw [z, Int.mul_zero] at e
    rcases Int.mul_eq_zero.mp e.symm with k | k
    · exact absurd k hb
    · exact k
  · intro z
    rw [z, Int.mul_zero] at e
    rcases Int.mul_eq_zero.mp e with k | k
    · exact absurd k ha
    · exact k
theorem Combs.snoc {p : List Int} {c : Nat} {r r' : List Int} (x : Comb p c r r') : ∀ {rs rs' : List (List Int)}, Combs p c rs rs' → Combs p c (rs ++ [r]) (rs' ++ [r'])
  | _, _, .nil => .cons x .nil
  | _, _, .cons y s => .cons y (Combs.snoc x s)
theorem Combs.length {p : List Int} {c : Nat} : ∀ {rs rs' : List (List Int)}, Combs p c rs rs' → rs.length = rs'.length
  | _, _, .nil => rfl
  | _, _, .cons y s => congrArg (· + 1) (Combs.length s)
/-! ### statements, one at a time -/
section
variable {Γ : List (Str × ZSp)} {E : ZX} {D : ZD} {ρ : List (Option U)} {O : List DO}
theorem vs_seq {a r : YS} : vcS Γ (.seq a r) E D ρ O = vcS Γ a E { D with nx := fun ρ' O' => vcS Γ r E D ρ' O' } ρ O := rfl
theorem vs_nil : vcS Γ .nil E D ρ O = D.nx ρ O := rfl
theorem vs_set {i : Nat} {y : Y} : vcS Γ (.set i y) E D ρ O = vc Γ y E ρ O fun us O1 => oneK us fun u => D.nx (st ρ i u) O1 := rfl
theorem vs_ex {y : Y} : vcS Γ (.ex y) E D ρ O = vc Γ y E ρ O fun us O1 => oneK us fun _ => D.nx ρ O1 := rfl
theorem vs_tgt {t : T1} {y : Y} : vcS Γ (.tgt t y) E D ρ O = vc Γ y E ρ O fun us O1 => oneK us fun u => toK O1 u fun d => bindT t d ρ fun ρ1 => D.nx ρ1 O1 := rfl
theorem vs_ite {c : Y} {a b : YS} : vcS Γ (.ite c a b) E D ρ O = vc Γ c E ρ O fun us O1 => boolK us fun t => (t = true → vcS Γ a E D ρ O1) ∧ (t = false → vcS Γ b E D ρ O1) := rfl
theorem vs_for {t : T1} {src : Y} {b : YS} : vcS Γ (.for_ t src b) E D ρ O = vc Γ src E ρ O fun us O1 => ∃ ds, us = ds.map .d ∧ forR t (vcS Γ b) E D O ds ρ O1 := rfl
theorem vs_ret {y : Y} : vcS Γ (.ret y) E D ρ O = vc Γ y E ρ O fun us O1 => oneK us fun u => D.rt u O1 := rfl
theorem vs_par {i j : Nat} {es : Y} : vcS Γ (.par i j es) E D ρ O = vc Γ es E ρ O fun us O1 => match us with
    | [u, w] => D.nx (st (st ρ i u) j w) O1
    | _ => False := rfl
end
/-! ### the program's solved -/
def rowF (r : List (Int × Int)) : D := .tup (r.map frP)
def wid (rs : List (List (Int × Int))) (res : List (Int × Int)) : List (List Int) := List.zipWith (fun r f => whole (r ++ [f]) LL) rs res
structure Sys (w : Nat) (rs : List (List (Int × Int))) (res : List (Int × Int)) : Prop where
  w1 : 1 ≤ w
  w4 : w ≤ 4
  ne : rs ≠ []
  few : rs.length ≤ 10
  len : res.length = rs.length
  row : ∀ r ∈ rs, r.length = w ∧ ∀ f ∈ r, Fz f
  wor : ∀ f ∈ res, Fz f
def solvedZ : ZSp := fun us O Q _ => ∃ (w : Nat) (rs : List (List (Int × Int))) (res : List (Int × Int)) (X Y : D), us = [.d X, .d Y] ∧ O = [] ∧ ((X = .lst (rs.map rowF) ∧ Y = .lst (res.map frP)) ∨ (X = .tup (rs.map rowF) ∧ Y = .tup (res.map frP))) ∧ Sys w rs res ∧
  ((¬ ∃ y, Sol w (wid rs res) y) → Q (.d .non) []) ∧ (∀ fs y M, Vls w fs y M → (∀ b ∈ wid rs res, dotI b y = 0) → (∀ f ∈ fs, Bd 4380 f.1 ∧ Bd 4380 f.2) → Q (.d (.tup (fs.map frP))) [])
theorem toDs_map {O : List DO} : ∀ ds : List D, toDs O (ds.map .d) = some ds
  | [] => by rw [List.map_nil, toDs_nil]
  | d :: ds => by rw [List.map_cons, toDs_d, toDs_map ds]; rfl
theorem tosK_snoc {O : List DO} {ds : List D} {x : D} {k : List D → Prop} : tosK O (ds.map .d ++ [.d x]) k = k (ds ++ [x]) := by
  have : ds.map U.d ++ [.d x] = (ds ++ [x]).map .d := by rw [List.map_append]; rfl
  rw [this]
  exact tosK_some (toDs_map _)
theorem so_same : ∀ {O : List DO} {k : Nat} {x : DO}, go O k = some x → so O k x = O
  | [], _, _, h => by cases h
  | o :: O, 0, x, h => by
    have : o = x := by simpa [go] using h
    rw [so, this]
  | o :: O, k + 1, x, h => by
    have h' : go O k = some x := h
    rw [so, so_same h']
theorem unb1_self (o : DO) : unb1 o o = o := by cases o <;> rfl
theorem unb_self : ∀ O : List DO, unb O O = O
  | [] => rfl
  | o :: O => by rw [unb, unb_self O, unb1_self]
theorem unb_brw : ∀ {O : List DO} {k : Nat} {ds : List D}, go O k = some (.lst ds) → unb O (so O k (.brw ds)) = O
  | [], _, _, h => by cases h
  | o :: O, 0, ds, h => by
    have : o = .lst ds := by simpa [go] using h
    rw [so, unb, this, unb_self]
    rfl
  | o :: O, k + 1, ds, h => by
    have h' : go O k = some (.lst ds) := h
    rw [so, unb, unb_brw h', unb1_self]
theorem brK_o {O : List DO} {j : Nat} {ds : List D} {k : D → List DO → Prop} (h : go O j = some (.lst ds)) : brK O (.o j) k = k (.lst ds) (so O j (.brw ds)) := by
  unfold brK
  simp only [h]
theorem go_snoc {O : List DO} {x y : DO} {k : Nat} (h : go O k = some x) : go (O ++ [y]) k = some x := by
  rw [go_eq] at h ⊢
  rw [List.getElem?_append_left (List.getElem?_eq_some_iff.mp h).1]
  exact h
theorem go_last {O : List DO} {y : DO} : go (O ++ [y]) O.length = some y := by
  rw [go_eq, List.getElem?_append_right (Nat.le_refl _), Nat.sub_self]
  rfl
theorem go_so {O : List DO} {k j : Nat} {x y : DO} (h : go O k = some x) (hkj : k ≠ j) : go (so O j y) k = some x := by
  rw [go_eq] at h ⊢
  rw [so_eq, List.getElem?_set_ne (Ne.symm hkj)]
  exact h
theorem go_so_self {O : List DO} {k : Nat} {x y : DO} (h : go O k = some x) : go (so O k y) k = some y := by
  rw [go_eq] at h ⊢
  rw [so_eq, List.getElem?_set_self (List.getElem?_eq_some_iff.mp h).1]
theorem go_len {O : List DO} {k : Nat} {x : DO} (h : go O k = some x) : k < O.length := by
  rw [go_eq] at h
  exact (List.getElem?_eq_some_iff.mp h).1
theorem so_len {O : List DO} {k : Nat} {x : DO} : (so O k x).length = O.length := by rw [so_eq, List.length_set]
theorem unb_go : ∀ {O0 O : List DO} {k : Nat} {ds : List D}, go O k = some (.lst ds) → go (unb O0 O) k = some (.lst ds)
  | [], _, _, _, h => by rw [unb]; exact h
  | _ :: _, [], _, _, h => by cases h
  | o :: _, x :: O, 0, ds, h => by
    have : x = .lst ds := by simpa [go] using h
    rw [unb, this]
    cases o <;> rfl
  | o :: O0, x :: O, k + 1, ds, h => by
    have h' : go O k = some (.lst ds) := h
    rw [unb]
    exact unb_go (O0 := O0) h'
theorem cut_to {β : Type} (xs : List β) {j : Nat} (h : j ≤ xs.length) : cutL xs none (some (j : Int)) = xs.take j := by
  unfold cutL
  rw [HT.sIx_nat, HT.sIx_none, Nat.min_eq_left h, List.drop_zero, Nat.sub_zero]
theorem cut_from {β : Type} (xs : List β) {j : Nat} (h : j ≤ xs.length) : cutL xs (some (j : Int)) none = xs.drop j := by
  unfold cutL
  rw [HT.sIx_nat, HT.sIx_none, Nat.min_eq_left h, List.take_of_length_le (by rw [List.length_drop]; exact Nat.le_refl _)]
theorem is_not_n {Q : Bool → Prop} : cmpD .IsNot .non .non Q = Q false := rfl
theorem is_not_i {i : Int} {Q : Bool → Prop} : cmpD .IsNot (.int i) .non Q = Q true := rfl
theorem k_solved : KeepsD [("filled", filledZ), ("cleared", clearedZ), ("place_of", place_ofZ), ("lowest", lowestZ), ("multiplied", multipliedZ), ("common", commonZ)] y_solved N_solved.length solvedZ := by
  rintro us O Q E ⟨w, rs, res, X, Y, rfl, rfl, hXY, hS, hnone, hsome⟩
  show vcS _ y_solved E _ [some (.d X), some (.d Y), none, none, none, none, none, none, none, none, none, none] _
  obtain ⟨r0, rs0, hrs⟩ : ∃ r0 rs0, rs = r0 :: rs0 := by
    cases rs with
    | nil => exact absurd rfl hS.ne
    | cons r0 rs0 => exact ⟨r0, rs0, rfl⟩
  have hr0 : r0.length = w := (hS.row r0 (by rw [hrs]; exact List.mem_cons_self)).1
  have e0 : atI (rs.map rowF) 0 = some (.tup (r0.map frP)) := by rw [hrs]; exact at_0
  have hlb : (wid rs res).length = rs.length := by unfold wid; rw [List.length_zipWith, hS.len, Nat.min_self]
  have hbl : ∀ b ∈ wid rs res, b.length = w + 1 := fun b hb => by
    unfold wid at hb
    rw [← List.map_uncurry_zip_eq_zipWith] at hb
    obtain ⟨⟨r, f⟩, hm, rfl⟩ := List.mem_map.mp hb
    show (whole (r ++ [f]) LL).length = w + 1
    unfold whole
    rw [List.length_map, List.length_append, (hS.row r (List.of_mem_zip hm).1).1]
    rfl
  suffices main : forR (.tp (.cons (.nm 6) (.cons (.nm 7) .nil))) (vcS [("filled", filledZ), ("cleared", clearedZ), ("place_of", place_ofZ), ("lowest", lowestZ), ("multiplied", multipliedZ), ("common", commonZ)] (.seq (.set 8 (.lst false (.star (.var 6) (.cons (.var 7) .nil)))) (.seq (.ex (.app (.var 3) (.call 3 (.cons (.blt .list (.cons (.call 4 (.cons (.var 8) (.cons (.call 5 (.cons (.lst false (.cons (.var 8) .nil)) .nil)) .nil))) .nil)) .nil)))) .nil))) E
      ⟨fun ρ' O' => vcS [("filled", filledZ), ("cleared", clearedZ), ("place_of", place_ofZ), ("lowest", lowestZ), ("multiplied", multipliedZ), ("common", commonZ)] (.seq (.set 4 (.lst true .nil)) (.seq (.for_ (.nm 5) (.rng (.var 2)) (.seq (.set 9 (.call 2 (.cons (.var 3) (.cons (.var 5) .nil)))) (.seq (.ite (.cmp .IsNot (.var 9) .non) (.seq (.set 10 (.ix (.var 3) (.var 9))) (.seq (.set 11 (.bin .Add (.sl (.var 3) .nop (.sm (.var 9))) (.sl (.var 3) (.sm (.bin .Add (.var 9) (.int 1))) .nop))) (.seq (.set 3 (.comp true [6] (.nm 6) (.seq (.var 11)) .yes (.call 1 (.cons (.var 6) (.cons (.var 10) (.cons (.var 5) .nil)))))) (.seq (.ex (.app (.var 4) (.tup (.cons (.var 5) (.cons (.var 10) .nil))))) .nil)))) .nil) .nil))) (.seq (.for_ (.nm 6) (.seq (.var 3)) (.seq (.ite (.cmp .NotEq (.ix (.var 6) (.var 2)) (.int 0)) (.seq (.ret .non) .nil) .nil) .nil)) (.seq (.ret (.call 0 (.cons (.var 4) (.cons (.var 2) .nil)))) .nil)))) E
        ⟨fun _ O' => Q (.d .non) (O'.take ([] : List DO).length), fun u O' => ∃ x, u = .d x ∧ Q u (O'.take ([] : List DO).length), fun _ _ => False, fun _ _ => False⟩ ρ' O',
        fun u O' => ∃ x, u = .d x ∧ Q u (O'.take ([] : List DO).length), fun _ _ => False, fun _ _ => False⟩ [.lst []]
      (List.zipWith (fun d e => D.tup [d, e]) (rs.map rowF) (res.map frP)) [some (.d X), some (.d Y), some (.d (.int w)), some (.o 0), none, none, none, none, none, none, none, none] [.lst []] by
    rcases hXY with ⟨rfl, rfl⟩ | ⟨rfl, rfl⟩
    · simp only [y_solved]
      rw [vs_seq, vs_set]
      simp only [vc, gt, st, oneK_1, nrK_d, ix_l, e0, ex_some, nrsK_1, len_t, List.length_map, hr0]
      rw [vs_seq, vs_set]
      simp only [vc, gt, st, oneK_1, tosK_0, newL, List.length_nil, List.nil_append]
      refine ⟨(by decide : 0 ≤ sizeLine), ?_⟩
      rw [vs_seq, vs_for]
      simp only [vc, gt, st, oneK_1, brK_d]
      exact ⟨_, rfl, main⟩
    · simp only [y_solved]
      rw [vs_seq, vs_set]
      simp only [vc, gt, st, oneK_1, nrK_d, ix_t, e0, ex_some, nrsK_1, len_t, List.length_map, hr0]
      rw [vs_seq, vs_set]
      simp only [vc, gt, st, oneK_1, tosK_0, newL, List.length_nil, List.nil_append]
      refine ⟨(by decide : 0 ≤ sizeLine), ?_⟩
      rw [vs_seq, vs_for]
      simp only [vc, gt, st, oneK_1, brK_d]
      exact ⟨_, rfl, main⟩
  refine forR_inv (fun i ρ O => ∃ (wt : List (List Int)) (x6 x7 x8 : Option U), O = [.lst (rowsD wt)] ∧ ρ = [some (.d X), some (.d Y), some (.d (.int w)), some (.o 0), none, none, x6, x7, x8, none, none, none] ∧ wt.length = i ∧
    (∀ r ∈ wt, r.length = w + 1 ∧ ∀ x ∈ r, Bd 100 x) ∧ ∀ y, (∀ b ∈ (wid rs res).take i, dotI b y = 0) ↔ ∀ r ∈ wt, dotI r y = 0) _ _ _ 0 ⟨[], none, none, none, rfl, rfl, rfl, by simp, by simp⟩ ?_ ?_
  · rintro j d ρ O e ⟨wt, x6, x7, x8, rfl, rfl, hwl, hwb, hsol⟩ N hN
    rw [Nat.zero_add] at hwl hsol hN
    have hjr : j < rs.length := by
      have := (List.getElem?_eq_some_iff.mp e).1
      rw [List.length_zipWith, List.length_map, List.length_map] at this
      omega
    have hjf : j < res.length := by rw [hS.len]; exact hjr
    have er : rs[j]? = some rs[j] := List.getElem?_eq_getElem hjr
    have ef : res[j]? = some res[j] := List.getElem?_eq_getElem hjf
    have hr := hS.row rs[j] (List.getElem_mem hjr)
    have hf := hS.wor res[j] (List.getElem_mem hjf)
    have eb : (wid rs res)[j]? = some (whole (rs[j] ++ [res[j]]) LL) := by
      unfold wid
      rw [List.getElem?_zipWith, er, ef]
    rw [List.getElem?_zipWith, List.getElem?_map, List.getElem?_map, er, ef] at e
    generalize rs[j] = r at *
    generalize res[j] = f at *
    cases e
    obtain ⟨hrl, hrF⟩ := hr
    have hall : ∀ g ∈ r ++ [f], Fz g := fun g hg => by
      rcases List.mem_append.mp hg with m | m
      · exact hrF g m
      · rw [List.mem_singleton.mp m]; exact hf
    have hlen : (r ++ [f]).length = w + 1 := by rw [List.length_append, hrl]; rfl
    have hw4 := hS.w4
    have esn : r.map frP ++ [frP f] = (r ++ [f]).map frP := by rw [List.map_append]; rfl
    simp only [bindT, bindTs, rowF, vcS, vc, gt, st, oneK_1, nrK_d, tosK_snoc, newL, esn, tosK_1, List.getElem?_cons_zero, List.getElem?_cons_succ, List.length_map, hlen]
    refine ⟨by rw [sizeLine_eq]; omega, (by decide : 1 ≤ sizeLine), ?_⟩
    refine callD0 [.lst [.lst ((r ++ [f]).map frP)]] fun F X hF => ⟨r ++ [f], LL, rfl, rfl, by decide, by unfold Bd LL; decide, fun g hg => ⟨(hall g hg).pos, (hall g hg).dvd⟩, fun c hc hcL hcd => hF _ ?_⟩
    have hLne : LL ≠ 0 := by decide
    have bc : Bd 26 c := Bd.dvd (x := LL) (by unfold Bd LL; decide) hcL hLne
    refine callD0 [.lst ((r ++ [f]).map frP), .int c] fun F X hF => ⟨r ++ [f], c, rfl, rfl, hc, bc.mono (by decide), by omega, fun g hg => ⟨(hall g hg).pos, hcd g hg, (hall g hg).bd1.mono (by decide)⟩, hF _ ?_⟩
    simp only [nrsK_1, list_t]
    have hwlen : (whole (r ++ [f]) c).length = w + 1 := by unfold whole; rw [List.length_map]; exact hlen
    have hwbd : ∀ x ∈ whole (r ++ [f]) c, Bd 100 x := fun x hx => by
      unfold whole at hx
      obtain ⟨g, hg, rfl⟩ := List.mem_map.mp hx
      exact whole_bd (hall g hg) hc hcL (hcd g hg)
    refine callD0 [rowD (whole (r ++ [f]) c)] fun F X hF => ⟨_, 100, rfl, rfl, by rw [hwlen]; omega, by decide, hwbd, fun s r' hs hsr => hF _ ?_⟩
    simp only [oneK_1, toK_d, go, so]
    refine ⟨?_, hN _ _ ⟨wt ++ [r'], _, _, _, ?_, rfl, by rw [List.length_append, hwl]; rfl, fun q hq => ?_, fun y => ?_⟩⟩
    · unfold rowsD
      rw [List.length_map, hwl, sizeLine_eq]
      have := hS.few
      omega
    · unfold rowsD
      rw [List.map_append]
      rfl
    · rcases List.mem_append.mp hq with m | m
      · exact hwb q m
      · rw [List.mem_singleton.mp m]
        refine ⟨?_, fun x hx => ?_⟩
        · rw [← hwlen, hsr, List.length_map]
        · have hm : s * x ∈ whole (r ++ [f]) c := by rw [hsr]; exact List.mem_map.mpr ⟨x, hx, rfl⟩
          refine (hwbd _ hm).le ?_
          rw [Int.natAbs_mul]
          exact Nat.le_mul_of_pos_left _ (by omega)
    · rw [List.take_succ, eb]
      have hpr : (whole (r ++ [f]) c).map (LL * ·) = (whole (r ++ [f]) LL).map (c * ·) := whole_prop fun g hg => ⟨(hall g hg).pos, hcd g hg, (hall g hg).dvd⟩
      have h1 := dot_scaled hLne (by omega) hpr y
      have h2 : dotI (whole (r ++ [f]) c) y = 0 ↔ dotI r' y = 0 := dot_scaled (a := 1) (b := s) (by decide) (by omega) (by rw [hsr]; simp) y
      have hs2 := hsol y
      constructor
      · intro hA q hq
        rcases List.mem_append.mp hq with m | m
        · exact hs2.mp (fun b hb => hA b (List.mem_append_left _ hb)) q m
        · rw [List.mem_singleton.mp m]
          exact h2.mp (h1.mpr (hA _ (List.mem_append_right _ (by simp))))
      · intro hA b hb
        rcases List.mem_append.mp hb with m | m
        · exact hs2.mpr (fun q hq => hA q (List.mem_append_left _ hq)) b m
        · have : b = whole (r ++ [f]) LL := by simpa using m
          rw [this]
          exact h1.mp (h2.mpr (hA _ (List.mem_append_right _ (by simp))))
  · rintro ρ O ⟨wt0, x6, x7, x8, rfl, rfl, hwl, hwb, hsol⟩
    have el : (0 + (List.zipWith (fun d e => D.tup [d, e]) (rs.map rowF) (res.map frP)).length) = rs.length := by
      rw [List.length_zipWith, List.length_map, List.length_map, hS.len]
      omega
    rw [el] at hwl hsol
    rw [show (wid rs res).take rs.length = wid rs res by rw [← hlb, List.take_length]] at hsol
    have eu : unb [.lst []] [.lst (rowsD wt0)] = [.lst (rowsD wt0)] := rfl
    have hw4 := hS.w4
    have hfew := hS.few
    simp only [eu]
    rw [vs_seq, vs_set]
    simp only [vc, gt, st, oneK_1, tosK_0, newL, List.length_nil, List.length_cons, List.cons_append, List.nil_append]
    refine ⟨(by decide : 0 ≤ sizeLine), ?_⟩
    rw [vs_seq, vs_for]
    simp only [vc, gt, st, oneK_1, nrK_d]
    refine ⟨⟨by omega, by omega⟩, _, rfl, ?_⟩
    refine forR_inv (fun i ρ O => ∃ (wt : List (List Int)) (ss : List (Nat × List Int)) (k : Nat) (x5 x6 x7 x8 x9 x10 x11 : Option U), go O k = some (.lst (rowsD wt)) ∧ go O 1 = some (.lst (ss.map stepD)) ∧ k ≠ 1 ∧
      ρ = [some (.d X), some (.d Y), some (.d (.int w)), some (.o k), some (.o 1), x5, x6, x7, x8, x9, x10, x11] ∧ wt.length ≤ 10 ∧ Elm w i (wid rs res) wt ss ∧ (∀ r ∈ wt, ∀ x ∈ r, Bd (2 ^ i * 101 - 1) x) ∧ (∀ s ∈ ss, ∀ x ∈ s.2, Bd (2 ^ s.1 * 101 - 1) x) ∧ ss.length ≤ i ∧ i ≤ w) _ _ _ 0 ?_ ?_ ?_
    · refine ⟨wt0, [], 0, _, _, _, _, _, _, _, rfl, rfl, by decide, rfl, by omega, ⟨⟨fun r hr => (hwb r hr).1, fun r hr i hi => by omega⟩, (fun s hs => by cases hs), (fun s hs => by cases hs), .nil, fun y => ?_⟩, fun r hr => (hwb r hr).2, (fun s hs => by cases hs), Nat.le_refl _, Nat.zero_le _⟩
      rw [hsol y]
      exact ⟨fun h => ⟨h, fun s hs => by cases hs⟩, fun h => h.1⟩
    · rintro c d ρ O e ⟨wt, ss, k, x5, x6, x7, x8, x9, x10, x11, hgk, hg1, hk1, rfl, hwt, hE, hb1, hb2, hsl, hcw⟩ N hN
      rw [Nat.zero_add] at hE hb1 hsl hcw hN
      have hc : c < w := by
        have := (List.getElem?_eq_some_iff.mp e).1
        rw [List.length_map, List.length_range] at this
        omega
      have ed : d = .int (c : Int) := by
        rw [List.getElem?_map, List.getElem?_range (by omega)] at e
        simpa using e.symm
      subst ed
      have hpow : 2 ^ (c + 1) * 101 = 2 * (2 ^ c * 101) := by rw [Nat.pow_succ]; omega
      have hmc : 2 ^ c * 101 ≤ 2 ^ 3 * 101 := Nat.mul_le_mul_right _ (Nat.pow_le_pow_right (by decide) (by omega))
      have hmc0 : 101 ≤ 2 ^ c * 101 := Nat.le_mul_of_pos_left _ (Nat.pow_pos (by decide))
      simp only [bindT, vcS, vc, gt, st, oneK_1, List.getElem?_cons_zero, List.getElem?_cons_succ]
      refine callO [.int c] hgk fun F X hF => ⟨wt, c, rfl, rfl, fun r hr => by rw [hE.clr.len r hr]; omega, fun j r z hj hz hz0 => hF _ _ ?_, fun hall => hF _ _ ?_⟩
      · rw [so_same hgk]
        have hjl : j < wt.length := (List.getElem?_eq_some_iff.mp hj).1
        have ea : atI (rowsD wt) (j : Int) = some (rowD r) := atI_nat (by unfold rowsD; rw [List.getElem?_map, hj]; rfl)
        have hrl : (rowsD wt).length = wt.length := by unfold rowsD; rw [List.length_map]
        have ec1 : cutL (rowsD wt) none (some (j : Int)) = rowsD (wt.take j) := by
          rw [cut_to _ (by omega)]
          unfold rowsD
          rw [List.map_take]
        have ec2 : cutL (rowsD wt) (some ((j : Int) + 1)) none = rowsD (wt.drop (j + 1)) := by
          rw [show (j : Int) + 1 = ((j + 1 : Nat) : Int) by omega, cut_from _ (by omega)]
          unfold rowsD
          rw [List.map_drop]
        have eapp : rowsD (wt.take j) ++ rowsD (wt.drop (j + 1)) = rowsD (wt.take j ++ wt.drop (j + 1)) := by unfold rowsD; rw [List.map_append]
        have hsplit : wt = wt.take j ++ r :: wt.drop (j + 1) := by
          conv => lhs; rw [← List.take_append_drop j wt]
          congr 1
          rw [List.drop_eq_getElem_cons hjl]
          congr 1
          exact (List.getElem?_eq_some_iff.mp hj).2
        have hrest : ∀ q, q ∈ wt.take j ++ wt.drop (j + 1) → q ∈ wt := fun q hq => by
          rcases List.mem_append.mp hq with m | m
          · exact List.mem_of_mem_take m
          · exact List.mem_of_mem_drop m
        have hrestl : (wt.take j ++ wt.drop (j + 1)).length ≤ 10 := by
          rw [List.length_append, List.length_take, List.length_drop]
          omega
        have hrm : r ∈ wt := List.mem_of_getElem? hj
        have hrw := hE.clr.len r hrm
        simp only [oneK_1, nrK_d, is_not_i, boolK_1, gt, st, nrK_lst hgk, ix_l, ea, ex_some, partK, slD, ec1, ec2, add_i]
        refine ⟨fun _ => ?_, fun z => by cases z⟩
        show (rowsD (wt.take j)).length + (rowsD (wt.drop (j + 1))).length ≤ sizeLine ∧ _
        refine ⟨?_, ?_⟩
        · rw [← List.length_append, eapp]
          unfold rowsD
          rw [List.length_map, sizeLine_eq]
          omega
        rw [eapp]
        generalize hrs' : wt.take j ++ wt.drop (j + 1) = rest at *
        simp only [brK_d, wipeR, wipeR.rm]
        refine ⟨rowsD rest, rfl, by unfold rowsD; rw [List.length_map, sizeLine_eq]; omega, ?_⟩
        refine compR_inv (fun i acc O' => O' = O ∧ ∃ rs', acc = rowsD rs' ∧ Combs r c (rest.take i) rs' ∧ ∀ q ∈ rs', ∀ x ∈ q, Bd (2 * (2 ^ c * 101 - 1) + 1) x) _ [] O 0 ⟨rfl, [], rfl, .nil, (fun q hq => by cases hq)⟩ ?_ ?_
        · rintro i d acc O' e ⟨rfl, rs', rfl, hcb, hbb⟩ F hF
          unfold rowsD at e
          rw [List.getElem?_map] at e
          cases qi : rest[i]? with
          | none => rw [qi] at e; cases e
          | some q =>
          rw [qi] at e
          cases e
          have hqm := hrest q (List.mem_of_getElem? qi)
          have hql := hE.clr.len q hqm
          simp only [bindT, gt, st, oneK_1, List.getElem?_cons_zero, List.getElem?_cons_succ]
          refine callD0 [rowD q, rowD r, .int c] fun F' X hF' => ⟨q, r, c, 2 ^ c * 101 - 1, rfl, rfl, by omega, by omega, by omega, hb1 q hqm, hb1 r hrm, ⟨z, hz, hz0⟩, fun q' hq' hqb => hF' _ (hF _ _ ⟨List.take_length, rs' ++ [q'], ?_, ?_, fun t ht => ?_⟩)⟩
          · unfold rowsD
            rw [List.map_append]
            rfl
          · rw [Nat.zero_add, List.take_succ, qi]
            rw [Nat.zero_add] at hcb
            exact Combs.snoc hq' hcb
          · rcases List.mem_append.mp ht with m | m
            · exact hbb t m
            · rw [List.mem_singleton.mp m]
              exact hqb
        · rintro acc O' ⟨rfl, rs', rfl, hcb, hbb⟩
          rw [Nat.zero_add, List.take_of_length_le (by unfold rowsD; rw [List.length_map]; exact Nat.le_refl _)] at hcb
          simp only [newL, unb_self, oneK_1, gt, st, tosK_2, toK_d, go_snoc hg1]
          have hcl := hcb.length
          refine ⟨(by decide : 2 ≤ sizeLine), by rw [List.length_map, sizeLine_eq]; omega, ?_⟩
          have hpz : r.getD c 0 ≠ 0 := by
            rw [List.getD_eq_getElem?_getD, hz]
            exact hz0
          have hE' : Elm w (c + 1) (wid rs res) rs' (ss ++ [(c, r)]) := by
            rw [hsplit] at hE
            rw [← hrs'] at hcb
            exact hE.step hc hpz hcb
          refine hN _ _ ⟨rs', ss ++ [(c, r)], O'.length, _, _, _, _, _, _, _, go_so go_last ?_, ?_, ?_, rfl, by omega, hE', fun q hq x hx => ?_, fun s hs => ?_, by rw [List.length_append]; exact Nat.succ_le_succ hsl, hc⟩
          · have := go_len hg1
            omega
          · rw [go_so_self (go_snoc hg1), List.map_append]
            rfl
          · have := go_len hg1
            omega
          · rw [hpow]
            exact (hbb q hq x hx).mono (by omega)
          · rcases List.mem_append.mp hs with m | m
            · exact hb2 s m
            · rw [List.mem_singleton.mp m]
              exact hb1 r hrm
      · rw [so_same hgk]
        simp only [oneK_1, nrK_d, is_not_n, boolK_1, gt, st]
        refine ⟨fun z => (by cases z), fun _ => hN _ _ ⟨wt, ss, k, _, _, _, _, _, _, _, hgk, hg1, hk1, rfl, hwt, hE.skip fun r hr => ?_, fun r hr x hx => (hb1 r hr x hx).mono (by omega), hb2, by omega, hc⟩⟩
        rw [List.getD_eq_getElem?_getD, hall r hr]
        rfl
    · rintro ρ O ⟨wt, ss, k, x5, x6, x7, x8, x9, x10, x11, hgk, hg1, hk1, rfl, hwt, hE, hb1, hb2, hsl, hcw⟩
      have el : 0 + ((List.range (w : Int).toNat).map fun (i : Nat) => D.int (0 + (i : Int))).length = w := by
        rw [List.length_map, List.length_range]
        omega
      rw [el] at hE hb1 hsl
      have g1 := unb_go (O0 := [.lst (rowsD wt0), .lst []]) hgk
      have g2 := unb_go (O0 := [.lst (rowsD wt0), .lst []]) hg1
      generalize unb ([.lst (rowsD wt0), .lst []]) O = O2 at *
      simp only [vcS, vc, gt, st, oneK_1]
      rw [brK_o g1]
      refine ⟨_, rfl, ?_⟩
      refine forR_inv (fun i ρ O => O = so O2 k (.brw (rowsD wt)) ∧ ∃ (x6 : Option U), ρ = [some (.d X), some (.d Y), some (.d (.int w)), some (.o k), some (.o 1), x5, x6, x7, x8, x9, x10, x11] ∧ ∀ r ∈ wt.take i, r.getD w 0 = 0) _ _ _ 0 ⟨rfl, x6, rfl, by simp⟩ ?_ ?_
      · rintro j d ρ O e ⟨rfl, x6, rfl, hz⟩ N hN
        unfold rowsD at e
        rw [List.getElem?_map] at e
        cases q : wt[j]? with
        | none => rw [q] at e; cases e
        | some r =>
        rw [q] at e
        cases e
        have hrm := List.mem_of_getElem? q
        have hrl := hE.clr.len r hrm
        have ar := at_row (r := r) (j := w) (by omega)
        simp only [bindT, rowD, gt, st, oneK_1, nrK_d, ix_l, ar, ex_some, ne_i, boolK_1]
        refine wayN (fun hne => ⟨.non, rfl, hnone ?_⟩) fun he => hN _ _ ⟨rfl, _, rfl, fun t ht => ?_⟩
        · rintro ⟨y, hy⟩
          have h1 := ((hE.sol y).mp hy.dot).1 r hrm
          rw [dotI_last w r y hrl hy.len (hE.clr.nil r hrm)] at h1
          rcases Int.mul_eq_zero.mp h1 with z | z
          · exact hne z
          · exact hy.den z
        · rw [Nat.zero_add, List.take_succ, q] at ht
          rcases List.mem_append.mp ht with m | m
          · exact hz t (by rw [Nat.zero_add]; exact m)
          · have : t = r := by simpa using m
            rw [this]
            exact he
      · rintro ρ O ⟨rfl, x6, rfl, hz⟩
        rw [Nat.zero_add] at hz
        rw [List.take_of_length_le (by unfold rowsD; rw [List.length_map]; exact Nat.le_refl _)] at hz
        simp only [unb_brw g1, vcS, vc, gt, st, oneK_1, List.getElem?_cons_zero]
        refine callO [.int w] g2 fun F X hF => ⟨w, ss, rfl, rfl, hE.stp, hE.inc, hS.w1, hS.w4, hb2, fun fs y M hv hd hbf => hF _ _ ?_⟩
        refine ⟨_, rfl, hsome fs y M hv ((hE.sol y).mpr ⟨fun r hr => ?_, hd⟩) hbf⟩
        rw [dotI_last w r y (hE.clr.len r hr) hv.ylen (hE.clr.nil r hr), hz r hr, Int.zero_mul]
end Z

set_option Elab.async false
set_option linter.all false
set_option maxRecDepth 100000
set_option maxHeartbeats 4000000
namespace Z
open PySem PySem.Spec PyProof.Rows L2
/-! ### fractions in any terms, of a bounded size -/
structure Gq (k v : Nat) (f : Int × Int) : Prop where
  pos : 0 < f.2
  whole : ∃ N : Int, N * f.2 = 12 ^ k * f.1
  le : f.1.natAbs ≤ v * f.2.natAbs
theorem Fq.gq {k v : Nat} {f : Int × Int} (h : Fq k v f) : Gq k v f := by
  obtain ⟨h1, h2, ⟨t, ht⟩, h4⟩ := h
  exact ⟨h1, ⟨f.1 * t, by rw [ht, Int.mul_assoc, Int.mul_comm t, Int.mul_comm]⟩, h4⟩
theorem Gq.mono {k v k' v' : Nat} {f : Int × Int} (h : Gq k v f) (hk : k ≤ k') (hv : v ≤ v') : Gq k' v' f := by
  obtain ⟨h1, ⟨N, hN⟩, h3⟩ := h
  refine ⟨h1, ⟨12 ^ (k' - k) * N, ?_⟩, Nat.le_trans h3 (Nat.mul_le_mul_right _ hv)⟩
  have e : (12 : Int) ^ k' = 12 ^ (k' - k) * 12 ^ k := by rw [← Int.pow_add]; congr 1; omega
  rw [e, Int.mul_assoc, hN, Int.mul_assoc]
theorem Gq.mul {k v l w : Nat} {f g : Int × Int} (hf : Gq k v f) (hg : Gq l w g) : Gq (k + l) (v * w) (f.1 * g.1, f.2 * g.2) := by
  obtain ⟨h1, ⟨N, hN⟩, h3⟩ := hf
  obtain ⟨k1, ⟨M, hM⟩, k3⟩ := hg
  refine ⟨Int.mul_pos h1 k1, ⟨N * M, ?_⟩, ?_⟩
  · show N * M * (f.2 * g.2) = 12 ^ (k + l) * (f.1 * g.1)
    have e : N * M * (f.2 * g.2) = (N * f.2) * (M * g.2) := by simp only [Int.mul_assoc, Int.mul_left_comm, Int.mul_comm]
    rw [e, hN, hM, Int.pow_add]
    simp only [Int.mul_assoc, Int.mul_left_comm, Int.mul_comm]
  · show (f.1 * g.1).natAbs ≤ v * w * (f.2 * g.2).natAbs
    rw [Int.natAbs_mul, Int.natAbs_mul]
    have := Nat.mul_le_mul h3 k3
    have e : v * f.2.natAbs * (w * g.2.natAbs) = v * w * (f.2.natAbs * g.2.natAbs) := by simp only [Nat.mul_assoc, Nat.mul_left_comm, Nat.mul_comm]
    rw [← e]
    exact this
theorem Gq.add {k v w : Nat} {f g : Int × Int} (hf : Gq k v f) (hg : Gq k w g) : Gq k (v + w) (f.1 * g.2 + g.1 * f.2, f.2 * g.2) := by
  obtain ⟨h1, ⟨N, hN⟩, h3⟩ := hf
  obtain ⟨k1, ⟨M, hM⟩, k3⟩ := hg
  refine ⟨Int.mul_pos h1 k1, ⟨N + M, ?_⟩, ?_⟩
  · show (N + M) * (f.2 * g.2) = 12 ^ k * (f.1 * g.2 + g.1 * f.2)
    have e : (N + M) * (f.2 * g.2) = (N * f.2) * g.2 + (M * g.2) * f.2 := by
      rw [Int.add_mul]
      simp only [Int.mul_assoc, Int.mul_left_comm, Int.mul_comm]
    rw [e, hN, hM, Int.mul_add]
    simp only [Int.mul_assoc, Int.mul_left_comm, Int.mul_comm]
  · show (f.1 * g.2 + g.1 * f.2).natAbs ≤ (v + w) * (f.2 * g.2).natAbs
    have h5 := Int.natAbs_add_le (f.1 * g.2) (g.1 * f.2)
    rw [Int.natAbs_mul, Int.natAbs_mul] at h5
    rw [Int.natAbs_mul]
    have h6 := Nat.mul_le_mul_right g.2.natAbs h3
    have h7 := Nat.mul_le_mul_right f.2.natAbs k3
    have e : (v + w) * (f.2.natAbs * g.2.natAbs) = v * f.2.natAbs * g.2.natAbs + w * g.2.natAbs * f.2.natAbs := by
      rw [Nat.add_mul]
      simp only [Nat.mul_assoc, Nat.mul_left_comm, Nat.mul_comm]
    rw [e]
    omega
/-- .. brought to lowest terms -/
theorem Gq.low {k v : Nat} {n d p q : Int} (h : Gq k v (n, d)) (hq : 0 < q) (hc : Int.gcd p q = 1) (e : p * d = n * q) : Fq k v (p, q) := by
  obtain ⟨h1, ⟨N, hN⟩, h3⟩ := h
  simp only at h1 hN h3
  refine ⟨hq, hc, ?_, ?_⟩
  · have h2 : p * 12 ^ k = N * q := by
      have : d * (p * 12 ^ k) = d * (N * q) := by
        have e1 : d * (p * 12 ^ k) = (p * d) * 12 ^ k := by simp only [Int.mul_assoc, Int.mul_left_comm, Int.mul_comm]
        have e2 : d * (N * q) = (N * d) * q := by simp only [Int.mul_assoc, Int.mul_left_comm, Int.mul_comm]
        rw [e1, e2, e, hN]
        simp only [Int.mul_assoc, Int.mul_left_comm, Int.mul_comm]
      exact Int.eq_of_mul_eq_mul_left (by omega) this
    exact dvd_cop (by rw [Int.gcd_comm]; exact hc) ⟨N, by rw [h2, Int.mul_comm]⟩
  · show p.natAbs ≤ v * q.natAbs
    have h4 : p.natAbs * d.natAbs = n.natAbs * q.natAbs := by rw [← Int.natAbs_mul, ← Int.natAbs_mul, e]
    have h5 := Nat.mul_le_mul_right q.natAbs h3
    rw [← h4] at h5
    have e6 : v * d.natAbs * q.natAbs = v * q.natAbs * d.natAbs := by simp only [Nat.mul_assoc, Nat.mul_left_comm, Nat.mul_comm]
    rw [e6] at h5
    exact Nat.le_of_mul_le_mul_right h5 (by omega)
theorem gq_few {n m : Int} {v : Nat} (h1 : n.natAbs ≤ v) (h2 : 1 ≤ m) (h3 : m ≤ 4) : Gq 1 v (n, m) := by
  refine ⟨by show 0 < m; omega, ?_, ?_⟩
  · have : m = 1 ∨ m = 2 ∨ m = 3 ∨ m = 4 := by omega
    rcases this with rfl | rfl | rfl | rfl
    · exact ⟨12 * n, by show 12 * n * 1 = 12 ^ 1 * n; omega⟩
    · exact ⟨6 * n, by show 6 * n * 2 = 12 ^ 1 * n; omega⟩
    · exact ⟨4 * n, by show 4 * n * 3 = 12 ^ 1 * n; omega⟩
    · exact ⟨3 * n, by show 3 * n * 4 = 12 ^ 1 * n; omega⟩
  · show n.natAbs ≤ v * m.natAbs
    have := Nat.mul_le_mul_left v (by omega : 1 ≤ m.natAbs)
    omega
/-- few of the law -/
theorem few_fq {n m p q : Int} {w : Nat} (h1 : -(w : Int) ≤ n) (h2 : n ≤ w) (h3 : 1 ≤ m) (h4 : m ≤ 4) (hq : 0 < q) (hc : Int.gcd p q = 1) (e : p * m = n * q) : Fq 1 w (p, q) := (gq_few (by omega) h3 h4).low hq hc e
/-- sizes in bits -/
theorem Fq.bds {k v : Nat} {f : Int × Int} (h : Fq k v f) (hk : k ≤ 7) (hv : v ≤ 2 ^ 67) : Bd 94 f.1 ∧ Bd 94 f.2 := Fz.bd (h.mono hk hv)
/-! ### the law's systems -/
def RowOk (w k v : Nat) (r : List (Int × Int)) : Prop := r.length = w ∧ ∀ f ∈ r, Fq k v f
theorem RowOk.mono {w k v k' v' : Nat} {r : List (Int × Int)} (h : RowOk w k v r) (hk : k ≤ k') (hv : v ≤ v') : RowOk w k' v' r := ⟨h.1, fun f hf => (h.2 f hf).mono hk hv⟩
def systemZ : ZSp := fun us O Q _ => ∃ (ds : List D) (w : Nat), us = [.o 0, .d (.int w)] ∧ O = [.lst ds] ∧ BagOk ds ∧ 1 ≤ w ∧ w ≤ 4 ∧ ∀ (rs : List (List (Int × Int))) (ds' : List D), 1 ≤ rs.length → rs.length ≤ 5 → (∀ r ∈ rs, RowOk w 5 (2 ^ 53 * 3 ^ 5) r) → BagOk ds' → Q (.d (.lst (rs.map rowF))) [.lst ds']
theorem pl_rowF {r : List (Int × Int)} (h : r.length ≤ 1000) : Pl 2 (rowF r) := .tup (by rw [List.length_map]; exact h) fun d hd => by
  obtain ⟨f, hf, rfl⟩ := List.mem_map.mp hd
  exact pl_fr
theorem pl_rowFs {rs : List (List (Int × Int))} (h : rs.length ≤ 1000) (h2 : ∀ r ∈ rs, r.length ≤ 1000) : Pl 3 (.lst (rs.map rowF)) := .lst (by rw [List.length_map]; exact h) fun d hd => by
  obtain ⟨r, hr, rfl⟩ := List.mem_map.mp hd
  exact pl_rowF (h2 r hr)
theorem unb_l2 {a b c d : List D} : unb [.lst a, .lst b] [.lst c, .lst d] = [.lst c, .lst d] := rfl
theorem zip_fr {xs ys : List (Int × Int)} : List.zipWith (fun d e => D.tup [d, e]) (xs.map frP) (ys.map frP) = (List.zip xs ys).map fun q => D.tup [frP q.1, frP q.2] := by
  rw [List.zipWith_map, List.zip_eq_zipWith, List.map_zipWith]
theorem pw_le {i : Nat} (h : i ≤ 5) : 2 ^ 53 * 3 ^ i ≤ 2 ^ 53 * 3 ^ 5 := Nat.mul_le_mul_left _ (Nat.pow_le_pow_right (by decide) h)
theorem and_ite {b c : Bool} {A B : Prop} (hA : b = true → c = true → A) (hB : B) : (b = true → (c = true → A) ∧ (c = false → B)) ∧ (b = false → (false = true → A) ∧ (True → B)) :=
  ⟨fun h1 => ⟨fun h2 => hA h1 h2, fun _ => hB⟩, fun _ => ⟨fun z => (by cases z), fun _ => hB⟩⟩
theorem mem_tup2 {xs ys : List (Int × Int)} {d : D} (h : d ∈ List.zipWith (fun d e => D.tup [d, e]) (xs.map frP) (ys.map frP)) : ∃ x ∈ xs, ∃ y ∈ ys, d = .tup [frP x, frP y] := by
  rw [zip_fr] at h
  obtain ⟨⟨x, y⟩, hm, rfl⟩ := List.mem_map.mp h
  exact ⟨x, (List.of_mem_zip hm).1, y, (List.of_mem_zip hm).2, rfl⟩
/-- a row of fractions that is filled one by one -/
theorem row_snoc {k v : Nat} {gs : List (Int × Int)} {g : Int × Int} (h : ∀ f ∈ gs, Fq k v f) (hg : Fq k v g) : ∀ f ∈ gs ++ [g], Fq k v f := fun f hf => by
  rcases List.mem_append.mp hf with m | m
  · exact h f m
  · rw [List.mem_singleton.mp m]
    exact hg
theorem map_snoc {gs : List (Int × Int)} {p q : Int} : gs.map frP ++ [fr p q] = (gs ++ [(p, q)]).map frP := by rw [List.map_append]; rfl
theorem k_law_system : KeepsD [("_law_draw", drawZ), ("_law_low", lowZ), ("_law_plus", plusZ), ("_law_by", byZ), ("_law_few", fewZ), ("_law_pick", pickZ), ("_law_huge", hugeZ)] y__law_system N__law_system.length systemZ := by
  rintro us O Q E ⟨ds, w, rfl, rfl, hb, hw1, hw4, h⟩
  show vcS _ y__law_system E _ [some (.o 0), some (.d (.int w)), none, none, none, none, none, none, none, none, none, none, none] _
  simp only [y__law_system]
  rw [vs_seq, vs_set]
  simp -implicitDefEqProofs only [vc, gt, st, oneK_1, tosK_0, newL, List.length_nil, List.length_cons, List.nil_append, List.cons_append]
  refine ⟨(by decide : 0 ≤ sizeLine), ?_⟩
  rw [vs_seq, vs_for]
  simp -implicitDefEqProofs only [vc, gt, st, oneK_1, nrK_d, List.getElem?_cons_zero]
  refine callO [.int 5] rfl fun F X hF => ⟨ds, 5, rfl, rfl, hb, by decide, by decide, fun r0 ds0 hr0 hr1 hb0 => hF _ _ ?_⟩
  simp -implicitDefEqProofs only [oneK_1, nrK_d, add_i, so]
  refine ⟨⟨by omega, by omega⟩, _, rfl, ?_⟩
  refine forR_inv (fun i ρ O => ∃ (ds : List D) (rs : List (List (Int × Int))) (x3 x4 x5 x6 x7 x8 x9 x10 x11 x12 : Option U), O = [.lst ds, .lst (rs.map rowF)] ∧ BagOk ds ∧ ρ = [some (.o 0), some (.d (.int w)), some (.o 1), x3, x4, x5, x6, x7, x8, x9, x10, x11, x12] ∧
    rs.length = i ∧ i ≤ 5 ∧ ∀ r ∈ rs, RowOk w i (2 ^ 53 * 3 ^ i) r) _ _ _ 0 ⟨ds0, [], none, none, none, none, none, none, none, none, none, none, rfl, hb0, rfl, rfl, by decide, (fun r hr => by cases hr)⟩ ?_ ?_
  · rintro j d ρ O e ⟨ds, rs, x3, x4, x5, x6, x7, x8, x9, x10, x11, x12, rfl, hb, rfl, hrl, hj5, hrs⟩ N hN
    rw [Nat.zero_add] at hrl hj5 hrs hN
    have hj : j < 5 := by
      have := (List.getElem?_eq_some_iff.mp e).1
      rw [List.length_map, List.length_range] at this
      omega
    have e3 : 2 ^ 53 * 3 ^ (j + 1) = 3 * (2 ^ 53 * 3 ^ j) := by rw [Nat.pow_succ]; omega
    have hV := pw_le (i := j) (by omega)
    have hV1 := pw_le (i := j + 1) (by omega)
    have hV0 : 2 ^ 53 ≤ 2 ^ 53 * 3 ^ j := Nat.le_mul_of_pos_right _ (Nat.pow_pos (by decide))
    have hrs1 : ∀ r ∈ rs, RowOk w (j + 1) (2 ^ 53 * 3 ^ (j + 1)) r := fun r hr => (hrs r hr).mono (by omega) (by omega)
    -- a row more
    have more : ∀ (ds' : List D) (r : List (Int × Int)) (y3 y4 y5 y6 y7 y8 y9 y10 y11 y12 : Option U), BagOk ds' → RowOk w (j + 1) (2 ^ 53 * 3 ^ (j + 1)) r → (rs.map rowF).length < sizeLine ∧ N [some (.o 0), some (.d (.int w)), some (.o 1), y3, y4, y5, y6, y7, y8, y9, y10, y11, y12] [.lst ds', .lst (rs.map rowF ++ [rowF r])] := fun ds' r y3 y4 y5 y6 y7 y8 y9 y10 y11 y12 hb' hr => by
      refine ⟨by rw [List.length_map, sizeLine_eq]; omega, hN _ _ ⟨ds', rs ++ [r], _, _, _, _, _, _, _, _, _, _, ?_, hb', rfl, by rw [List.length_append, hrl]; rfl, hj, fun q hq => ?_⟩⟩
      · rw [List.map_append]
        rfl
      · rcases List.mem_append.mp hq with m | m
        · exact hrs1 q m
        · rw [List.mem_singleton.mp m]
          exact hr
    have t1 : ∀ fs : List (Int × Int), (rowF fs) = .tup (fs.map frP) := fun _ => rfl
    clear hN
    simp -implicitDefEqProofs only [bindT, gt, st]
    rw [vs_seq, vs_set]
    simp -implicitDefEqProofs only [vc, gt, st, oneK_1, List.getElem?_cons_zero]
    refine callO [.int 6] rfl fun F X hF => ⟨ds, 6, rfl, rfl, hb, by decide, by decide, fun wy ds1 hwa hwb hb1 => hF _ _ ?_⟩
    simp -implicitDefEqProofs only [oneK_1, so, gt, st]
    rw [vs_seq, vs_ite]
    simp -implicitDefEqProofs only [vc, gt, st, oneK_1, tosK_0, newL, List.length_nil, nrK_lst1, nrK_d]
    refine ⟨(by decide : 0 ≤ sizeLine), ?_⟩
    refine ne_nil (n := 3) (pl_rowFs (by omega) fun r hr => by rw [(hrs r hr).1]; omega) (by decide) ?_
    simp -implicitDefEqProofs only [boolK_1, lt_i]
    refine and_ite (fun hne _ => ?_) ?_
    · -- a sum of two rows
      have hne' : 1 ≤ (rs.map rowF).length := by
        cases rs with
        | nil => cases hne
        | cons a b => simp
      have hl60 : (rs.map rowF).length < 2 ^ 60 := by rw [List.length_map]; omega
      rw [vs_seq, vs_tgt]
      simp -implicitDefEqProofs only [vc, gt, st, oneK_1, List.getElem?_cons_zero, List.getElem?_cons_succ]
      refine callOB [] rfl rfl (by decide) fun F X hF => ⟨ds1, rs.map rowF, .inr ⟨rfl, rfl⟩, hb1, hne', hl60, fun x ds2 hx hb2 => hF _ _ ?_⟩
      obtain ⟨rx, hrx, rfl⟩ := List.mem_map.mp hx
      simp -implicitDefEqProofs only [oneK_1, so]
      refine callOB [] rfl rfl (by decide) fun F X hF => ⟨ds2, rs.map rowF, .inr ⟨rfl, rfl⟩, hb2, hne', hl60, fun x ds3 hx hb3 => hF _ _ ?_⟩
      obtain ⟨ry, hry, rfl⟩ := List.mem_map.mp hx
      simp -implicitDefEqProofs only [oneK_1, so]
      refine callO [.int 2] rfl fun F X hF => ⟨ds3, 2, rfl, rfl, hb3, by decide, by decide, fun n m p q ds4 hn1 hn2 hm1 hm2 hq hc he hb4 => hF _ _ ?_⟩
      have fz := few_fq (w := 2) hn1 hn2 hm1 hm2 hq hc he
      simp -implicitDefEqProofs only [oneK_1, so, tosK_3, toK_d, bindT, bindTs, gt, st]
      refine ⟨(by decide : 3 ≤ sizeLine), ?_⟩
      obtain ⟨lx, hX⟩ := hrs rx hrx
      obtain ⟨ly, hY⟩ := hrs ry hry
      rw [vs_seq, vs_set]
      simp -implicitDefEqProofs only [vc, gt, st, oneK_1, brK_d, rowF, wipeR, wipeR.rm, List.getElem?_cons_zero, List.getElem?_cons_succ]
      have hzl : (List.zipWith (fun d e => D.tup [d, e]) (rx.map frP) (ry.map frP)).length = w := by
        rw [List.length_zipWith, List.length_map, List.length_map, lx, ly, Nat.min_self]
      refine ⟨_, rfl, by rw [hzl, sizeLine_eq]; omega, ?_⟩
      refine compR_map (fun d => match d with
        | .tup [.tup [.int a1, .int a2], .tup [.int b1, .int b2]] => fr (a1 * (b2 * q) + (b1 * p) * a2) (a2 * (b2 * q))
        | _ => .non) (Nat.le_refl _) _ (fun d hd F hF => ?_) ?_
      · obtain ⟨x, hx, y, hy, rfl⟩ := mem_tup2 hd
        have fx := hX x hx
        have fy := hY y hy
        have bx := fx.bds (by omega) (by omega)
        have by' := fy.bds (by omega) (by omega)
        have bf := fz.bds (by decide) (by decide)
        simp -implicitDefEqProofs only [bindT, bindTs, gt, st, oneK_1]
        refine callD0 [frP y, fr p q] fun F' X hF' => ⟨y.1, y.2, p, q, rfl, rfl, ⟨94, by decide, by'.1, by'.2, bf.1, bf.2⟩, hF' _ ?_⟩
        refine callD0 [frP x, fr (y.1 * p) (y.2 * q)] fun F' X hF' => ⟨x.1, x.2, _, _, rfl, rfl, ⟨188, by decide, bx.1.mono (by decide), bx.2.mono (by decide), by'.1.mul bf.1, by'.2.mul bf.2⟩, hF' _ hF⟩
      simp -implicitDefEqProofs only [newL, oneK_1, unb_l2, st]
      rw [vs_seq, vs_ex]
      simp -implicitDefEqProofs only [vc, gt, st, oneK_1, brK_d, wipeR, wipeR.rm, List.getElem?_cons_zero, List.getElem?_cons_succ]
      refine ⟨_, rfl, by rw [List.length_map, hzl, sizeLine_eq]; omega, ?_⟩
      refine compR_inv (fun i acc O => O = [.lst ds4, .lst (rs.map rowF)] ∧ ∃ gs : List (Int × Int), acc = gs.map frP ∧ gs.length = i ∧ ∀ g ∈ gs, Fq (j + 1) (2 ^ 53 * 3 ^ (j + 1)) g) _ [] _ 0 ⟨rfl, [], rfl, rfl, (fun g hg => by cases hg)⟩ ?_ ?_
      · rintro i d acc O e ⟨rfl, gs, rfl, hgl, hgs⟩ F hF
        have hd := List.mem_of_getElem? e
        obtain ⟨d0, hd0, rfl⟩ := List.mem_map.mp hd
        obtain ⟨x, hx, y, hy, rfl⟩ := mem_tup2 hd0
        have fx := hX x hx
        have fy := hY y hy
        have bx := fx.bds (by omega) (by omega)
        have by' := fy.bds (by omega) (by omega)
        have bf := fz.bds (by decide) (by decide)
        have g1 : Gq (j + 1) (2 ^ 53 * 3 ^ j * 2) (y.1 * p, y.2 * q) := fy.gq.mul fz.gq
        have g2 := (fx.gq.mono (k' := j + 1) (by omega) (Nat.le_refl _)).add g1
        have g3 : Gq (j + 1) (2 ^ 53 * 3 ^ (j + 1)) (x.1 * (y.2 * q) + y.1 * p * x.2, x.2 * (y.2 * q)) := g2.mono (Nat.le_refl _) (by omega)
        have hpos : 0 < x.2 * (y.2 * q) := g3.pos
        have bden : Bd 282 (x.2 * (y.2 * q)) := bx.2.mul (by'.2.mul bf.2)
        simp -implicitDefEqProofs only [bindT, frP, fr, gt, st, oneK_1, nrK_d, ix_t, at_0, at_1, ex_some, List.getElem?_cons_zero, List.getElem?_cons_succ]
        refine callD0 [.int (x.1 * (y.2 * q) + y.1 * p * x.2), .int (x.2 * (y.2 * q))] fun F' X hF' => ⟨_, _, rfl, rfl, by omega, bden.lo (by decide), fun p2 q2 hq2 hc2 he2 => hF' _ (hF _ _ ⟨rfl, gs ++ [(p2, q2)], ?_, ?_, ?_⟩)⟩
        · exact map_snoc
        · rw [List.length_append, hgl]; simp
        · exact row_snoc hgs (g3.low hq2 hc2 he2)
      · rintro acc O ⟨rfl, gs, rfl, hgl, hgs⟩
        simp -implicitDefEqProofs only [newL, oneK_1, unb_l2, nrsK_1, tuple_l, toK_d, go, so]
        refine more ds4 gs _ _ _ _ _ _ _ _ _ _ hb4 ⟨?_, hgs⟩
        rw [hgl, List.length_map, hzl, Nat.zero_add]
    · rw [vs_seq, vs_ite]
      simp -implicitDefEqProofs only [vc, gt, st, oneK_1, nrK_d, eq_i, boolK_1]
      refine way (fun _ => ?_) fun _ => ?_
      · -- a far row
        rw [vs_seq, vs_set]
        simp -implicitDefEqProofs only [vc, gt, st, oneK_1, nrK_d, List.getElem?_cons_zero, List.getElem?_cons_succ]
        refine callO [] rfl fun F X hF => ⟨ds1, rfl, rfl, hb1, fun hg ds2 hg1 hg2 hb2 => hF _ _ ?_⟩
        have e20 : (10 : Int) ^ Int.toNat 20 = 10 ^ 20 := by decide
        simp -implicitDefEqProofs only [oneK_1, so, nrK_d, pow_i, div_i, e20]
        refine ⟨⟨by decide, by decide, by decide⟩, divOk_pos (by decide) (by decide), ?_⟩
        have hfar : 0 ≤ hg.fdiv (10 ^ 20) ∧ hg.fdiv (10 ^ 20) < 10 ^ 15 := by
          rw [Int.fdiv_eq_ediv_of_nonneg _ (by decide)]
          omega
        generalize hg.fdiv (10 ^ 20) = far at *
        rw [vs_seq, vs_ex]
        simp -implicitDefEqProofs only [vc, gt, st, oneK_1, nrK_d, wipeR, wipeR.rm, List.getElem?_cons_zero, List.getElem?_cons_succ]
        refine ⟨⟨by omega, by omega⟩, _, rfl, by rw [List.length_map, List.length_range, sizeLine_eq]; omega, ?_⟩
        refine compR_inv (fun i acc O => ∃ (ds : List D) (gs : List (Int × Int)), O = [.lst ds, .lst (rs.map rowF)] ∧ BagOk ds ∧ acc = gs.map frP ∧ gs.length = i ∧ ∀ g ∈ gs, Fq 1 (2 ^ 53) g) _ [] _ 0 ⟨ds2, [], rfl, hb2, rfl, rfl, (fun g hg => by cases hg)⟩ ?_ ?_
        · rintro i d acc O e ⟨ds, gs, rfl, hb, rfl, hgl, hgs⟩ F hF
          have hd := List.mem_of_getElem? e
          obtain ⟨d0, hd0, rfl⟩ := List.mem_map.mp hd
          simp -implicitDefEqProofs only [bindT, gt, st, oneK_1, nrK_d, List.getElem?_cons_zero, List.getElem?_cons_succ]
          refine callO [.int 7] rfl fun F' X hF' => ⟨ds, 7, rfl, rfl, hb, by decide, by decide, fun u ds' hu1 hu2 hb' => hF' _ _ ?_⟩
          simp -implicitDefEqProofs only [oneK_1, so, nrK_d, mul_i, sub_i]
          refine ⟨mulOk_l (by omega) (by omega), ?_⟩
          refine callO [.int 3] rfl fun F' X hF' => ⟨ds', 3, rfl, rfl, hb', by decide, by decide, fun t ds3 ht1 ht2 hb3 => hF' _ _ ?_⟩
          simp -implicitDefEqProofs only [oneK_1, so, nrK_d, add_i]
          have hn : (u * far - 3).natAbs ≤ 2 ^ 53 := by
            have h1 : 0 ≤ u * far := Int.mul_nonneg hu1 hfar.1
            have h2 : u * far ≤ 6 * 10 ^ 15 := Int.mul_le_mul (by omega) (by omega) hfar.1 (by decide)
            omega
          refine callD0 [.int (u * far - 3), .int (1 + t)] fun F' X hF' => ⟨_, _, rfl, rfl, by omega, Bd.lo (a := 10) (by unfold Bd; omega) (by decide), fun p2 q2 hq2 hc2 he2 => hF' _ (hF _ _ ⟨ds3, gs ++ [(p2, q2)], rfl, hb3, ?_, ?_, ?_⟩)⟩
          · exact map_snoc
          · rw [List.length_append, hgl]; simp
          · exact row_snoc hgs ((gq_few hn (by omega) (by omega)).low hq2 hc2 he2)
        · rintro acc O ⟨ds, gs, rfl, hb, rfl, hgl, hgs⟩
          simp -implicitDefEqProofs only [newL, oneK_1, unb_l2, nrsK_1, tuple_l, toK_d, go, so]
          refine more ds gs _ _ _ _ _ _ _ _ _ _ hb ⟨?_, fun f hf => (hgs f hf).mono (by omega) (by omega)⟩
          rw [hgl, List.length_map, List.length_range]
          omega
      · -- a small row
        rw [vs_seq, vs_ex]
        simp -implicitDefEqProofs only [vc, gt, st, oneK_1, nrK_d, wipeR, wipeR.rm, List.getElem?_cons_zero, List.getElem?_cons_succ]
        refine ⟨⟨by omega, by omega⟩, _, rfl, by rw [List.length_map, List.length_range, sizeLine_eq]; omega, ?_⟩
        refine compR_inv (fun i acc O => ∃ (ds : List D) (gs : List (Int × Int)), O = [.lst ds, .lst (rs.map rowF)] ∧ BagOk ds ∧ acc = gs.map frP ∧ gs.length = i ∧ ∀ g ∈ gs, Fq 1 (2 ^ 53) g) _ [] _ 0 ⟨ds1, [], rfl, hb1, rfl, rfl, (fun g hg => by cases hg)⟩ ?_ ?_
        · rintro i d acc O e ⟨ds, gs, rfl, hb, rfl, hgl, hgs⟩ F hF
          have hd := List.mem_of_getElem? e
          obtain ⟨d0, hd0, rfl⟩ := List.mem_map.mp hd
          simp -implicitDefEqProofs only [bindT, gt, st, oneK_1, nrK_d, tosK_2, List.getElem?_cons_zero, List.getElem?_cons_succ]
          refine ⟨(by decide : 2 ≤ sizeLine), ?_⟩
          refine callO [.int 3] rfl fun F' X hF' => ⟨ds, 3, rfl, rfl, hb, by decide, by decide, fun n m p q ds' hn1 hn2 hm1 hm2 hq hc he hb' => hF' _ _ ?_⟩
          have fz := few_fq (w := 3) hn1 hn2 hm1 hm2 hq hc he
          simp -implicitDefEqProofs only [oneK_1, so, tosK_2, newL]
          refine ⟨(by decide : 2 ≤ sizeLine), ?_⟩
          refine callO [.lst [.tup [.int 0, .int 1], fr p q]] rfl fun F' X hF' => ⟨ds', [.tup [.int 0, .int 1], fr p q], .inl ⟨rfl, rfl⟩, hb', by show 1 ≤ 2; decide, by show 2 < 2 ^ 60; decide, fun x ds3 hx hb3 => hF' _ _ ?_⟩
          have hx' : ∃ g : Int × Int, x = frP g ∧ Fq 1 (2 ^ 53) g := by
            simp only [List.mem_cons, List.not_mem_nil, or_false] at hx
            rcases hx with rfl | rfl
            · exact ⟨(0, 1), rfl, by decide, by decide, ⟨12, by decide⟩, by decide⟩
            · exact ⟨(p, q), rfl, fz.mono (Nat.le_refl _) (by decide)⟩
          obtain ⟨g, rfl, hg⟩ := hx'
          refine hF _ _ ⟨ds3, gs ++ [g], rfl, hb3, ?_, ?_, ?_⟩
          · rw [List.map_append]
            rfl
          · rw [List.length_append, hgl]; simp
          · exact row_snoc hgs hg
        · rintro acc O ⟨ds, gs, rfl, hb, rfl, hgl, hgs⟩
          simp -implicitDefEqProofs only [newL, oneK_1, unb_l2, nrsK_1, tuple_l, toK_d, go, so]
          refine more ds gs _ _ _ _ _ _ _ _ _ _ hb ⟨?_, fun f hf => (hgs f hf).mono (by omega) (by omega)⟩
          rw [hgl, List.length_map, List.length_range]
          omega
  · rintro ρ O ⟨ds, rs, x3, x4, x5, x6, x7, x8, x9, x10, x11, x12, rfl, hb, rfl, hrl, hj5, hrs⟩
    have el : 0 + ((List.range (1 + r0).toNat).map fun (i : Nat) => D.int (0 + (i : Int))).length = (1 + r0).toNat := by
      rw [List.length_map, List.length_range]
      omega
    rw [el] at hrl hj5 hrs
    simp -implicitDefEqProofs only [unb_l2, vcS, vc, gt, st, oneK_1, go, so]
    exact ⟨_, rfl, h rs ds (by omega) (by omega) (fun r hr => (hrs r hr).mono hj5 (pw_le hj5)) hb⟩
end Z

set_option Elab.async false
set_option linter.all false
set_option maxRecDepth 100000
set_option maxHeartbeats 4000000
namespace Z
open PySem PySem.Spec PyProof.Rows L2
/-! ### plain: the rows that the law makes whole -/
/-- each row by a common multiple of its own -/
inductive Whs : List (List (Int × Int)) → List (List Int) → Prop
  | nil : Whs [] []
  | cons {r : List (Int × Int)} {c : Int} {rs : List (List (Int × Int))} {as : List (List Int)} : 0 < c → c ∣ LL → (∀ f ∈ r, f.2 ∣ c) → Whs rs as → Whs (r :: rs) (whole r c :: as)
theorem Whs.snoc {r : List (Int × Int)} {c : Int} (h1 : 0 < c) (h2 : c ∣ LL) (h3 : ∀ f ∈ r, f.2 ∣ c) : ∀ {rs : List (List (Int × Int))} {as : List (List Int)}, Whs rs as → Whs (rs ++ [r]) (as ++ [whole r c])
  | _, _, .nil => .cons h1 h2 h3 .nil
  | _, _, .cons k1 k2 k3 h => .cons k1 k2 k3 (Whs.snoc h1 h2 h3 h)
theorem Whs.length : ∀ {rs : List (List (Int × Int))} {as : List (List Int)}, Whs rs as → as.length = rs.length
  | _, _, .nil => rfl
  | _, _, .cons _ _ _ h => congrArg (· + 1) h.length
theorem Whs.rows {n : Nat} : ∀ {rs : List (List (Int × Int))} {as : List (List Int)}, Whs rs as → (∀ r ∈ rs, r.length = n ∧ ∀ f ∈ r, Fz f) → ∀ a ∈ as, a.length = n ∧ ∀ x ∈ a, Bd 100 x
  | _, _, .nil, _, _, h => by cases h
  | _, _, .cons (r := r) (c := c) h1 h2 h3 h, hr, a, ha => by
    rcases List.mem_cons.mp ha with rfl | m
    · obtain ⟨l, hf⟩ := hr r List.mem_cons_self
      unfold whole
      refine ⟨by rw [List.length_map]; exact l, fun x hx => ?_⟩
      obtain ⟨f, hm, rfl⟩ := List.mem_map.mp hx
      exact whole_bd (hf f hm) h1 h2 (h3 f hm)
    · exact Whs.rows h (fun r' hr' => hr r' (List.mem_cons_of_mem _ hr')) a m
/-- with the results behind -/
def wide (rs : List (List (Int × Int))) (res : List (Int × Int)) : List (List (Int × Int)) := List.zipWith (fun r f => r ++ [f]) rs res
theorem whole_at {fs : List (Int × Int)} {c : Int} {i : Nat} (h : i < fs.length) : (whole fs c).getD i 0 = (fs.getD i (0, 1)).1 * c.fdiv (fs.getD i (0, 1)).2 := by
  unfold whole
  rw [List.getD_eq_getElem?_getD, List.getD_eq_getElem?_getD, List.getElem?_map, List.getElem?_eq_getElem h]
  rfl
theorem Whs.pars {w : Nat} : ∀ {rs : List (List (Int × Int))} {as : List (List Int)} {res : List (Int × Int)} {bs : List (List Int)}, Whs rs as → Whs (wide rs res) bs → res.length = rs.length → (∀ r ∈ rs, r.length = w ∧ ∀ f ∈ r, 0 < f.2) → Pars w as bs
  | _, _, [], _, .nil, .nil, _, _ => .nil
  | _, _, [], _, .cons _ _ _ _, _, hl, _ => by simp at hl
  | _, _, _ :: _, _, .nil, _, hl, _ => by simp at hl
  | _, _, f :: res, bs, .cons (r := r) (c := c) h1 h2 h3 h, g, hl, hr => by
    obtain ⟨l, hf⟩ := hr r List.mem_cons_self
    unfold wide at g
    rw [List.zipWith_cons_cons] at g
    cases g with
    | @cons _ c' _ bs' k1 k2 k3 k =>
      refine .cons ⟨?_, ?_, c', c, k1, h1, fun i hi => ?_⟩ (Whs.pars h k (by simpa using hl) fun r' hr' => hr r' (List.mem_cons_of_mem _ hr'))
      · unfold whole; rw [List.length_map]; omega
      · unfold whole; rw [List.length_map, List.length_append]; omega
      · rw [whole_at (by omega), whole_at (by rw [List.length_append]; omega)]
        have e : (r ++ [f]).getD i (0, 1) = r.getD i (0, 1) := by
          rw [List.getD_eq_getElem?_getD, List.getD_eq_getElem?_getD, List.getElem?_append_left (by omega)]
        rw [e]
        have hm : r.getD i (0, 1) ∈ r := by
          rw [List.getD_eq_getElem?_getD, List.getElem?_eq_getElem (by omega)]
          exact List.getElem_mem _
        obtain ⟨a, ha⟩ := h3 _ hm
        obtain ⟨b, hb⟩ := k3 _ (List.mem_append_left _ hm)
        have hp := hf _ hm
        generalize r.getD i (0, 1) = q at *
        have e1 : c.fdiv q.2 = a := by rw [ha, Int.mul_fdiv_cancel_left _ (by omega)]
        have e2 : c'.fdiv q.2 = b := by rw [hb, Int.mul_fdiv_cancel_left _ (by omega)]
        rw [e1, e2, ha, hb]
        simp only [Int.mul_assoc, Int.mul_left_comm, Int.mul_comm]
/-- the same solutions as by the one common multiple -/
theorem Whs.sols (y : List Int) : ∀ {rs : List (List (Int × Int))} {res : List (Int × Int)} {bs : List (List Int)}, Whs (wide rs res) bs → (∀ r ∈ rs, ∀ f ∈ r, Fz f) → (∀ f ∈ res, Fz f) → ((∀ b ∈ bs, dotI b y = 0) ↔ ∀ b ∈ wid rs res, dotI b y = 0)
  | [], _, _, h, _, _ => by
    unfold wide at h
    rw [List.zipWith_nil_left] at h
    cases h
    unfold wid
    simp
  | _ :: _, [], _, h, _, _ => by
    unfold wide at h
    rw [List.zipWith_nil_right] at h
    cases h
    unfold wid
    simp
  | r :: rs, f :: res, _, h, hr, hf => by
    unfold wide at h
    rw [List.zipWith_cons_cons] at h
    cases h with
    | @cons _ c _ bs' k1 k2 k3 k =>
      have ih := Whs.sols y (rs := rs) (res := res) k (fun r' hr' => hr r' (List.mem_cons_of_mem _ hr')) (fun f' hf' => hf f' (List.mem_cons_of_mem _ hf'))
      unfold wid at ih ⊢
      rw [List.zipWith_cons_cons]
      have hall : ∀ g ∈ r ++ [f], Fz g := fun g hg => by
        rcases List.mem_append.mp hg with m | m
        · exact hr r List.mem_cons_self g m
        · rw [List.mem_singleton.mp m]
          exact hf f List.mem_cons_self
      have hp : (whole (r ++ [f]) c).map (LL * ·) = (whole (r ++ [f]) LL).map (c * ·) := whole_prop fun g hg => ⟨(hall g hg).pos, k3 g hg, (hall g hg).dvd⟩
      have h1 := dot_scaled (by decide : LL ≠ 0) (by omega : c ≠ 0) hp y
      constructor
      · intro hA b hb
        rcases List.mem_cons.mp hb with rfl | m
        · exact h1.mp (hA _ List.mem_cons_self)
        · exact ih.mp (fun b' hb' => hA b' (List.mem_cons_of_mem _ hb')) b m
      · intro hA b hb
        rcases List.mem_cons.mp hb with rfl | m
        · exact h1.mpr (hA _ List.mem_cons_self)
        · exact ih.mpr (fun b' hb' => hA b' (List.mem_cons_of_mem _ hb')) b m
/-! ### the sum of products of a row and the told values -/
theorem dotI_app : ∀ (a c b d : List Int), a.length = c.length → dotI (a ++ b) (c ++ d) = dotI a c + dotI b d
  | [], [], b, d, _ => by simp [dotI]
  | x :: a, z :: c, b, d, h => by
    rw [List.cons_append, List.cons_append, dotI, dotI, dotI_app a c b d (by simpa using h)]
    omega
  | [], _ :: _, _, _, h => by simp at h
  | _ :: _, [], _, _, h => by simp at h
theorem dotF_val {M : Int} (hM : 0 < M) : ∀ (r fs : List (Int × Int)) (ys : List Int) (s : Int × Int), r.length = fs.length → ys.length = fs.length → (∀ f ∈ r, 0 < f.2 ∧ f.2 ∣ LL) → (∀ i, i < fs.length → 0 < (fs.getD i (0, 1)).2 ∧ ys.getD i 0 * (fs.getD i (0, 1)).2 = (fs.getD i (0, 1)).1 * M) →
    (dotF (List.zip r fs) s).1 * (s.2 * (LL * M)) = (dotF (List.zip r fs) s).2 * (s.1 * (LL * M) + s.2 * dotI (whole r LL) ys)
  | [], [], [], s, _, _, _, _ => by
    show s.1 * (s.2 * (LL * M)) = s.2 * (s.1 * (LL * M) + s.2 * 0)
    rw [Int.mul_zero, Int.add_zero, Int.mul_left_comm]
  | x :: r, f :: fs, y :: ys, s, h1, h2, hr, hf => by
    have ih := dotF_val hM r fs ys (s.1 * (x.2 * f.2) + (x.1 * f.1) * s.2, s.2 * (x.2 * f.2)) (by simpa using h1) (by simpa using h2) (fun g hg => hr g (List.mem_cons_of_mem _ hg)) (fun i hi => by
      have := hf (i + 1) (by rw [List.length_cons]; omega)
      simpa using this)
    obtain ⟨x1, a, ha⟩ := hr x List.mem_cons_self
    have f0 := hf 0 (by rw [List.length_cons]; omega)
    simp only [List.getD_cons_zero] at f0
    obtain ⟨f1, f2⟩ := f0
    rw [List.zip_cons_cons, dotF]
    have ew : whole (x :: r) LL = x.1 * LL.fdiv x.2 :: whole r LL := rfl
    rw [ew, dotI]
    have ed : LL.fdiv x.2 = a := by rw [ha, Int.mul_fdiv_cancel_left _ (by omega)]
    rw [ed]
    generalize dotF (List.zip r fs) (s.1 * (x.2 * f.2) + (x.1 * f.1) * s.2, s.2 * (x.2 * f.2)) = nd at *
    obtain ⟨n, d⟩ := nd
    simp only at ih ⊢
    generalize dotI (whole r LL) ys = T at *
    have hx : x.2 * f.2 ≠ 0 := by
      have := Int.mul_pos x1 f1
      omega
    apply Int.eq_of_mul_eq_mul_left hx
    have l1 : x.2 * f.2 * (n * (s.2 * (LL * M))) = n * (s.2 * (x.2 * f.2) * (LL * M)) := by simp only [Int.mul_assoc, Int.mul_left_comm, Int.mul_comm]
    rw [l1, ih]
    have l2 : x.2 * f.2 * (d * (s.1 * (LL * M) + s.2 * (x.1 * a * y + T))) = d * (x.2 * f.2 * (s.1 * (LL * M)) + x.2 * f.2 * (s.2 * (x.1 * a * y)) + x.2 * f.2 * (s.2 * T)) := by
      rw [Int.mul_left_comm, Int.mul_add (x.2 * f.2), Int.mul_add s.2, Int.mul_add (x.2 * f.2), Int.add_assoc]
    rw [l2]
    congr 1
    have l3 : x.2 * f.2 * (s.2 * (x.1 * a * y)) = x.1 * f.1 * s.2 * (LL * M) := by
      have e1 : x.2 * f.2 * (s.2 * (x.1 * a * y)) = (x.2 * a) * (y * f.2) * (s.2 * x.1) := by simp only [Int.mul_assoc, Int.mul_left_comm, Int.mul_comm]
      rw [e1, ← ha, f2]
      simp only [Int.mul_assoc, Int.mul_left_comm, Int.mul_comm]
    rw [l3, Int.add_mul]
    have l4 : s.1 * (x.2 * f.2) * (LL * M) = x.2 * f.2 * (s.1 * (LL * M)) := by simp only [Int.mul_assoc, Int.mul_left_comm, Int.mul_comm]
    have l5 : s.2 * (x.2 * f.2) * T = x.2 * f.2 * (s.2 * T) := by simp only [Int.mul_assoc, Int.mul_left_comm, Int.mul_comm]
    rw [l4, l5]
  | [], _ :: _, _, _, h, _, _, _ => by simp at h
  | _ :: _, [], _, _, h, _, _, _ => by simp at h
  | [], [], _ :: _, _, _, h, _, _ => by simp at h
  | _ :: _, _ :: _, [], _, _, h, _, _ => by simp at h
theorem dotF_bd {b : Nat} : ∀ (zs : List ((Int × Int) × (Int × Int))) (B : Nat) (s : Int × Int), (∀ z ∈ zs, Bd b z.1.1 ∧ Bd b z.1.2 ∧ Bd b z.2.1 ∧ Bd b z.2.2) → Bd B s.1 → Bd B s.2 → Bd (B + (2 * b + 1) * zs.length) (dotF zs s).1 ∧ Bd (B + (2 * b + 1) * zs.length) (dotF zs s).2
  | [], B, s, _, h1, h2 => ⟨h1, h2⟩
  | (x, y) :: zs, B, s, h, h1, h2 => by
    obtain ⟨a1, a2, a3, a4⟩ := h (x, y) List.mem_cons_self
    have ih := dotF_bd zs (B + (2 * b + 1)) (s.1 * (x.2 * y.2) + (x.1 * y.1) * s.2, s.2 * (x.2 * y.2)) (fun z hz => h z (List.mem_cons_of_mem _ hz)) (((h1.mul (a2.mul a4)).add ((a1.mul a3).mul h2)).mono (by omega)) ((h2.mul (a2.mul a4)).mono (by omega))
    rw [dotF]
    have e : B + (2 * b + 1) * ((x, y) :: zs).length = B + (2 * b + 1) + (2 * b + 1) * zs.length := by rw [List.length_cons, Nat.mul_add]; omega
    rw [e]
    exact ih
theorem told_row {w : Nat} {r fs : List (Int × Int)} {f : Int × Int} {y : List Int} {M : Int} (hv : Vls w fs y M) (hl : r.length = w) (hr : ∀ g ∈ r, Fz g) (hf : Fz f) (h : dotI (whole (r ++ [f]) LL) y = 0) :
    (dotF (List.zip r fs) (0, 1)).1 * f.2 = f.1 * (dotF (List.zip r fs) (0, 1)).2 := by
  have hM := hv.pos
  have hyl : (y.take w).length = w := by rw [List.length_take, hv.ylen]; omega
  have ey : y = y.take w ++ [y.getD w 0] := by
    conv => lhs; rw [← List.take_append_drop w y]
    congr 1
    rw [List.drop_eq_getElem_cons (by rw [hv.ylen]; omega), List.drop_of_length_le (by rw [hv.ylen]; omega), List.getD_eq_getElem?_getD, List.getElem?_eq_getElem (by rw [hv.ylen]; omega)]
    rfl
  have ew : whole (r ++ [f]) LL = whole r LL ++ [f.1 * LL.fdiv f.2] := by unfold whole; rw [List.map_append]; rfl
  have hw : (whole r LL).length = (y.take w).length := by rw [hyl]; unfold whole; rw [List.length_map]; exact hl
  rw [ew, ey, dotI_app _ _ _ _ hw, hv.den] at h
  have hd : dotI [f.1 * LL.fdiv f.2] [-M] = -(f.1 * LL.fdiv f.2 * M) := by
    show f.1 * LL.fdiv f.2 * -M + 0 = _
    rw [Int.add_zero, Int.mul_neg]
  rw [hd] at h
  have key := dotF_val hM r fs (y.take w) (0, 1) (by rw [hl, hv.len]) (by rw [hyl, hv.len]) (fun g hg => ⟨(hr g hg).pos, (hr g hg).dvd⟩) (fun i hi => by
    rw [hv.len] at hi
    obtain ⟨o1, o2, o3⟩ := hv.ok i hi
    refine ⟨o1, ?_⟩
    have : (y.take w).getD i 0 = y.getD i 0 := by
      rw [List.getD_eq_getElem?_getD, List.getD_eq_getElem?_getD, List.getElem?_take, if_pos hi]
    rw [this]
    exact o3)
  generalize dotF (List.zip r fs) (0, 1) = nd at *
  obtain ⟨n, d⟩ := nd
  simp only at key ⊢
  generalize dotI (whole r LL) (y.take w) = T at *
  rw [Int.zero_mul, Int.zero_add, Int.one_mul, Int.one_mul] at key
  obtain ⟨a, ha⟩ := hf.dvd
  have hp := hf.pos
  have ed : LL.fdiv f.2 = a := by
    show (12 ^ 7 : Int).fdiv f.2 = a
    rw [ha, Int.mul_fdiv_cancel_left _ (by omega)]
  rw [ed] at h
  have hT : T = f.1 * a * M := by omega
  rw [hT] at key
  have hLM : LL * M ≠ 0 := by
    have := Int.mul_pos (by decide : (0 : Int) < LL) hM
    omega
  apply Int.eq_of_mul_eq_mul_left hLM
  have e1 : LL * M * (n * f.2) = n * (LL * M) * f.2 := by simp only [Int.mul_assoc, Int.mul_left_comm, Int.mul_comm]
  rw [e1, key]
  have e2 : LL = f.2 * a := ha
  rw [e2]
  simp only [Int.mul_assoc, Int.mul_left_comm, Int.mul_comm]
/-! ### the law's question of one system -/
def sysoZ : ZSp := fun us O Q _ => ∃ (w : Nat) (rs : List (List (Int × Int))) (res : List (Int × Int)), us = [.d (.lst (rs.map rowF)), .d (.lst (res.map frP))] ∧ O = [] ∧ Sys w rs res ∧ Q (.d (.bl true)) []

theorem is_tn {ds : List D} {Q : Bool → Prop} : cmpD .Is (.tup ds) .non Q = Q false := rfl
theorem whs_of {Q : D → Prop} {r : List (Int × Int)} (h : ∀ c, 0 < c → c ∣ LL → (∀ f ∈ r, f.2 ∣ c) → Q (rowD (whole r c))) : True := trivial
/-- the whole rows, one by one -/
theorem row_item {r : List (Int × Int)} {n : Nat} (hn : n ≤ 100) (hl : r.length = n) (hr : ∀ f ∈ r, Fz f) {F : U → List DO → Prop} {X : ZX} (hF : ∀ c, 0 < c → c ∣ LL → (∀ f ∈ r, f.2 ∣ c) → F (.d (rowD (whole r c))) []) : whole_rowZ ([rowF r].map .d) [] F X :=
  ⟨r, LL, rfl, rfl, by decide, by unfold Bd LL; decide, by omega, fun f hf => ⟨(hr f hf).pos, (hr f hf).dvd, (hr f hf).bd1.mono (by decide)⟩, hF⟩
theorem k_law_system_so : Keeps [("_law_dot", dotZ), ("_law_is_point", isptZ), ("_law_rank", rankZ), ("_law_whole_row", whole_rowZ), ("solved", solvedZ), ("_law_same", sameZ 4)] y__law_system_so N__law_system_so.length sysoZ := by
  rintro us O Q E ⟨w, rs, res, rfl, rfl, hS, h⟩
  show vcS _ y__law_system_so E _ [some (.d (.lst (rs.map rowF))), some (.d (.lst (res.map frP))), none, none, none, none, none, none, none, none, none, none, none] _
  have hw4 := hS.w4
  have hfew := hS.few
  have hne := hS.ne
  obtain ⟨r0, rs0, hrs⟩ : ∃ r0 rs0, rs = r0 :: rs0 := by
    cases rs with
    | nil => exact absurd rfl hS.ne
    | cons r0 rs0 => exact ⟨r0, rs0, rfl⟩
  have hr0 : r0.length = w := (hS.row r0 (by rw [hrs]; exact List.mem_cons_self)).1
  have e0 : atI (rs.map rowF) 0 = some (.tup (r0.map frP)) := by rw [hrs]; exact at_0
  have hpl : Pl 4 (.lst [.lst (rs.map rowF), .lst (res.map frP)]) := .lst (by show 2 ≤ 1000; decide) fun d hd => by
    simp only [List.mem_cons, List.not_mem_nil, or_false] at hd
    rcases hd with rfl | rfl
    · exact pl_rowFs (by omega) fun r hr => by rw [(hS.row r hr).1]; omega
    · exact (Pl.lst (n := 1) (by rw [List.length_map, hS.len]; omega) fun d hd => by
        obtain ⟨f, hf, rfl⟩ := List.mem_map.mp hd
        exact pl_fr).mono (by decide)
  have hwide : ∀ r ∈ wide rs res, r.length = w + 1 ∧ ∀ f ∈ r, Fz f := fun r hr => by
    unfold wide at hr
    rw [← List.map_uncurry_zip_eq_zipWith] at hr
    obtain ⟨⟨q, f⟩, hm, rfl⟩ := List.mem_map.mp hr
    obtain ⟨l, hq⟩ := hS.row q (List.of_mem_zip hm).1
    refine ⟨by show (q ++ [f]).length = w + 1; rw [List.length_append, l]; rfl, fun g hg => ?_⟩
    rcases List.mem_append.mp hg with m | m
    · exact hq g m
    · rw [List.mem_singleton.mp m]
      exact hS.wor f (List.of_mem_zip hm).2
  have hwidel : (wide rs res).length = rs.length := by unfold wide; rw [List.length_zipWith, hS.len, Nat.min_self]
  have hrl : rs.length ≠ 0 := by rw [hrs]; simp
  -- behind the first questions
  have behind : ∀ (told : D) (P : Prop) (x9 x10 x11 x12 : Option U), ((told = .non ∧ ¬ ∃ y, Sol w (wid rs res) y) ∨ ∃ fs y M, told = .tup (fs.map frP) ∧ Vls w fs y M ∧ (∀ b ∈ wid rs res, dotI b y = 0) ∧ ∀ f ∈ fs, Bd 4380 f.1 ∧ Bd 4380 f.2) →
      vcS [("_law_dot", dotZ), ("_law_is_point", isptZ), ("_law_rank", rankZ), ("_law_whole_row", whole_rowZ), ("solved", solvedZ), ("_law_same", sameZ 4)] (.seq (.set 3 (.comp false [9] (.nm 9) (.seq (.var 0)) .yes (.call 3 (.cons (.var 9) .nil)))) (.seq (.set 4 (.comp false [9, 10] (.tp (.cons (.nm 9) (.cons (.nm 10) .nil))) (.zip (.var 0) (.var 1)) .yes (.call 3 (.cons (.bin .Add (.var 9) (.tup (.cons (.var 10) .nil))) .nil)))) (.seq (.set 5 (.cmp .Eq (.call 2 (.cons (.var 3) .nil)) (.call 2 (.cons (.var 4) .nil)))) (.seq (.ite (.or (.cmp .Is (.var 2) .non) (.one (.not (.var 5)))) (.seq (.ret (.and (.cmp .Is (.var 2) .non) (.one (.not (.var 5))))) .nil) .nil) (.seq (.ite (.not (.call 1 (.cons (.var 2) (.cons (.blt .len (.cons (.ix (.var 0) (.int 0)) .nil)) .nil)))) (.seq (.ret (.bl false)) .nil) .nil) (.seq (.set 6 (.comp false [9] (.nm 9) (.seq (.var 0)) .yes (.call 0 (.cons (.var 9) (.cons (.var 2) .nil))))) (.seq (.ret (.blt .all (.cons (.comp false [11, 12] (.tp (.cons (.nm 11) (.cons (.nm 12) .nil))) (.zip (.var 6) (.var 1)) .yes (.cmp .Eq (.bin .Mult (.ix (.var 11) (.int 0)) (.ix (.var 12) (.int 1))) (.bin .Mult (.ix (.var 12) (.int 0)) (.ix (.var 11) (.int 1))))) .nil))) .nil))))))) E
        ⟨fun _ O' => Q (.d .non) O', Q, fun _ _ => False, fun _ _ => False⟩ [some (.d (.lst (rs.map rowF))), some (.d (.lst (res.map frP))), some (.d told), none, none, none, none, some (.d (.lst (rs.map rowF))), some (.d (.lst (res.map frP))), x9, x10, x11, x12] [] := by
    intro told P x9 x10 x11 x12 ht
    rw [vs_seq, vs_set]
    simp -implicitDefEqProofs only [vc, gt, st, oneK_1, brK_d, wipeR, wipeR.rm, List.getElem?_cons_zero, List.getElem?_cons_succ]
    refine ⟨_, rfl, by rw [List.length_map, sizeLine_eq]; omega, ?_⟩
    refine compR_inv (fun i acc O => O = [] ∧ ∃ as, acc = rowsD as ∧ Whs (rs.take i) as) _ [] [] 0 ⟨rfl, [], rfl, .nil⟩ ?_ ?_
    · rintro i d acc O e ⟨rfl, as, rfl, hA⟩ F hF
      rw [List.getElem?_map] at e
      cases q : rs[i]? with
      | none => rw [q] at e; cases e
      | some r =>
      rw [q] at e
      cases e
      obtain ⟨l, hr⟩ := hS.row r (List.mem_of_getElem? q)
      simp -implicitDefEqProofs only [bindT, gt, st, List.getElem?_cons_zero, List.getElem?_cons_succ]
      refine callD0 [rowF r] fun F' X hF' => row_item (n := w) (by omega) l hr fun c h1 h2 h3 => hF' _ (hF _ _ ⟨rfl, as ++ [whole r c], ?_, ?_⟩)
      · unfold rowsD
        rw [List.map_append]
        rfl
      · rw [Nat.zero_add] at hA ⊢
        rw [List.take_succ, q]
        exact hA.snoc h1 h2 h3
    · rintro acc O ⟨rfl, as, rfl, hA⟩
      rw [Nat.zero_add, List.take_of_length_le (by rw [List.length_map]; exact Nat.le_refl _)] at hA
      have hAr := hA.rows (n := w) hS.row
      have hAl := hA.length
      simp -implicitDefEqProofs only [newL, unb_0, oneK_1, st]
      rw [vs_seq, vs_set]
      simp -implicitDefEqProofs only [vc, gt, st, oneK_1, brK_d, wipeR, wipeR.rm, List.getElem?_cons_zero, List.getElem?_cons_succ]
      refine ⟨_, rfl, by rw [List.length_zipWith, List.length_map, sizeLine_eq]; omega, ?_⟩
      refine compR_inv (fun i acc O => O = [] ∧ ∃ bs, acc = rowsD bs ∧ Whs ((wide rs res).take i) bs) _ [] [] 0 ⟨rfl, [], rfl, .nil⟩ ?_ ?_
      · rintro i d acc O e ⟨rfl, bs, rfl, hB⟩ F hF
        rw [List.getElem?_zipWith, List.getElem?_map, List.getElem?_map] at e
        cases q : rs[i]? with
        | none => rw [q] at e; cases e
        | some r =>
        cases q2 : res[i]? with
        | none => rw [q, q2] at e; cases e
        | some f =>
        rw [q, q2] at e
        cases e
        have q3 : (wide rs res)[i]? = some (r ++ [f]) := by
          unfold wide
          rw [List.getElem?_zipWith, q, q2]
        obtain ⟨l, hr⟩ := hwide _ (List.mem_of_getElem? q3)
        have e2 : r.map frP ++ [frP f] = (r ++ [f]).map frP := by rw [List.map_append]; rfl
        simp -implicitDefEqProofs only [bindT, bindTs, rowF, gt, st, oneK_1, nrK_d, tosK_1, List.getElem?_cons_zero, List.getElem?_cons_succ]
        refine ⟨(by decide : 1 ≤ sizeLine), ?_⟩
        show (r.map frP).length + [frP f].length ≤ sizeLine ∧ _
        rw [e2]
        refine ⟨by rw [← List.length_append, e2, List.length_map, l, sizeLine_eq]; omega, ?_⟩
        refine callD0 [rowF (r ++ [f])] fun F' X hF' => row_item (n := w + 1) (by omega) l hr fun c h1 h2 h3 => hF' _ (hF _ _ ⟨rfl, bs ++ [whole (r ++ [f]) c], ?_, ?_⟩)
        · unfold rowsD
          rw [List.map_append]
          rfl
        · rw [Nat.zero_add] at hB ⊢
          rw [List.take_succ, q3]
          exact hB.snoc h1 h2 h3
      · rintro acc O ⟨rfl, bs, rfl, hB⟩
        rw [Nat.zero_add, List.take_of_length_le (by rw [hwidel, List.length_zipWith, List.length_map, List.length_map, hS.len]; omega)] at hB
        have hBr := hB.rows (n := w + 1) hwide
        have hBl := hB.length
        have hfit := ranks_sol (hA.pars hB hS.len fun r hr => ⟨(hS.row r hr).1, fun f hf => ((hS.row r hr).2 f hf).pos⟩) fun b hb => (hBr b hb).1
        have hsol : (∃ y, Sol w bs y) ↔ ∃ y, Sol w (wid rs res) y := by
          constructor
          · rintro ⟨y, s1, s2, s3⟩
            exact ⟨y, s1, s2, (Whs.sols y hB (fun r hr => (hS.row r hr).2) hS.wor).mp s3⟩
          · rintro ⟨y, s1, s2, s3⟩
            exact ⟨y, s1, s2, (Whs.sols y hB (fun r hr => (hS.row r hr).2) hS.wor).mpr s3⟩
        rw [hsol] at hfit
        simp -implicitDefEqProofs only [newL, unb_0, oneK_1, st]
        rw [vs_seq, vs_set]
        simp -implicitDefEqProofs only [vc, gt, st, oneK_1, List.getElem?_cons_zero, List.getElem?_cons_succ]
        refine callD0 [.lst (rowsD as)] fun F X hF => ⟨as, w, 100, rfl, rfl, fun z => hrl (by rw [← hAl, z]; rfl), fun r hr => (hAr r hr).1, by omega, by omega, by decide, fun r hr => (hAr r hr).2, hF _ ?_⟩
        refine callD0 [.lst (rowsD bs)] fun F X hF => ⟨bs, w + 1, 100, rfl, rfl, fun z => hrl (by rw [← hwidel, ← hBl, z]; rfl), fun r hr => (hBr r hr).1, by omega, by omega, by decide, fun r hr => (hBr r hr).2, hF _ ?_⟩
        simp -implicitDefEqProofs only [oneK_1, nrK_d, eq_i]
        generalize hfb : decide (((rankF 0 w as : Nat) : Int) = ((rankF 0 (w + 1) bs : Nat) : Int)) = fits
        rw [vs_seq, vs_ite]
        rcases ht with ⟨rfl, hno⟩ | ⟨fs, y, M, rfl, hv, hy, hbf⟩
        · have hfalse : fits = false := by
            rw [← hfb]
            refine decide_eq_false fun z => hno (hfit.mp (by omega))
          subst hfalse
          simp -implicitDefEqProofs only [vc, gt, st, oneK_1, nrK_d, is_nn, boolK_1]
          refine ⟨fun _ => ⟨fun _ => ?_, fun z => (by cases z)⟩, fun z => (by cases z)⟩
          rw [vs_seq, vs_ret]
          simp -implicitDefEqProofs only [vc, gt, st, oneK_1, nrK_d, is_nn, boolK_1]
          exact ⟨fun _ => h, fun z => (by cases z)⟩
        · have htrue : fits = true := by
            rw [← hfb]
            refine decide_eq_true ?_
            have := hfit.mpr ⟨y, hv.ylen, by rw [hv.den]; have := hv.pos; omega, hy⟩
            omega
          subst htrue
          simp -implicitDefEqProofs only [vc, gt, st, oneK_1, nrK_d, is_tn, boolK_1]
          refine ⟨fun z => (by cases z), fun _ => ⟨fun z => (by cases z), fun _ => ?_⟩⟩
          rw [vs_nil]
          dsimp only
          rw [vs_seq, vs_ite]
          simp -implicitDefEqProofs only [vc, gt, st, oneK_1, nrK_d, ix_l, e0, ex_some, nrsK_1, len_t, List.length_map, hr0, List.getElem?_cons_zero, List.getElem?_cons_succ]
          have hfl := hv.len
          have hfr : ∀ f ∈ fs, 0 < f.2 ∧ Int.gcd f.1 f.2 = 1 := fun f hf => by
            obtain ⟨k, hk, rfl⟩ := List.mem_iff_getElem.mp hf
            have := hv.ok k (by omega)
            rw [List.getD_eq_getElem?_getD, List.getElem?_eq_getElem hk] at this
            exact ⟨this.1, this.2.1⟩
          refine callD0 [.tup (fs.map frP), .int w] fun F X hF => ⟨fs, by rw [hfl]; rfl, rfl, by omega, fun f hf => ⟨(hfr f hf).1, (hfr f hf).2⟩, hF _ ?_⟩
          simp -implicitDefEqProofs only [boolK_1]
          refine ⟨fun z => (by cases z), fun _ => ?_⟩
          rw [vs_nil]
          dsimp only
          rw [vs_seq, vs_set]
          simp -implicitDefEqProofs only [vc, gt, st, oneK_1, brK_d, wipeR, wipeR.rm, List.getElem?_cons_zero, List.getElem?_cons_succ]
          refine ⟨_, rfl, by rw [List.length_map, sizeLine_eq]; omega, ?_⟩
          refine compR_inv (fun i acc O => O = [] ∧ acc = ((rs.take i).map fun r => dotF (List.zip r fs) (0, 1)).map frP) _ [] [] 0 ⟨rfl, rfl⟩ ?_ ?_
          · rintro i d acc O e ⟨rfl, rfl⟩ F hF
            rw [List.getElem?_map] at e
            cases q : rs[i]? with
            | none => rw [q] at e; cases e
            | some r =>
            rw [q] at e
            cases e
            obtain ⟨l, hr⟩ := hS.row r (List.mem_of_getElem? q)
            simp -implicitDefEqProofs only [bindT, rowF, gt, st, List.getElem?_cons_zero, List.getElem?_cons_succ]
            refine callD0 [.tup (r.map frP), .tup (fs.map frP)] fun F' X hF' => ⟨r, fs, 4380, rfl, rfl, by omega, by decide, fun f hf => ⟨(hr f hf).bd.1.mono (by decide), (hr f hf).bd.2.mono (by decide)⟩, hbf, hF' _ (hF _ _ ⟨rfl, ?_⟩)⟩
            rw [Nat.zero_add, List.take_succ, q, List.map_append, List.map_append]
            rfl
          · rintro acc O ⟨rfl, rfl⟩
            rw [Nat.zero_add, List.take_of_length_le (by rw [List.length_map]; exact Nat.le_refl _)]
            simp -implicitDefEqProofs only [newL, unb_0, oneK_1, st]
            rw [vs_seq, vs_ret]
            simp -implicitDefEqProofs only [vc, gt, st, oneK_1, brK_d, wipeR, wipeR.rm, List.getElem?_cons_zero, List.getElem?_cons_succ]
            refine ⟨_, rfl, by rw [List.length_zipWith, List.length_map, List.length_map, sizeLine_eq]; omega, ?_⟩
            refine compR_inv (fun i acc O => O = [] ∧ acc = (List.replicate i true).map .bl) _ [] [] 0 ⟨rfl, rfl⟩ ?_ ?_
            · rintro i d acc O e ⟨rfl, rfl⟩ F hF
              rw [List.getElem?_zipWith, List.getElem?_map, List.getElem?_map, List.getElem?_map] at e
              cases q : rs[i]? with
              | none => rw [q] at e; cases e
              | some r =>
              cases q2 : res[i]? with
              | none => rw [q, q2] at e; cases e
              | some f =>
              rw [q, q2] at e
              cases e
              obtain ⟨l, hr⟩ := hS.row r (List.mem_of_getElem? q)
              have hf := hS.wor f (List.mem_of_getElem? q2)
              have hb : dotI (whole (r ++ [f]) LL) y = 0 := hy _ (List.mem_of_getElem? (i := i) (by unfold wid; rw [List.getElem?_zipWith, q, q2]))
              have key := told_row hv l hr hf hb
              have bdF := dotF_bd (b := 4380) (List.zip r fs) 1 (0, 1) (fun z hz => by
                obtain ⟨z1, z2⟩ := z
                have hm := List.of_mem_zip hz
                have h1 := hr z1 hm.1
                have h2 := hbf z2 hm.2
                exact ⟨h1.bd.1.mono (by decide), h1.bd.2.mono (by decide), h2.1, h2.2⟩) (by unfold Bd; decide) (by unfold Bd; decide)
              have hzl : (List.zip r fs).length ≤ 4 := by rw [List.length_zip]; omega
              have hzm : (2 * 4380 + 1) * (List.zip r fs).length ≤ (2 * 4380 + 1) * 4 := Nat.mul_le_mul_left _ hzl
              simp -implicitDefEqProofs only [bindT, bindTs, frP, fr, gt, st, oneK_1, nrK_d, ix_t, at_0, at_1, ex_some, mul_i, eq_i]
              refine ⟨bdF.1.ok hf.bd.2 (by omega), hf.bd.1.ok bdF.2 (by omega), ?_⟩
              rw [decide_eq_true key]
              refine hF _ _ ⟨rfl, ?_⟩
              rw [Nat.zero_add, List.replicate_succ', List.map_append]
              rfl
            · rintro acc O ⟨rfl, rfl⟩
              simp -implicitDefEqProofs only [newL, unb_0, oneK_1, nrsK_1]
              refine all_l ?_
              have e3 : ∀ n, (List.replicate n true).all id = true := fun n => by simp
              rw [e3]
              exact h
  simp -implicitDefEqProofs only [y__law_system_so]
  rw [vs_seq, vs_par]
  simp -implicitDefEqProofs only [vc, gt, st, oneK_1, nrsK_1, list_l]
  rw [vs_seq, vs_set]
  simp -implicitDefEqProofs only [vc, gt, st, oneK_1, List.getElem?_cons_zero, List.getElem?_cons_succ]
  refine callD0 [.lst (rs.map rowF), .lst (res.map frP)] fun F X hF => ?_
  have ask : ∀ told : D, ((told = .non ∧ ¬ ∃ y, Sol w (wid rs res) y) ∨ ∃ fs y M, told = .tup (fs.map frP) ∧ Vls w fs y M ∧ (∀ b ∈ wid rs res, dotI b y = 0) ∧ ∀ f ∈ fs, Bd 4380 f.1 ∧ Bd 4380 f.2) → F (.d told) [] := fun told ht => hF _ (by
    rw [vs_seq, vs_ite]
    simp -implicitDefEqProofs only [vc, gt, st, oneK_1, tosK_2, newL, List.getElem?_cons_zero, List.getElem?_cons_succ]
    refine ⟨(by decide : 2 ≤ sizeLine), (by decide : 2 ≤ sizeLine), ?_⟩
    refine callD0 [.lst [.lst (rs.map rowF), .lst (res.map frP)], .lst [.lst (rs.map rowF), .lst (res.map frP)]] fun F X hF => ⟨_, rfl, rfl, hpl, hF _ ?_⟩
    simp -implicitDefEqProofs only [boolK_1]
    refine ⟨fun z => (by cases z), fun _ => ?_⟩
    simp -implicitDefEqProofs only [nrsK_1, tuple_l]
    refine callD0 [.tup (rs.map rowF), .tup (res.map frP)] fun F X hF => ⟨w, rs, res, _, _, rfl, rfl, .inr ⟨rfl, rfl⟩, hS, fun hno => hF _ ?_, fun fs' y' M' hv' hy' hbf' => hF _ ?_⟩
    · rcases ht with ⟨rfl, hno2⟩ | ⟨fs, y, M, rfl, hv, hy, hbf⟩
      · simp -implicitDefEqProofs only [oneK_1, nrK_d, is_nn]
        refine ne_b ?_
        refine ⟨fun z => (by cases z), fun _ => ?_⟩
        rw [vs_nil]
        exact behind _ True _ _ _ _ (.inl ⟨rfl, hno2⟩)
      · exact absurd ⟨y, hv.ylen, by rw [hv.den]; have := hv.pos; omega, hy⟩ hno
    · rcases ht with ⟨rfl, hno2⟩ | ⟨fs, y, M, rfl, hv, hy, hbf⟩
      · exact absurd ⟨y', hv'.ylen, by rw [hv'.den]; have := hv'.pos; omega, hy'⟩ hno2
      · simp -implicitDefEqProofs only [oneK_1, nrK_d, is_tn]
        refine ne_b ?_
        refine ⟨fun z => (by cases z), fun _ => ?_⟩
        rw [vs_nil]
        exact behind _ True _ _ _ _ (.inr ⟨fs, y, M, rfl, hv, hy, hbf⟩))
  exact ⟨w, rs, res, _, _, rfl, rfl, .inl ⟨rfl, rfl⟩, hS, fun hno => ask .non (.inl ⟨rfl, hno⟩), fun fs y M hv hy hbf => ask _ (.inr ⟨fs, y, M, rfl, hv, hy, hbf⟩)⟩
end Z

set_option Elab.async false
set_option linter.all false
set_option maxRecDepth 100000
set_option maxHeartbeats 4000000
namespace Z
open PySem PySem.Spec PyProof.Rows L2
theorem dotF_gq {V : Nat} : ∀ (zs : List ((Int × Int) × (Int × Int))) (v : Nat) (s : Int × Int), (∀ z ∈ zs, Fq 5 V z.1 ∧ Fq 1 9 z.2) → Gq 6 v s → Gq 6 (v + zs.length * (V * 9)) (dotF zs s)
  | [], v, s, _, h => by
    rw [dotF, List.length_nil, Nat.zero_mul]
    exact h
  | (x, y) :: zs, v, s, h, hs => by
    obtain ⟨h1, h2⟩ := h (x, y) List.mem_cons_self
    have h3 : Gq 6 (V * 9) (x.1 * y.1, x.2 * y.2) := h1.gq.mul h2.gq
    have ih := dotF_gq zs (v + V * 9) (s.1 * (x.2 * y.2) + (x.1 * y.1) * s.2, s.2 * (x.2 * y.2)) (fun z hz => h z (List.mem_cons_of_mem _ hz)) (hs.add h3)
    rw [dotF]
    exact ih.mono (Nat.le_refl _) (by rw [List.length_cons, Nat.succ_mul]; omega)
theorem gq_zero : Gq 6 0 ((0 : Int), (1 : Int)) := ⟨by decide, ⟨0, by decide⟩, by decide⟩
theorem add_l {a b : List D} {Q : D → Prop} : binD .Add (.lst a) (.lst b) Q = (a.length + b.length ≤ sizeLine ∧ Q (.lst (a ++ b))) := rfl
theorem mul_t {a : List D} {k : Int} {Q : D → Prop} : binD .Mult (.tup a) (.int k) Q = ((1 ≤ k ∧ k ≤ 1000 ∧ a ≠ [] ∧ a.length ≤ 1000) ∧ Q (.tup (List.replicate k.toNat a).flatten)) := rfl
theorem rep_zero (w : Nat) : (List.replicate w [D.tup [.int 0, .int 1]]).flatten = (List.replicate w ((0 : Int), (1 : Int))).map frP := by
  induction w with
  | zero => rfl
  | succ n ih => rw [List.replicate_succ, List.flatten_cons, ih, List.replicate_succ]; rfl
theorem unb_l1 {a b : List D} : unb [.lst a] [.lst b] = [.lst b] := rfl
theorem ne_mul {V : Nat} (h : V = 2 ^ 53 * 3 ^ 5) : 4 * (V * 9) + 5 ≤ 2 ^ 67 := by
  rw [h]
  decide
theorem k_law : Keeps [("_law_system_so", sysoZ), ("_law_pick", pickZ), ("_law_low", lowZ), ("_law_plus", plusZ), ("_law_draw", drawZ), ("_law_dot", dotZ), ("_law_few", fewZ), ("_law_system", systemZ), ("_law_bag", bagZ)] y_law N_law.length (lawZ 63) := by
  rintro us O Q E ⟨ns, rfl, rfl, hns, h⟩
  show vcS _ y_law E _ [some (.d (.scr ns)), none, none, none, none, none, none, none, none, none, none, none, none, none] _
  simp -implicitDefEqProofs only [y_law]
  rw [vs_seq, vs_set]
  simp -implicitDefEqProofs only [vc, gt, st, oneK_1, List.getElem?_cons_zero, List.getElem?_cons_succ]
  refine callD [.scr ns] ⟨ns, rfl, rfl, fun ds hb => ?_⟩
  show vcS _ _ _ _ [some (.d (.scr ns)), some (.o 0), none, none, none, none, none, none, none, none, none, none, none, none] [.lst ds]
  rw [vs_seq, vs_for]
  simp -implicitDefEqProofs only [vc, gt, st, oneK_1, nrK_d]
  refine ⟨⟨by decide, by decide⟩, _, rfl, ?_⟩
  refine forR_inv (fun i ρ O => ∃ (ds : List D) (x2 x3 x4 x5 x6 x7 x8 x9 x10 x11 x12 x13 : Option U), O = [.lst ds] ∧ BagOk ds ∧ ρ = [some (.d (.scr ns)), some (.o 0), x2, x3, x4, x5, x6, x7, x8, x9, x10, x11, x12, x13]) _ _ _ 0 ⟨ds, none, none, none, none, none, none, none, none, none, none, none, none, rfl, hb, rfl⟩ ?_ ?_
  · rintro j d ρ O e ⟨ds, x2, x3, x4, x5, x6, x7, x8, x9, x10, x11, x12, x13, rfl, hb, rfl⟩ N hN
    have next : ∀ (ds : List D) (x2 x3 x4 x5 x6 x7 x8 x9 x10 x11 x12 x13 : Option U), BagOk ds → N [some (.d (.scr ns)), some (.o 0), x2, x3, x4, x5, x6, x7, x8, x9, x10, x11, x12, x13] [.lst ds] := fun ds x2 x3 x4 x5 x6 x7 x8 x9 x10 x11 x12 x13 hb => hN _ _ ⟨ds, x2, x3, x4, x5, x6, x7, x8, x9, x10, x11, x12, x13, rfl, hb, rfl⟩
    clear hN e
    simp -implicitDefEqProofs only [bindT, st]
    rw [vs_seq, vs_set]
    simp -implicitDefEqProofs only [vc, gt, st, oneK_1, List.getElem?_cons_zero, List.getElem?_cons_succ]
    refine callO [.int 4] rfl fun F X hF => ⟨ds, 4, rfl, rfl, hb, by decide, by decide, fun r0 ds1 hr0 hr1 hb1 => hF _ _ ?_⟩
    obtain ⟨w, hw⟩ : ∃ w : Nat, 1 + r0 = (w : Int) := ⟨(1 + r0).toNat, by omega⟩
    have hw1 : 1 ≤ w := by omega
    have hw4 : w ≤ 4 := by omega
    simp -implicitDefEqProofs only [oneK_1, nrK_d, add_i, so, hw]
    rw [vs_seq, vs_set]
    simp -implicitDefEqProofs only [vc, gt, st, oneK_1, List.getElem?_cons_zero, List.getElem?_cons_succ]
    refine callO [.int w] rfl fun F X hF => ⟨ds1, w, rfl, rfl, hb1, hw1, hw4, fun rs ds2 hl1 hl5 hrs hb2 => hF _ _ ?_⟩
    simp -implicitDefEqProofs only [oneK_1, so]
    rw [vs_seq, vs_set]
    simp -implicitDefEqProofs only [vc, gt, st, oneK_1, nrK_d, wipeR, wipeR.rm, List.getElem?_cons_zero, List.getElem?_cons_succ]
    refine ⟨⟨by omega, by omega⟩, _, rfl, by rw [List.length_map, List.length_range, sizeLine_eq]; omega, ?_⟩
    refine compR_inv (fun i acc O => ∃ (ds : List D) (gs : List (Int × Int)), O = [.lst ds] ∧ BagOk ds ∧ acc = gs.map frP ∧ gs.length = i ∧ ∀ g ∈ gs, Fq 1 9 g) _ [] _ 0 ⟨ds2, [], rfl, hb2, rfl, rfl, (fun g hg => by cases hg)⟩ ?_ ?_
    · rintro i d acc O e ⟨ds, gs, rfl, hb, rfl, hgl, hgs⟩ F hF
      obtain ⟨d0, hd0, rfl⟩ := List.mem_map.mp (List.mem_of_getElem? e)
      simp -implicitDefEqProofs only [bindT, gt, st, List.getElem?_cons_zero, List.getElem?_cons_succ]
      refine callO [.int 9] rfl fun F' X hF' => ⟨ds, 9, rfl, rfl, hb, by decide, by decide, fun n m p q ds' hn1 hn2 hm1 hm2 hq hc he hb' => hF' _ _ (hF _ _ ⟨ds', gs ++ [(p, q)], rfl, hb', ?_, ?_, ?_⟩)⟩
      · exact map_snoc
      · rw [List.length_append, hgl]; simp
      · exact row_snoc hgs (few_fq (w := 9) hn1 hn2 hm1 hm2 hq hc he)
    rintro acc O ⟨ds3, xs, rfl, hb3, rfl, hxl, hxs⟩
    have hxl : xs.length = w := by
      rw [hxl, List.length_map, List.length_range]
      omega
    simp -implicitDefEqProofs only [newL, oneK_1, unb_l1, nrsK_1, tuple_l, st]
    rw [vs_seq, vs_set]
    simp -implicitDefEqProofs only [vc, gt, st, oneK_1, brK_d, wipeR, wipeR.rm, List.getElem?_cons_zero, List.getElem?_cons_succ]
    refine ⟨_, rfl, by rw [List.length_map, sizeLine_eq]; omega, ?_⟩
    refine compR_inv (fun i acc O => O = [.lst ds3] ∧ acc = ((rs.take i).map fun r => dotF (List.zip r xs) (0, 1)).map frP) _ [] _ 0 ⟨rfl, rfl⟩ ?_ ?_
    · rintro i d acc O e ⟨rfl, rfl⟩ F hF
      rw [List.getElem?_map] at e
      cases q : rs[i]? with
      | none => rw [q] at e; cases e
      | some r =>
      rw [q] at e
      cases e
      obtain ⟨l, hr⟩ := hrs r (List.mem_of_getElem? q)
      simp -implicitDefEqProofs only [bindT, rowF, gt, st, List.getElem?_cons_zero, List.getElem?_cons_succ]
      refine callD0 [.tup (r.map frP), .tup (xs.map frP)] fun F' X hF' => ⟨r, xs, 94, rfl, rfl, by omega, by decide, fun f hf => (hr f hf).bds (by decide) (by decide), fun f hf => (hxs f hf).bds (by decide) (by decide), hF' _ (hF _ _ ⟨rfl, ?_⟩)⟩
      rw [Nat.zero_add, List.take_succ, q, List.map_append, List.map_append]
      rfl
    rintro acc O ⟨rfl, rfl⟩
    rw [Nat.zero_add, List.take_of_length_le (by rw [List.length_map]; exact Nat.le_refl _)]
    generalize hV : 2 ^ 53 * 3 ^ 5 = V at *
    have hVle := ne_mul hV.symm
    have hgs : ∀ s ∈ rs.map (fun r => dotF (List.zip r xs) (0, 1)), Gq 6 (4 * (V * 9)) s ∧ Bd 1000 s.2 := fun s hs => by
      obtain ⟨r, hr, rfl⟩ := List.mem_map.mp hs
      obtain ⟨l, hrF⟩ := hrs r hr
      have hz4 : (List.zip r xs).length ≤ 4 := by rw [List.length_zip]; omega
      have hz : ∀ z ∈ List.zip r xs, Fq 5 V z.1 ∧ Fq 1 9 z.2 := fun z hz => by
        obtain ⟨a, b⟩ := z
        have := List.of_mem_zip hz
        exact ⟨hrF a this.1, hxs b this.2⟩
      refine ⟨(dotF_gq _ 0 _ hz gq_zero).mono (Nat.le_refl _) (by have := Nat.mul_le_mul_right (V * 9) hz4; omega), ?_⟩
      refine (dotF_bd (b := 94) (List.zip r xs) 1 (0, 1) (fun z hz' => ?_) (by unfold Bd; decide) (by unfold Bd; decide)).2.mono ?_
      · obtain ⟨h1, h2⟩ := hz z hz'
        have b1 := h1.bds (by decide) (by omega)
        have b2 := h2.bds (by decide) (by decide)
        exact ⟨b1.1, b1.2, b2.1, b2.2⟩
      · have := Nat.mul_le_mul_left (2 * 94 + 1) hz4
        omega
    have hsl : (rs.map (fun r => dotF (List.zip r xs) (0, 1))).length = rs.length := List.length_map ..
    generalize rs.map (fun r => dotF (List.zip r xs) (0, 1)) = sums at *
    simp -implicitDefEqProofs only [newL, oneK_1, unb_l1, st]
    rw [vs_seq, vs_set]
    simp -implicitDefEqProofs only [vc, gt, st, oneK_1, brK_d, wipeR, wipeR.rm, List.getElem?_cons_zero, List.getElem?_cons_succ]
    refine ⟨_, rfl, by rw [List.length_map, sizeLine_eq]; omega, ?_⟩
    refine compR_inv (fun i acc O => O = [.lst ds3] ∧ ∃ gs : List (Int × Int), acc = gs.map frP ∧ gs.length = i ∧ ∀ g ∈ gs, Fq 6 (4 * (V * 9)) g) _ [] _ 0 ⟨rfl, [], rfl, rfl, (fun g hg => by cases hg)⟩ ?_ ?_
    · rintro i d acc O e ⟨rfl, gs, rfl, hgl, hg⟩ F hF
      obtain ⟨s, hs, rfl⟩ := List.mem_map.mp (List.mem_of_getElem? e)
      obtain ⟨h1, h2⟩ := hgs s hs
      have h3 := h1.pos
      simp -implicitDefEqProofs only [bindT, frP, fr, gt, st, oneK_1, nrK_d, ix_t, at_0, at_1, ex_some, List.getElem?_cons_zero, List.getElem?_cons_succ]
      refine callD0 [.int s.1, .int s.2] fun F' X hF' => ⟨_, _, rfl, rfl, by omega, h2.lo (by decide), fun p q hq hc he => hF' _ (hF _ _ ⟨rfl, gs ++ [(p, q)], ?_, ?_, ?_⟩)⟩
      · exact map_snoc
      · rw [List.length_append, hgl]; simp
      · exact row_snoc hg (Gq.low (n := s.1) (d := s.2) h1 hq hc he)
    rintro acc O ⟨rfl, res, rfl, hresl, hres⟩
    have hresl : res.length = rs.length := by rw [hresl, List.length_map, hsl, Nat.zero_add]
    have hrsz : ∀ r ∈ rs, r.length = w ∧ ∀ f ∈ r, Fz f := fun r hr => ⟨(hrs r hr).1, fun f hf => ((hrs r hr).2 f hf).mono (by decide) (by omega)⟩
    have hresz : ∀ f ∈ res, Fz f := fun f hf => (hres f hf).mono (by decide) (by omega)
    have hrsne : rs ≠ [] := fun z => by rw [z] at hl1; cases hl1
    have sys : Sys w rs res := ⟨hw1, hw4, hrsne, by omega, hresl, hrsz, hresz⟩
    simp -implicitDefEqProofs only [newL, oneK_1, unb_l1, st]
    rw [vs_seq, vs_ite]
    simp -implicitDefEqProofs only [vc, gt, st, oneK_1, List.getElem?_cons_zero, List.getElem?_cons_succ]
    refine callD0 [.lst (rs.map rowF), .lst (res.map frP)] fun F X hF => ⟨w, rs, res, rfl, rfl, sys, hF _ ?_⟩
    simp -implicitDefEqProofs only [boolK_1]
    refine ⟨fun z => (by cases z), fun _ => ?_⟩
    rw [vs_nil]
    dsimp only
    rw [vs_seq, vs_par]
    simp -implicitDefEqProofs only [vc, gt, st, oneK_1, nrsK_1, len_l, List.length_map, List.getElem?_cons_zero, List.getElem?_cons_succ]
    refine callO [.int rs.length] rfl fun F X hF => ⟨ds3, rs.length, rfl, rfl, hb3, by omega, by omega, fun k0 ds4 hk0 hk1 hb4 => hF _ _ ?_⟩
    obtain ⟨k, rfl⟩ := Int.eq_ofNat_of_zero_le hk0
    have hk : k < rs.length := by omega
    simp -implicitDefEqProofs only [oneK_1, so, nrK_d, tosK_2, tosK_3, newL, List.getElem?_cons_zero, List.getElem?_cons_succ]
    refine ⟨(by decide : 2 ≤ sizeLine), (by decide : 2 ≤ sizeLine), (by decide : 2 ≤ sizeLine), (by decide : 3 ≤ sizeLine), ?_⟩
    refine callO [.lst [.tup [.int 1, .int 1], .tup [.int (-1), .int 2], .tup [.int 5, .int 3]]] rfl fun F X hF => ⟨ds4, [.tup [.int 1, .int 1], .tup [.int (-1), .int 2], .tup [.int 5, .int 3]], .inl ⟨rfl, rfl⟩, hb4, by decide, by decide, fun x ds5 hx hb5 => hF _ _ ?_⟩
    have hx' : ∃ g : Int × Int, x = frP g ∧ Gq 1 5 g ∧ Bd 10 g.1 ∧ Bd 10 g.2 := by
      simp only [List.mem_cons, List.not_mem_nil, or_false] at hx
      rcases hx with rfl | rfl | rfl
      · exact ⟨(1, 1), rfl, ⟨by decide, ⟨12, by decide⟩, by decide⟩, by unfold Bd; decide, by unfold Bd; decide⟩
      · exact ⟨(-1, 2), rfl, ⟨by decide, ⟨-6, by decide⟩, by decide⟩, by unfold Bd; decide, by unfold Bd; decide⟩
      · exact ⟨(5, 3), rfl, ⟨by decide, ⟨20, by decide⟩, by decide⟩, by unfold Bd; decide, by unfold Bd; decide⟩
    obtain ⟨g, rfl, hg, bg1, bg2⟩ := hx'
    have hfm : res[k] ∈ res := List.getElem_mem (by omega)
    have ek : atI (res.map frP) (k : Int) = some (frP res[k]) := atI_nat (by rw [List.getElem?_map, List.getElem?_eq_getElem (by omega)]; rfl)
    generalize res[k] = f at *
    have hf6 := hres f hfm
    have bf := (hresz f hfm).bd
    simp -implicitDefEqProofs only [oneK_1, so, st]
    rw [vs_seq, vs_set]
    simp -implicitDefEqProofs only [vc, gt, st, oneK_1, nrK_d, ix_l, ek, ex_some, List.getElem?_cons_zero, List.getElem?_cons_succ]
    refine callD0 [frP f, frP g] fun F X hF => ⟨f.1, f.2, g.1, g.2, rfl, rfl, ⟨94, by decide, bf.1, bf.2, bg1.mono (by decide), bg2.mono (by decide)⟩, hF _ ?_⟩
    have hgm : Gq 6 (4 * (V * 9) + 5) (f.1 * g.2 + g.1 * f.2, f.2 * g.2) := hf6.gq.add (hg.mono (by decide) (Nat.le_refl _))
    have hgp := hgm.pos
    simp only at hgp
    have bgd : Bd 104 (f.2 * g.2) := bf.2.mul bg2
    have ec1 : cutL (res.map frP) none (some (k : Int)) = (res.take k).map frP := by rw [cut_to _ (by rw [List.length_map]; omega), List.map_take]
    have ec2 : cutL (res.map frP) (some ((k : Int) + 1)) none = (res.drop (k + 1)).map frP := by
      rw [show (k : Int) + 1 = ((k + 1 : Nat) : Int) by omega, cut_from _ (by rw [List.length_map]; omega), List.map_drop]
    rw [vs_seq, vs_ite]
    simp -implicitDefEqProofs only [vc, gt, st, oneK_1, nrK_d, fr, ix_t, at_0, at_1, ex_some, partK, slD, add_i, ec1, ec2, List.getElem?_cons_zero, List.getElem?_cons_succ]
    refine callD0 [.int (f.1 * g.2 + g.1 * f.2), .int (f.2 * g.2)] fun F X hF => ⟨_, _, rfl, rfl, by omega, bgd.lo (by decide), fun p q hq hc he => hF _ ?_⟩
    have hm := hgm.low hq hc he
    simp -implicitDefEqProofs only [oneK_1, tosK_1, newL, nrK_d, add_l]
    have el1 : (res.take k).map frP ++ [fr p q] ++ (res.drop (k + 1)).map frP = (res.take k ++ [(p, q)] ++ res.drop (k + 1)).map frP := by rw [List.map_append, List.map_append]; rfl
    rw [el1]
    have hres2 : ∀ f ∈ res.take k ++ [(p, q)] ++ res.drop (k + 1), Fz f := fun f hf => by
      rcases List.mem_append.mp hf with m | m
      · rcases List.mem_append.mp m with m | m
        · exact hresz f (List.mem_of_mem_take m)
        · rw [List.mem_singleton.mp m]
          exact hm.mono (by decide) (by omega)
      · exact hresz f (List.mem_of_mem_drop m)
    have hlen2 : (res.take k ++ [(p, q)] ++ res.drop (k + 1)).length = rs.length := by
      rw [List.length_append, List.length_append, List.length_take, List.length_drop]
      simp only [List.length_cons, List.length_nil]
      omega
    have hsz : ∀ n, n ≤ 100 → n ≤ sizeLine := fun n hn => by rw [sizeLine_eq]; omega
    refine ⟨(by decide : 1 ≤ sizeLine), hsz _ ?_, hsz _ ?_, ?_⟩
    · rw [List.length_map, List.length_take, List.length_cons, List.length_nil]; omega
    · rw [List.length_append, List.length_map, List.length_map, List.length_take, List.length_drop, List.length_cons, List.length_nil]; omega
    refine callD0 [.lst (rs.map rowF), .lst ((res.take k ++ [(p, q)] ++ res.drop (k + 1)).map frP)] fun F X hF => ⟨w, rs, _, rfl, rfl, ⟨hw1, hw4, hrsne, by omega, hlen2, hrsz, hres2⟩, hF _ ?_⟩
    simp -implicitDefEqProofs only [boolK_1]
    refine ⟨fun z => (by cases z), fun _ => ?_⟩
    rw [vs_nil]
    dsimp only
    rw [vs_seq, vs_ite]
    simp -implicitDefEqProofs only [vc, gt, st, oneK_1, nrK_d, tosK_1, tosK_2, mul_t, newL, add_l, List.getElem?_cons_zero, List.getElem?_cons_succ]
    refine ⟨(by decide : 2 ≤ sizeLine), (by decide : 1 ≤ sizeLine), ⟨by omega, by omega, (fun z => by cases z), by show 1 ≤ 1000; decide⟩, (by decide : 1 ≤ sizeLine), hsz _ ?_, (by decide : 2 ≤ sizeLine), (by decide : 2 ≤ sizeLine), (by decide : 2 ≤ sizeLine), ?_⟩
    · rw [List.length_map, List.length_cons, List.length_nil]; omega
    refine callO [.lst [.tup [.int 0, .int 1], .tup [.int 1, .int 3]]] rfl fun F X hF => ⟨ds5, [.tup [.int 0, .int 1], .tup [.int 1, .int 3]], .inl ⟨rfl, rfl⟩, hb5, by decide, by decide, fun x ds6 hx hb6 => hF _ _ ?_⟩
    have hx' : ∃ g : Int × Int, x = frP g ∧ Fz g := by
      simp only [List.mem_cons, List.not_mem_nil, or_false] at hx
      rcases hx with rfl | rfl
      · exact ⟨(0, 1), rfl, by decide, by decide, ⟨12 ^ 7, by decide⟩, by decide⟩
      · exact ⟨(1, 3), rfl, by decide, by decide, ⟨4 * 12 ^ 6, by decide⟩, by decide⟩
    obtain ⟨g2, rfl, hg2⟩ := hx'
    simp -implicitDefEqProofs only [oneK_1, so, nrK_d, tosK_1, newL, add_l]
    have ez : (List.replicate ((w : Int)).toNat [D.tup [.int 0, .int 1]]).flatten = (List.replicate w ((0 : Int), (1 : Int))).map frP := by
      rw [show ((w : Int)).toNat = w by omega]
      exact rep_zero w
    have er : rs.map rowF ++ [D.tup (List.replicate ((w : Int)).toNat [D.tup [.int 0, .int 1]]).flatten] = (rs ++ [List.replicate w (0, 1)]).map rowF := by
      rw [ez, List.map_append]
      rfl
    have er2 : res.map frP ++ [frP g2] = (res ++ [g2]).map frP := by rw [List.map_append]; rfl
    rw [er, er2]
    refine ⟨(by decide : 1 ≤ sizeLine), hsz _ ?_, ?_⟩
    · rw [List.length_map, List.length_cons, List.length_nil]; omega
    generalize hrs3 : rs ++ [List.replicate w ((0 : Int), (1 : Int))] = rs3 at *
    generalize hres3 : res ++ [g2] = res3 at *
    refine callD0 [.lst (rs3.map rowF), .lst (res3.map frP)] fun F X hF => ⟨w, rs3, res3, rfl, rfl, ⟨hw1, hw4, fun z => by rw [← hrs3] at z; simp at z, ?_, ?_, fun r hr => ?_, fun f hf => ?_⟩, hF _ ?_⟩
    · rw [← hrs3, List.length_append, List.length_cons, List.length_nil]; omega
    · rw [← hrs3, ← hres3, List.length_append, List.length_append, hresl]; rfl
    · rw [← hrs3] at hr
      rcases List.mem_append.mp hr with m | m
      · exact hrsz r m
      · rw [List.mem_singleton.mp m]
        refine ⟨List.length_replicate, fun f hf => ?_⟩
        rw [List.eq_of_mem_replicate hf]
        exact ⟨by decide, by decide, ⟨12 ^ 7, by decide⟩, by decide⟩
    · rw [← hres3] at hf
      rcases List.mem_append.mp hf with m | m
      · exact hresz f m
      · rw [List.mem_singleton.mp m]
        exact hg2
    simp -implicitDefEqProofs only [boolK_1]
    refine ⟨fun z => (by cases z), fun _ => ?_⟩
    rw [vs_nil]
    dsimp only
    rw [vs_nil]
    exact next _ _ _ _ _ _ _ _ _ _ _ _ _ hb6
  · rintro ρ O ⟨ds, x2, x3, x4, x5, x6, x7, x8, x9, x10, x11, x12, x13, rfl, hb, rfl⟩
    simp -implicitDefEqProofs only [unb_l1]
    rw [vs_seq, vs_ret]
    exact h _
end Z

set_option Elab.async false
set_option linter.all false
set_option maxRecDepth 100000
set_option maxHeartbeats 0
namespace Z
open PySem PySem.Spec PyProof.Rows L2
def hd4 : He.DefD := ⟨("common_divisor", none), "common_divisor", "common_divisor", defArgs (top 4), defBody (top 4), defScope (top 4), [], []⟩
def hd5 : He.DefD := ⟨("ratio", none), "ratio", "ratio", defArgs (top 5), defBody (top 5), defScope (top 5), [.int 1], []⟩
def hd6 : He.DefD := ⟨("minus", none), "minus", "minus", defArgs (top 6), defBody (top 6), defScope (top 6), [], []⟩
def hd7 : He.DefD := ⟨("times", none), "times", "times", defArgs (top 7), defBody (top 7), defScope (top 7), [], []⟩
def hd9 : He.DefD := ⟨("common", none), "common", "common", defArgs (top 9), defBody (top 9), defScope (top 9), [], []⟩
def hd10 : He.DefD := ⟨("multiplied", none), "multiplied", "multiplied", defArgs (top 10), defBody (top 10), defScope (top 10), [], []⟩
def hd11 : He.DefD := ⟨("lowest", none), "lowest", "lowest", defArgs (top 11), defBody (top 11), defScope (top 11), [], []⟩
def hd12 : He.DefD := ⟨("cleared", none), "cleared", "cleared", defArgs (top 12), defBody (top 12), defScope (top 12), [], []⟩
def hd13 : He.DefD := ⟨("place_of", none), "place_of", "place_of", defArgs (top 13), defBody (top 13), defScope (top 13), [], []⟩
def hd14 : He.DefD := ⟨("filled", none), "filled", "filled", defArgs (top 14), defBody (top 14), defScope (top 14), [], []⟩
def hd15 : He.DefD := ⟨("solved", none), "solved", "solved", defArgs (top 15), defBody (top 15), defScope (top 15), [], []⟩
def hd17 : He.DefD := ⟨("_law_bag", none), "_law_bag", "_law_bag", defArgs (top 17), defBody (top 17), defScope (top 17), [], []⟩
def hd18 : He.DefD := ⟨("_law_draw", none), "_law_draw", "_law_draw", defArgs (top 18), defBody (top 18), defScope (top 18), [], []⟩
def hd19 : He.DefD := ⟨("_law_pick", none), "_law_pick", "_law_pick", defArgs (top 19), defBody (top 19), defScope (top 19), [], []⟩
def hd20 : He.DefD := ⟨("_law_huge", none), "_law_huge", "_law_huge", defArgs (top 20), defBody (top 20), defScope (top 20), [], []⟩
def hd21 : He.DefD := ⟨("_law_int", none), "_law_int", "_law_int", defArgs (top 21), defBody (top 21), defScope (top 21), [], []⟩
def hd22 : He.DefD := ⟨("_law_same", none), "_law_same", "_law_same", defArgs (top 22), defBody (top 22), defScope (top 22), [], []⟩
def hd23 : He.DefD := ⟨("_law_gcd", none), "_law_gcd", "_law_gcd", defArgs (top 23), defBody (top 23), defScope (top 23), [], []⟩
def hd24 : He.DefD := ⟨("_law_low", none), "_law_low", "_law_low", defArgs (top 24), defBody (top 24), defScope (top 24), [], []⟩
def hd25 : He.DefD := ⟨("_law_is_fraction", none), "_law_is_fraction", "_law_is_fraction", defArgs (top 25), defBody (top 25), defScope (top 25), [], []⟩
def hd26 : He.DefD := ⟨("_law_few", none), "_law_few", "_law_few", defArgs (top 26), defBody (top 26), defScope (top 26), [], []⟩
def hd27 : He.DefD := ⟨("_law_is_point", none), "_law_is_point", "_law_is_point", defArgs (top 27), defBody (top 27), defScope (top 27), [], []⟩
def hd28 : He.DefD := ⟨("_law_plus", none), "_law_plus", "_law_plus", defArgs (top 28), defBody (top 28), defScope (top 28), [], []⟩
def hd29 : He.DefD := ⟨("_law_by", none), "_law_by", "_law_by", defArgs (top 29), defBody (top 29), defScope (top 29), [], []⟩
def hd30 : He.DefD := ⟨("_law_dot", none), "_law_dot", "_law_dot", defArgs (top 30), defBody (top 30), defScope (top 30), [], []⟩
def hd31 : He.DefD := ⟨("_law_rank", none), "_law_rank", "_law_rank", defArgs (top 31), defBody (top 31), defScope (top 31), [], []⟩
def hd32 : He.DefD := ⟨("_law_whole_row", none), "_law_whole_row", "_law_whole_row", defArgs (top 32), defBody (top 32), defScope (top 32), [], []⟩
def hd33 : He.DefD := ⟨("_law_system", none), "_law_system", "_law_system", defArgs (top 33), defBody (top 33), defScope (top 33), [], []⟩
def hd34 : He.DefD := ⟨("_law_system_so", none), "_law_system_so", "_law_system_so", defArgs (top 34), defBody (top 34), defScope (top 34), [], []⟩
def hd35 : He.DefD := ⟨("law", none), "law", "law", defArgs (top 35), defBody (top 35), defScope (top 35), [], []⟩
def lfn : List He.DefD := [hd4, hd5, hd6, hd7, hd9, hd10, hd11, hd12, hd13, hd14, hd15, hd17, hd18, hd19, hd20, hd21, hd22, hd23, hd24, hd25, hd26, hd27, hd28, hd29, hd30, hd31, hd32, hd33, hd34, hd35]
def lfa : List He.Fa := [.glo "common_divisor", .glo "ratio", .glo "minus", .glo "times", .glo "common", .glo "multiplied", .glo "lowest", .glo "cleared", .glo "place_of", .glo "filled", .glo "solved", .glo "_law_bag", .glo "_law_draw", .glo "_law_pick", .glo "_law_huge", .glo "_law_int", .glo "_law_same", .glo "_law_gcd", .glo "_law_low", .glo "_law_is_fraction", .glo "_law_few", .glo "_law_is_point", .glo "_law_plus", .glo "_law_by", .glo "_law_dot", .glo "_law_rank", .glo "_law_whole_row", .glo "_law_system", .glo "_law_system_so", .glo "law", .free "len", .free "abs", .free "int", .free "list", .free "tuple", .free "sum", .free "all", .free "any", .free "min", .free "max", .free "isinstance", .free "range", .free "enumerate", .free "zip", .free "reversed", .free "bool", .free "str", .free "dict", .free "sorted"]
def hex (K : PySem.W.Frag) : Bool := true
def hnames : List PySem.Str := (["NetError", "InvalidNumber", "common_divisor", "ratio", "minus", "times", "common", "multiplied", "lowest", "cleared", "place_of", "filled", "solved", "_law_bag", "_law_draw", "_law_pick", "_law_huge", "_law_int", "_law_same", "_law_gcd", "_law_low", "_law_is_fraction", "_law_few", "_law_is_point", "_law_plus", "_law_by", "_law_dot", "_law_rank", "_law_whole_row", "_law_system"] : List PySem.Str) ++ (["_law_system_so"] : List PySem.Str)
abbrev HR : PySem.W.OpenRow := PySem.W.OpenLaw.row PySem.Challenge.rw_endlessnets_k05_whole_systems_solved
abbrev hhk : PySem.W.Hook := He.hookX 4 lfa lfn [] [] hex
def hob (s : PySem.W.SharedT) : He.AlX := He.obsX 4 lfa lfn [] [] hex (HandSHeadRun.getT s)
theorem hob_eq (s : PySem.W.SharedT) : hob s = hhk.obs s.abs := He.obsX_eq (HandSHeadRun.getT_eq s)
theorem hrun (w : World) : HandSHeadRun.RunEq HR (PySem.W.view HR.prog [35]) hhk hob 8000 hnames w := by
  intro os
  kernel_rfl
/-- the promises of the defs that are called -/
inductive FnTs (P : Program) (w : World) (K : PySem.W.Frag) (mg : Str → Option Value) (base : Heap) (G : Gx) (k : Nat) : List (Str × ZSp) → Prop
  | nil : FnTs P w K mg base G k []
  | cons {x : Str} {S : ZSp} {r : List (Str × ZSp)} : FnT P w K mg base G k x S → FnTs P w K mg base G k r → FnTs P w K mg base G k ((x, S) :: r)
section
variable {P : Program} {w : World} {K : PySem.W.Frag} {mg : Str → Option Value} {base : Heap} {G : Gx} {k : Nat}
theorem FnTs.get : ∀ {r : List (Str × ZSp)}, FnTs P w K mg base G k r → ∀ (i : Nat) (y : Str) (Q : ZSp), r[i]? = some (y, Q) → FnT P w K mg base G k y Q
  | _, .nil, i, y, Q, h => by simp at h
  | _, .cons a s, 0, y, Q, h => by
    simp at h
    obtain ⟨rfl, rfl⟩ := h
    exact a
  | _, .cons a s, i + 1, y, Q, h => FnTs.get s i y Q (by simpa using h)
theorem fnT_false {x qual : Str} {params : Arguments} {body : List Stmt} {scope : Scope} {kws : List (Str × V)} {dvs : List V} {f : Addr} {fd : FuncData} {ps : List Str} (F : FunD K x qual params body scope dvs kws f fd) (hm : mg x = some (.ref f)) (hb : Binds K fd ps []) : FnT P w K mg base G k x fun _ _ _ _ => False :=
  ⟨f, fd, ps, hm, F.kp, ⟨fun vs H Q E ⟨_, _, _, _, _, _, _, _, h, _⟩ => h.elim, fun _ _ _ _ _ _ _ _ _ _ _ _ _ ⟨_, _, _, _, _, _, _, _, h, _⟩ => h.elim⟩, hb⟩
theorem binds_full {x qual : Str} {params : Arguments} {body : List Stmt} {scope : Scope} {kws : List (Str × V)} {dvs : List V} {f : Addr} {fd : FuncData} {ps : List Str} (F : FunD K x qual params body scope dvs kws f fd) {n j : Nat} (hd : dvs ≠ []) (hn : n + (dvs.length - j) = ps.length) (hj : dvs.drop j = [])
    (h : ∀ (T : Addr) (kV doc pm : Value) (an : Option Addr) (cdv ct : Value) (us its : List Value), us.length = n → its.length = dvs.length → ∃ k, bindArgs (PySem.W.fnOf x qual params body scope (.ref T) kV doc pm an cdv ct) ⟨us, []⟩ = seqItems? (.ref T) >>= k ∧ k (some its.toArray) = pure (ps.zip (us ++ its.drop j))) : Binds K fd ps [] := by
  obtain ⟨ds, hv, hb⟩ := F.binds1 n j hd hn h
  rw [hj] at hv
  cases hv
  exact hb
end
theorem law_at (P : Program) (hP : P = (PySem.Challenge.rw_endlessnets_k05_whole_systems_solved).prog) {w : World} {K : PySem.W.Frag} {h : Heap} {mg : Str → Option Value} {fa : Addr} (X : K.In h) (G : h.Ns mainGlobals mg) (hfa : mg ("law" : Str) = some (.ref fa)) (c : He.SaysD lfa lfn K) :
    ∃ fd : FuncData, (∀ (s : Shared) (v : Value), BindsTo s fd ⟨[v], []⟩ [("_law_script", v)]) ∧ ∀ base : Heap, K.In base → base.Ns mainGlobals mg → FnOk P w K mg base (L2.CX P w) 7 fa fd ["_law_script"] (lowSp ⟨K, []⟩ (lawZ 63)) := by
  obtain ⟨fd4, F40⟩ := c.def_ 0 (d := hd4) rfl
  have F4 : FunD K "common_divisor" "common_divisor" (defArgs (top 4)) (defBody (top 4)) (defScope (top 4)) [] [] (He.ga K "common_divisor") fd4 := F40
  have m4 : mg "common_divisor" = some (.ref (He.ga K "common_divisor")) := He.glo_ok X G (c.fact 0 (f := .glo "common_divisor") rfl)
  obtain ⟨fd5, F50⟩ := c.def_ 1 (d := hd5) rfl
  have F5 : FunD K "ratio" "ratio" (defArgs (top 5)) (defBody (top 5)) (defScope (top 5)) [.int 1] [] (He.ga K "ratio") fd5 := F50
  have m5 : mg "ratio" = some (.ref (He.ga K "ratio")) := He.glo_ok X G (c.fact 1 (f := .glo "ratio") rfl)
  obtain ⟨fd6, F60⟩ := c.def_ 2 (d := hd6) rfl
  have F6 : FunD K "minus" "minus" (defArgs (top 6)) (defBody (top 6)) (defScope (top 6)) [] [] (He.ga K "minus") fd6 := F60
  have m6 : mg "minus" = some (.ref (He.ga K "minus")) := He.glo_ok X G (c.fact 2 (f := .glo "minus") rfl)
  obtain ⟨fd7, F70⟩ := c.def_ 3 (d := hd7) rfl
  have F7 : FunD K "times" "times" (defArgs (top 7)) (defBody (top 7)) (defScope (top 7)) [] [] (He.ga K "times") fd7 := F70
  have m7 : mg "times" = some (.ref (He.ga K "times")) := He.glo_ok X G (c.fact 3 (f := .glo "times") rfl)
  obtain ⟨fd9, F90⟩ := c.def_ 4 (d := hd9) rfl
  have F9 : FunD K "common" "common" (defArgs (top 9)) (defBody (top 9)) (defScope (top 9)) [] [] (He.ga K "common") fd9 := F90
  have m9 : mg "common" = some (.ref (He.ga K "common")) := He.glo_ok X G (c.fact 4 (f := .glo "common") rfl)
  obtain ⟨fd10, F100⟩ := c.def_ 5 (d := hd10) rfl
  have F10 : FunD K "multiplied" "multiplied" (defArgs (top 10)) (defBody (top 10)) (defScope (top 10)) [] [] (He.ga K "multiplied") fd10 := F100
  have m10 : mg "multiplied" = some (.ref (He.ga K "multiplied")) := He.glo_ok X G (c.fact 5 (f := .glo "multiplied") rfl)
  obtain ⟨fd11, F110⟩ := c.def_ 6 (d := hd11) rfl
  have F11 : FunD K "lowest" "lowest" (defArgs (top 11)) (defBody (top 11)) (defScope (top 11)) [] [] (He.ga K "lowest") fd11 := F110
  have m11 : mg "lowest" = some (.ref (He.ga K "lowest")) := He.glo_ok X G (c.fact 6 (f := .glo "lowest") rfl)
  obtain ⟨fd12, F120⟩ := c.def_ 7 (d := hd12) rfl
  have F12 : FunD K "cleared" "cleared" (defArgs (top 12)) (defBody (top 12)) (defScope (top 12)) [] [] (He.ga K "cleared") fd12 := F120
  have m12 : mg "cleared" = some (.ref (He.ga K "cleared")) := He.glo_ok X G (c.fact 7 (f := .glo "cleared") rfl)
  obtain ⟨fd13, F130⟩ := c.def_ 8 (d := hd13) rfl
  have F13 : FunD K "place_of" "place_of" (defArgs (top 13)) (defBody (top 13)) (defScope (top 13)) [] [] (He.ga K "place_of") fd13 := F130
  have m13 : mg "place_of" = some (.ref (He.ga K "place_of")) := He.glo_ok X G (c.fact 8 (f := .glo "place_of") rfl)
  obtain ⟨fd14, F140⟩ := c.def_ 9 (d := hd14) rfl
  have F14 : FunD K "filled" "filled" (defArgs (top 14)) (defBody (top 14)) (defScope (top 14)) [] [] (He.ga K "filled") fd14 := F140
  have m14 : mg "filled" = some (.ref (He.ga K "filled")) := He.glo_ok X G (c.fact 9 (f := .glo "filled") rfl)
  obtain ⟨fd15, F150⟩ := c.def_ 10 (d := hd15) rfl
  have F15 : FunD K "solved" "solved" (defArgs (top 15)) (defBody (top 15)) (defScope (top 15)) [] [] (He.ga K "solved") fd15 := F150
  have m15 : mg "solved" = some (.ref (He.ga K "solved")) := He.glo_ok X G (c.fact 10 (f := .glo "solved") rfl)
  obtain ⟨fd17, F170⟩ := c.def_ 11 (d := hd17) rfl
  have F17 : FunD K "_law_bag" "_law_bag" (defArgs (top 17)) (defBody (top 17)) (defScope (top 17)) [] [] (He.ga K "_law_bag") fd17 := F170
  have m17 : mg "_law_bag" = some (.ref (He.ga K "_law_bag")) := He.glo_ok X G (c.fact 11 (f := .glo "_law_bag") rfl)
  obtain ⟨fd18, F180⟩ := c.def_ 12 (d := hd18) rfl
  have F18 : FunD K "_law_draw" "_law_draw" (defArgs (top 18)) (defBody (top 18)) (defScope (top 18)) [] [] (He.ga K "_law_draw") fd18 := F180
  have m18 : mg "_law_draw" = some (.ref (He.ga K "_law_draw")) := He.glo_ok X G (c.fact 12 (f := .glo "_law_draw") rfl)
  obtain ⟨fd19, F190⟩ := c.def_ 13 (d := hd19) rfl
  have F19 : FunD K "_law_pick" "_law_pick" (defArgs (top 19)) (defBody (top 19)) (defScope (top 19)) [] [] (He.ga K "_law_pick") fd19 := F190
  have m19 : mg "_law_pick" = some (.ref (He.ga K "_law_pick")) := He.glo_ok X G (c.fact 13 (f := .glo "_law_pick") rfl)
  obtain ⟨fd20, F200⟩ := c.def_ 14 (d := hd20) rfl
  have F20 : FunD K "_law_huge" "_law_huge" (defArgs (top 20)) (defBody (top 20)) (defScope (top 20)) [] [] (He.ga K "_law_huge") fd20 := F200
  have m20 : mg "_law_huge" = some (.ref (He.ga K "_law_huge")) := He.glo_ok X G (c.fact 14 (f := .glo "_law_huge") rfl)
  obtain ⟨fd21, F210⟩ := c.def_ 15 (d := hd21) rfl
  have F21 : FunD K "_law_int" "_law_int" (defArgs (top 21)) (defBody (top 21)) (defScope (top 21)) [] [] (He.ga K "_law_int") fd21 := F210
  have m21 : mg "_law_int" = some (.ref (He.ga K "_law_int")) := He.glo_ok X G (c.fact 15 (f := .glo "_law_int") rfl)
  obtain ⟨fd22, F220⟩ := c.def_ 16 (d := hd22) rfl
  have F22 : FunD K "_law_same" "_law_same" (defArgs (top 22)) (defBody (top 22)) (defScope (top 22)) [] [] (He.ga K "_law_same") fd22 := F220
  have m22 : mg "_law_same" = some (.ref (He.ga K "_law_same")) := He.glo_ok X G (c.fact 16 (f := .glo "_law_same") rfl)
  obtain ⟨fd23, F230⟩ := c.def_ 17 (d := hd23) rfl
  have F23 : FunD K "_law_gcd" "_law_gcd" (defArgs (top 23)) (defBody (top 23)) (defScope (top 23)) [] [] (He.ga K "_law_gcd") fd23 := F230
  have m23 : mg "_law_gcd" = some (.ref (He.ga K "_law_gcd")) := He.glo_ok X G (c.fact 17 (f := .glo "_law_gcd") rfl)
  obtain ⟨fd24, F240⟩ := c.def_ 18 (d := hd24) rfl
  have F24 : FunD K "_law_low" "_law_low" (defArgs (top 24)) (defBody (top 24)) (defScope (top 24)) [] [] (He.ga K "_law_low") fd24 := F240
  have m24 : mg "_law_low" = some (.ref (He.ga K "_law_low")) := He.glo_ok X G (c.fact 18 (f := .glo "_law_low") rfl)
  obtain ⟨fd25, F250⟩ := c.def_ 19 (d := hd25) rfl
  have F25 : FunD K "_law_is_fraction" "_law_is_fraction" (defArgs (top 25)) (defBody (top 25)) (defScope (top 25)) [] [] (He.ga K "_law_is_fraction") fd25 := F250
  have m25 : mg "_law_is_fraction" = some (.ref (He.ga K "_law_is_fraction")) := He.glo_ok X G (c.fact 19 (f := .glo "_law_is_fraction") rfl)
  obtain ⟨fd26, F260⟩ := c.def_ 20 (d := hd26) rfl
  have F26 : FunD K "_law_few" "_law_few" (defArgs (top 26)) (defBody (top 26)) (defScope (top 26)) [] [] (He.ga K "_law_few") fd26 := F260
  have m26 : mg "_law_few" = some (.ref (He.ga K "_law_few")) := He.glo_ok X G (c.fact 20 (f := .glo "_law_few") rfl)
  obtain ⟨fd27, F270⟩ := c.def_ 21 (d := hd27) rfl
  have F27 : FunD K "_law_is_point" "_law_is_point" (defArgs (top 27)) (defBody (top 27)) (defScope (top 27)) [] [] (He.ga K "_law_is_point") fd27 := F270
  have m27 : mg "_law_is_point" = some (.ref (He.ga K "_law_is_point")) := He.glo_ok X G (c.fact 21 (f := .glo "_law_is_point") rfl)
  obtain ⟨fd28, F280⟩ := c.def_ 22 (d := hd28) rfl
  have F28 : FunD K "_law_plus" "_law_plus" (defArgs (top 28)) (defBody (top 28)) (defScope (top 28)) [] [] (He.ga K "_law_plus") fd28 := F280
  have m28 : mg "_law_plus" = some (.ref (He.ga K "_law_plus")) := He.glo_ok X G (c.fact 22 (f := .glo "_law_plus") rfl)
  obtain ⟨fd29, F290⟩ := c.def_ 23 (d := hd29) rfl
  have F29 : FunD K "_law_by" "_law_by" (defArgs (top 29)) (defBody (top 29)) (defScope (top 29)) [] [] (He.ga K "_law_by") fd29 := F290
  have m29 : mg "_law_by" = some (.ref (He.ga K "_law_by")) := He.glo_ok X G (c.fact 23 (f := .glo "_law_by") rfl)
  obtain ⟨fd30, F300⟩ := c.def_ 24 (d := hd30) rfl
  have F30 : FunD K "_law_dot" "_law_dot" (defArgs (top 30)) (defBody (top 30)) (defScope (top 30)) [] [] (He.ga K "_law_dot") fd30 := F300
  have m30 : mg "_law_dot" = some (.ref (He.ga K "_law_dot")) := He.glo_ok X G (c.fact 24 (f := .glo "_law_dot") rfl)
  obtain ⟨fd31, F310⟩ := c.def_ 25 (d := hd31) rfl
  have F31 : FunD K "_law_rank" "_law_rank" (defArgs (top 31)) (defBody (top 31)) (defScope (top 31)) [] [] (He.ga K "_law_rank") fd31 := F310
  have m31 : mg "_law_rank" = some (.ref (He.ga K "_law_rank")) := He.glo_ok X G (c.fact 25 (f := .glo "_law_rank") rfl)
  obtain ⟨fd32, F320⟩ := c.def_ 26 (d := hd32) rfl
  have F32 : FunD K "_law_whole_row" "_law_whole_row" (defArgs (top 32)) (defBody (top 32)) (defScope (top 32)) [] [] (He.ga K "_law_whole_row") fd32 := F320
  have m32 : mg "_law_whole_row" = some (.ref (He.ga K "_law_whole_row")) := He.glo_ok X G (c.fact 26 (f := .glo "_law_whole_row") rfl)
  obtain ⟨fd33, F330⟩ := c.def_ 27 (d := hd33) rfl
  have F33 : FunD K "_law_system" "_law_system" (defArgs (top 33)) (defBody (top 33)) (defScope (top 33)) [] [] (He.ga K "_law_system") fd33 := F330
  have m33 : mg "_law_system" = some (.ref (He.ga K "_law_system")) := He.glo_ok X G (c.fact 27 (f := .glo "_law_system") rfl)
  obtain ⟨fd34, F340⟩ := c.def_ 28 (d := hd34) rfl
  have F34 : FunD K "_law_system_so" "_law_system_so" (defArgs (top 34)) (defBody (top 34)) (defScope (top 34)) [] [] (He.ga K "_law_system_so") fd34 := F340
  have m34 : mg "_law_system_so" = some (.ref (He.ga K "_law_system_so")) := He.glo_ok X G (c.fact 28 (f := .glo "_law_system_so") rfl)
  obtain ⟨fd35, F350⟩ := c.def_ 29 (d := hd35) rfl
  have F35 : FunD K "law" "law" (defArgs (top 35)) (defBody (top 35)) (defScope (top 35)) [] [] (He.ga K "law") fd35 := F350
  have m35 : mg "law" = some (.ref (He.ga K "law")) := He.glo_ok X G (c.fact 29 (f := .glo "law") rfl)
  have hfree : ∀ y ∈ bnames, mg y = none := by
    intro y hy
    simp only [bnames, List.mem_cons, List.not_mem_nil, or_false] at hy
    rcases hy with rfl | rfl | rfl | rfl | rfl | rfl | rfl | rfl | rfl | rfl | rfl | rfl | rfl | rfl | rfl | rfl | rfl | rfl | rfl
    · exact He.free_ok X G (c.fact 30 (f := .free "len") rfl)
    · exact He.free_ok X G (c.fact 31 (f := .free "abs") rfl)
    · exact He.free_ok X G (c.fact 32 (f := .free "int") rfl)
    · exact He.free_ok X G (c.fact 33 (f := .free "list") rfl)
    · exact He.free_ok X G (c.fact 34 (f := .free "tuple") rfl)
    · exact He.free_ok X G (c.fact 35 (f := .free "sum") rfl)
    · exact He.free_ok X G (c.fact 36 (f := .free "all") rfl)
    · exact He.free_ok X G (c.fact 37 (f := .free "any") rfl)
    · exact He.free_ok X G (c.fact 38 (f := .free "min") rfl)
    · exact He.free_ok X G (c.fact 39 (f := .free "max") rfl)
    · exact He.free_ok X G (c.fact 40 (f := .free "isinstance") rfl)
    · exact He.free_ok X G (c.fact 41 (f := .free "range") rfl)
    · exact He.free_ok X G (c.fact 42 (f := .free "enumerate") rfl)
    · exact He.free_ok X G (c.fact 43 (f := .free "zip") rfl)
    · exact He.free_ok X G (c.fact 44 (f := .free "reversed") rfl)
    · exact He.free_ok X G (c.fact 45 (f := .free "bool") rfl)
    · exact He.free_ok X G (c.fact 46 (f := .free "str") rfl)
    · exact He.free_ok X G (c.fact 47 (f := .free "dict") rfl)
    · exact He.free_ok X G (c.fact 48 (f := .free "sorted") rfl)
  have e := hfa.symm.trans m35
  cases e
  have bl := FunD.bindsA (ps := ["_law_script"]) F35 fun _ _ _ _ _ _ us hl => match us, hl with | [_], _ => rfl
  refine ⟨fd35, fun s v => bl s [v] rfl, fun base _ _ => ?_⟩
  have h_common_divisor : FnT P w K mg base ⟨K, []⟩ 1 "common_divisor" (gcdZ) := fnT_of (Γ := []) (z := y_common_divisor) (S := gcdZ) F4 rfl m4 (F4.bindsN fun _ _ _ _ _ _ us hl => match us, hl with | [_, _], _ => rfl) sc_common_divisor ck_common_divisor hfree (FnTs.get .nil) (fun us O Q E h => by obtain ⟨_, _, rfl, _⟩ := h <;> rfl) k_common_divisor
  have h_multiplied : FnT P w K mg base ⟨K, []⟩ 1 "multiplied" (multipliedZ) := fnT_of (Γ := []) (z := y_multiplied) (S := multipliedZ) F10 rfl m10 (F10.bindsN fun _ _ _ _ _ _ us hl => match us, hl with | [_, _], _ => rfl) sc_multiplied ck_multiplied hfree (FnTs.get .nil) (fun us O Q E h => by obtain ⟨_, _, rfl, _⟩ := h <;> rfl) k_multiplied
  have h_place_of : FnT P w K mg base ⟨K, []⟩ 1 "place_of" (place_ofZ) := fnT_of (Γ := []) (z := y_place_of) (S := place_ofZ) F13 rfl m13 (F13.bindsN fun _ _ _ _ _ _ us hl => match us, hl with | [_, _], _ => rfl) sc_place_of ck_place_of hfree (FnTs.get .nil) (fun us O Q E h => by obtain ⟨_, _, rfl, _⟩ := h <;> rfl) k_place_of
  have h__law_bag : FnT P w K mg base ⟨K, []⟩ 1 "_law_bag" (bagZ) := fnT_of (Γ := []) (z := y__law_bag) (S := bagZ) F17 rfl m17 (F17.bindsN fun _ _ _ _ _ _ us hl => match us, hl with | [_], _ => rfl) sc__law_bag ck__law_bag hfree (FnTs.get .nil) (fun us O Q E h => by obtain ⟨_, rfl, _⟩ := h <;> rfl) k_law_bag
  have h__law_draw : FnT P w K mg base ⟨K, []⟩ 1 "_law_draw" (drawZ) := fnT_of (Γ := []) (z := y__law_draw) (S := drawZ) F18 rfl m18 (F18.bindsN fun _ _ _ _ _ _ us hl => match us, hl with | [_, _], _ => rfl) sc__law_draw ck__law_draw hfree (FnTs.get .nil) (fun us O Q E h => by obtain ⟨_, _, rfl, _⟩ := h <;> rfl) k_law_draw
  have h__law_int : FnT P w K mg base ⟨K, []⟩ 1 "_law_int" (intZ) := fnT_of (Γ := []) (z := y__law_int) (S := intZ) F21 rfl m21 (F21.bindsN fun _ _ _ _ _ _ us hl => match us, hl with | [_], _ => rfl) sc__law_int ck__law_int hfree (FnTs.get .nil) (fun us O Q E h => by obtain ⟨_, rfl, _⟩ := h <;> rfl) k_law_int
  have h__law_gcd : FnT P w K mg base ⟨K, []⟩ 1 "_law_gcd" (gcdZ) := fnT_of (Γ := []) (z := y__law_gcd) (S := gcdZ) F23 rfl m23 (F23.bindsN fun _ _ _ _ _ _ us hl => match us, hl with | [_, _], _ => rfl) sc__law_gcd ck__law_gcd hfree (FnTs.get .nil) (fun us O Q E h => by obtain ⟨_, _, rfl, _⟩ := h <;> rfl) k_law_gcd
  have h__law_plus : FnT P w K mg base ⟨K, []⟩ 1 "_law_plus" (plusZ) := fnT_of (Γ := []) (z := y__law_plus) (S := plusZ) F28 rfl m28 (F28.bindsN fun _ _ _ _ _ _ us hl => match us, hl with | [_, _], _ => rfl) sc__law_plus ck__law_plus hfree (FnTs.get .nil) (fun us O Q E h => by obtain ⟨_, _, _, _, rfl, _⟩ := h <;> rfl) k_law_plus
  have h__law_by : FnT P w K mg base ⟨K, []⟩ 1 "_law_by" (byZ) := fnT_of (Γ := []) (z := y__law_by) (S := byZ) F29 rfl m29 (F29.bindsN fun _ _ _ _ _ _ us hl => match us, hl with | [_, _], _ => rfl) sc__law_by ck__law_by hfree (FnTs.get .nil) (fun us O Q E h => by obtain ⟨_, _, _, _, rfl, _⟩ := h <;> rfl) k_law_by
  have h__law_rank : FnT P w K mg base ⟨K, []⟩ 1 "_law_rank" (rankZ) := fnT_of (Γ := []) (z := y__law_rank) (S := rankZ) F31 rfl m31 (F31.bindsN fun _ _ _ _ _ _ us hl => match us, hl with | [_], _ => rfl) sc__law_rank ck__law_rank hfree (FnTs.get .nil) (fun us O Q E h => by obtain ⟨_, _, _, rfl, _⟩ := h <;> rfl) k_law_rank
  have h_ratio : FnT P w K mg base ⟨K, []⟩ 2 "ratio" (lowZ) := fnT_of (Γ := [("common_divisor", gcdZ)]) (z := y_ratio) (S := lowZ) F5 rfl m5 (binds_full F5 (n := 2) (j := 1) (by simp) (by rfl) rfl fun T kV doc pm an cdv ct us its hl hi => match us, its, hl, hi with | [_, _], [_], _, _ => ⟨_, rfl, rfl⟩) sc_ratio ck_ratio hfree (FnTs.get (.cons (h_common_divisor.mono (by decide)) .nil)) (fun us O Q E h => by obtain ⟨_, _, rfl, _⟩ := h <;> rfl) k_ratio
  have h_common : FnT P w K mg base ⟨K, []⟩ 2 "common" (commonZ) := fnT_of (Γ := [("common_divisor", gcdZ)]) (z := y_common) (S := commonZ) F9 rfl m9 (F9.bindsN fun _ _ _ _ _ _ us hl => match us, hl with | [_], _ => rfl) sc_common ck_common hfree (FnTs.get (.cons (h_common_divisor.mono (by decide)) .nil)) (fun us O Q E h => by obtain ⟨_, _, rfl, _⟩ := h <;> rfl) k_common
  have h_lowest : FnT P w K mg base ⟨K, []⟩ 2 "lowest" (lowestZ) := fnT_of (Γ := [("common_divisor", gcdZ)]) (z := y_lowest) (S := lowestZ) F11 rfl m11 (F11.bindsN fun _ _ _ _ _ _ us hl => match us, hl with | [_], _ => rfl) sc_lowest ck_lowest hfree (FnTs.get (.cons (h_common_divisor.mono (by decide)) .nil)) (fun us O Q E h => by obtain ⟨_, _, rfl, _⟩ := h <;> rfl) k_lowest
  have h__law_pick : FnT P w K mg base ⟨K, []⟩ 2 "_law_pick" (pickZ) := fnT_of (Γ := [("_law_draw", drawZ)]) (z := y__law_pick) (S := pickZ) F19 rfl m19 (F19.bindsN fun _ _ _ _ _ _ us hl => match us, hl with | [_, _], _ => rfl) sc__law_pick ck__law_pick hfree (FnTs.get (.cons (h__law_draw.mono (by decide)) .nil)) (fun us O Q E h => by obtain ⟨_, _, ⟨rfl, _⟩ | ⟨rfl, _⟩, _⟩ := h <;> rfl) k_law_pick
  have h__law_low : FnT P w K mg base ⟨K, []⟩ 2 "_law_low" (lowZ) := fnT_of (Γ := [("_law_gcd", gcdZ)]) (z := y__law_low) (S := lowZ) F24 rfl m24 (F24.bindsN fun _ _ _ _ _ _ us hl => match us, hl with | [_, _], _ => rfl) sc__law_low ck__law_low hfree (FnTs.get (.cons (h__law_gcd.mono (by decide)) .nil)) (fun us O Q E h => by obtain ⟨_, _, rfl, _⟩ := h <;> rfl) k_law_low
  have h__law_is_fraction : FnT P w K mg base ⟨K, []⟩ 2 "_law_is_fraction" (isfrZ) := fnT_of (Γ := [("_law_gcd", gcdZ), ("_law_int", intZ)]) (z := y__law_is_fraction) (S := isfrZ) F25 rfl m25 (F25.bindsN fun _ _ _ _ _ _ us hl => match us, hl with | [_], _ => rfl) sc__law_is_fraction ck__law_is_fraction hfree (FnTs.get (.cons (h__law_gcd.mono (by decide)) (.cons (h__law_int.mono (by decide)) .nil))) (fun us O Q E h => by obtain ⟨_, _, rfl, _⟩ := h <;> rfl) k_law_is_fraction
  have h__law_dot : FnT P w K mg base ⟨K, []⟩ 2 "_law_dot" (dotZ) := fnT_of (Γ := [("_law_plus", plusZ), ("_law_by", byZ)]) (z := y__law_dot) (S := dotZ) F30 rfl m30 (F30.bindsN fun _ _ _ _ _ _ us hl => match us, hl with | [_, _], _ => rfl) sc__law_dot ck__law_dot hfree (FnTs.get (.cons (h__law_plus.mono (by decide)) (.cons (h__law_by.mono (by decide)) .nil))) (fun us O Q E h => by obtain ⟨_, _, _, rfl, _⟩ := h <;> rfl) k_law_dot
  have h__law_whole_row : FnT P w K mg base ⟨K, []⟩ 2 "_law_whole_row" (whole_rowZ) := fnT_of (Γ := [("_law_gcd", gcdZ)]) (z := y__law_whole_row) (S := whole_rowZ) F32 rfl m32 (F32.bindsN fun _ _ _ _ _ _ us hl => match us, hl with | [_], _ => rfl) sc__law_whole_row ck__law_whole_row hfree (FnTs.get (.cons (h__law_gcd.mono (by decide)) .nil)) (fun us O Q E h => by obtain ⟨_, _, rfl, _⟩ := h <;> rfl) k_law_whole_row
  have h_minus : FnT P w K mg base ⟨K, []⟩ 3 "minus" (minusZ) := fnT_of (Γ := [("ratio", lowZ)]) (z := y_minus) (S := minusZ) F6 rfl m6 (F6.bindsN fun _ _ _ _ _ _ us hl => match us, hl with | [_, _], _ => rfl) sc_minus ck_minus hfree (FnTs.get (.cons (h_ratio.mono (by decide)) .nil)) (fun us O Q E h => by obtain ⟨_, _, _, _, rfl, _⟩ := h <;> rfl) k_minus
  have h_times : FnT P w K mg base ⟨K, []⟩ 3 "times" (timesZ) := fnT_of (Γ := [("ratio", lowZ)]) (z := y_times) (S := timesZ) F7 rfl m7 (F7.bindsN fun _ _ _ _ _ _ us hl => match us, hl with | [_, _], _ => rfl) sc_times ck_times hfree (FnTs.get (.cons (h_ratio.mono (by decide)) .nil)) (fun us O Q E h => by obtain ⟨_, _, _, _, rfl, _⟩ := h <;> rfl) k_times
  have h_cleared : FnT P w K mg base ⟨K, []⟩ 3 "cleared" (clearedZ) := fnT_of (Γ := [("lowest", lowestZ), ("common_divisor", gcdZ)]) (z := y_cleared) (S := clearedZ) F12 rfl m12 (F12.bindsN fun _ _ _ _ _ _ us hl => match us, hl with | [_, _, _], _ => rfl) sc_cleared ck_cleared hfree (FnTs.get (.cons (h_lowest.mono (by decide)) (.cons (h_common_divisor.mono (by decide)) .nil))) (fun us O Q E h => by obtain ⟨_, _, _, _, rfl, _⟩ := h <;> rfl) k_cleared
  have h__law_huge : FnT P w K mg base ⟨K, []⟩ 3 "_law_huge" (hugeZ) := fnT_of (Γ := [("_law_pick", pickZ), ("_law_draw", drawZ)]) (z := y__law_huge) (S := hugeZ) F20 rfl m20 (F20.bindsN fun _ _ _ _ _ _ us hl => match us, hl with | [_], _ => rfl) sc__law_huge ck__law_huge hfree (FnTs.get (.cons (h__law_pick.mono (by decide)) (.cons (h__law_draw.mono (by decide)) .nil))) (fun us O Q E h => by obtain ⟨_, rfl, _⟩ := h <;> rfl) k_law_huge
  have h__law_few : FnT P w K mg base ⟨K, []⟩ 3 "_law_few" (fewZ) := fnT_of (Γ := [("_law_low", lowZ), ("_law_draw", drawZ)]) (z := y__law_few) (S := fewZ) F26 rfl m26 (F26.bindsN fun _ _ _ _ _ _ us hl => match us, hl with | [_, _], _ => rfl) sc__law_few ck__law_few hfree (FnTs.get (.cons (h__law_low.mono (by decide)) (.cons (h__law_draw.mono (by decide)) .nil))) (fun us O Q E h => by obtain ⟨_, _, rfl, _⟩ := h <;> rfl) k_law_few
  have h__law_is_point : FnT P w K mg base ⟨K, []⟩ 3 "_law_is_point" (isptZ) := fnT_of (Γ := [("_law_is_fraction", isfrZ)]) (z := y__law_is_point) (S := isptZ) F27 rfl m27 (F27.bindsN fun _ _ _ _ _ _ us hl => match us, hl with | [_, _], _ => rfl) sc__law_is_point ck__law_is_point hfree (FnTs.get (.cons (h__law_is_fraction.mono (by decide)) .nil)) (fun us O Q E h => by obtain ⟨_, rfl, _⟩ := h <;> rfl) k_law_is_point
  have h_filled : FnT P w K mg base ⟨K, []⟩ 4 "filled" (filledZ) := fnTD_of (Γ := [("ratio", lowZ), ("minus", minusZ), ("times", timesZ)]) (z := y_filled) (S := filledZ) F14 rfl m14 (F14.bindsN fun _ _ _ _ _ _ us hl => match us, hl with | [_, _], _ => rfl) sc_filled ck_filled hfree (FnTs.get (.cons (h_ratio.mono (by decide)) (.cons (h_minus.mono (by decide)) (.cons (h_times.mono (by decide)) .nil)))) (fun us O Q E h => by obtain ⟨_, _, rfl, _⟩ := h <;> rfl) k_filled
  have h__law_system : FnT P w K mg base ⟨K, []⟩ 4 "_law_system" (systemZ) := fnTD_of (Γ := [("_law_draw", drawZ), ("_law_low", lowZ), ("_law_plus", plusZ), ("_law_by", byZ), ("_law_few", fewZ), ("_law_pick", pickZ), ("_law_huge", hugeZ)]) (z := y__law_system) (S := systemZ) F33 rfl m33 (F33.bindsN fun _ _ _ _ _ _ us hl => match us, hl with | [_, _], _ => rfl) sc__law_system ck__law_system hfree (FnTs.get (.cons (h__law_draw.mono (by decide)) (.cons (h__law_low.mono (by decide)) (.cons (h__law_plus.mono (by decide)) (.cons (h__law_by.mono (by decide)) (.cons (h__law_few.mono (by decide)) (.cons (h__law_pick.mono (by decide)) (.cons (h__law_huge.mono (by decide)) .nil)))))))) (fun us O Q E h => by obtain ⟨_, _, rfl, _⟩ := h <;> rfl) k_law_system
  have h_solved : FnT P w K mg base ⟨K, []⟩ 5 "solved" (solvedZ) := fnTD_of (Γ := [("filled", filledZ), ("cleared", clearedZ), ("place_of", place_ofZ), ("lowest", lowestZ), ("multiplied", multipliedZ), ("common", commonZ)]) (z := y_solved) (S := solvedZ) F15 rfl m15 (F15.bindsN fun _ _ _ _ _ _ us hl => match us, hl with | [_, _], _ => rfl) sc_solved ck_solved hfree (FnTs.get (.cons (h_filled.mono (by decide)) (.cons (h_cleared.mono (by decide)) (.cons (h_place_of.mono (by decide)) (.cons (h_lowest.mono (by decide)) (.cons (h_multiplied.mono (by decide)) (.cons (h_common.mono (by decide)) .nil))))))) (fun us O Q E h => by obtain ⟨_, _, _, _, _, rfl, _⟩ := h <;> rfl) k_solved
  have s0 : FnT P w K mg base ⟨K, []⟩ 0 "_law_same" fun _ _ _ _ => False := fnT_false (ps := ps__law_same) F22 m22 (F22.bindsN fun _ _ _ _ _ _ us hl => match us, hl with | [_, _], _ => rfl)
  have s1 : FnT P w K mg base ⟨K, []⟩ 1 "_law_same" ((sameZ 0)) := fnT_of (Γ := [("_law_same", (fun _ _ _ _ => False))]) (z := y__law_same) (S := (sameZ 0)) F22 rfl m22 (F22.bindsN fun _ _ _ _ _ _ us hl => match us, hl with | [_, _], _ => rfl) sc__law_same ck__law_same hfree (FnTs.get (.cons s0 .nil)) (fun us O Q E h => by obtain ⟨_, rfl, _⟩ := h <;> rfl) (k_law_same 0 (fun _ _ _ _ => False) (fun m hm => absurd hm (by omega)))
  have s2 : FnT P w K mg base ⟨K, []⟩ 2 "_law_same" ((sameZ 1)) := fnT_of (Γ := [("_law_same", (sameZ 0))]) (z := y__law_same) (S := (sameZ 1)) F22 rfl m22 (F22.bindsN fun _ _ _ _ _ _ us hl => match us, hl with | [_, _], _ => rfl) sc__law_same ck__law_same hfree (FnTs.get (.cons s1 .nil)) (fun us O Q E h => by obtain ⟨_, rfl, _⟩ := h <;> rfl) (k_law_same 1 (sameZ 0) (fun m hm => by obtain rfl : m = 0 := (by omega); rfl))
  have s3 : FnT P w K mg base ⟨K, []⟩ 3 "_law_same" ((sameZ 2)) := fnT_of (Γ := [("_law_same", (sameZ 1))]) (z := y__law_same) (S := (sameZ 2)) F22 rfl m22 (F22.bindsN fun _ _ _ _ _ _ us hl => match us, hl with | [_, _], _ => rfl) sc__law_same ck__law_same hfree (FnTs.get (.cons s2 .nil)) (fun us O Q E h => by obtain ⟨_, rfl, _⟩ := h <;> rfl) (k_law_same 2 (sameZ 1) (fun m hm => by obtain rfl : m = 1 := (by omega); rfl))
  have s4 : FnT P w K mg base ⟨K, []⟩ 4 "_law_same" ((sameZ 3)) := fnT_of (Γ := [("_law_same", (sameZ 2))]) (z := y__law_same) (S := (sameZ 3)) F22 rfl m22 (F22.bindsN fun _ _ _ _ _ _ us hl => match us, hl with | [_, _], _ => rfl) sc__law_same ck__law_same hfree (FnTs.get (.cons s3 .nil)) (fun us O Q E h => by obtain ⟨_, rfl, _⟩ := h <;> rfl) (k_law_same 3 (sameZ 2) (fun m hm => by obtain rfl : m = 2 := (by omega); rfl))
  have s5 : FnT P w K mg base ⟨K, []⟩ 5 "_law_same" ((sameZ 4)) := fnT_of (Γ := [("_law_same", (sameZ 3))]) (z := y__law_same) (S := (sameZ 4)) F22 rfl m22 (F22.bindsN fun _ _ _ _ _ _ us hl => match us, hl with | [_, _], _ => rfl) sc__law_same ck__law_same hfree (FnTs.get (.cons s4 .nil)) (fun us O Q E h => by obtain ⟨_, rfl, _⟩ := h <;> rfl) (k_law_same 4 (sameZ 3) (fun m hm => by obtain rfl : m = 3 := (by omega); rfl))
  have h__law_same := s5
  have h__law_system_so : FnT P w K mg base ⟨K, []⟩ 6 "_law_system_so" (sysoZ) := fnT_of (Γ := [("_law_dot", dotZ), ("_law_is_point", isptZ), ("_law_rank", rankZ), ("_law_whole_row", whole_rowZ), ("solved", solvedZ), ("_law_same", sameZ 4)]) (z := y__law_system_so) (S := sysoZ) F34 rfl m34 (F34.bindsN fun _ _ _ _ _ _ us hl => match us, hl with | [_, _], _ => rfl) sc__law_system_so ck__law_system_so hfree (FnTs.get (.cons (h__law_dot.mono (by decide)) (.cons (h__law_is_point.mono (by decide)) (.cons (h__law_rank.mono (by decide)) (.cons (h__law_whole_row.mono (by decide)) (.cons (h_solved.mono (by decide)) (.cons (h__law_same.mono (by decide)) .nil))))))) (fun us O Q E h => by obtain ⟨_, _, _, rfl, _⟩ := h <;> rfl) k_law_system_so
  exact fnOk_of (Γ := [("_law_system_so", sysoZ), ("_law_pick", pickZ), ("_law_low", lowZ), ("_law_plus", plusZ), ("_law_draw", drawZ), ("_law_dot", dotZ), ("_law_few", fewZ), ("_law_system", systemZ), ("_law_bag", bagZ)]) (z := y_law) (S := lawZ 63) F35 rfl sc_law ck_law hfree (FnTs.get (.cons (h__law_system_so.mono (by decide)) (.cons (h__law_pick.mono (by decide)) (.cons (h__law_low.mono (by decide)) (.cons (h__law_plus.mono (by decide)) (.cons (h__law_draw.mono (by decide)) (.cons (h__law_dot.mono (by decide)) (.cons (h__law_few.mono (by decide)) (.cons (h__law_system.mono (by decide)) (.cons (h__law_bag.mono (by decide)) .nil)))))))))) (fun us O Q E h => by obtain ⟨_, rfl, _⟩ := h <;> rfl) k_law
end Z
open PySem PySem.W PySem.Calls PyProof.Rows
theorem PySem.Challenge.cw_endlessnets_k05_whole_systems_solved_holds : PySem.Challenge.rw_endlessnets_k05_whole_systems_solved.Holds := by
  w_on; o_law
  refine HandSHeadRun.head_any (r := OpenLaw.row PySem.Challenge.rw_endlessnets_k05_whole_systems_solved) (q := view (OpenLaw.row PySem.Challenge.rw_endlessnets_k05_whole_systems_solved).prog [35]) (H := Z.hhk) (ob := Z.hob) (M := 8000) (loose := Z.hnames) (d := HandSHeadRun.topDef (OpenLaw.row PySem.Challenge.rw_endlessnets_k05_whole_systems_solved).prog 35) (kwd := []) Z.hob_eq
    (by kernel_rfl) (fun s => by kernel_rfl) Z.hrun (by kernel_rfl) (by kernel_rfl) (by kernel_rfl) (by rfl) (by first | assumption | decide +kernel) (by decide +kernel) ⟨rfl, rfl, rfl, rfl, rfl, by decide +kernel⟩ ?hw ?hc
  case hw => w_witness2
  case hc =>
    refine LamX.walk_ofTsE (l := PySem.Challenge.rw_endlessnets_k05_whole_systems_solved) (n := 63) (k := 7) (x := "_law_script") (CX := fun w => L2.CX (PySem.Challenge.rw_endlessnets_k05_whole_systems_solved).prog w) rfl (by decide) (by kernel_rfl) ⟨rfl, by decide, by decide⟩ ?F (fun w H s e s' ⟨_, _, _, _, _, _, _, _, _, _, _, _, z⟩ => z)
    intro w mg fa h Y G hmg0
    obtain ⟨K, KX, c⟩ := Y
    have hmg : mg ("law" : PySem.Str) = some (.ref fa) := by
      have e : (HandSHeadRun.topDef (OpenLaw.row PySem.Challenge.rw_endlessnets_k05_whole_systems_solved).prog 35).name = ("law" : PySem.Str) := by kernel_rfl
      rw [← e]
      exact hmg0
    obtain ⟨fd, hb, hF⟩ := Z.law_at _ rfl (w := w) KX G hmg c.t.d
    exact ⟨K, KX, fd, [], _, (fun p hp => by cases hp), (fun p hp => by cases hp), (fun p hp => by cases hp), hb, fun H a ns hl _ _ hS => Z.lawZ_low rfl hl hS, fun base h1 h2 _ => hF base h1 h2⟩

