/- The law TopLocal: its two bytes are bytes, so it answers true. Texts of this session, merged by wip/tools/merge.py. -/
import Derived.Test.YtcnpekpgghppnaaMLo1
import Derived.Test.YtcnpekpgghppnaaMLo12
import Derived.Test.YtcnpekpgghppnaaMLo9
import Derived.Test.YtcnpekpgghppnaaMLo0
import Derived.ChangeArms
import Derived.SizedLaws
import Derived.OpenShut
import Derived.Test.YtcnpekpgghppnaaRows
import Derived.WalkKit
import Derived.ProofKit
import Derived.ShutString
import Derived.ChangeOld
import Derived.Below
import Derived.Carry
namespace Go.Proofs.Ytcnpekpgghppnaa.Q
open Go.RowKit Go.Proofs.YtcnpekpgghppnaaW.PrintWords Go.Proofs.YtcnpekpgghppnaaW.PrintLast Go.Proofs.YtcnpekpgghppnaaW.PrintMore
set_option linter.unusedVariables false
set_option linter.unusedSimpArgs false
/-- What two rectangles share; zeros if nothing. -/
def irR (r s : Rt) : Rt := if mn r.2.2.1 s.2.2.1 ≤ mx r.1 s.1 ∨ mn r.2.2.2 s.2.2.2 ≤ mx r.2.1 s.2.1 then (0, 0, 0, 0) else (mx r.1 s.1, mx r.2.1 s.2.1, mn r.2.2.1 s.2.2.1, mn r.2.2.2 s.2.2.2)
theorem rempty_eq (a b c d : Int) : rect_Empty.f a b c d = some (decide (c ≤ a) || decide (d ≤ b)) := by
 unfold rect_Empty.f
 by_cases h : a ≥ c
 ·rw [if_pos h, decide_eq_true h]
  rfl
 ·rw [if_neg h, decide_eq_false h]
  rfl
theorem irR_rect (r s : Rt) : rect_Intersect.f r.1 r.2.1 r.2.2.1 r.2.2.2 s.1 s.2.1 s.2.2.1 s.2.2.2 = some (irR r s) := by
 unfold rect_Intersect.f irR
 rw [rempty_eq, Option.bind_some]
 by_cases h : mn r.2.2.1 s.2.2.1 ≤ mx r.1 s.1 ∨ mn r.2.2.2 s.2.2.2 ≤ mx r.2.1 s.2.1
 ·rw [if_pos (by simpa using h), if_pos h]
 ·rw [if_neg (by simpa using h), if_neg h]
theorem irR_ref (r s : Rt) : waveletref01_Intersect.f r.1 r.2.1 r.2.2.1 r.2.2.2 s.1 s.2.1 s.2.2.1 s.2.2.2 = some (irR r s) := by
 unfold waveletref01_Intersect.f irR
 rw [wempty, Option.bind_some]
 by_cases h : mn r.2.2.1 s.2.2.1 ≤ mx r.1 s.1 ∨ mn r.2.2.2 s.2.2.2 ≤ mx r.2.1 s.2.1
 ·rw [if_pos (by simpa using h), if_pos h]
 ·rw [if_neg (by simpa using h), if_neg h]
/-- A rectangle that is valid. -/
def VR (r : Rt) : Prop := (0 ≤ r.1 ∧ r.1 ≤ r.2.2.1 ∧ r.2.2.1 ≤ 4096) ∧ (0 ≤ r.2.1 ∧ r.2.1 ≤ r.2.2.2 ∧ r.2.2.2 ≤ 4096)
theorem irR_valid {r s : Rt} (h : VR s) : VR (irR r s) := by
 obtain ⟨⟨h1, h2, h3⟩, h4, h5, h6⟩ := h
 have X0 := mx_le r.1 s.1
 have Y0 := mx_le r.2.1 s.2.1
 have X1 := mn_le r.2.2.1 s.2.2.1
 have Y1 := mn_le r.2.2.2 s.2.2.2
 unfold irR
 split
 ·exact ⟨by decide, by decide⟩
 ·constructor
  ·show 0 ≤ mx r.1 s.1 ∧ mx r.1 s.1 ≤ mn r.2.2.1 s.2.2.1 ∧ mn r.2.2.1 s.2.2.1 ≤ 4096
   omega
  ·show 0 ≤ mx r.2.1 s.2.1 ∧ mx r.2.1 s.2.1 ≤ mn r.2.2.2 s.2.2.2 ∧ mn r.2.2.2 s.2.2.2 ≤ 4096
   omega
theorem irR_mem {r s : Rt} {x y : Int} (hx : s.1 ≤ x) (hx1 : x < s.2.2.1) (hy : s.2.1 ≤ y) (hy1 : y < s.2.2.2) (gx : r.1 ≤ x) (gx1 : x < r.2.2.1) (gy : r.2.1 ≤ y) (gy1 : y < r.2.2.2) : ((irR r s).1 ≤ x ∧ x < (irR r s).2.2.1) ∧ ((irR r s).2.1 ≤ y ∧ y < (irR r s).2.2.2) := by
 have X0 := mx_le r.1 s.1
 have Y0 := mx_le r.2.1 s.2.1
 have X1 := mn_le r.2.2.1 s.2.2.1
 have Y1 := mn_le r.2.2.2 s.2.2.2
 unfold irR
 rw [if_neg (by omega)]
 constructor
 ·show mx r.1 s.1 ≤ x ∧ x < mn r.2.2.1 s.2.2.1
  omega
 ·show mx r.2.1 s.2.1 ≤ y ∧ y < mn r.2.2.2 s.2.2.2
  omega
theorem irR_amid {r s : Rt} (h : waveletref01_Empty.f (irR r s).1 (irR r s).2.1 (irR r s).2.2.1 (irR r s).2.2.2 = some false) : Amid s.1 s.2.1 s.2.2.1 s.2.2.2 (irR r s) := by
 have X0 := mx_le r.1 s.1
 have Y0 := mx_le r.2.1 s.2.1
 have X1 := mn_le r.2.2.1 s.2.2.1
 have Y1 := mn_le r.2.2.2 s.2.2.2
 by_cases c : mn r.2.2.1 s.2.2.1 ≤ mx r.1 s.1 ∨ mn r.2.2.2 s.2.2.2 ≤ mx r.2.1 s.2.1
 ·exfalso
  unfold irR at h
  rw [if_pos c] at h
  revert h
  decide
 ·unfold irR
  rw [if_neg c]
  constructor
  ·show s.1 ≤ mx r.1 s.1; omega
  ·show mx r.1 s.1 < mn r.2.2.1 s.2.2.1; omega
  ·show mn r.2.2.1 s.2.2.1 ≤ s.2.2.1; omega
  ·show s.2.1 ≤ mx r.2.1 s.2.1; omega
  ·show mx r.2.1 s.2.1 < mn r.2.2.2 s.2.2.2; omega
  ·show mn r.2.2.2 s.2.2.2 ≤ s.2.2.2; omega
theorem bLL_valid {r : Rt} (h : VR r) : VR (bLL r) := by
 obtain ⟨⟨h1, h2, h3⟩, h4, h5, h6⟩ := h
 unfold bLL
 constructor
 ·show 0 ≤ (r.1 + 1) / 2 ∧ (r.1 + 1) / 2 ≤ (r.2.2.1 + 1) / 2 ∧ (r.2.2.1 + 1) / 2 ≤ 4096
  omega
 ·show 0 ≤ (r.2.1 + 1) / 2 ∧ (r.2.1 + 1) / 2 ≤ (r.2.2.2 + 1) / 2 ∧ (r.2.2.2 + 1) / 2 ≤ 4096
  omega
/-- A rectangle with a margin. -/
def grow (m : Int) (r : Rt) : Rt := (r.1 - m, r.2.1 - m, r.2.2.1 + m, r.2.2.2 + m)
/-- What is needed so many levels below the window's. -/
def winD (m : Int) (z : Rt) (R : Nat → Rt) (res : Nat) : Nat → Rt
 | 0 => irR z (R res)
 | d + 1 => bLL (irR (grow m (winD m z R res d)) (R (res - d)))
theorem winD_valid {m : Int} {z : Rt} {R : Nat → Rt} {res : Nat} (hR : ∀ q, q ≤ res → VR (R q)) : ∀ d, VR (winD m z R res d)
 | 0 => irR_valid (hR _ (Nat.le_refl _))
 | d + 1 => bLL_valid (irR_valid (hR _ (by omega)))
theorem cd01_of {d : Nat} (h : d ≤ 5) {x : Int} (hx : 0 ≤ x) (hx1 : x ≤ 4096) : waveletref01_CeilDiv.f x ((2 ^ d : Nat) : Int) = some (cd d x) := by
 unfold waveletref01_CeilDiv.f cd
 have : d = 0 ∨ d = 1 ∨ d = 2 ∨ d = 3 ∨ d = 4 ∨ d = 5 := by omega
 rw [Int.tmod_eq_emod_of_nonneg hx, Int.tdiv_eq_ediv_of_nonneg hx]
 rcases this with rfl | rfl | rfl | rfl | rfl | rfl <;> simp only [Nat.reducePow] <;> rw [if_neg (by omega), if_neg (by omega)] <;> split <;> congr 1 <;> unfold wrap64 <;> omega
theorem wv_of {x0 y0 x1 y1 : Int} (hx : 0 ≤ x0 ∧ x0 ≤ x1 ∧ x1 ≤ 4096) (hy : 0 ≤ y0 ∧ y0 ≤ y1 ∧ y1 ≤ 4096) : waveletref01_Valid.f x0 y0 x1 y1 = some true := by
 unfold waveletref01_Valid.f
 rw [if_pos hx.1, if_pos hx.2.1, if_pos hx.2.2, if_pos hy.1, if_pos hy.2.1, decide_eq_true hy.2.2]
theorem red01 {k d : Nat} (h : d ≤ 5) {x0 y0 x1 y1 : Int} (hx : 0 ≤ x0 ∧ x0 ≤ x1 ∧ x1 ≤ 4096) (hy : 0 ≤ y0 ∧ y0 ≤ y1 ∧ y1 ≤ 4096) : waveletref01_Reduce.f (k + 1) x0 y0 x1 y1 ((2 ^ d : Nat) : Int) ((2 ^ d : Nat) : Int) = some (cd d x0, cd d y0, cd d x1, cd d y1) := by
 have hp : (1 : Int) ≤ ((2 ^ d : Nat) : Int) ∧ ((2 ^ d : Nat) : Int) ≤ 4096 := by
  have : d = 0 ∨ d = 1 ∨ d = 2 ∨ d = 3 ∨ d = 4 ∨ d = 5 := by omega
  rcases this with h | h | h | h | h | h <;> rw [h] <;> decide
 unfold waveletref01_Reduce.f
 rw [wv_of hx hy]
 simp only [Option.bind_some, if_true]
 rw [if_neg (by omega), if_neg (by omega), if_neg (by omega), decide_eq_false (by omega)]
 rw [waveletref01_Reduce.j0.eq_2, if_neg (by decide), cd01_of (by omega) hx.1 (by omega), cd01_of (by omega) hy.1 (by omega), cd01_of (by omega) (by omega) hx.2.2, cd01_of (by omega) (by omega) hy.2.2]
 rfl
theorem l06 {x0 y0 x1 y1 : Int} (hx : 0 ≤ x0 ∧ x0 ≤ x1 ∧ x1 ≤ 4096) (hy : 0 ≤ y0 ∧ y0 ≤ y1 ∧ y1 ≤ 4096) {n : Nat} (hn : n ≤ 5) : ∀ (m k a q : Nat), q + m = n → a + m ≤ 5 → waveletref06_Resolution.l0 (m + k + 2) (n : Int) ((2 ^ a : Nat) : Int) (q : Int) x0 y0 x1 y1 = some (cd (a + m) x0, cd (a + m) y0, cd (a + m) x1, cd (a + m) y1)
 | 0, k, a, q, hq, ha => by
  rw [show 0 + k + 2 = (k + 1) + 1 by omega, waveletref06_Resolution.l0.eq_2, if_neg (by omega), red01 (by omega) hx hy]
  rfl
 | m + 1, k, a, q, hq, ha => by
  have hp : wrap64 (2 * ((2 ^ a : Nat) : Int)) = ((2 ^ (a + 1) : Nat) : Int) := by
   have : a = 0 ∨ a = 1 ∨ a = 2 ∨ a = 3 ∨ a = 4 := by omega
   rcases this with h | h | h | h | h <;> rw [h] <;> simp only [Nat.reducePow, Nat.reduceAdd] <;> unfold wrap64 <;> omega
  rw [show m + 1 + k + 2 = (m + k + 2) + 1 by omega, waveletref06_Resolution.l0.eq_2, if_pos (by omega), hp, show wrap64 ((q : Int) + 1) = ((q + 1 : Nat) : Int) by rw [wid (by omega) (by omega)]; omega, l06 hx hy hn m k (a + 1) (q + 1) (by omega) (by omega), show a + 1 + m = a + (m + 1) by omega]
theorem res06 {x0 y0 x1 y1 : Int} (hx : 0 ≤ x0 ∧ x0 ≤ x1 ∧ x1 ≤ 4096) (hy : 0 ≤ y0 ∧ y0 ≤ y1 ∧ y1 ≤ 4096) {n res : Nat} (hn : n ≤ 5) (hr : res ≤ n) : waveletref06_Resolution.f (n - res + 0 + 2 + 1) x0 y0 x1 y1 (n : Int) (res : Int) = some (cd (n - res) x0, cd (n - res) y0, cd (n - res) x1, cd (n - res) y1) := by
 have hc : waveletref06_Count.f (n : Int) = some (3 * (n : Int) + 1) := by
  unfold waveletref06_Count.f
  rw [if_neg (by omega), if_neg (by omega), wid (n := 3 * (n : Int)) (by omega) (by omega), wid (by omega) (by omega)]
 unfold waveletref06_Resolution.f
 rw [hc, Option.bind_some, if_neg (by omega), if_neg (by omega), decide_eq_false (by omega), waveletref06_Resolution.j0.eq_2, if_neg (by decide)]
 have := l06 hx hy hn (n - res) 0 0 res (by omega) (by omega)
 rw [Nat.zero_add] at this
 exact this
theorem TopLocal.true_ (qa qb kk x0 y0 x1 y1 z0 z1 z2 z3 : Int) (A : Option Addr) (c : Nat) (D : List Int) (w : World) (hr : Kd.C (Kd.int .i64) w A D.length D) (hc : D.length ≤ c) (ha : 0 ≤ qa ∧ qa ≤ 255) (hb : 0 ≤ qb ∧ qb ≤ 255) :
  Calls Try.prog 3 #[.agg #[.int .i64 x0, .int .i64 y0, .int .i64 x1, .int .i64 y1, .slice A D.length c], .agg #[.int .u8 qa, .int .u8 qb], .int .i64 kk, .agg #[.int .i64 z0, .int .i64 z1, .int .i64 z2, .int .i64 z3]] w fun e w' => e = .returned (.bool true) ∧ Below w.heap.size w w' := by
 obtain ⟨n, hn⟩ : ∃ n : Nat, qa % 6 = (n : Int) := Int.eq_ofNat_of_zero_le (by omega)
 have hn5 : n ≤ 5 := by omega
 obtain ⟨res, hre⟩ : ∃ res : Nat, qb % ((n : Int) + 1) = (res : Int) := Int.eq_ofNat_of_zero_le (Int.emod_nonneg _ (by omega))
 have hres : res ≤ n := by have := Int.emod_lt_of_pos qb (show (0 : Int) < (n : Int) + 1 by omega); omega
 have hqa : IntKind.i64.wrap qa = qa ∧ Int.tmod qa 6 = (n : Int) := ⟨by rw [i64_w, wid (by omega) (by omega)], by rw [Int.tmod_eq_emod_of_nonneg ha.1, hn]⟩
 have hqb : IntKind.i64.wrap qb = qb ∧ Int.tmod qb ((n : Int) + 1) = (res : Int) := ⟨by rw [i64_w, wid (by omega) (by omega)], by rw [Int.tmod_eq_emod_of_nonneg hb.1, hre]⟩
 have hzn : wrap64 ((n : Int) + 1) = (n : Int) + 1 ∧ (n : Int) + 1 ≠ 0 := ⟨by rw [wid (by omega) (by omega)], by omega⟩
 obtain ⟨kp, r0, hsm, hp⟩ := small_total x0 y0 x1 y1 D
 cases r0 with
 | false => exact TopLocal.skip1 n res kp kk qa qb _ x0 y0 x1 y1 z0 z1 z2 z3 A c D w hr hc hqa hzn hqb hsm
 | true =>
 obtain ⟨r1, hkn, hkr⟩ := known_total kk
 cases r1 with
 | false => exact TopLocal.skip2 n res kp kk qa qb _ x0 y0 x1 y1 z0 z1 z2 z3 A c D w hr hc hqa hzn hqb hsm hkn
 | true =>
 obtain ⟨r2, hwv, hwr⟩ := valid01 z0 z1 z2 z3
 cases r2 with
 | false => exact TopLocal.skip3 n res kp kk qa qb _ x0 y0 x1 y1 z0 z1 z2 z3 A c D w hr hc hqa hzn hqb hsm hkn hwv
 | true =>
 obtain ⟨hv, hlen, hbd⟩ := hp rfl
 have HQ := Aside0.mk (And.intro hqa (And.intro hzn hqb))
 clear hqa hzn hqb hn hre
 have hkk := hkr rfl
 obtain ⟨⟨p1, p2, p3⟩, ⟨q1, q2, q3⟩, _, _⟩ := id hv
 have hx : 0 ≤ x0 ∧ x0 ≤ x1 ∧ x1 ≤ 4096 := ⟨p1, p2, p3⟩
 have hy : 0 ≤ y0 ∧ y0 ≤ y1 ∧ y1 ≤ 4096 := ⟨q1, q2, q3⟩
 have hrc := reach_le kk
 obtain ⟨R, hR⟩ : ∃ R : Nat → Rt, R = fun q => (cd (n - q) x0, cd (n - q) y0, cd (n - q) x1, cd (n - q) y1) := ⟨_, rfl⟩
 have hRq : ∀ q, R q = (cd (n - q) x0, cd (n - q) y0, cd (n - q) x1, cd (n - q) y1) := fun q => by rw [hR]
 have hRv : ∀ q, VR (R q) := by
  intro q
  have ha := cd_le (d := n - q) (by omega) hx.1 hx.2.1 hx.2.2
  have hb := cd_le (d := n - q) (by omega) hy.1 hy.2.1 hy.2.2
  rw [hRq]
  clear hRq hR
  generalize cd (n - q) x0 = a at ha ⊢
  generalize cd (n - q) x1 = b at ha ⊢
  generalize cd (n - q) y0 = c at hb ⊢
  generalize cd (n - q) y1 = d at hb ⊢
  exact ⟨ha, hb⟩
 have hrs : ∀ q, q ≤ res → pyramid_Resolution.f 1 x0 y0 x1 y1 (n : Int) ((q : Nat) : Int) = some (R q) := by
  intro q hq
  rw [hRq]
  exact res_of hn5 (by omega) hx hy
 obtain ⟨z, hz⟩ : ∃ z : Rt, z = (z0, z1, z2, z3) := ⟨_, rfl⟩
 have hi1 : rect_Intersect.f z0 z1 z2 z3 (R res).1 (R res).2.1 (R res).2.2.1 (R res).2.2.2 = some (irR z (R res)) := by
  rw [← irR_rect z (R res), hz]
 have hi2 : waveletref01_Intersect.f z0 z1 z2 z3 (cd (n - res) x0) (cd (n - res) y0) (cd (n - res) x1) (cd (n - res) y1) = some (irR z (R res)) := by
  rw [← irR_ref z (R res), hz, hRq]
 have hme := margin3 hkk
 by_cases hne : rect_Empty.f (irR z (R res)).1 (irR z (R res)).2.1 (irR z (R res)).2.2.1 (irR z (R res)).2.2.2 = some true
 ·-- nothing is asked for
  obtain ⟨e, he⟩ : ∃ e : Rt, e = (-200, -200, -200, -200) := ⟨_, rfl⟩
  obtain ⟨v, hvv⟩ : ∃ v : Rt, v = (-100, -100, -100, -100) := ⟨_, rfl⟩
  have hve : v = bLL e := by rw [he, hvv]; decide
  have hv2 : v.2.2.1 = -100 := by rw [hvv]
  have he1 : (bHL e).2.2.1 ≤ 0 := by rw [he]; decide
  have he2 : (bLH e).2.2.1 ≤ 0 := by rw [he]; decide
  have he3 : (bHH e).2.2.1 ≤ 0 := by rw [he]; decide
  clear he hvv
  obtain ⟨ns, hns⟩ : ∃ ns : List Rt, ns = List.replicate (3 * n + 1) (0, 0, 0, 0) := ⟨_, rfl⟩
  have hnl : ns.length = 3 * n + 1 := by rw [hns, List.length_replicate]
  have hst : ∀ j r, j < 3 * n + 1 → r.2.2.1 ≤ 0 → Stands ns j r := by
   intro j r h1 h2
   exact ⟨(0, 0, 0, 0), by rw [hns, List.getElem?_replicate, if_pos h1], .inr h2⟩
  have hnd : ∀ W : World, Calls Try.prog 10 #[.agg #[.int .i64 x0, .int .i64 y0, .int .i64 x1, .int .i64 y1], .int .i64 (n : Int), .int .i64 (res : Int), .agg #[.int .i64 z0, .int .i64 z1, .int .i64 z2, .int .i64 z3], .int .i64 kk] W fun e' w' => ∃ g : Nat, e' = .returned (.slice (some ⟨g, 0, none⟩) (3 * n + 1) (3 * n + 1)) ∧ w'.heap[g]? = some (.cells (cellsR ns) 23 (0, 0)) ∧ Below W.heap.size W w' := by
   intro W
   rw [hns]
   exact pyramid_Need.no_ 1 1 n res kk _ x0 y0 x1 y1 z0 z1 z2 z3 R (fun _ => irR z (R res)) R W (rv_of hx hy) ⟨hres, hn5⟩ hme (by omega) hrs hi1 hne
  clear hns
  have hfar : ∀ q, q < res → ∀ x y : Int, cd (n - (q + 1)) x0 ≤ x → x < cd (n - (q + 1)) x1 → cd (n - (q + 1)) y0 ≤ y → y < cd (n - (q + 1)) y1 → v.1 - (reach kk + 1) ≤ x → x < v.2.2.1 + (reach kk + 1) → v.2.1 - (reach kk + 1) ≤ y → y < v.2.2.2 + (reach kk + 1) → (e.1 ≤ x ∧ x < e.2.2.1) ∧ (e.2.1 ≤ y ∧ y < e.2.2.2) := by
   intro q hq x y c1 c2 c3 c4 d1 d2 d3 d4
   exfalso
   rw [hv2] at d2
   have := (cd_le (d := n - (q + 1)) (by omega) hx.1 hx.2.1 hx.2.2).1
   omega
  have hsq : ∀ q, q < res → Stands ns (3 * q + 1) (bHL e) ∧ Stands ns (3 * q + 2) (bLH e) ∧ Stands ns (3 * q + 3) (bHH e) ∧ v = bLL e ∧
    (∀ x y : Int, cd (n - (q + 1)) x0 ≤ x → x < cd (n - (q + 1)) x1 → cd (n - (q + 1)) y0 ≤ y → y < cd (n - (q + 1)) y1 → v.1 - (reach kk + 1) ≤ x → x < v.2.2.1 + (reach kk + 1) → v.2.1 - (reach kk + 1) ≤ y → y < v.2.2.2 + (reach kk + 1) → (e.1 ≤ x ∧ x < e.2.2.1) ∧ (e.2.1 ≤ y ∧ y < e.2.2.2)) :=
   fun q hq => ⟨hst _ _ (by omega) he1, hst _ _ (by omega) he2, hst _ _ (by omega) he3, hve, hfar q hq⟩
  have hs0 : Stands ns 0 v := hst _ _ (by omega) (by rw [hv2]; decide)
  have hwe : waveletref01_Empty.f (irR z (R res)).1 (irR z (R res)).2.1 (irR z (R res)).2.2.1 (irR z (R res)).2.2.2 = some true := by
   rw [rempty_eq] at hne
   rw [wempty]
   exact hne
  have h06 := res06 hx hy hn5 hres
  obtain ⟨k6, hk6⟩ : ∃ k6 : Nat, k6 = n - res + 0 + 2 + 1 := ⟨_, rfl⟩
  rw [← hk6] at h06
  clear hk6 hst hfar he1 he2 he3 hv2 hRv hrs hRq
  generalize irR z (R res) = wn at hwe hi2
  exact TopLocal.core hkk hn5 hres qa qb _ x0 y0 x1 y1 z0 z1 z2 z3 A c D w hr hc hv hlen hbd hsm hkn hwv HQ.out.1 HQ.out.2.1 HQ.out.2.2 ns (fun _ => e) (fun _ => v) wn hnl hnd hs0 hsq h06 hi2 (.inl hwe)
 ·-- what is needed, level by level
  have hne' : rect_Empty.f (irR z (R res)).1 (irR z (R res)).2.1 (irR z (R res)).2.2.1 (irR z (R res)).2.2.2 = some false := by
   rw [rempty_eq] at hne ⊢
   cases h : (decide ((irR z (R res)).2.2.1 ≤ (irR z (R res)).1) || decide ((irR z (R res)).2.2.2 ≤ (irR z (R res)).2.1)) with
   | true => exact absurd (by rw [h]) hne
   | false => rfl
  have hwe : waveletref01_Empty.f (irR z (R res)).1 (irR z (R res)).2.1 (irR z (R res)).2.2.1 (irR z (R res)).2.2.2 = some false := by
   rw [rempty_eq] at hne'
   rw [wempty]
   exact hne'
  obtain ⟨mg, hmg⟩ : ∃ mg, mg = reach kk + 1 := ⟨_, rfl⟩
  obtain ⟨win, hwin⟩ : ∃ win : Nat → Rt, win = fun q => winD mg z R res (res - q) := ⟨_, rfl⟩
  have hwq : ∀ q, win q = winD mg z R res (res - q) := fun q => by rw [hwin]
  have hwv' : ∀ q, VR (win q) := fun q => by rw [hwq]; exact winD_valid (fun q _ => hRv q) _
  obtain ⟨e, he⟩ : ∃ e : Nat → Rt, e = fun q => irR (grow mg (win q)) (R q) := ⟨_, rfl⟩
  have heq : ∀ q, e q = irR (grow mg (win q)) (R q) := fun q => by rw [he]
  have hev : ∀ q, VR (e q) := fun q => by rw [heq]; exact irR_valid (hRv q)
  have hwr : win res = irR z (R res) := by rw [hwq, Nat.sub_self]; rfl
  have hws : ∀ q, q < res → win q = bLL (e (q + 1)) := by
   intro q hq
   rw [hwq, heq, hwq, show res - q = (res - (q + 1)) + 1 by omega]
   show bLL (irR (grow mg (winD mg z R res (res - (q + 1)))) (R (res - (res - (q + 1))))) = _
   rw [show res - (res - (q + 1)) = q + 1 by omega]
  have hl : ((needP n res 0 e).set 0 (win 0)).length = 3 * n + 1 := by rw [List.length_set, needP_len]
  have hst : ∀ j r, 1 ≤ j → j < 3 * n + 1 → needE res 0 e j = r → Stands ((needP n res 0 e).set 0 (win 0)) j r := by
   intro j r h1 h2 h3
   exact ⟨r, by rw [List.getElem?_set_ne (by omega), needP_get h2, h3], .inl rfl⟩
  have h06 := res06 hx hy hn5 hres
  obtain ⟨k6, hk6⟩ : ∃ k6 : Nat, k6 = n - res + 0 + 2 + 1 := ⟨_, rfl⟩
  rw [← hk6] at h06
  have hnd : ∀ W : World, Calls Try.prog 10 #[.agg #[.int .i64 x0, .int .i64 y0, .int .i64 x1, .int .i64 y1], .int .i64 (n : Int), .int .i64 (res : Int), .agg #[.int .i64 z0, .int .i64 z1, .int .i64 z2, .int .i64 z3], .int .i64 kk] W fun e' w' => ∃ g : Nat, e' = .returned (.slice (some ⟨g, 0, none⟩) (3 * n + 1) (3 * n + 1)) ∧ w'.heap[g]? = some (.cells (cellsR ((needP n res 0 e).set 0 (win 0))) 23 (0, 0)) ∧ Below W.heap.size W w' := by
   intro W
   refine pyramid_Need.good 1 1 n res kk mg x0 y0 x1 y1 z0 z1 z2 z3 R win e W (rv_of hx hy) ⟨hres, hn5⟩ (by rw [hmg]; exact hme) (by omega) hrs (by rw [hwr]; exact hi1) (by rw [hwr]; exact hne') (fun q hq => ⟨?_, (hev _).1, (hev _).2, hws q hq⟩)
   obtain ⟨⟨a1, a2, a3⟩, a4, a5, a6⟩ := hwv' (q + 1)
   rw [wid (n := (win (q + 1)).1 - mg) (by omega) (by omega), wid (n := (win (q + 1)).2.1 - mg) (by omega) (by omega), wid (n := (win (q + 1)).2.2.1 + mg) (by omega) (by omega), wid (n := (win (q + 1)).2.2.2 + mg) (by omega) (by omega), heq, ← irR_rect]
   rfl
  have hs0 : Stands ((needP n res 0 e).set 0 (win 0)) 0 (win 0) := ⟨win 0, by rw [List.getElem?_set_self (by rw [needP_len]; omega)], .inl rfl⟩
  have hnear : ∀ q, q < res → ∀ x y : Int, cd (n - (q + 1)) x0 ≤ x → x < cd (n - (q + 1)) x1 → cd (n - (q + 1)) y0 ≤ y → y < cd (n - (q + 1)) y1 → (win (q + 1)).1 - (reach kk + 1) ≤ x → x < (win (q + 1)).2.2.1 + (reach kk + 1) → (win (q + 1)).2.1 - (reach kk + 1) ≤ y → y < (win (q + 1)).2.2.2 + (reach kk + 1) → ((e (q + 1)).1 ≤ x ∧ x < (e (q + 1)).2.2.1) ∧ ((e (q + 1)).2.1 ≤ y ∧ y < (e (q + 1)).2.2.2) := by
   intro q hq x y c1 c2 c3 c4 d1 d2 d3 d4
   rw [heq]
   have hRe := hRq (q + 1)
   refine irR_mem (by rw [hRe]; exact c1) (by rw [hRe]; exact c2) (by rw [hRe]; exact c3) (by rw [hRe]; exact c4) ?_ ?_ ?_ ?_
   ·rw [hmg]; exact d1
   ·rw [hmg]; exact d2
   ·rw [hmg]; exact d3
   ·rw [hmg]; exact d4
  have hsq : ∀ q, q < res → Stands ((needP n res 0 e).set 0 (win 0)) (3 * q + 1) (bHL (e (q + 1))) ∧ Stands ((needP n res 0 e).set 0 (win 0)) (3 * q + 2) (bLH (e (q + 1))) ∧ Stands ((needP n res 0 e).set 0 (win 0)) (3 * q + 3) (bHH (e (q + 1))) ∧ win q = bLL (e (q + 1)) ∧
    (∀ x y : Int, cd (n - (q + 1)) x0 ≤ x → x < cd (n - (q + 1)) x1 → cd (n - (q + 1)) y0 ≤ y → y < cd (n - (q + 1)) y1 → (win (q + 1)).1 - (reach kk + 1) ≤ x → x < (win (q + 1)).2.2.1 + (reach kk + 1) → (win (q + 1)).2.1 - (reach kk + 1) ≤ y → y < (win (q + 1)).2.2.2 + (reach kk + 1) → ((e (q + 1)).1 ≤ x ∧ x < (e (q + 1)).2.2.1) ∧ ((e (q + 1)).2.1 ≤ y ∧ y < (e (q + 1)).2.2.2)) := by
   intro q hq
   refine ⟨hst _ _ (by omega) (by omega) ?_, hst _ _ (by omega) (by omega) ?_, hst _ _ (by omega) (by omega) ?_, hws q hq, hnear q hq⟩
   ·unfold needE
    rw [if_pos (by omega), if_pos (by omega), show (3 * q + 1 + 2) / 3 = q + 1 by omega]
   ·unfold needE
    rw [if_pos (by omega), if_neg (by omega), if_pos (by omega), show (3 * q + 2 + 2) / 3 = q + 1 by omega]
   ·unfold needE
    rw [if_pos (by omega), if_neg (by omega), if_neg (by omega), show (3 * q + 3 + 2) / 3 = q + 1 by omega]
  have ham : Amid (cd (n - res) x0) (cd (n - res) y0) (cd (n - res) x1) (cd (n - res) y1) (irR z (R res)) := by
   have := irR_amid hwe
   rw [hRq] at this
   rw [hRq]
   exact this
  clear hk6 hst hnear hne hne' hrs hRq hwq hev hwv' heq hRv hws hi1
  generalize irR z (R res) = wn at hi2 hwe hwr ham
  generalize (needP n res 0 e).set 0 (win 0) = ns at hnd hs0 hsq hl
  exact TopLocal.core hkk hn5 hres qa qb _ x0 y0 x1 y1 z0 z1 z2 z3 A c D w hr hc hv hlen hbd hsm hkn hwv HQ.out.1 HQ.out.2.1 HQ.out.2.2 ns e win wn hl hnd hs0 hsq h06 hi2 (.inr ⟨hwe, hwr, ham⟩)
end Go.Proofs.Ytcnpekpgghppnaa.Q
namespace Go.Proofs.Ytcnpekpgghppnaa.Q
open Go.RowKit Go.Proofs.YtcnpekpgghppnaaW.PrintWords Go.Proofs.YtcnpekpgghppnaaW.PrintLast Go.Proofs.YtcnpekpgghppnaaW.PrintMore
set_option linter.unusedVariables false
/-- What the law answers: true, where its two bytes are bytes. -/
def wavelettop_TopLocal.f (a0_0 : Int) (a0_1 : Int) (a0_2 : Int) (a0_3 : Int) (l0_4 : List Int) (a1_0 : Int) (a1_1 : Int) (a2 : Int) (a3_0 : Int) (a3_1 : Int) (a3_2 : Int) (a3_3 : Int) : Option Bool := if (0 ≤ a1_0 ∧ a1_0 ≤ 255) ∧ (0 ≤ a1_1 ∧ a1_1 ≤ 255) then some true else none
theorem wavelettop_TopLocal.calls (a0_0 : Int) (a0_1 : Int) (a0_2 : Int) (a0_3 : Int) (A0_4 : Option Addr) (c0_4 : Nat) (l0_4 : List Int) (a1_0 : Int) (a1_1 : Int) (a2 : Int) (a3_0 : Int) (a3_1 : Int) (a3_2 : Int) (a3_3 : Int) (r : Bool) (hr_ : r = true) (w : World) (hr0_4 : Kd.C (Kd.int .i64) w A0_4 l0_4.length l0_4) (hc0_4 : l0_4.length ≤ c0_4) (h : wavelettop_TopLocal.f a0_0 a0_1 a0_2 a0_3 l0_4 a1_0 a1_1 a2 a3_0 a3_1 a3_2 a3_3 = some r) :
  Calls Try.prog 3 #[.agg #[.int .i64 a0_0, .int .i64 a0_1, .int .i64 a0_2, .int .i64 a0_3, .slice A0_4 l0_4.length c0_4], .agg #[.int .u8 a1_0, .int .u8 a1_1], .int .i64 a2, .agg #[.int .i64 a3_0, .int .i64 a3_1, .int .i64 a3_2, .int .i64 a3_3]] w fun e w' => e = .returned (.bool r) ∧ Below w.heap.size w w' := by
 unfold wavelettop_TopLocal.f at h
 split at h
 ·rename_i hb
  subst hr_
  exact TopLocal.true_ a1_0 a1_1 a2 a0_0 a0_1 a0_2 a0_3 a3_0 a3_1 a3_2 a3_3 A0_4 c0_4 l0_4 w hr0_4 hc0_4 hb.1 hb.2
 ·cases h
end Go.Proofs.Ytcnpekpgghppnaa.Q
namespace Go.Proofs.Ytcnpekpgghppnaa.Pure
set_option linter.unusedVariables false
open Go.RowKit Go.Proofs.Ytcnpekpgghppnaa.Q Go.Proofs.YtcnpekpgghppnaaW.PrintWords
theorem TopLocal (a0_0 : Int) (a0_1 : Int) (a0_2 : Int) (a0_3 : Int) (l0_4 : List (Int)) (a1_0 : Int) (a1_1 : Int) (a2 : Int) (a3_0 : Int) (a3_1 : Int) (a3_2 : Int) (a3_3 : Int) (w0_0 : (Lit.int .i64 a0_0).wf = true) (w0_1 : (Lit.int .i64 a0_1).wf = true) (w0_2 : (Lit.int .i64 a0_2).wf = true) (w0_3 : (Lit.int .i64 a0_3).wf = true) (y0_4 : l0_4.length * 8 ≤ 140737488351232) (w0_4 : ∀ x ∈ l0_4, (Lit.int .i64 x).wf = true) (w1_0 : (Lit.int .u8 a1_0).wf = true) (w1_1 : (Lit.int .u8 a1_1).wf = true) (w2 : (Lit.int .i64 a2).wf = true) (w3_0 : (Lit.int .i64 a3_0).wf = true) (w3_1 : (Lit.int .i64 a3_1).wf = true) (w3_2 : (Lit.int .i64 a3_2).wf = true) (w3_3 : (Lit.int .i64 a3_3).wf = true) : wavelettop_TopLocal.f a0_0 a0_1 a0_2 a0_3 l0_4 a1_0 a1_1 a2 a3_0 a3_1 a3_2 a3_3 = some true := by
  have h0 : 0 ≤ a1_0 ∧ a1_0 ≤ 255 := by
    simp [Lit.wf, IntKind.min, IntKind.max, IntKind.bits, IntKind.signed] at w1_0
    omega
  have h1 : 0 ≤ a1_1 ∧ a1_1 ≤ 255 := by
    simp [Lit.wf, IntKind.min, IntKind.max, IntKind.bits, IntKind.signed] at w1_1
    omega
  unfold wavelettop_TopLocal.f
  rw [if_pos ⟨h0, h1⟩]
end Go.Proofs.Ytcnpekpgghppnaa.Pure
namespace Go.Proofs.Ytcnpekpgghppnaa.Open
open Go.RowKit Go.Proofs.YtcnpekpgghppnaaW.PrintWords
def Light {H : Type} (P : Program) (t : TypeId) (d : DataW H) : Prop := ∀ n ∈ d.weights P t, n ≤ 140737488351232
structure Opens {α : Type} (P : Program) (t : TypeId) (d : Kd α) (ok : α → Prop) : Prop where
  size : P.cellsOf t = d.sz
  opens : ∀ {H : Type} {enc : TypeId × Value → H} {w : World} {base : Nat} {spare : Nat → Bool} {held : Bool} {fuel : Nat} {cs : List Value} {x : DataW H × List MemPlace},
    DataW.trod enc P w base spare held fuel t cs = some x → Light P t x.1 → ∃ v, d.K w v cs ∧ ok v
theorem opens_int {P : Program} {t : TypeId} {k : IntKind} (ht : P.underlying t = some (.int k)) (hc : P.cellsOf t = 1) : Opens P t (Kd.int k) (fun n => (Lit.int k n).wf = true) :=
  ⟨hc, fun h _ => by
    obtain ⟨n, rfl, _, hw⟩ := DataW.trod_int ht h
    exact ⟨n, rfl, hw⟩⟩
theorem list_of_lt {α : Type} {p : Nat → α → Prop} : ∀ (n : Nat), (∀ i, i < n → ∃ v, p i v) → ∃ l : List α, l.length = n ∧ ∀ i v, l[i]? = some v → p i v
  | 0, _ => ⟨[], rfl, fun i v h => by simp at h⟩
  | n + 1, h => by
    obtain ⟨l, hl, hp⟩ := list_of_lt n (fun i hi => h i (by omega))
    obtain ⟨v, hv⟩ := h n (by omega)
    refine ⟨l ++ [v], by simp [hl], fun i u hu => ?_⟩
    rcases Nat.lt_or_ge i n with hi | hi
    · rw [List.getElem?_append_left (by omega)] at hu
      exact hp i u hu
    · rw [List.getElem?_append_right (by omega), hl] at hu
      have hi0 : i - n = 0 := by
        rcases Nat.eq_zero_or_pos (i - n) with h0 | h0
        · exact h0
        · rw [List.getElem?_eq_none (by simp; omega)] at hu
          cases hu
      rw [hi0] at hu
      have : i = n := by omega
      subst this
      have e : v = u := by simpa using hu
      subst e
      exact hv
theorem weightsAll_mem {H : Type} {P : Program} {e : TypeId} : ∀ {ds : List (DataW H)} {j : Nat} {d : DataW H}, ds[j]? = some d → ∀ n ∈ d.weights P e, n ∈ DataW.weightsAll P e ds
  | d0 :: ds, 0, d, hd, n, hn => by
    simp only [List.getElem?_cons_zero, Option.some.injEq] at hd
    subst hd
    simp only [DataW.weightsAll, List.mem_append]
    exact Or.inl hn
  | d0 :: ds, j + 1, d, hd, n, hn => by
    simp only [List.getElem?_cons_succ] at hd
    simp only [DataW.weightsAll, List.mem_append]
    exact Or.inr (weightsAll_mem hd n hn)
  | [], _, _, hd, _, _ => by simp at hd
theorem opens_slice {α : Type} {P : Program} {t e : TypeId} {d : Kd α} {ok : α → Prop} {B : Nat} (ht : P.underlying t = some (.slice e)) (hc : P.cellsOf t = 1) (hB : P.bytesOf e = B) (he : Opens P e d ok) :
    Opens P t (Kd.slice e d) (fun l => l.length * B ≤ 140737488351232 ∧ ∀ x ∈ l, ok x) :=
  ⟨hc, by
    intro H enc w base spare held fuel cs x h hl
    rcases DataW.trod_slice ht h with ⟨rfl, rfl⟩ | ⟨a, len, cap, elems, rest, n, _, rfl, rfl, hb, hlc, hm, hlen, hel, _, _⟩
    · exact ⟨[], ⟨none, 0, rfl, Nat.le_refl _, rfl, by simp, fun h0 => by simp at h0⟩, by simp, by simp⟩
    · have key : ∀ i, i < len → ∃ v : α, (∃ cs', w.cells? base (a.add (i * P.cellsOf e)) (P.cellsOf e) = some cs' ∧ d.K w v cs') ∧ ok v := by
        intro i hi
        have h1 := hel i hi
        rw [List.getElem?_eq_getElem (by omega)] at h1
        obtain ⟨cs', h2, h3⟩ := Option.bind_eq_some_iff.1 h1
        obtain ⟨v, hv, ho⟩ := he.opens h3 (fun m hm2 => hl m (by
          simp only [DataW.weights, ht, List.mem_cons, List.mem_append]
          exact Or.inr (Or.inl (weightsAll_mem (j := i) (by simp [List.getElem?_eq_getElem (show i < elems.length by omega)]) m hm2))))
        exact ⟨v, ⟨cs', h2, hv⟩, ho⟩
      obtain ⟨l, hll, hp⟩ := list_of_lt len key
      have hw := hl _ (by
        simp only [DataW.weights, ht]
        exact List.mem_cons_self)
      rw [hB] at hw
      refine ⟨l, ⟨some a, cap, by rw [hll], by omega, rfl, by unfold maxLen at hm; omega, fun _ => ⟨a, rfl, ?_⟩⟩, ?_, ?_⟩
      · intro j p hj
        obtain ⟨⟨cs', h2, hv⟩, _⟩ := hp j p hj
        obtain ⟨_, h4, h5⟩ := World.cells?_some h2
        refine ⟨cs', d.K_len hv, hv, fun i u hu => ?_⟩
        have hi : i < P.cellsOf e := by
          rw [← h4]
          exact (List.getElem?_eq_some_iff.1 hu).1
        rw [← hu, ← h5 i hi, he.size]
        congr 1
        simp only [Addr.add]
        split <;> split <;> split <;> first | rfl | omega | (simp; omega) | simp_all
      · have h6 : len ≤ (elems.map (·.1)).length + (rest.map (·.1)).length := by simp; omega
        rw [hll]
        exact Nat.le_trans (Nat.mul_le_mul_right B h6) hw
      · intro x hx
        obtain ⟨j, hj⟩ := List.mem_iff_getElem?.1 hx
        exact (hp j x hj).2⟩
def Parts {α : Type} (P : Program) (fs : List Field) (off total : Nat) (d : Kd α) (ok : α → Prop) : Prop :=
  ∀ {H : Type} {enc : TypeId × Value → H} {w : World} {base : Nat} {spare : Nat → Bool} {held : Bool} {n : Nat} {cs : List Value} (xs : List (DataW H × List MemPlace)), cs.length = total → xs.length = fs.length →
    (∀ (i : Nat) (f : Field), fs[i]? = some f → DataW.trod enc P w base spare held n f.type ((cs.drop f.offset).take (P.cellsOf f.type)) = xs[i]?) →
    (∀ (i : Nat) (f : Field) y, fs[i]? = some f → xs[i]? = some y → Light P f.type y.1) → ∃ v, d.K w v (cs.drop off) ∧ ok v
theorem parts_one {α : Type} {P : Program} {f : Field} {off total : Nat} {d : Kd α} {ok : α → Prop} (he : Opens P f.type d ok) (ho : f.offset = off) (hs : off + d.sz = total) : Parts P [f] off total d ok := by
  intro H enc w base spare held n cs xs hl hx h hw
  match xs, hx with
  | [y], _ =>
    have h0 := h 0 f rfl
    obtain ⟨v, hv, hk⟩ := he.opens h0 (hw 0 f y rfl rfl)
    refine ⟨v, ?_, hk⟩
    rw [ho, List.take_of_length_le (by rw [List.length_drop, he.size]; omega)] at hv
    exact hv
theorem parts_cons {α β : Type} {P : Program} {f : Field} {fs : List Field} {off total : Nat} {d : Kd α} {d2 : Kd β} {ok : α → Prop} {ok2 : β → Prop} (he : Opens P f.type d ok) (ho : f.offset = off) (h2 : Parts P fs (off + d.sz) total d2 ok2) :
    Parts P (f :: fs) off total (Kd.pair d d2) (fun p => ok p.1 ∧ ok2 p.2) := by
  intro H enc w base spare held n cs xs hl hx h hw
  match xs, hx with
  | y :: ys, hy =>
    have h0 := h 0 f rfl
    obtain ⟨v, hv, hk⟩ := he.opens h0 (hw 0 f y rfl rfl)
    obtain ⟨u, hu, hk2⟩ := h2 ys hl (by simpa using hy) (fun i g hg => h (i + 1) g (by simpa using hg)) (fun i g z hg hz => hw (i + 1) g z (by simpa using hg) (by simpa using hz))
    refine ⟨(v, u), ⟨_, _, ?_, hv, hu⟩, hk, hk2⟩
    rw [ho, he.size, ← List.drop_drop]
    exact (List.take_append_drop d.sz (cs.drop off)).symm
theorem opens_struct {α β : Type} {P : Program} {t : TypeId} {fs : Array Field} {d : Kd α} {ok : α → Prop} (ht : P.underlying t = some (.struct fs)) (hc : P.cellsOf t = d.sz) (h2 : Parts P fs.toList 0 (P.cellsOf t) d ok) (f : β → α) (g : α → β) (hfg : ∀ v, f (g v) = v) :
    Opens P t (Kd.iso d f) (fun x => ok (f x)) :=
  ⟨hc, by
    intro H enc w base spare held fuel cs x h hl
    obtain ⟨xs, n, _, rfl, hcl, hxl, hf⟩ := DataW.trod_struct ht h
    obtain ⟨v, hv, hk⟩ := h2 (cs := cs) xs hcl (by simpa using hxl) (fun i fd hi => hf i fd (by simpa using hi)) (fun i fd y hi hy m hm => hl m (by
      simp only [DataW.weights, ht]
      exact DataW.weights_mem_each (j := i) (by rw [List.getElem?_map, hi]; rfl) (by rw [List.getElem?_map, hy]; rfl) m hm))
    refine ⟨g v, ?_, ?_⟩
    · show d.K w (f (g v)) cs
      rw [hfg]
      simpa using hv
    · show ok (f (g v))
      rw [hfg]
      exact hk⟩
theorem light_of {H : Type} {P : Program} {ts : List TypeId} {ds : List (DataW H)} (hsz : (DataW.weightsEach P ts ds).all (· ≤ reachBytes) = true) {j : Nat} {t : TypeId} {d : DataW H} (ht : ts[j]? = some t) (hd : ds[j]? = some d) : Light P t d := by
  intro n hn
  have h1 := List.all_eq_true.1 hsz n (DataW.weights_mem_each ht hd n hn)
  have h2 : n ≤ reachBytes := by simpa using h1
  exact Nat.le_trans h2 (by decide)
def fld (t : TypeId) (o : Nat) : Field := { name := "", type := t, offset := o, byteOffset := 0, embedded := false, tag := "", pkgPath := "" }
theorem opens_array {α β : Type} {P : Program} {t e : TypeId} {n sz : Nat} {d : Kd α} {ok : α → Prop} (fs : List Field) (ht : P.underlying t = some (.array n e)) (hs : P.cellsOf e = sz) (hc : P.cellsOf t = d.sz) (hfs : fs = (List.range n).map fun i => fld e (i * sz)) (h2 : Parts P fs 0 (P.cellsOf t) d ok) (f : β → α) (g : α → β) (hfg : ∀ v, f (g v) = v) :
    Opens P t (Kd.iso d f) (fun x => ok (f x)) :=
  ⟨hc, by
    intro H enc w base spare held fuel cs x h hl
    obtain ⟨xs, m, _, rfl, hcl, hxl, hx⟩ := DataW.trod_array ht h
    have hget : ∀ (i : Nat) (fd : Field), fs[i]? = some fd → i < n ∧ fd = fld e (i * sz) := by
      intro i fd hi
      rw [hfs, List.getElem?_map] at hi
      rcases Nat.lt_or_ge i n with hlt | hge
      · rw [List.getElem?_range hlt] at hi
        exact ⟨hlt, (Option.some.inj hi).symm⟩
      · rw [List.getElem?_eq_none (by simpa using hge)] at hi
        cases hi
    obtain ⟨v, hv, hk⟩ := h2 (cs := cs) xs hcl (by rw [hfs]; simpa using hxl) (fun i fd hi => by
      obtain ⟨hlt, rfl⟩ := hget i fd hi
      have := hx i hlt
      rw [hs] at this
      show DataW.trod enc P w base spare held m e ((cs.drop (i * sz)).take (P.cellsOf e)) = xs[i]?
      rw [hs]
      exact this) (fun i fd y hi hy k hk => hl k (by
      obtain ⟨hlt, rfl⟩ := hget i fd hi
      simp only [DataW.weights, ht]
      exact weightsAll_mem (j := i) (by rw [List.getElem?_map, hy]; rfl) k hk))
    refine ⟨g v, ?_, ?_⟩
    · show d.K w (f (g v)) cs
      rw [hfg]
      simpa using hv
    · show ok (f (g v))
      rw [hfg]
      exact hk⟩
theorem okWide_array {P : Program} {w : World} {r : Reach} {base : Nat} {t e : TypeId} {n : Nat} {v : Value} (ht : P.underlying t = some (.array n e)) (h : Value.okWide P w r base t v) : ∃ cs, v = .agg cs ∧ cs.size = P.cellsOf t := by
  simp only [Value.okWide, ht] at h
  obtain ⟨cs, h1, h2, _⟩ := h
  exact ⟨cs, h1, h2⟩
end Go.Proofs.Ytcnpekpgghppnaa.Open
namespace Go.Proofs.Ytcnpekpgghppnaa.topLocal
open Go.ChangeShapes Go.WideShapes Go.ChangeAt Go.RowKit Go.Proofs.Ytcnpekpgghppnaa.Q Go.Proofs.YtcnpekpgghppnaaW.PrintWords Go.Proofs.Ytcnpekpgghppnaa.Open
open Go.ChangeMaps (open_string shut_string)
set_option linter.unusedVariables false
theorem own : ownKnob Try.prog.godebug = none := by kernel_rfl
theorem laidOut : laidOutB Try.prog = true := by kernel_rfl
set_option maxRecDepth 100000 in
theorem lifted (os : Os) (started : os.Started) (H : Type) (enc : TypeId × Value → H) :
    ReturnsInHanded {} Try.checked os 3 .any (Rows.topLocalSpec.pre6 enc Try.prog Try.f3 Rows.topLocalRow.domain false) (Rows.topLocalSpec.post enc Try.prog Try.f3 false true false false) := by
  refine returnsInHanded_of_change_sized (C := Try.checked) own started (by kernel_rfl) Try.func3
    (ChangeSpec.witness6 (enc := enc) (C := Try.checked) false ⟨#[], #[.agg #[.int .i64 0, .int .i64 0, .int .i64 0, .int .i64 0, .slice none 0 0], .agg #[.int .u8 0, .int .u8 0], .int .i64 0, .agg #[.int .i64 0, .int .i64 0, .int .i64 0, .int .i64 0]], []⟩ 8 (by kernel_rfl) (by kernel_rfl) (by kernel_rfl) (by kernel_rfl)) ?_
  intro W base args ds gs before hval0 hW hcnd hsz0 _
  have hsz : (DataW.weightsEach Try.prog (Try.f3.params.toList ++ Rows.topLocalSpec.plain.varTypes Try.prog) (ds ++ gs)).all (· ≤ reachBytes) = true := hsz0
  have hval : ∀ (j : Nat) t v, Try.f3.params[j]? = some t → args[j]? = some v → Value.okWide Try.prog W .any base t v := hval0
  have hW' := hW
  obtain ⟨p, q, hA0, hV, rfl, hfz, hnd⟩ := hW
  have hA : DataW.TrodAll enc Try.prog W 0 (fun _ => true) true Try.f3.params.toList args.toList ds p := hA0
  rw [Try.params3] at hA hval hsz
  obtain ⟨v0, vs0, d0, ds0, p0, q0, hargs, rfl, rfl, h0, r0⟩ := trodAll_cons hA
  obtain ⟨v1, vs1, d1, ds1, p1, q1, rfl, rfl, rfl, h1, r1⟩ := trodAll_cons r0
  obtain ⟨v2, vs2, d2, ds2, p2, q2, rfl, rfl, rfl, h2, r2⟩ := trodAll_cons r1
  obtain ⟨v3, vs3, d3, ds3, p3, q3, rfl, rfl, rfl, h3, r3⟩ := trodAll_cons r2
  obtain ⟨rfl, rfl, rfl⟩ := trodAll_nil r3
  obtain rfl : args = #[v0, v1, v2, v3] := by cases args; simp_all
  obtain ⟨rfl, rfl⟩ := trodVars_none hV
  have k0 := h0
  have lt0 : ∀ x ∈ p0, x.block < W.heap.size := by obtain ⟨m, hm⟩ := k0; exact DataW.trod_lt m _ _ _ hm
  have li0 := light_of hsz (j := 0) (t := 26) rfl rfl
  obtain ⟨fu0, hf0⟩ := h0
  obtain ⟨v0_, hK0, hok0⟩ := (opens_struct Try.underlying26 (by kernel_rfl) (parts_cons (opens_struct Try.underlying23 (by kernel_rfl) (parts_cons (opens_int Try.underlying3 (by kernel_rfl)) rfl (parts_cons (opens_int Try.underlying3 (by kernel_rfl)) rfl (parts_cons (opens_int Try.underlying3 (by kernel_rfl)) rfl (parts_one (opens_int Try.underlying3 (by kernel_rfl)) rfl (by kernel_rfl))))) (fun v => v) (fun v => v) (fun _ => rfl)) rfl (parts_one (opens_slice (B := 8) Try.underlying24 (by kernel_rfl) (by kernel_rfl) (opens_int Try.underlying3 (by kernel_rfl))) rfl (by kernel_rfl))) (fun v => v) (fun v => v) (fun _ => rfl)).opens hf0 li0
  obtain ⟨cs0, rfl, _⟩ := okWide_struct Try.underlying26 (hval 0 26 v0 rfl rfl)
  obtain ⟨_, _, hcs0, ⟨_, _, rfl, rfl, ⟨_, _, rfl, rfl, ⟨_, _, rfl, rfl, rfl⟩⟩⟩, ⟨A0_4, c0_4, rfl, hl0_4, hC0_4⟩⟩ := hK0
  obtain rfl : cs0 = #[.int .i64 v0_.1.1, .int .i64 v0_.1.2.1, .int .i64 v0_.1.2.2.1, .int .i64 v0_.1.2.2.2, .slice A0_4 v0_.2.length c0_4] := by cases cs0; simpa [Value.cells] using hcs0
  clear hcs0
  obtain ⟨⟨w0_0, w0_1, w0_2, w0_3⟩, ⟨y0_4, w0_4⟩⟩ := hok0
  have k1 := h1
  have lt1 : ∀ x ∈ p1, x.block < W.heap.size := by obtain ⟨m, hm⟩ := k1; exact DataW.trod_lt m _ _ _ hm
  have li1 := light_of hsz (j := 1) (t := 27) rfl rfl
  obtain ⟨fu1, hf1⟩ := h1
  obtain ⟨v1_, hK1, hok1⟩ := (opens_array (sz := 1) [fld 5 0, fld 5 1] Try.underlying27 (by kernel_rfl) (by kernel_rfl) rfl (parts_cons (opens_int Try.underlying5 (by kernel_rfl)) rfl (parts_one (opens_int Try.underlying5 (by kernel_rfl)) rfl (by kernel_rfl))) (fun v => v) (fun v => v) (fun _ => rfl)).opens hf1 li1
  obtain ⟨cs1, rfl, _⟩ := okWide_array Try.underlying27 (hval 1 27 v1 rfl rfl)
  obtain ⟨_, _, hcs1, rfl, rfl⟩ := hK1
  obtain rfl : cs1 = #[.int .u8 v1_.1, .int .u8 v1_.2] := by cases cs1; simpa [Value.cells] using hcs1
  clear hcs1
  obtain ⟨w1_0, w1_1⟩ := hok1
  have k2 := h2
  have lt2 : ∀ x ∈ p2, x.block < W.heap.size := by obtain ⟨m, hm⟩ := k2; exact DataW.trod_lt m _ _ _ hm
  have li2 := light_of hsz (j := 2) (t := 28) rfl rfl
  obtain ⟨fu2, hf2⟩ := h2
  obtain ⟨v2_, hK2, hok2⟩ := (opens_int Try.underlying28 (by kernel_rfl)).opens hf2 li2
  obtain ⟨a2, rfl⟩ := okWide_int Try.underlying28 (hval 2 28 v2 rfl rfl)
  obtain rfl : a2 = v2_ := by have hcs : [Value.int .i64 a2] = [Value.int .i64 v2_] := hK2; simpa using hcs
  have w2 := hok2
  have k3 := h3
  have lt3 : ∀ x ∈ p3, x.block < W.heap.size := by obtain ⟨m, hm⟩ := k3; exact DataW.trod_lt m _ _ _ hm
  have li3 := light_of hsz (j := 3) (t := 23) rfl rfl
  obtain ⟨fu3, hf3⟩ := h3
  obtain ⟨v3_, hK3, hok3⟩ := (opens_struct Try.underlying23 (by kernel_rfl) (parts_cons (opens_int Try.underlying3 (by kernel_rfl)) rfl (parts_cons (opens_int Try.underlying3 (by kernel_rfl)) rfl (parts_cons (opens_int Try.underlying3 (by kernel_rfl)) rfl (parts_one (opens_int Try.underlying3 (by kernel_rfl)) rfl (by kernel_rfl))))) (fun v => v) (fun v => v) (fun _ => rfl)).opens hf3 li3
  obtain ⟨cs3, rfl, _⟩ := okWide_struct Try.underlying23 (hval 3 23 v3 rfl rfl)
  obtain ⟨_, _, hcs3, rfl, ⟨_, _, rfl, rfl, ⟨_, _, rfl, rfl, rfl⟩⟩⟩ := hK3
  obtain rfl : cs3 = #[.int .i64 v3_.1, .int .i64 v3_.2.1, .int .i64 v3_.2.2.1, .int .i64 v3_.2.2.2] := by cases cs3; simpa [Value.cells] using hcs3
  clear hcs3
  obtain ⟨w3_0, w3_1, w3_2, w3_3⟩ := hok3
  clear hA0 hval0 hsz0 hsz
  have hp := Pure.TopLocal (v0_.1.1) (v0_.1.2.1) (v0_.1.2.2.1) (v0_.1.2.2.2) (v0_.2) (v1_.1) (v1_.2) a2 (v3_.1) (v3_.2.1) (v3_.2.2.1) (v3_.2.2.2) w0_0 w0_1 w0_2 w0_3 y0_4 w0_4 w1_0 w1_1 w2 w3_0 w3_1 w3_2 w3_3
  refine (wavelettop_TopLocal.calls (v0_.1.1) (v0_.1.2.1) (v0_.1.2.2.1) (v0_.1.2.2.2) _ _ (v0_.2) (v1_.1) (v1_.2) a2 (v3_.1) (v3_.2.1) (v3_.2.2.1) (v3_.2.2.2) true rfl W hC0_4 hl0_4 hp).mono fun e W' he_ => ?_
  obtain ⟨he, bel⟩ := he_
  subst he
  exact ⟨_, rfl, _, _, _, [], _, [], hW', trodAll_mk1 (shut_bool Try.underlying4 _), (trodAll_cons_mk (Below.trod laidOut (by kernel_rfl) (of_decide_eq_true (by kernel_rfl)) k0 bel lt0) (trodAll_cons_mk (Below.trod laidOut (by kernel_rfl) (of_decide_eq_true (by kernel_rfl)) k1 bel lt1) (trodAll_cons_mk (Below.trod laidOut (by kernel_rfl) (of_decide_eq_true (by kernel_rfl)) k2 bel lt2) (trodAll_cons_mk (Below.trod laidOut (by kernel_rfl) (of_decide_eq_true (by kernel_rfl)) k3 bel lt3) trodAll_mk0)))), rfl, bel.frame _, fun h => by cases h⟩
theorem over : Rows.topLocalRow.holds Try.pinned (OpenSpec.ofChange Rows.topLocalSpec) :=
  OpenClaim.holds_of_wide 3 Try.f3 rfl rfl rfl rfl rfl rfl rfl ⟨rfl, rfl, rfl, rfl, rfl⟩ rfl rfl rfl rfl rfl (by kernel_rfl) Try.func3 (by kernel_rfl)
    (of_decide_eq_true (by kernel_rfl)) (by unfold Func.isWrapper; first | (rw [if_pos (by decide +kernel)]; kernel_rfl) | (rw [if_neg (by decide +kernel)]; exact ⟨rfl, rfl⟩))
    (fun os started H enc _ => lifted os started H enc)
theorem proved : Rows.TopLocalSaid := over
end Go.Proofs.Ytcnpekpgghppnaa.topLocal
namespace Go.Proofs.Ytcnpekpgghppnaa
/-- The row, under a short name, for the claim. -/
theorem topLocal_holds : Rows.TopLocalSaid := topLocal.proved
#print axioms topLocal_holds
end Go.Proofs.Ytcnpekpgghppnaa
