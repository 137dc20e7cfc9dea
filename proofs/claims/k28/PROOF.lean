import PyProof.Rows.All
import Wide.All
import OpenK.AllK
import Wide.FinOn
import KE.KOpsOwn
import KE.KOwnIter
import PyProof.InstNe
import HandS.ForMost
import HandS.More
import HandS.Codes
import HandS.IsInst
import HandS.TupAny
import HandS.Property
import HandS.SortInts
import HandS.Conv
import HandS.Style
import HandS.IterNext
import HandS.IterVal
import HandS.Evl
import PySem.Challenge.RW_pupilpairs_k28_whole_rounds_add_up
section
namespace Pp
/-! Plain maths: calls, the places they bring to, what undoes them. -/
/-- a call -/
inductive Cl where
  | all (k : Int) | up (f k : Int) | swap (f g : Int) | wheel (f g k : Int) | about | front (f g : Int)
  | halve | pair | others | fill
  deriving DecidableEq

abbrev Pl := Int × Int

namespace Cl
/-- a call for a line of w files -/
def Ok (w : Int) : Cl → Prop
  | .all k => k ≠ 0
  | .up f k => (0 ≤ f ∧ f < w) ∧ k ≠ 0
  | .swap f g => (0 ≤ f ∧ f < w) ∧ (0 ≤ g ∧ g < w) ∧ f ≠ g
  | .wheel f g k => (0 ≤ f ∧ f < w) ∧ (0 ≤ g ∧ g < w) ∧ f ≠ g ∧ k ≠ 0
  | .front f g => (0 ≤ f ∧ f < w) ∧ (0 ≤ g ∧ g < w) ∧ f ≠ g
  | _ => True
/-- the call that undoes it -/
def inv : Cl → Cl
  | .all k => .all (-k)
  | .up f k => .up f (-k)
  | .wheel f g k => .wheel f g (-k)
  | .halve => .pair | .pair => .halve | .others => .fill | .fill => .others
  | c => c
theorem inv_inv (c : Cl) : c.inv.inv = c := by cases c <;> simp [inv]
theorem Ok.inv {w : Int} {c : Cl} (h : c.Ok w) : c.inv.Ok w := by
  cases c <;> simp [Ok, Cl.inv] at h ⊢ <;> omega
def wh (d f g k : Int) (p : Pl) : Pl :=
  if p.2 = f ∨ p.2 = g then
    (if ((if p.2 = f then d - 1 - p.1 else d + p.1) + k) % (2 * d) < d then (d - 1 - ((if p.2 = f then d - 1 - p.1 else d + p.1) + k) % (2 * d), f)
     else (((if p.2 = f then d - 1 - p.1 else d + p.1) + k) % (2 * d) - d, g))
  else p
/-- where a call brings to -/
def mv (w d : Int) (c : Cl) (p : Pl) : Pl :=
  match c with
  | .all k => ((p.1 - k) % d, p.2)
  | .up f k => if p.2 = f then ((p.1 - k) % d, p.2) else p
  | .swap f g => if p.2 = f then (p.1, g) else if p.2 = g then (p.1, f) else p
  | .wheel f g k => wh d f g k p
  | .about => (d - 1 - p.1, w - 1 - p.2)
  | .front f g => if 0 < p.1 then p else if p.2 = f then (p.1, g) else if p.2 = g then (p.1, f) else p
  | .halve => ((p.1 * w + p.2) % d, (p.1 * w + p.2) / d)
  | .pair => ((p.2 * d + p.1) / w, (p.2 * d + p.1) % w)
  | .others => if p.1 % 2 = 0 then (p.1 / 2, p.2) else ((d + 1) / 2 + p.1 / 2, p.2)
  | .fill => if p.1 < (d + 1) / 2 then (2 * p.1, p.2) else (2 * (p.1 - (d + 1) / 2) + 1, p.2)
end Cl

/-- a place of the line -/
def In (w d : Int) (p : Pl) : Prop := (0 ≤ p.1 ∧ p.1 < d) ∧ 0 ≤ p.2 ∧ p.2 < w

theorem mod_range {x d : Int} (hd : 0 < d) : 0 ≤ x % d ∧ x % d < d := ⟨Int.emod_nonneg _ (by omega), Int.emod_lt_of_pos _ hd⟩
theorem mod_back {x d : Int} (k : Int) (h0 : 0 ≤ x) (h1 : x < d) : ((x - k) % d - -k) % d = x := by
  rw [Int.sub_neg, Int.emod_add_emod, Int.sub_add_cancel]
  exact Int.emod_eq_of_lt h0 h1

theorem seat_back {y n : Int} (k : Int) (h0 : 0 ≤ y) (h1 : y < n) : ((y + k) % n + -k) % n = y := by
  rw [Int.emod_add_emod, Int.add_neg_cancel_right]
  exact Int.emod_eq_of_lt h0 h1

theorem div_lt {x d w : Int} (hd : 0 < d) (h : x < w * d) : x / d < w := Int.ediv_lt_of_lt_mul hd h

theorem mv_in {w d : Int} {c : Cl} {p : Pl} (hw : w = 2 ∨ w = 3) (hd : 0 < d) (hc : c.Ok w) (h : In w d p) : In w d (c.mv w d p) := by
  obtain ⟨r, f⟩ := p
  obtain ⟨⟨h1, h2⟩, h3, h4⟩ := h
  simp only at h1 h2 h3 h4
  cases c with
  | all k => exact ⟨mod_range hd, h3, h4⟩
  | up g k =>
    show In w d (if f = g then ((r - k) % d, f) else (r, f))
    split
    · exact ⟨mod_range hd, h3, h4⟩
    · exact ⟨⟨h1, h2⟩, h3, h4⟩
  | swap a b =>
    obtain ⟨ha, hb, _⟩ := hc
    show In w d (if f = a then (r, b) else if f = b then (r, a) else (r, f))
    split
    · exact ⟨⟨h1, h2⟩, hb⟩
    · split
      · exact ⟨⟨h1, h2⟩, ha⟩
      · exact ⟨⟨h1, h2⟩, h3, h4⟩
  | wheel a b k =>
    obtain ⟨ha, hb, _, _⟩ := hc
    show In w d (Cl.wh d a b k (r, f))
    unfold Cl.wh
    dsimp only
    generalize (if f = a then d - 1 - r else d + r) = y
    have hm := mod_range (x := y + k) (d := 2 * d) (by omega)
    generalize (y + k) % (2 * d) = z at hm
    by_cases hf : f = a ∨ f = b
    · rw [if_pos hf]
      by_cases hz : z < d
      · rw [if_pos hz]
        exact ⟨⟨by show 0 ≤ d - 1 - z; omega, by show d - 1 - z < d; omega⟩, ha⟩
      · rw [if_neg hz]
        exact ⟨⟨by show 0 ≤ z - d; omega, by show z - d < d; omega⟩, hb⟩
    · rw [if_neg hf]
      exact ⟨⟨h1, h2⟩, h3, h4⟩
  | about => exact ⟨⟨by show 0 ≤ d - 1 - r; omega, by show d - 1 - r < d; omega⟩, by show 0 ≤ w - 1 - f; omega, by show w - 1 - f < w; omega⟩
  | front a b =>
    obtain ⟨ha, hb, _⟩ := hc
    show In w d (if 0 < r then (r, f) else if f = a then (r, b) else if f = b then (r, a) else (r, f))
    split
    · exact ⟨⟨h1, h2⟩, h3, h4⟩
    · split
      · exact ⟨⟨h1, h2⟩, hb⟩
      · split
        · exact ⟨⟨h1, h2⟩, ha⟩
        · exact ⟨⟨h1, h2⟩, h3, h4⟩
  | halve =>
    refine ⟨mod_range hd, ?_, ?_⟩
    · show 0 ≤ (r * w + f) / d
      refine Int.ediv_nonneg ?_ (by omega)
      rcases hw with rfl | rfl <;> omega
    · show (r * w + f) / d < w
      refine div_lt hd ?_
      rcases hw with rfl | rfl <;> omega
  | pair =>
    refine ⟨⟨?_, ?_⟩, mod_range (by omega)⟩
    · show 0 ≤ (f * d + r) / w
      refine Int.ediv_nonneg ?_ (by omega)
      have := Int.mul_nonneg h3 (by omega : 0 ≤ d)
      omega
    · show (f * d + r) / w < d
      refine div_lt (by omega) ?_
      have e : f * d + d ≤ w * d := by
        have : (f + 1) * d ≤ w * d := Int.mul_le_mul_of_nonneg_right (by omega) (by omega)
        rw [Int.add_mul, Int.one_mul] at this
        exact this
      rw [Int.mul_comm d w]
      omega
  | others =>
    show In w d (if r % 2 = 0 then (r / 2, f) else ((d + 1) / 2 + r / 2, f))
    split
    · exact ⟨⟨by show 0 ≤ r / 2; omega, by show r / 2 < d; omega⟩, h3, h4⟩
    · exact ⟨⟨by show 0 ≤ (d + 1) / 2 + r / 2; omega, by show (d + 1) / 2 + r / 2 < d; omega⟩, h3, h4⟩
  | fill =>
    show In w d (if r < (d + 1) / 2 then (2 * r, f) else (2 * (r - (d + 1) / 2) + 1, f))
    split
    · exact ⟨⟨by show 0 ≤ 2 * r; omega, by show 2 * r < d; omega⟩, h3, h4⟩
    · exact ⟨⟨by show 0 ≤ 2 * (r - (d + 1) / 2) + 1; omega, by show 2 * (r - (d + 1) / 2) + 1 < d; omega⟩, h3, h4⟩

theorem mv_inv {w d : Int} {c : Cl} {p : Pl} (hw : w = 2 ∨ w = 3) (hd : 0 < d) (hc : c.Ok w) (h : In w d p) : c.inv.mv w d (c.mv w d p) = p := by
  have hin := mv_in hw hd hc h
  obtain ⟨r, f⟩ := p
  obtain ⟨⟨h1, h2⟩, h3, h4⟩ := h
  simp only at h1 h2 h3 h4
  cases c with
  | all k => exact Prod.ext (mod_back k h1 h2) rfl
  | up g k =>
    show Cl.mv w d (.up g (-k)) (if f = g then ((r - k) % d, f) else (r, f)) = (r, f)
    by_cases e : f = g
    · rw [if_pos e]
      show (if f = g then (((r - k) % d - -k) % d, f) else ((r - k) % d, f)) = (r, f)
      rw [if_pos e, mod_back k h1 h2]
    · rw [if_neg e]
      show (if f = g then ((r - -k) % d, f) else (r, f)) = (r, f)
      rw [if_neg e]
  | swap a b =>
    obtain ⟨ha, hb, hab⟩ := hc
    show Cl.mv w d (.swap a b) (if f = a then (r, b) else if f = b then (r, a) else (r, f)) = (r, f)
    by_cases e : f = a
    · rw [if_pos e]
      show (if b = a then (r, b) else if b = b then (r, a) else (r, b)) = (r, f)
      rw [if_neg (Ne.symm hab), if_pos rfl, e]
    · rw [if_neg e]
      by_cases e' : f = b
      · rw [if_pos e']
        show (if a = a then (r, b) else if a = b then (r, a) else (r, a)) = (r, f)
        rw [if_pos rfl, e']
      · rw [if_neg e']
        show (if f = a then (r, b) else if f = b then (r, a) else (r, f)) = (r, f)
        rw [if_neg e, if_neg e']
  | wheel a b k =>
    obtain ⟨ha, hb, hab, _⟩ := hc
    show Cl.wh d a b (-k) (Cl.wh d a b k (r, f)) = (r, f)
    by_cases hf : f = a ∨ f = b
    · have e1 : Cl.wh d a b k (r, f) = (if ((if f = a then d - 1 - r else d + r) + k) % (2 * d) < d then (d - 1 - ((if f = a then d - 1 - r else d + r) + k) % (2 * d), a)
          else (((if f = a then d - 1 - r else d + r) + k) % (2 * d) - d, b)) := by
        unfold Cl.wh
        dsimp only
        rw [if_pos hf]
      rw [e1]
      generalize hy : (if f = a then d - 1 - r else d + r) = y
      have hy0 : 0 ≤ y ∧ y < 2 * d := by
        rw [← hy]
        split <;> omega
      have hm := mod_range (x := y + k) (d := 2 * d) (by omega)
      have hb' := seat_back k hy0.1 hy0.2
      generalize hz : (y + k) % (2 * d) = z at hm hb'
      have fin : ∀ q : Pl, (q.2 = a ∨ q.2 = b) → (if q.2 = a then d - 1 - q.1 else d + q.1) = z → Cl.wh d a b (-k) q = (r, f) := by
        intro q hq hs
        unfold Cl.wh
        rw [if_pos hq, hs, hb']
        by_cases e : f = a
        · rw [if_pos e] at hy
          rw [if_pos (by omega), e]
          exact Prod.ext (by show d - 1 - y = r; omega) rfl
        · rw [if_neg e] at hy
          have e' : f = b := hf.resolve_left e
          rw [if_neg (by omega), e']
          exact Prod.ext (by show y - d = r; omega) rfl
      by_cases hl : z < d
      · rw [if_pos hl]
        refine fin _ (.inl rfl) ?_
        show (if a = a then d - 1 - (d - 1 - z) else _) = z
        rw [if_pos rfl]
        omega
      · rw [if_neg hl]
        refine fin _ (.inr rfl) ?_
        show (if b = a then _ else d + (z - d)) = z
        rw [if_neg (Ne.symm hab)]
        omega
    · have e1 : ∀ k, Cl.wh d a b k (r, f) = (r, f) := by
        intro k
        unfold Cl.wh
        dsimp only
        rw [if_neg hf]
      rw [e1, e1]
  | about => exact Prod.ext (by show d - 1 - (d - 1 - r) = r; omega) (by show w - 1 - (w - 1 - f) = f; omega)
  | front a b =>
    obtain ⟨ha, hb, hab⟩ := hc
    show Cl.mv w d (.front a b) (if 0 < r then (r, f) else if f = a then (r, b) else if f = b then (r, a) else (r, f)) = (r, f)
    by_cases e0 : 0 < r
    · rw [if_pos e0]
      show (if 0 < r then (r, f) else _) = (r, f)
      rw [if_pos e0]
    · rw [if_neg e0]
      by_cases e : f = a
      · rw [if_pos e]
        show (if 0 < r then (r, b) else if b = a then (r, b) else if b = b then (r, a) else (r, b)) = (r, f)
        rw [if_neg e0, if_neg (Ne.symm hab), if_pos rfl, e]
      · rw [if_neg e]
        by_cases e' : f = b
        · rw [if_pos e']
          show (if 0 < r then (r, a) else if a = a then (r, b) else if a = b then (r, a) else (r, a)) = (r, f)
          rw [if_neg e0, if_pos rfl, e']
        · rw [if_neg e']
          show (if 0 < r then (r, f) else if f = a then (r, b) else if f = b then (r, a) else (r, f)) = (r, f)
          rw [if_neg e0, if_neg e, if_neg e']
  | halve =>
    show Cl.mv w d .pair ((r * w + f) % d, (r * w + f) / d) = (r, f)
    have e : (r * w + f) / d * d + (r * w + f) % d = r * w + f := Int.ediv_mul_add_emod _ _
    show (((r * w + f) / d * d + (r * w + f) % d) / w, ((r * w + f) / d * d + (r * w + f) % d) % w) = (r, f)
    rw [e]
    rcases hw with rfl | rfl
    · exact Prod.ext (by show (r * 2 + f) / 2 = r; omega) (by show (r * 2 + f) % 2 = f; omega)
    · exact Prod.ext (by show (r * 3 + f) / 3 = r; omega) (by show (r * 3 + f) % 3 = f; omega)
  | pair =>
    show Cl.mv w d .halve ((f * d + r) / w, (f * d + r) % w) = (r, f)
    have e : (f * d + r) / w * w + (f * d + r) % w = f * d + r := Int.ediv_mul_add_emod _ _
    show (((f * d + r) / w * w + (f * d + r) % w) % d, ((f * d + r) / w * w + (f * d + r) % w) / d) = (r, f)
    rw [e]
    refine Prod.ext ?_ ?_
    · show (f * d + r) % d = r
      rw [Int.add_comm, Int.add_mul_emod_self_right]
      exact Int.emod_eq_of_lt h1 h2
    · show (f * d + r) / d = f
      rw [Int.add_comm, Int.add_mul_ediv_right _ _ (by omega), Int.ediv_eq_zero_of_lt h1 h2, Int.zero_add]
  | others =>
    show Cl.mv w d .fill (if r % 2 = 0 then (r / 2, f) else ((d + 1) / 2 + r / 2, f)) = (r, f)
    by_cases e : r % 2 = 0
    · rw [if_pos e]
      show (if r / 2 < (d + 1) / 2 then (2 * (r / 2), f) else (2 * (r / 2 - (d + 1) / 2) + 1, f)) = (r, f)
      rw [if_pos (by omega)]
      exact Prod.ext (by show 2 * (r / 2) = r; omega) rfl
    · rw [if_neg e]
      show (if (d + 1) / 2 + r / 2 < (d + 1) / 2 then (2 * ((d + 1) / 2 + r / 2), f) else (2 * ((d + 1) / 2 + r / 2 - (d + 1) / 2) + 1, f)) = (r, f)
      rw [if_neg (by omega)]
      exact Prod.ext (by show 2 * ((d + 1) / 2 + r / 2 - (d + 1) / 2) + 1 = r; omega) rfl
  | fill =>
    show Cl.mv w d .others (if r < (d + 1) / 2 then (2 * r, f) else (2 * (r - (d + 1) / 2) + 1, f)) = (r, f)
    by_cases e : r < (d + 1) / 2
    · rw [if_pos e]
      show (if 2 * r % 2 = 0 then (2 * r / 2, f) else ((d + 1) / 2 + 2 * r / 2, f)) = (r, f)
      rw [if_pos (by omega)]
      exact Prod.ext (by show 2 * r / 2 = r; omega) rfl
    · rw [if_neg e]
      show (if (2 * (r - (d + 1) / 2) + 1) % 2 = 0 then ((2 * (r - (d + 1) / 2) + 1) / 2, f) else ((d + 1) / 2 + (2 * (r - (d + 1) / 2) + 1) / 2, f)) = (r, f)
      rw [if_neg (by omega)]
      exact Prod.ext (by show (d + 1) / 2 + (2 * (r - (d + 1) / 2) + 1) / 2 = r; omega) rfl

/-! ### scripts -/
def mvs (w d : Int) (cs : List Cl) (p : Pl) : Pl := cs.foldl (fun p c => c.mv w d p) p
def invs (cs : List Cl) : List Cl := cs.reverse.map Cl.inv
def Oks (w : Int) (cs : List Cl) : Prop := ∀ c ∈ cs, Cl.Ok w c
theorem invs_invs (cs : List Cl) : invs (invs cs) = cs := by
  unfold invs
  rw [← List.map_reverse, List.reverse_reverse, List.map_map]
  have : Cl.inv ∘ Cl.inv = id := funext Cl.inv_inv
  rw [this, List.map_id]
theorem invs_append (a b : List Cl) : invs (a ++ b) = invs b ++ invs a := by
  unfold invs
  rw [List.reverse_append, List.map_append]
theorem Oks.invs {w : Int} {cs : List Cl} (h : Oks w cs) : Oks w (invs cs) := fun c hc => by
  unfold Pp.invs at hc
  obtain ⟨x, hx, rfl⟩ := List.mem_map.mp hc
  exact (h x (List.mem_reverse.mp hx)).inv
theorem Oks.append {w : Int} {a b : List Cl} (h : Oks w a) (h' : Oks w b) : Oks w (a ++ b) := fun c hc => (List.mem_append.mp hc).elim (h c) (h' c)
theorem mvs_append (w d : Int) (a b : List Cl) (p : Pl) : mvs w d (a ++ b) p = mvs w d b (mvs w d a p) := by
  unfold mvs
  rw [List.foldl_append]
theorem mvs_in {w d : Int} (hw : w = 2 ∨ w = 3) (hd : 0 < d) : ∀ {cs : List Cl} {p : Pl}, Oks w cs → In w d p → In w d (mvs w d cs p)
  | [], _, _, h => h
  | c :: r, p, hc, h => mvs_in hw hd (cs := r) (fun x hx => hc x (List.mem_cons_of_mem _ hx)) (mv_in hw hd (hc c List.mem_cons_self) h)
theorem mvs_inv {w d : Int} (hw : w = 2 ∨ w = 3) (hd : 0 < d) : ∀ {cs : List Cl} {p : Pl}, Oks w cs → In w d p → mvs w d (invs cs) (mvs w d cs p) = p
  | [], _, _, _ => rfl
  | c :: r, p, hc, h => by
    have e : invs (c :: r) = invs r ++ [c.inv] := by
      unfold invs
      rw [List.reverse_cons, List.map_append] <;> rfl
    rw [e, mvs_append]
    have hc1 := hc c List.mem_cons_self
    have ih := mvs_inv hw hd (cs := r) (p := c.mv w d p) (fun x hx => hc x (List.mem_cons_of_mem _ hx)) (mv_in hw hd hc1 h)
    show mvs w d [c.inv] (mvs w d (invs r) (mvs w d r (c.mv w d p))) = p
    rw [ih]
    exact mv_inv hw hd hc1 h

/-! ### numbers of places -/
def num (w : Int) (p : Pl) : Int := p.1 * w + p.2
def pl (w : Int) (n : Int) : Pl := (n / w, n % w)
theorem pl_num {w d : Int} (hw : w = 2 ∨ w = 3) {p : Pl} (h : In w d p) : pl w (num w p) = p := by
  obtain ⟨r, f⟩ := p
  obtain ⟨⟨h1, h2⟩, h3, h4⟩ := h
  simp only at h1 h2 h3 h4
  unfold pl num
  rcases hw with rfl | rfl
  · exact Prod.ext (by show (r * 2 + f) / 2 = r; omega) (by show (r * 2 + f) % 2 = f; omega)
  · exact Prod.ext (by show (r * 3 + f) / 3 = r; omega) (by show (r * 3 + f) % 3 = f; omega)
theorem num_pl (w n : Int) : num w (pl w n) = n := Int.ediv_mul_add_emod n w
theorem pl_in {w d n : Int} (hw : w = 2 ∨ w = 3) (h0 : 0 ≤ n) (h1 : n < d * w) : In w d (pl w n) := by
  unfold pl In
  rcases hw with rfl | rfl
  · show (0 ≤ n / 2 ∧ n / 2 < d) ∧ 0 ≤ n % 2 ∧ n % 2 < 2
    omega
  · show (0 ≤ n / 3 ∧ n / 3 < d) ∧ 0 ≤ n % 3 ∧ n % 3 < 3
    omega
theorem num_in {w d : Int} (hw : w = 2 ∨ w = 3) {p : Pl} (h : In w d p) : 0 ≤ num w p ∧ num w p < d * w := by
  obtain ⟨r, f⟩ := p
  obtain ⟨⟨h1, h2⟩, h3, h4⟩ := h
  simp only at h1 h2 h3 h4
  unfold num
  rcases hw with rfl | rfl
  · show 0 ≤ r * 2 + f ∧ r * 2 + f < d * 2
    omega
  · show 0 ≤ r * 3 + f ∧ r * 3 + f < d * 3
    omega
/-- the number of the place to which a script leads from the place with a number -/
def goal (w d : Int) (cs : List Cl) (n : Nat) : Nat := (num w (mvs w d cs (pl w (n : Int)))).toNat
/-- so many places -/
def many (w d : Int) : Nat := (d * w).toNat
section
variable {w d : Int} {cs ds : List Cl}
theorem goal_int (hw : w = 2 ∨ w = 3) (hd : 0 < d) (hc : Oks w cs) {n : Nat} (hn : n < many w d) : num w (mvs w d cs (pl w (n : Int))) = (goal w d cs n : Int) := by
  have hn' : (n : Int) < d * w := by unfold many at hn; omega
  have h := num_in hw (mvs_in hw hd hc (pl_in hw (Int.natCast_nonneg n) hn'))
  unfold goal
  omega
theorem goal_pl (hw : w = 2 ∨ w = 3) (hd : 0 < d) (hc : Oks w cs) {n : Nat} (hn : n < many w d) : pl w (goal w d cs n : Int) = mvs w d cs (pl w (n : Int)) := by
  have hn' : (n : Int) < d * w := by unfold many at hn; omega
  rw [← goal_int hw hd hc hn]
  exact pl_num hw (mvs_in hw hd hc (pl_in hw (Int.natCast_nonneg n) hn'))
theorem goal_lt (hw : w = 2 ∨ w = 3) (hd : 0 < d) (hc : Oks w cs) {n : Nat} (hn : n < many w d) : goal w d cs n < many w d := by
  have hn' : (n : Int) < d * w := by unfold many at hn; omega
  have h := num_in hw (mvs_in hw hd hc (pl_in hw (Int.natCast_nonneg n) hn'))
  have e := goal_int hw hd hc hn
  unfold many
  omega
theorem goal_inv (hw : w = 2 ∨ w = 3) (hd : 0 < d) (hc : Oks w cs) {n : Nat} (hn : n < many w d) : goal w d (invs cs) (goal w d cs n) = n := by
  have hn' : (n : Int) < d * w := by unfold many at hn; omega
  have e := goal_pl hw hd hc hn
  have e2 := mvs_inv hw hd hc (pl_in hw (Int.natCast_nonneg n) hn')
  unfold goal at e ⊢
  rw [e, e2, num_pl]
  exact Int.toNat_natCast n
theorem goal_inv' (hw : w = 2 ∨ w = 3) (hd : 0 < d) (hc : Oks w cs) {n : Nat} (hn : n < many w d) : goal w d cs (goal w d (invs cs) n) = n := by
  have h := goal_inv hw hd hc.invs hn
  rw [invs_invs] at h
  exact h
theorem goal_append (hw : w = 2 ∨ w = 3) (hd : 0 < d) (hc : Oks w cs) {n : Nat} (hn : n < many w d) : goal w d (cs ++ ds) n = goal w d ds (goal w d cs n) := by
  have e := goal_pl hw hd hc hn
  show (num w (mvs w d (cs ++ ds) (pl w (n : Int)))).toNat = (num w (mvs w d ds (pl w (goal w d cs n : Int)))).toNat
  rw [e, mvs_append]
end

/-! ### pupils moved -/
/-- who stands where behind a move: at j whoever stood at t j -/
def pick (N : Nat) (t : Nat → Nat) (ns : List Int) : List Int := (List.range N).map fun j => ns.getD (t j) 0
theorem pick_len (N : Nat) (t : Nat → Nat) (ns : List Int) : (pick N t ns).length = N := by
  unfold pick
  rw [List.length_map, List.length_range]
theorem pick_get {N : Nat} {t : Nat → Nat} {ns : List Int} {j : Nat} (h : j < N) : (pick N t ns).getD j 0 = ns.getD (t j) 0 := by
  unfold pick
  rw [List.getD_eq_getElem?_getD, List.getElem?_map, List.getElem?_range h]
  rfl
theorem pick_pick {N : Nat} {t u : Nat → Nat} {ns : List Int} (hu : ∀ j, j < N → u j < N) : pick N u (pick N t ns) = pick N (fun j => t (u j)) ns := by
  unfold pick
  refine List.map_congr_left fun j hj => ?_
  exact pick_get (hu j (List.mem_range.mp hj))
theorem pick_congr {N : Nat} {t u : Nat → Nat} {ns : List Int} (h : ∀ j, j < N → t j = u j) : pick N t ns = pick N u ns := by
  unfold pick
  refine List.map_congr_left fun j hj => ?_
  rw [h j (List.mem_range.mp hj)]
theorem pick_id {N : Nat} {t : Nat → Nat} {ns : List Int} (hl : ns.length = N) (h : ∀ j, j < N → t j = j) : pick N t ns = ns := by
  unfold pick
  refine List.ext_getElem (by rw [List.length_map, List.length_range, hl]) fun i h1 h2 => ?_
  have hi : i < N := by omega
  rw [List.getElem_map, List.getElem_range, h i hi, List.getD_eq_getElem?_getD, List.getElem?_eq_getElem h2]
  rfl
/-- a script done once -/
def stand (w d : Int) (cs : List Cl) (ns : List Int) : List Int := pick (many w d) (goal w d (invs cs)) ns
def times {α : Type} (f : α → α) : Nat → α → α
  | 0, x => x
  | n + 1, x => times f n (f x)
theorem times_succ {α : Type} (f : α → α) : ∀ (n : Nat) (x : α), times f (n + 1) x = f (times f n x)
  | 0, _ => rfl
  | n + 1, x => times_succ f n (f x)
theorem times_add {α : Type} (f : α → α) : ∀ (m n : Nat) (x : α), times f (m + n) x = times f n (times f m x)
  | 0, n, x => by rw [Nat.zero_add]; rfl
  | m + 1, n, x => by
    rw [Nat.succ_add]
    exact times_add f m n (f x)
/-- so many rounds; below 0 undone -/
def rounds (w d : Int) (cs : List Cl) (k : Int) (ns : List Int) : List Int :=
  if 0 ≤ k then times (stand w d cs) k.natAbs ns else times (stand w d (invs cs)) k.natAbs ns
theorem rounds_eq (w d : Int) (cs : List Cl) (k : Int) (ns : List Int) : rounds w d cs k ns = times (stand w d (if 0 ≤ k then cs else invs cs)) k.natAbs ns := by
  unfold rounds
  split <;> rfl
section
variable {w d : Int} {cs ds : List Cl} {ns : List Int}
theorem stand_len : (stand w d cs ns).length = many w d := pick_len _ _ _
theorem times_len (hl : ns.length = many w d) : ∀ k, (times (stand w d cs) k ns).length = many w d
  | 0 => hl
  | k + 1 => by rw [times_succ]; exact stand_len
theorem rounds_len {k : Int} (hl : ns.length = many w d) : (rounds w d cs k ns).length = many w d := by
  rw [rounds_eq]
  exact times_len hl _
theorem stand_back (hw : w = 2 ∨ w = 3) (hd : 0 < d) (hc : Oks w cs) (hl : ns.length = many w d) : stand w d (invs cs) (stand w d cs ns) = ns := by
  unfold stand
  rw [invs_invs, pick_pick fun j hj => goal_lt hw hd hc hj]
  exact pick_id hl fun j hj => goal_inv hw hd hc hj
theorem stand_forth (hw : w = 2 ∨ w = 3) (hd : 0 < d) (hc : Oks w cs) (hl : ns.length = many w d) : stand w d cs (stand w d (invs cs) ns) = ns := by
  have h := stand_back hw hd hc.invs hl
  rw [invs_invs] at h
  exact h
theorem stand_append (hw : w = 2 ∨ w = 3) (hd : 0 < d) (hc : Oks w cs) (hd' : Oks w ds) : stand w d (cs ++ ds) ns = stand w d ds (stand w d cs ns) := by
  unfold stand
  rw [invs_append, pick_pick fun j hj => goal_lt hw hd hd'.invs hj]
  exact pick_congr fun j hj => goal_append hw hd hd'.invs hj
theorem stand_nil (hl : ns.length = many w d) : stand w d [] ns = ns := by
  unfold stand
  refine pick_id hl fun j _ => ?_
  show (num w (pl w (j : Int))).toNat = j
  rw [num_pl]
  exact Int.toNat_natCast j
/-- one more round, forth or back -/
theorem rounds_up (hw : w = 2 ∨ w = 3) (hd : 0 < d) (hc : Oks w cs) (hl : ns.length = many w d) (k : Int) : rounds w d cs (k + 1) ns = stand w d cs (rounds w d cs k ns) := by
  unfold rounds
  by_cases h : 0 ≤ k
  · rw [if_pos h, if_pos (by omega), show (k + 1).natAbs = k.natAbs + 1 by omega, times_succ]
  · rw [if_neg h]
    obtain ⟨m, hm⟩ : ∃ m, k.natAbs = m + 1 := ⟨k.natAbs - 1, by omega⟩
    rw [hm, times_succ, stand_forth hw hd hc (times_len hl _)]
    by_cases h1 : 0 ≤ k + 1
    · rw [if_pos h1]
      have e0 : (k + 1).natAbs = 0 := by omega
      have e1 : m = 0 := by omega
      rw [e0, e1]
      rfl
    · rw [if_neg h1, show (k + 1).natAbs = m by omega]
theorem rounds_down (hw : w = 2 ∨ w = 3) (hd : 0 < d) (hc : Oks w cs) (hl : ns.length = many w d) (k : Int) : rounds w d cs (k - 1) ns = stand w d (invs cs) (rounds w d cs k ns) := by
  have h := rounds_up hw hd hc hl (k - 1)
  rw [Int.sub_add_cancel] at h
  rw [h, stand_back hw hd hc (rounds_len hl)]
/-- rounds of k and then l -/
theorem rounds_add (hw : w = 2 ∨ w = 3) (hd : 0 < d) (hc : Oks w cs) (hl : ns.length = many w d) (k l : Int) : rounds w d cs l (rounds w d cs k ns) = rounds w d cs (k + l) ns := by
  have up : ∀ m : Nat, rounds w d cs (m : Int) (rounds w d cs k ns) = rounds w d cs (k + (m : Int)) ns := by
    intro m
    induction m with
    | zero =>
      rw [show k + ((0 : Nat) : Int) = k by omega]
      rfl
    | succ m ih =>
      rw [show ((m + 1 : Nat) : Int) = (m : Int) + 1 by omega, rounds_up hw hd hc (rounds_len hl), ih, ← rounds_up hw hd hc hl, Int.add_assoc]
  have down : ∀ m : Nat, rounds w d cs (-(m : Int)) (rounds w d cs k ns) = rounds w d cs (k + -(m : Int)) ns := by
    intro m
    induction m with
    | zero =>
      rw [show k + -((0 : Nat) : Int) = k by omega]
      rfl
    | succ m ih =>
      rw [show -((m + 1 : Nat) : Int) = -(m : Int) - 1 by omega, rounds_down hw hd hc (rounds_len hl), ih, ← rounds_down hw hd hc hl]
      congr 1
      omega
  by_cases h : 0 ≤ l
  · have e : l = (l.natAbs : Int) := by omega
    rw [e]
    exact up _
  · have e : l = -(l.natAbs : Int) := by omega
    rw [e]
    exact down _
theorem rounds_comm (hw : w = 2 ∨ w = 3) (hd : 0 < d) (hc : Oks w cs) (hl : ns.length = many w d) (k l : Int) : rounds w d cs l (rounds w d cs k ns) = rounds w d cs k (rounds w d cs l ns) := by
  rw [rounds_add hw hd hc hl, rounds_add hw hd hc hl, Int.add_comm]
theorem rounds_zero : rounds w d cs 0 ns = ns := rfl
theorem rounds_one : rounds w d cs 1 ns = stand w d cs ns := rfl
theorem rounds_inv (k : Int) : rounds w d (invs cs) k ns = rounds w d cs (-k) ns := by
  rw [rounds_eq, rounds_eq]
  by_cases h : k = 0
  · subst h
    rfl
  · by_cases h1 : 0 ≤ k
    · rw [if_pos h1, if_neg (by omega), show (-k).natAbs = k.natAbs by omega]
    · rw [if_neg h1, if_pos (by omega), show (-k).natAbs = k.natAbs by omega, invs_invs]
theorem rounds_undo (hw : w = 2 ∨ w = 3) (hd : 0 < d) (hc : Oks w cs) (hl : ns.length = many w d) (k : Int) : rounds w d (invs cs) k (rounds w d cs k ns) = ns := by
  rw [rounds_inv, rounds_add hw hd hc hl, Int.add_right_neg, rounds_zero]
theorem rounds_product (hw : w = 2 ∨ w = 3) (hd : 0 < d) (hc : Oks w cs) (hd' : Oks w ds) : rounds w d (cs ++ ds) 1 ns = rounds w d ds 1 (rounds w d cs 1 ns) := stand_append hw hd hc hd'
/-- a script so many times one behind another -/
def reps (k : Nat) (cs : List Cl) : List Cl := (List.replicate k cs).flatten
theorem reps_ok (k : Nat) (hc : Oks w cs) : Oks w (reps k cs) := fun c h => by
  obtain ⟨l, hl, hcl⟩ := List.mem_flatten.mp h
  rw [(List.mem_replicate.mp hl).2] at hcl
  exact hc c hcl
theorem stand_reps (hw : w = 2 ∨ w = 3) (hd : 0 < d) (hc : Oks w cs) : ∀ (k : Nat) {ns : List Int}, ns.length = many w d → stand w d (reps k cs) ns = times (stand w d cs) k ns
  | 0, _, hl => stand_nil hl
  | k + 1, ns, hl => by
    show stand w d (cs ++ reps k cs) ns = times (stand w d cs) k (stand w d cs ns)
    rw [stand_append hw hd hc (reps_ok k hc)]
    exact stand_reps hw hd hc k stand_len
def tms (k : Int) (cs : List Cl) : List Cl := reps k.natAbs (if 0 ≤ k then cs else invs cs)
theorem tms_ok (k : Int) (hc : Oks w cs) : Oks w (tms k cs) := by
  unfold tms
  split
  · exact reps_ok _ hc
  · exact reps_ok _ hc.invs
theorem rounds_times (hw : w = 2 ∨ w = 3) (hd : 0 < d) (hc : Oks w cs) (hl : ns.length = many w d) (k : Int) : rounds w d (tms k cs) 1 ns = rounds w d cs k ns := by
  rw [rounds_eq w d cs]
  unfold tms
  show stand w d _ ns = _
  split
  · exact stand_reps hw hd hc _ hl
  · exact stand_reps hw hd hc.invs _ hl

/-! ### nobody is lost -/
def home (N : Nat) : List Int := (List.range N).map fun (n : Nat) => (n : Int)
theorem home_len (N : Nat) : (home N).length = N := by
  unfold home
  rw [List.length_map, List.length_range]
/-- the pupils are those of the line -/
def Whole (N : Nat) (ns : List Int) : Prop := ns.length = N ∧ ns.Nodup ∧ ∀ x ∈ ns, 0 ≤ x ∧ x < (N : Int)
theorem whole_home (N : Nat) : Whole N (home N) := by
  refine ⟨home_len N, ?_, fun x hx => ?_⟩
  · unfold home
    exact List.Pairwise.map _ (fun (a b : Nat) (h : a ≠ b) (e : (a : Int) = b) => h (by omega)) List.nodup_range
  · unfold home at hx
    obtain ⟨n, hn, rfl⟩ := List.mem_map.mp hx
    have := List.mem_range.mp hn
    omega
end
end Pp
end

section
set_option Elab.async false
set_option linter.all false
set_option maxRecDepth 100000
set_option maxHeartbeats 2000000
namespace Pp
open PySem PySem.Spec PyProof.Rows L2

/-! ### xs[i] by values, for xs[i] += e -/
def rGetL (K : PySem.W.Frag) : V → V → Hp → VK → Prop := fun x y H Q => ∃ (p : Addr) (xs : List V) (j : Nat) (v : V), x = .ref p ∧ y = .int (j : Int) ∧ SqL K H p xs ∧ xs[j]? = some v ∧ Q v H
section
variable {X : Cx}
theorem pget_list : PGet X (rGetL X.K) := by
  intro pins s σ H o i ov iv Q I ro ri h
  obtain ⟨p, xs, j, v, rfl, rfl, hq, hv, q⟩ := h
  cases ro
  obtain ⟨t, rfl⟩ := ri
  obtain ⟨its, r, pl, hz⟩ := I.list hq
  obtain ⟨u, hu, ru⟩ := r.get hv
  have hl := r.length
  have hlt : j < xs.length := (List.getElem?_eq_some_iff.mp hv).1
  have hn := line63
  exact wpAny_getItem_list pl.isList (by omega) (by omega) (x := u) (by rw [Int.toNat_natCast, List.getElem?_toArray]; exact hu) ⟨v, H, I, ru, q⟩
end

/-! ### operators of an own class -/
/-- both instances of C: the method's promise -/
def rOwn2 (C : Addr) (sp : Sp) : R2 := fun x y H Q => ∃ a dx fs b dx' fs', x = .ref a ∧ y = .ref b ∧ H a = some (.ins C dx fs) ∧ H b = some (.ins C dx' fs') ∧ sp [.ref a, .ref b] H Q E0
def rOwn1 (C : Addr) (sp : Sp) : V → Hp → VK → Prop := fun x H Q => ∃ a dx fs, x = .ref a ∧ H a = some (.ins C dx fs) ∧ sp [.ref a] H Q E0
theorem relV_ni {v : V} (r : RelV v .notImplemented) : False := by
  cases v with
  | int i => obtain ⟨t, e⟩ := r; cases e
  | str i => obtain ⟨t, e⟩ := r; cases e
  | byt i => obtain ⟨t, e⟩ := r; cases e
  | flt i => obtain ⟨t, e⟩ := r; cases e
  | _ => cases r
theorem ep_back {X : Cx} {pins : List (Addr × Obj)} {σ : L2.St} {Q : VK} {v : Value} {s : Shared} (h : EP X pins σ Q v s) : PySem.W.CmpBack (EP X pins σ Q) v s := by
  cases v with
  | notImplemented =>
    obtain ⟨_, _, _, r, _⟩ := h
    exact relV_ni r
  | _ => exact h
section
variable {X : Cx} {k : Nat} {C f : Addr} {fd : FuncData} {ps : List Str} {sp : Sp}
theorem op_own2 {op : Operator} (hc : PySem.W.selfFirst X.K C = true) (hs : PySem.W.findIn X.K (.ref C) (PySem.dunder op.info.2) = some (some (.ref f))) (hf : PySem.W.isFn X.K (.ref f) = true)
    (F : FnOk X.prog X.w X.K X.mg X.base CX0 k f fd ps sp) (hr : Room k X.A) (hb : Binds X.K fd ps []) : OpR X (binaryOp op) (rOwn2 C sp) := by
  intro pins s σ H x y v u Q I rx ry h
  obtain ⟨a, dx, fs, b, dx', fs', rfl, rfl, ha, hb', q⟩ := h
  cases rx
  cases ry
  obtain ⟨mA, O, _⟩ := ins_get I.hok ha
  obtain ⟨od, J, _⟩ := O.look
  obtain ⟨mB, O2, _⟩ := ins_get I.hok hb'
  obtain ⟨od2, J2, _⟩ := O2.look
  obtain ⟨m, hF⟩ := I.fr
  refine PySem.W.binop_K hF I.ok.mod.kin J J2.type hc hs hf ?_
  refine wpAny_mono (run_fn (us := [.ref a, .ref b]) (vs := [.ref a, .ref b]) F hr hb .nil pass0 I (.cons rfl (.cons rfl .nil)) q) (fun v s' hv => ?_) fun _ _ e => e
  exact ep_back hv
theorem un_own {r : Unit} (hs : PySem.W.findIn X.K (.ref C) "__invert__" = some (some (.ref f))) (hf : PySem.W.isFn X.K (.ref f) = true)
    (F : FnOk X.prog X.w X.K X.mg X.base CX0 k f fd ps sp) (hr : Room k X.A) (hb : Binds X.K fd ps []) : UnR X (unaryOp .Invert) (rOwn1 C sp) := by
  intro pins s σ H x v Q I rx h
  obtain ⟨a, dx, fs, rfl, ha, q⟩ := h
  cases rx
  obtain ⟨mA, O, _⟩ := ins_get I.hok ha
  obtain ⟨od, J, _⟩ := O.look
  obtain ⟨m, hF⟩ := I.fr
  refine PySem.W.ksp_inv hF I.ok.mod.kin J hs hf ?_
  exact run_fn (us := [.ref a]) (vs := [.ref a]) F hr hb .nil pass0 I (.cons rfl .nil) q
end

/-! ### a != b by an own __eq__ (no own __ne__) -/
section
variable {prog : Program} {w : World} {A : Around} {E : Value → Shared → Prop} {s : Shared} {K : PySem.W.Frag} {x y C f : Addr} {ox oy : Obj} {od od2 : Option Obj}
open PySem.W in
theorem objNe_K (X : K.In s.heap) (I : InstAt s.heap x ox C od) (hs : findIn K (.ref C) "__eq__" = some (some (.ref f))) (hf : isFn K (.ref f) = true) (hu : A.units < cLine) {Q : PySem.Fin → Shared → Prop}
    (hcall : wpAny (model prog w) A (call (.ref f) [.ref x, .ref y]) (fun v s' => ∃ b, v = .bool b ∧ Q (.done (.ret (.bool (!b)))) s') E s) :
    wpAny (model prog w) A (Builtin.«object.__ne__» ⟨[.ref x, .ref y], []⟩) Q E s := by
  have key : wpAny (model prog w) A (callSpecialIfBound? (.ref x) (Str.ofString "__eq__") [.ref y]) (fun r s' => ∃ b, r = some (.bool b) ∧ Q (.done (.ret (.bool (!b)))) s') E s :=
    ifBound_K X I hs hf (wpAny_mono hcall (fun v s' hv => by obtain ⟨b, rfl, q⟩ := hv; exact ⟨b, rfl, q⟩) fun _ _ e => e)
  unfold Builtin.«object.__ne__»
  repeat (first
    | with_reducible refine wpAny_cRoomFor hu ?_
    | (refine wpAny_bind (m := callSpecialIfBound? (.ref x) (Str.ofString "__eq__") [.ref y])
        (wpAny_mono key (fun r s' hr => by
          obtain ⟨b, rfl, hq⟩ := hr
          repeat (first | exact hq | exact wpAny_pure hq | exact wpAny_truthy_bool hq | (refine wpAny_bind (m := truthy (.bool _)) (wpAny_truthy_bool ?_)) | wp_step)) fun _ _ e => e))
    | wp_step)
open PySem.W in
theorem ne_K (X : K.In s.heap) (I : InstAt s.heap x ox C od) (J : InstAt s.heap y oy C od2) (hn : findIn K (.ref C) "__ne__" = some (some (.builtin "object.__ne__"))) (hs : findIn K (.ref C) "__eq__" = some (some (.ref f))) (hf : isFn K (.ref f) = true)
    (hm : mroIn K C (.type "object") = some true) (hu : A.units + 1 < cLine) {Q : Value → Shared → Prop}
    (hcall : wpAny (model prog w) A.in1 (call (.ref f) [.ref x, .ref y]) (fun v s' => ∃ b, v = .bool b ∧ Q (.bool (!b)) s') E s) :
    wpAny (model prog w) A (richCompare .NotEq (.ref x) (.ref y)) Q E s := by
  have one : wpAny (model prog w) A (tryCompare (.ref x) "__ne__" (.ref y)) (fun r s' => ∃ v, r = some v ∧ Q v s') E s := by
    have fin : wpAny (model prog w) A (call (.builtin "object.__ne__") ([.ref x] ++ [.ref y])) (fun v s' => ∃ b, v = .bool b ∧ Q (.bool b) s') E s := by
      refine wpAny_call (codeAny_call_builtin F.cmp_object.ne.plain F.cmpEntry_ne (check_slot F.cmpKind_ne F.cmpSplit_ne (I.type.andThen (looks_mroIn X hm)) (F.cmpArgs_ne _ _) ?_))
      refine objNe_K (A := A.in1) X I hs hf hu (wpAny_mono hcall (fun v s' hv => ?_) fun _ _ e => e)
      obtain ⟨b, rfl, q⟩ := hv
      exact ⟨b, rfl, ⟨!b, rfl, q⟩⟩
    have two : wpAny (model prog w) A (callSpecialIfBound? (.ref x) "__ne__" [.ref y]) (fun r s' => ∃ b, r = some (.bool b) ∧ Q (.bool b) s') E s := by
      simp only [callSpecialIfBound?, bindSpecialIfBound?]
      refine wpAny_holding (wpAny_bind (wpAny_bind (wpAny_bind (I.type.here ((looks_findIn X hn).here ?_)))))
      simp only [F.cmp_object.ne.bind]
      refine wpAny_bind (wpAny_askSetting (wpAny_ite ?_))
      have fin2 : wpAny (model prog w) A (call (.builtin "object.__ne__") ([.ref x] ++ [.ref y]) >>= fun v => pure (some v)) (fun r s' => ∃ b, r = some (.bool b) ∧ Q (.bool b) s') E s :=
        wpAny_bind (wpAny_mono fin (fun v s' h' => wpAny_pure (by obtain ⟨b, rfl, q⟩ := h'; exact ⟨b, rfl, q⟩)) fun _ _ h' => h')
      split
      · exact wpAny_bind (wpAny_pure (wpAny_pure fin2))
      · exact wpAny_tryCatch (wpAny_bind (wpAny_pure (wpAny_pure fin2)))
    unfold tryCompare
    refine wpAny_bind (wpAny_mono two (fun r s' hr => ?_) fun _ _ e => e)
    obtain ⟨b, rfl, q⟩ := hr
    exact wpAny_pure ⟨_, rfl, q⟩
  unfold richCompare
  simp only [oneThing_ref]
  refine wpAny_holding (wpAny_bind (wpAny_cRoomFor (Nat.lt_of_succ_lt hu) ?_))
  refine wpAny_bind (I.type.here (wpAny_bind (J.type.here ?_)))
  rw [if_neg (by simp)]
  refine wpAny_bind (wpAny_pure ?_)
  simp only [Bool.false_eq_true, if_false]
  refine wpAny_bind (wpAny_mono one (fun r s' z => ?_) fun _ _ e => e)
  obtain ⟨v, rfl, hq⟩ := z
  exact wpAny_pure hq
end
/-- what of the text a class with its own == must have -/
structure EqC (K : PySem.W.Frag) (C f : Addr) : Prop where
  ne : PySem.W.findIn K (.ref C) "__ne__" = some (some (.builtin "object.__ne__"))
  eq : PySem.W.findIn K (.ref C) "__eq__" = some (some (.ref f))
  fn : PySem.W.isFn K (.ref f) = true
  ob : PySem.W.mroIn K C (.type "object") = some true
def rOwnNe (C : Addr) (sp : Sp) : R2 := fun x y H Q => ∃ a dx fs b dx' fs', x = .ref a ∧ y = .ref b ∧ H a = some (.ins C dx fs) ∧ H b = some (.ins C dx' fs') ∧ sp [.ref a, .ref b] H (fun v H' => ∃ k, v = .bl k ∧ Q (.bl (!k)) H') E0
section
variable {X : Cx} {k : Nat} {C f : Addr} {fd : FuncData} {ps : List Str} {sp : Sp}
theorem op_ownNe (hc : EqC X.K C f) (F : FnOk X.prog X.w X.K X.mg X.base CX0 k f fd ps sp) (hr : Room (k + 1) X.A) (hb : Binds X.K fd ps []) : OpR X (compareOp .NotEq) (rOwnNe C sp) := by
  intro pins s σ H x y v u Q I rx ry h
  obtain ⟨a, dx, fs, b, dx', fs', rfl, rfl, ha, hb', q⟩ := h
  cases rx
  cases ry
  obtain ⟨mA, O, _⟩ := ins_get I.hok ha
  obtain ⟨od, J, _⟩ := O.look
  obtain ⟨mB, O2, _⟩ := ins_get I.hok hb'
  obtain ⟨od2, J2, _⟩ := O2.look
  refine PySem.W.cmp_ofNotEq (ne_K I.kIn J J2 hc.ne hc.eq hc.fn hc.ob (by have := hr.un; omega) ?_)
  have r2 : Vals [V.ref a, V.ref b] [Value.ref a, Value.ref b] := .cons rfl (.cons rfl .nil)
  have hl : ([Value.ref a, Value.ref b] ++ []).length = ps.length := by
    rw [← F.len _ _ _ _ q] <;> rfl
  refine wpAny_call (codeAny_mono (F.run X.A.in1 X.stack s H ⟨[.ref a, .ref b], []⟩ [.ref a, .ref b] [.ref a, .ref b] _ E0 hr.in1 I.env0.in1 (hb s [.ref a, .ref b] I.kIn hl) r2 q) fun r s' hq => ?_)
  cases r with
  | error e => exact hq.elim
  | ok fl =>
    cases fl with
    | ret u =>
      obtain ⟨v, H', I', rv, k, ev, q'⟩ := I.after hq
      subst ev
      cases rv
      exact ⟨k, rfl, ⟨.bl (!k), H', I', rfl, q'⟩⟩
    | next => exact False.elim hq
    | brk => exact False.elim hq
    | cont => exact False.elim hq
end

/-! ### iter(t) of a tuple -/
/-- a tuple's iterator, tracked -/
def ItT (t it : Addr) (i : Nat) : HO := .ext fun h => h.IsTupleIter it t i
theorem itT_ok {P : Program} {w : World} {H : Hp} {h : Heap} {t it : Addr} {i : Nat} (e : h.IsTupleIter it t i) : ObjOk P w H h it (ItT t it i) := by
  refine ⟨e, ?_, fun h1 h2 a b => ?_⟩
  · obtain ⟨o, ho, _⟩ := e
    exact ⟨o, ho⟩
  · obtain ⟨o, ho, r⟩ := a
    exact ⟨o, b o ho, r⟩
theorem call_iter_tup {prog : Program} {w : World} {A : Around} {E : Value → Shared → Prop} {s : Shared} {t : Addr} {items : Array Value} {Q : Value → Shared → Prop} (ht : s.heap.IsTuple t items)
    (hq : Q (.ref s.heap.objs.size) { s with heap := s.heap.push { cls := .type "tuple_iterator", data := .fields #[.ref t, .int 0 0] } }) : wpAny (model prog w) A (call (.builtin "iter") [.ref t]) Q E s := by
  refine Calls.call_function_entry (by decide +kernel) (by decide +kernel) PySem.W.kdk_entry_iter (PySem.W.kdk_args_iter _) ?_
  unfold Builtin.«iter»
  refine wpAny_bind (m := someArgs "iter" 1 2 _) (wpAny_of_eq (a := [Value.ref t]) (by first | rfl | kernel_rfl!) ?_)
  show wpAny _ _ (pyIter (.ref t) >>= _) _ _ s
  exact wpAny_bind (wpAny_pyIter_tuple ht (wpAny_pure ⟨_, rfl, hq⟩))
/-- the new iterator stands above all that is tracked -/
def rIterT (K : PySem.W.Frag) : List V → Hp → VK → Prop := fun xs H Q => ∃ (t : Addr) (zs : List V), xs = [.ref t] ∧ SqT K H t zs ∧ ∀ it, H it = Option.none → (∀ b o, H b = some o → b < it) → Q (.ref it) (upd H it (ItT t it 0))
section
variable {X : Cx}
theorem call_iterT : CallR X (.builtin "iter") (rIterT X.K) := by
  intro pins s σ H xs us Q I r h
  obtain ⟨t, zs, rfl, hq, q⟩ := h
  obtain ⟨u, rfl, ru⟩ := vals1 r
  cases ru
  obtain ⟨its, rv, pt, hz⟩ := I.tuple hq
  refine call_iter_tup (show s.heap.IsTuple t its.toArray from pt) ?_
  exact ⟨.ref s.heap.objs.size, _, I.laid (t' := s.toks) (fun b u e => Heap.get?_push_of_some _ e) (Nat.le_refl _) (itT_ok ⟨_, Heap.get?_push_size _ rfl, rfl, rfl⟩), rfl, q _ (I.hok.fresh (Nat.le_refl _)) fun b o e => I.hok.lt e⟩
/-- a list display; n: the size of the heap at the def's entry -/
def tLstN (n : Nat) (t : TA) : TE := fun σ H Q => t σ H fun xs H1 => xs.length ≤ sizeLine ∧ ∀ p, H1 p = none → n ≤ p → Q (.ref p) (upd H1 p (.lst xs))
theorem pe_lstN {es : List Expr} {t : TA} {pos : Pos} (h : PA X es t) : PE X (.List es pos) (tLstN X.s_0.heap.objs.size t) := by
  refine ⟨fun pins s σ H Q I hq => ?_⟩
  refine wpAny_List_spliced (thn (h.run pos pins s σ H _ I hq) fun us s1 ⟨xs, H1, I1, r, z, q⟩ => ⟨r.length ▸ z, ?_⟩)
  have hf : H1 s1.heap.objs.size = none := I1.hok.fresh (Nat.le_refl _)
  exact ⟨.ref s1.heap.objs.size, upd H1 s1.heap.objs.size (.lst xs), I1.laid (t' := s1.toks) (fun b u e => Heap.get?_push_of_some _ e) (Nat.le_refl _) ⟨z, us, 0, r, Heap.get?_push_size _ rfl⟩, rfl, q _ hf I1.sz⟩
end

/-! ### for x in o, o an instance whose __iter__ hands back a tuple's iterator -/
/-- o's __iter__ at f keeps sp; it hands back an iterator of the tuple at t, younger than the def's entry -/
def iOwn (K : PySem.W.Frag) (n : Nat) (C : Addr) (sp : Sp) (te : TE) : TI := fun σ H R => te σ H fun x H1 => ∃ a dx fs, x = .ref a ∧ H1 a = some (.ins C dx fs) ∧
  sp [.ref a] H1 (fun v H2 => ∃ it t, v = .ref it ∧ n ≤ it ∧ H2 it = some (ItT t it 0) ∧ R (Itt K t) (ItX.dropH H2 it)) E0
section
variable {X : Cx} {k : Nat} {C f : Addr} {fd : FuncData} {ps : List Str} {sp : Sp} {tg e : Expr} {te : TE}
theorem pi_own (hs : PySem.W.findIn X.K (.ref C) "__iter__" = some (some (.ref f))) (hf : PySem.W.isFn X.K (.ref f) = true) (F : FnOk X.prog X.w X.K X.mg X.base CX0 k f fd ps sp) (hr : Room k X.A) (hb : Binds X.K fd ps []) (he : PE X e te) :
    PI X tg e (iOwn X.K X.s_0.heap.objs.size C sp te) := by
  have sl := PySem.F.slot_tuple_iterator_next.lookup
  refine ⟨fun pins s σ H R I h => ?_⟩
  refine thn (he.run pins s σ H _ I h) fun v s1 ⟨x, H1, I1, r1, q1⟩ => ?_
  obtain ⟨a, dx, fs, rfl, ha, q⟩ := q1
  cases r1
  obtain ⟨mA, O, _⟩ := ins_get I1.hok ha
  obtain ⟨od, J, _⟩ := O.look
  obtain ⟨m, hF⟩ := I1.fr
  refine PySem.W.owit_iter hF I1.ok.mod.kin J hs hf ?_
  refine thn (run_fn (us := [.ref a]) (vs := [.ref a]) F hr hb .nil pass0 I1 (.cons rfl .nil) q) fun u s2 ⟨v0, H2, I2, r2, it, t, ev, hn, hit, q2⟩ => ?_
  subst ev
  cases r2
  have st : s2.heap.IsTupleIter it t 0 := (I2.hok it _ hit).1
  unfold PySem.W.OwitIt
  refine wpAny_specialOf (name := Str.ofString "__next__") st.typeIs sl ?_
  refine ⟨it, [it], _, _, ItX.dropH H2 it, rfl, ItX.inv_drop I2 hit, turn_tuple t it, st, fun b hb => ?_, q2⟩
  have e : b = it := by simpa using hb
  subst e
  exact ItX.inv_fp I2 hit hn
end

/-! ### t[::-1] of a tuple -/
theorem pick_rev (xs : Array Value) : ((List.range xs.size).filterMap fun (m : Nat) => xs[((xs.size : Int) - 1 + (m : Int) * -1).toNat]?).toArray = xs.toList.reverse.toArray := by
  have e : ((List.range xs.size).filterMap fun (m : Nat) => xs[((xs.size : Int) - 1 + (m : Int) * -1).toNat]?) = ((List.range xs.size).map fun k => xs.size - 1 - k).filterMap (xs[·]?) := by
    rw [List.filterMap_map]
    have key : ∀ l : List Nat, (∀ m ∈ l, m < xs.size) → (l.filterMap fun (m : Nat) => xs[((xs.size : Int) - 1 + (m : Int) * -1).toNat]?) = l.filterMap ((xs[·]?) ∘ fun k => xs.size - 1 - k) := by
      intro l
      induction l with
      | nil => intro _; rfl
      | cons m r ih =>
        intro hl
        have hlt := hl m List.mem_cons_self
        have e2 : ((xs.size : Int) - 1 + (m : Int) * -1).toNat = xs.size - 1 - m := by omega
        rw [List.filterMap_cons, List.filterMap_cons, ih fun x hx => hl x (List.mem_cons_of_mem _ hx), e2]
        rfl
    exact key _ fun m hm => List.mem_range.mp hm
  rw [e, PySem.W.krv_range, List.filterMap_reverse, PySem.W.krv_all]
section
variable {prog : Program} {w : World} {A : Around} {E : Value → Shared → Prop} {s : Shared}
theorem sliceApplied_rev {sl : Addr} {vl vu vs : Value} {n : Nat} {Q : Int × Int × Nat → Shared → Prop} (hs : s.heap.IsSliceOf sl vl vu vs) (pl : IsPart vl none) (pu : IsPart vu none) (ps : IsPart vs (some (-1)))
    (h : Q ((n : Int) - 1, -1, n) s) : wpAny (model prog w) A (Builtin.Slice.sliceApplied (.ref sl) (pure (n : Int))) Q E s := by
  obtain ⟨ob, hob, hcb, hdb⟩ := id hs
  unfold Builtin.Slice.sliceApplied Builtin.Slice.sliceFields
  refine wpAny_bind (wpAny_bind (wpAny_field hob hdb (x := vl) rfl ?_))
  refine wpAny_bind (wpAny_field hob hdb (x := vu) rfl ?_)
  refine wpAny_bind (wpAny_field hob hdb (x := vs) rfl (wpAny_pure ?_))
  refine wpAny_bind (HT.slicePart_ ps ?_)
  show wpAny _ _ (if ((-1 : Int) == 0) = true then _ else _) _ _ s
  rw [if_neg (by decide)]
  refine wpAny_bind (HT.slicePart_ pl ?_)
  refine wpAny_bind (HT.slicePart_ pu (wpAny_bind (wpAny_pure ?_)))
  have e : Builtin.Slice.sliceAdjust none none (-1) (n : Int) = ((n : Int) - 1, -1) := rfl
  have p : Builtin.Slice.slicePlaces ((n : Int) - 1) (-1) (-1) = n := by
    unfold Builtin.Slice.slicePlaces
    rw [if_neg (by decide)]
    by_cases hn : (n : Int) - 1 > -1
    · rw [if_pos hn, show (- -1 : Int) = 1 by decide, Int.ediv_one]
      omega
    · rw [if_neg hn]
      omega
  show wpAny _ _ (match Builtin.Slice.sliceAdjust none none (-1) (n : Int) with | (lo, hi) => pure (lo, (-1 : Int), Builtin.Slice.slicePlaces lo hi (-1))) _ _ s
  rw [e]
  show wpAny _ _ (pure ((n : Int) - 1, (-1 : Int), Builtin.Slice.slicePlaces ((n : Int) - 1) (-1) (-1))) _ _ s
  rw [p]
  exact wpAny_pure h
theorem getItem_tuple_rev {t sl : Addr} {items : Array Value} {vl vu vs : Value} {Q : Value → Shared → Prop} (ht : IsTup s.heap t items) (hs : s.heap.IsSliceOf sl vl vu vs) (pl : IsPart vl none) (pu : IsPart vu none) (ps : IsPart vs (some (-1)))
    (h : Q (.ref s.heap.objs.size) { s with heap := s.heap.push { cls := .type "tuple", data := .seq items.toList.reverse.toArray } }) (hz : items.size ≤ sizeLine) : wpAny (model prog w) A (getItem (.ref t) (.ref sl)) Q E s := by
  obtain ⟨ob, hob, hcb, hdb⟩ := id hs
  have hT : s.TypeIs (.ref sl) "slice" := ⟨ob, hob, hcb⟩
  have fits : sizeOk (.seq items.toList.reverse.toArray) := by
    show items.toList.reverse.toArray.size ≤ sizeLine
    rw [List.size_toArray, List.length_reverse, Array.length_toList]
    exact hz
  unfold getItem
  try with_reducible refine wpAny_holding ?_
  first | refine wpAny_bind (wpAny_pure ?_) | skip
  refine wpAny_bind (wpAny_sequenceKey ht.typeIs (by decide) ?_)
  refine wpAny_bind (wpAny_callSpecial?_slot (name := Str.ofString "__getitem__") ht.typeIs PyProof.Rows.slot_tuple_getitem (wpAny_call_entry PyProof.Rows.slot_tuple_getitem ht.typeIs entry_tuple_getitem ?_ (args_tuple_getitem _ _)))
  show wpAny _ _ (Builtin.Tuple.tupleItemsOf (.ref t) >>= _) _ _ s
  refine wpAny_bind (PyProof.Rows.tupleItemsOf_ ht ?_)
  refine wpAny_bind (wpAny_typeOf hT ?_)
  rw [if_pos (by decide)]
  refine wpAny_bind (sliceApplied_rev (n := items.size) hs pl pu ps ?_)
  have hno : ¬ (((((items.size : Int) - 1) == 0) && ((-1 : Int) == 1) && (items.size == items.size)) = true) := by
    rw [show ((-1 : Int) == 1) = false from rfl, Bool.and_false, Bool.false_and]
    exact Bool.false_ne_true
  show wpAny _ _ (if ((((items.size : Int) - 1) == 0) && ((-1 : Int) == 1) && (items.size == items.size)) = true then _ else _) _ _ s
  rw [if_neg hno]
  rw [show (((List.range items.size).filterMap fun (k : Nat) => items[((items.size : Int) - 1 + (k : Int) * (-1)).toNat]?).toArray) = items.toList.reverse.toArray from pick_rev items]
  first
    | exact wpAny_bind (m := Builtin.Tuple.tupleExact _) (wpAny_newObj_type (wpAny_pure ⟨_, rfl, wpAny_pure h⟩) fits)
    | exact wpAny_bind (m := Builtin.Tuple.tupleExact _) (wpAny_newObj_type (wpAny_bind (wpAny_pure (wpAny_pure ⟨_, rfl, wpAny_pure h⟩))) fits)
    | exact wpAny_bind (wpAny_bind (m := Builtin.Tuple.tupleExact _) (wpAny_newObj_type (wpAny_pure (wpAny_pure ⟨_, rfl, wpAny_pure h⟩)) fits))
    | exact wpAny_bind (wpAny_bind (m := Builtin.Tuple.tupleExact _) (wpAny_newObj_type (wpAny_pure ⟨_, rfl, wpAny_pure h⟩) fits))
end
def tRevT (K : PySem.W.Frag) (te : TE) : TE := fun σ H Q => te σ H fun x H1 => ∃ a xs, x = .ref a ∧ SqT K H1 a xs ∧ ∀ p, H1 p = none → Q (.ref p) (upd H1 p (.tup xs.reverse))
section
variable {X : Cx}
theorem pe_revT {e : Expr} {te : TE} {k : Nat} {p1 p2 p3 pos : Pos} (he : PE X e te) : PE X (.Subscript e (.Slice none none (some (.UnaryOp .USub (.Constant (.int 1) k p1) p2)) p3) pos) (tRevT X.K te) := by
  refine ⟨fun pins s σ H Q I h => ?_⟩
  refine Subscript_ (thn (he.run pins s σ H _ I h) fun v s1 ⟨x, H1, I1, r1, a, xs, ex, hx, q⟩ => ?_)
  subst ex
  cases r1
  have step : PO X (some (.UnaryOp .USub (.Constant (.int 1) k p1) p2)) (tPart (tUn (rU fun i => .int (-i)) (tC (.int 1)))) := po_some (pe_un un_neg pe_int)
  refine wpAny_Slice (thn (po_none.run pins s1 σ H1 (fun o H2 => o = none ∧ H2 = H1) I1 ⟨rfl, rfl⟩) fun vl s2 ⟨lo, H2, I2, pl, hlo⟩ => ?_)
  obtain ⟨rfl, rfl⟩ := hlo
  refine thn (po_none.run pins s2 σ H2 (fun o H3 => o = none ∧ H3 = H2) I2 ⟨rfl, rfl⟩) fun vu s3 ⟨up, H3, I3, pu, hup⟩ => ?_
  obtain ⟨rfl, rfl⟩ := hup
  refine thn (step.run pins s3 σ H3 (fun o H4 => o = some (-1) ∧ H4 = H3) I3 ⟨1, rfl, -1, rfl, rfl, rfl⟩) fun vs s4 ⟨st, H4, I4, ps, hst⟩ => ?_
  obtain ⟨rfl, rfl⟩ := hst
  have I5 : Inv X pins σ H4 { s4 with heap := s4.heap.push { cls := .type "slice", data := .fields #[vl, vu, vs] } } := I4.kept (t' := s4.toks) fun b ob q => Heap.get?_push_of_some _ q
  obtain ⟨its, r, ht, hz⟩ := I5.tuple hx
  have hlen := r.length
  show wpAny (model X.prog X.w) X.A (subscriptTail e (.Slice none none (some (.UnaryOp .USub (.Constant (.int 1) k p1) p2)) p3) (.ref a) (.ref s4.heap.objs.size)) (EP X pins σ Q) X.xe { s4 with heap := s4.heap.push { cls := .type "slice", data := .fields #[vl, vu, vs] } }
  refine tail_any (ops := [.ref a, .ref s4.heap.objs.size]) ht.typeIs (PyProof.Rows.slot_tuple_getitem.lookup) ?_ (by with_unfolding_all rfl)
  refine getItem_tuple_rev ht (Heap.IsSliceOf.new _ vl vu vs) pl pu ps ?_ (by rw [List.size_toArray]; omega)
  refine ⟨.ref _, _, I5.laid (t' := s4.toks) (o := .tup xs.reverse) (fun b ob q => Heap.get?_push_of_some _ q) (Nat.le_refl _) ?_, rfl, q _ (I5.hok.fresh (Nat.le_refl _))⟩
  exact ⟨by rw [List.length_reverse]; exact hz, _, r.reverse, ⟨_, Heap.get?_push_size _ rfl, rfl, _, rfl⟩⟩
end
end Pp
end

section
set_option Elab.async false
set_option linter.all false
set_option maxRecDepth 100000
set_option maxHeartbeats 4000000
namespace Pp
open PySem PySem.Spec PyProof.Rows L2 Evl

/-! ### the text by places -/
def top (i : Nat) : Stmt := PySem.Challenge.pw_pupilpairs_k28_whole_rounds_add_up.main.body.getD i (.Pass ⟨0, 0, 0, 0⟩)
abbrev sScript : Stmt := top 28
abbrev sLine : Stmt := top 32

/-! ### defs, methods, classes as they stand behind the top -/
/-- a def of the module -/
structure Df (K : PySem.W.Frag) (mg : Str → Option Value) (x : Str) (st : Stmt) : Prop where
  ex : ∃ f fd, Fun K x x st f fd ∧ mg x = some (.ref f)
/-- a method -/
structure Md (K : PySem.W.Frag) (C : Addr) (m qual : Str) (st : Stmt) : Prop where
  ex : ∃ f fd, Fun K m qual st f fd ∧ PySem.W.findIn K (.ref C) m = some (some (.ref f)) ∧ PySem.W.isFn K (.ref f) = true
/-- how a def's arguments bind: closed by fun _ .. us hl => match us, hl with .. -/
def BindAll (x qual : Str) (st : Stmt) (ps : List Str) : Prop :=
  ∀ (kV doc pm : Value) (an : Option Addr) (cdv ct : Value) (us : List Value), us.length = ps.length → bindArgs (PySem.W.fnOf x qual (defArgs st) (defBody st) (defScope st) .none kV doc pm an cdv ct) ⟨us, []⟩ = pure (ps.zip us)

/-- the callee at f: its promise, its binding -/
structure Ok (P : Program) (w : World) (K : PySem.W.Frag) (mg : Str → Option Value) (base : Heap) (k : Nat) (f : Addr) (sp : Sp) : Prop where
  ex : ∃ (fd : FuncData) (ps : List Str), FnOk P w K mg base CX0 k f fd ps sp ∧ Binds K fd ps [] ∧ PySem.W.keepIn K (.ref f) = true
/-- a method of C, with its promise -/
structure Me (P : Program) (w : World) (K : PySem.W.Frag) (mg : Str → Option Value) (base : Heap) (k : Nat) (C : Addr) (m : Str) (sp : Sp) : Prop where
  ex : ∃ (f : Addr) (fd : FuncData) (ps : List Str), FnOk P w K mg base CX0 k f fd ps sp ∧ Binds K fd ps [] ∧ PySem.W.keepIn K (.ref f) = true ∧ PySem.W.findIn K (.ref C) m = some (some (.ref f)) ∧ PySem.W.isFn K (.ref f) = true
/-- a def of the module, with its promise -/
abbrev Ca (P : Program) (w : World) (K : PySem.W.Frag) (mg : Str → Option Value) (base : Heap) (k : Nat) (x : Str) (sp : Sp) : Prop := C8.Cal P w K mg base k x sp []

section
variable {P : Program} {w : World} {K : PySem.W.Frag} {mg : Str → Option Value} {base : Heap}
/-- what a body must show -/
abbrev Body (P : Program) (w : World) (K : PySem.W.Frag) (mg : Str → Option Value) (base : Heap) (k : Nat) (qual : Str) (st : Stmt) (N : List Str) (sp : Sp) : Prop :=
  ∀ (f : Addr) (cdv : Value) (A : Around) (outer : List Env) (s : Shared) (H : Hp) (vs : List V) (Q : VK) (E : XK), Room k (A.deeper (envOfC qual (defScope st) s.heap.objs.size f cdv)) → sp vs H Q E →
    ∃ t, PSs (cxOf CX0 P w K mg base N qual (defScope st) f cdv A outer s H E).nox (defBody st) t ∧ t { nx := fun _ H' => Q .non H', rt := Q } (start N vs) H
theorem ca_of {x : Str} {st : Stmt} {N ps : List Str} {k : Nat} {sp : Sp} (D : Df K mg x st) (S : FnScope N ps (defScope st)) (b : BindAll x x st ps) (len : ∀ vs H Q E, sp vs H Q E → vs.length = ps.length)
    (h : Body P w K mg base k x st N sp) : Ca P w K mg base (k + 1) x sp := by
  obtain ⟨f, fd, F, hm⟩ := D.ex
  exact ⟨f, fd, ps, [], F.ok S len (h f), hm, F.kp, F.binds b, .nil⟩
theorem me_of {C : Addr} {m qual : Str} {st : Stmt} {N ps : List Str} {k : Nat} {sp : Sp} (D : Md K C m qual st) (S : FnScope N ps (defScope st)) (b : BindAll m qual st ps) (len : ∀ vs H Q E, sp vs H Q E → vs.length = ps.length)
    (h : Body P w K mg base k qual st N sp) : Me P w K mg base (k + 1) C m sp := by
  obtain ⟨f, fd, F, hf, ht⟩ := D.ex
  exact ⟨f, fd, ps, F.ok S len (h f), F.binds b, F.kp, hf, ht⟩
end

/-! ### what of the text stands -/
structure Txt (w : World) (K : PySem.W.Frag) (mg : Str → Option Value) (SC LC : Addr) : Prop where
  len : mg "len" = none
  isi : mg "isinstance" = none
  int : mg "int" = none
  bool : mg "bool" = none
  tuple : mg "tuple" = none
  list : mg "list" = none
  str : mg "str" = none
  abs : mg "abs" = none
  all : mg "all" = none
  range : mg "range" = none
  iter : mg "iter" = none
  enum : mg "enumerate" = none
  sorted : mg "sorted" = none
  mgS : mg "Script" = some (.ref SC)
  mgL : mg "Line" = some (.ref LC)
  clS : Cls K SC
  clL : Cls K LC
  mkS : PySem.W.makesIn K SC = true
  mkL : PySem.W.makesIn K LC = true
  kpS : PySem.W.keepIn K (.ref SC) = true
  kpL : PySem.W.keepIn K (.ref LC) = true
  sW : NoAttr K SC "width"
  sS : NoAttr K SC "steps"
  lW : NoAttr K LC "width"
  lD : NoAttr K LC "deep"
  lS : NoAttr K LC "standing"
  first : PySem.W.selfFirst K SC = true
  insS : C8.InsC K SC
  insL : C8.InsC K LC
  notS : PySem.W.kitOne K (.type "tuple") (.ref SC) = some false
  neL : PySem.W.findIn K (.ref LC) "__ne__" = some (some (.builtin "object.__ne__"))
  obL : PySem.W.mroIn K LC (.type "object") = some true
  most : ∃ t, mg "MOST_ROWS" = some (.int 400 t)
  byN : ∃ a, mg "BY_NUMBER" = some (.ref a) ∧ ∀ H, SqT K H a [.str "all", .str "up", .str "wheel"]
  byF : ∃ a es n, mg "BY_FILES" = some (.ref a) ∧ KDict K w a es n ∧ (∃ t, PySem.W.nsIn K a "all" = some (some (.int 0 t))) ∧ (∃ t, PySem.W.nsIn K a "up" = some (some (.int 1 t))) ∧ (∃ t, PySem.W.nsIn K a "swap" = some (some (.int 2 t))) ∧
    (∃ t, PySem.W.nsIn K a "wheel" = some (some (.int 2 t))) ∧ (∃ t, PySem.W.nsIn K a "about" = some (some (.int 0 t))) ∧ (∃ t, PySem.W.nsIn K a "front" = some (some (.int 2 t))) ∧ (∃ t, PySem.W.nsIn K a "halve" = some (some (.int 0 t))) ∧
    (∃ t, PySem.W.nsIn K a "pair" = some (some (.int 0 t))) ∧ (∃ t, PySem.W.nsIn K a "others" = some (some (.int 0 t))) ∧ (∃ t, PySem.W.nsIn K a "fill" = some (some (.int 0 t)))
  opC : ∃ a es n, mg "OPEN_CALLS" = some (.ref a) ∧ KDict K w a es n ∧ PySem.W.nsIn K a "all" = some none ∧ PySem.W.nsIn K a "up" = some none ∧ PySem.W.nsIn K a "swap" = some none ∧ PySem.W.nsIn K a "wheel" = some none ∧
    PySem.W.nsIn K a "about" = some none ∧ PySem.W.nsIn K a "front" = some none ∧ (∃ t, PySem.W.nsIn K a "halve" = some (some (.str "pair" t))) ∧ (∃ t, PySem.W.nsIn K a "pair" = some (some (.str "halve" t))) ∧
    (∃ t, PySem.W.nsIn K a "others" = some (some (.str "fill" t))) ∧ (∃ t, PySem.W.nsIn K a "fill" = some (some (.str "others" t)))

/-! ### the data in the heap -/
/-- all but what stands at a is as it was -/
def ExB (a : Addr) (H H' : Hp) : Prop := ∀ b o, b ≠ a → H b = some o → H' b = some o
theorem ExB.of {a : Addr} {H H' : Hp} (e : Ex H H') : ExB a H H' := fun b o _ h => e b o h
theorem ExB.refl {a : Addr} {H : Hp} : ExB a H H := fun _ _ _ h => h
theorem ExB.trans {a : Addr} {H H1 H2 : Hp} (x : ExB a H H1) (y : ExB a H1 H2) : ExB a H H2 := fun b o n h => y b o n (x b o n h)
theorem ExB.upd {a : Addr} {H : Hp} {o : HO} : ExB a H (upd H a o) := fun b u n h => by rw [upd_ne n]; exact h
/-- what was not there ahead of it may change -/
theorem ExB.ex {a : Addr} {H H1 H2 : Hp} (e : Ex H H1) (n : H a = none) (x : ExB a H1 H2) : Ex H H2 := fun b o h => x b o (ne_of_none h n) (e b o h)
/-- .. and else but for b -/
theorem ExB.both {a b : Addr} {H H1 H2 : Hp} (e : ExB b H H1) (n : H a = none) (x : ExB a H1 H2) : ExB b H H2 := fun c o m h => x c o (ne_of_none h n) (e c o m h)
/-- a tuple of these -/
def TupV (K : PySem.W.Frag) (H : Hp) (v : V) (xs : List V) : Prop := ∃ p, v = .ref p ∧ SqT K H p xs
theorem TupV.mono {K : PySem.W.Frag} {H H' : Hp} {v : V} {xs : List V} (e : Ex H H') (h : TupV K H v xs) : TupV K H' v xs := by
  obtain ⟨p, rfl, q⟩ := h
  exact ⟨p, rfl, ex_t e q⟩
theorem TupV.new {K : PySem.W.Frag} {H : Hp} {p : Addr} {xs : List V} (h : H p = some (.tup xs)) : TupV K H (.ref p) xs := ⟨p, rfl, st_of h⟩
/-- what may change at a is no tuple -/
def NoTup (o : HO) : Prop := (∀ xs, o ≠ .tup xs) ∧ ∀ u x, o ≠ .frz u x
theorem sqT_b {K : PySem.W.Frag} {a p : Addr} {H H' : Hp} {o : HO} {xs : List V} (e : ExB a H H') (ha : H a = some o) (hn : NoTup o) (h : SqT K H p xs) : SqT K H' p xs := by
  rcases h with (h | ⟨u, h⟩) | h
  · exact .inl (.inl (e p _ (ne_of h ha fun z => hn.1 _ z.symm) h))
  · exact .inl (.inr ⟨u, e p _ (ne_of h ha fun z => hn.2 _ _ z.symm) h⟩)
  · exact .inr h
theorem TupV.b {K : PySem.W.Frag} {a : Addr} {H H' : Hp} {o : HO} {v : V} {xs : List V} (e : ExB a H H') (ha : H a = some o) (hn : NoTup o) (h : TupV K H v xs) : TupV K H' v xs := by
  obtain ⟨p, rfl, q⟩ := h
  exact ⟨p, rfl, sqT_b e ha hn q⟩
theorem noTup_ins {C dx : Addr} {fs : List (Str × V)} : NoTup (.ins C dx fs) := ⟨fun _ z => (nomatch z), fun _ _ z => (nomatch z)⟩
theorem noTup_lst {xs : List V} : NoTup (.lst xs) := ⟨fun _ z => (nomatch z), fun _ _ z => (nomatch z)⟩

/-- a call as a tuple -/
def valsOf : Cl → List V
  | .all k => [.str "all", .int k]
  | .up f k => [.str "up", .int f, .int k]
  | .swap f g => [.str "swap", .int f, .int g]
  | .wheel f g k => [.str "wheel", .int f, .int g, .int k]
  | .about => [.str "about"]
  | .front f g => [.str "front", .int f, .int g]
  | .halve => [.str "halve"]
  | .pair => [.str "pair"]
  | .others => [.str "others"]
  | .fill => [.str "fill"]
abbrev CallV (K : PySem.W.Frag) (H : Hp) (v : V) (c : Cl) : Prop := TupV K H v (valsOf c)
abbrev PlaceV (K : PySem.W.Frag) (H : Hp) (v : V) (p : Pl) : Prop := TupV K H v [.int p.1, .int p.2]
abbrev CallsV (K : PySem.W.Frag) (H : Hp) : List V → List Cl → Prop := Paired (CallV K H)
theorem CallsV.mono {K : PySem.W.Frag} {H H' : Hp} {vs : List V} {cs : List Cl} (e : Ex H H') (h : CallsV K H vs cs) : CallsV K H' vs cs := Paired.mapP h fun _ _ q => q.mono e
theorem CallsV.b {K : PySem.W.Frag} {a : Addr} {H H' : Hp} {o : HO} {vs : List V} {cs : List Cl} (e : ExB a H H') (ha : H a = some o) (hn : NoTup o) (h : CallsV K H vs cs) : CallsV K H' vs cs := Paired.mapP h fun _ _ q => q.b e ha hn
theorem Paired.get {α β : Type} {F : α → β → Prop} : ∀ {l : List α} {m : List β} {i : Nat} {x : α}, Paired F l m → l[i]? = some x → ∃ y, m[i]? = some y ∧ F x y
  | _, _, _, _, .nil, h => by simp at h
  | _, _, 0, _, .cons r _, h => by simp at h; subst h; exact ⟨_, rfl, r⟩
  | _, _, i + 1, _, .cons _ t, h => by
    obtain ⟨y, h1, h2⟩ := Paired.get (i := i) t (by simpa using h)
    exact ⟨y, by simpa using h1, h2⟩
theorem Paired.app {α β : Type} {F : α → β → Prop} : ∀ {l l' : List α} {m m' : List β}, Paired F l m → Paired F l' m' → Paired F (l ++ l') (m ++ m')
  | _, _, _, _, .nil, h => h
  | _, _, _, _, .cons r t, h => .cons r (Paired.app t h)
theorem Paired.rev {α β : Type} {F : α → β → Prop} : ∀ {l : List α} {m : List β}, Paired F l m → Paired F l.reverse m.reverse
  | _, _, .nil => .nil
  | _, _, .cons r t => by
    rw [List.reverse_cons, List.reverse_cons]
    exact Paired.app (Paired.rev t) (.cons r .nil)

/-- the attributes of a script, of a line -/
def sf (w : Int) (t : Addr) : List (Str × V) := putF "steps" (.ref t) (putF "width" (.int w) [])
def lf (w d : Int) (l : Addr) : List (Str × V) := putF "standing" (.ref l) (putF "deep" (.int d) (putF "width" (.int w) []))
theorem ne_ws : ¬ (("width" : Str) = "steps") := by decide +kernel
theorem ne_sw : ¬ (("steps" : Str) = "width") := by decide +kernel
theorem ne_wst : ¬ (("width" : Str) = "standing") := by decide +kernel
theorem ne_wd : ¬ (("width" : Str) = "deep") := by decide +kernel
theorem ne_dst : ¬ (("deep" : Str) = "standing") := by decide +kernel
theorem ne_dw : ¬ (("deep" : Str) = "width") := by decide +kernel
theorem ne_stst : ¬ (("steps" : Str) = "standing") := by decide +kernel
theorem ne_std : ¬ (("steps" : Str) = "deep") := by decide +kernel
theorem sf_w (w : Int) (t : Addr) : (sf w t).lookup ("width" : Str) = some (.int w) := by
  unfold sf
  rw [lookup_putF, if_neg ne_ws, lookup_putF, if_pos rfl]
theorem sf_s (w : Int) (t : Addr) : (sf w t).lookup ("steps" : Str) = some (.ref t) := by
  unfold sf
  rw [lookup_putF, if_pos rfl]
theorem sf_no (w : Int) (t : Addr) {m : Str} (h1 : ¬ m = "steps") (h2 : ¬ m = "width") : (sf w t).lookup m = none := by
  unfold sf
  rw [lookup_putF, if_neg h1, lookup_putF, if_neg h2] <;> rfl
theorem lf_w (w d : Int) (l : Addr) : (lf w d l).lookup ("width" : Str) = some (.int w) := by
  unfold lf
  rw [lookup_putF, if_neg ne_wst, lookup_putF, if_neg ne_wd, lookup_putF, if_pos rfl]
theorem lf_d (w d : Int) (l : Addr) : (lf w d l).lookup ("deep" : Str) = some (.int d) := by
  unfold lf
  rw [lookup_putF, if_neg ne_dst, lookup_putF, if_pos rfl]
theorem lf_s (w d : Int) (l : Addr) : (lf w d l).lookup ("standing" : Str) = some (.ref l) := by
  unfold lf
  rw [lookup_putF, if_pos rfl]
theorem lf_no (w d : Int) (l : Addr) {m : Str} (h1 : ¬ m = "standing") (h2 : ¬ m = "deep") (h3 : ¬ m = "width") : (lf w d l).lookup m = none := by
  unfold lf
  rw [lookup_putF, if_neg h1, lookup_putF, if_neg h2, lookup_putF, if_neg h3] <;> rfl
theorem lf_eq (w d : Int) (l : Addr) : lf w d l = ([("width", V.int w), ("deep", V.int d), ("standing", V.ref l)] : List (Str × V)) := by
  have e1 : putF "deep" (.int d) (putF "width" (.int w) []) = ([("width", V.int w), ("deep", V.int d)] : List (Str × V)) := by
    show (if ("width" : Str) = "deep" then _ else (("width" : Str), V.int w) :: putF "deep" (V.int d) []) = _
    rw [if_neg ne_wd] <;> rfl
  unfold lf
  rw [e1]
  show (if ("width" : Str) = "standing" then _ else (("width" : Str), V.int w) :: (if ("deep" : Str) = "standing" then _ else (("deep" : Str), V.int d) :: putF "standing" (V.ref l) [])) = _
  rw [if_neg ne_wst, if_neg ne_dst] <;> rfl
theorem lf_put (w d : Int) (l m : Addr) : putF "standing" (.ref m) (lf w d l) = lf w d m := by
  rw [lf_eq, lf_eq]
  show (if ("width" : Str) = "standing" then _ else (("width" : Str), V.int w) :: (if ("deep" : Str) = "standing" then _ else (("deep" : Str), V.int d) :: (if ("standing" : Str) = "standing" then _ else _))) = _
  rw [if_neg ne_wst, if_neg ne_dst, if_pos rfl]
theorem lf_len (w d : Int) (l : Addr) : (lf w d l).length = 3 := by rw [lf_eq] <;> rfl

/-- a script of w files and the calls cs -/
def ScriptV (K : PySem.W.Frag) (SC : Addr) (H : Hp) (v : V) (w : Int) (cs : List Cl) : Prop := ∃ a dx t rs, v = .ref a ∧ H a = some (.ins SC dx (sf w t)) ∧ SqT K H t rs ∧ CallsV K H rs cs
/-- a line of w files and d rows where the pupils ns stand -/
def LineV (K : PySem.W.Frag) (LC : Addr) (H : Hp) (v : V) (w d : Int) (ns : List Int) : Prop := ∃ a dx l, v = .ref a ∧ H a = some (.ins LC dx (lf w d l)) ∧ SqL K H l (ns.map V.int)
theorem ScriptV.mono {K : PySem.W.Frag} {SC : Addr} {H H' : Hp} {v : V} {w : Int} {cs : List Cl} (e : Ex H H') (h : ScriptV K SC H v w cs) : ScriptV K SC H' v w cs := by
  obtain ⟨a, dx, t, rs, rfl, h1, h2, h3⟩ := h
  exact ⟨a, dx, t, rs, rfl, e _ _ h1, ex_t e h2, CallsV.mono e h3⟩
theorem LineV.mono {K : PySem.W.Frag} {LC : Addr} {H H' : Hp} {v : V} {w d : Int} {ns : List Int} (e : Ex H H') (h : LineV K LC H v w d ns) : LineV K LC H' v w d ns := by
  obtain ⟨a, dx, l, rfl, h1, h2⟩ := h
  exact ⟨a, dx, l, rfl, e _ _ h1, ex_l e h2⟩
/-- the bag from which the law draws, at b -/
def BagAt (H : Hp) (b l : Addr) : Prop := ∃ (n0 n1 n2 : Int) (xs : List Int), H b = some (.lst [.int n0, .int n1, .int n2, .ref l]) ∧ H l = some (.lst (xs.map V.int)) ∧ 0 ≤ n0 ∧ (0 ≤ n1 ∧ n1 < 2147483647) ∧ 0 ≤ n2 ∧ ∀ x ∈ xs, 0 ≤ x
theorem int_no_ref {l : Addr} {n0 n1 n2 : Int} {xs : List Int} : ¬ (xs.map V.int = [.int n0, .int n1, .int n2, .ref l]) := by
  intro h
  match xs with
  | [] => cases h
  | [_] => cases h
  | [_, _] => cases h
  | [_, _, _] => cases h
  | a :: b :: c :: d :: r =>
    rw [List.map_cons, List.map_cons, List.map_cons, List.map_cons] at h
    injection h with _ h
    injection h with _ h
    injection h with _ h
    injection h with h _
    cases h
theorem BagAt.mono {H H' : Hp} {b l : Addr} (e : Ex H H') (h : BagAt H b l) : BagAt H' b l := by
  obtain ⟨n0, n1, n2, xs, h1, h2, r⟩ := h
  exact ⟨n0, n1, n2, xs, e _ _ h1, e _ _ h2, r⟩
theorem BagAt.new {H : Hp} {b l p : Addr} (h : BagAt H b l) (n : H p = none) : p ≠ b ∧ p ≠ l := by
  obtain ⟨n0, n1, n2, xs, h1, h2, r⟩ := h
  exact ⟨fun z => (by rw [z, h1] at n; cases n), fun z => (by rw [z, h2] at n; cases n)⟩
theorem BagAt.upd {H : Hp} {b l p : Addr} {o : HO} (h : BagAt H b l) (n : p ≠ b ∧ p ≠ l) : BagAt (upd H p o) b l := by
  obtain ⟨n0, n1, n2, xs, h1, h2, r⟩ := h
  exact ⟨n0, n1, n2, xs, Eq.trans (upd_ne n.1.symm) h1, Eq.trans (upd_ne n.2.symm) h2, r⟩
/-- an object (no list) that has changed -/
theorem BagAt.exB {H H' : Hp} {b l a : Addr} {o : HO} (h : BagAt H b l) (e : ExB a H H') (ha : H a = some o) (hn : ∀ xs, o ≠ .lst xs) : BagAt H' b l := by
  obtain ⟨n0, n1, n2, xs, h1, h2, r⟩ := h
  exact ⟨n0, n1, n2, xs, e _ _ (ne_of h1 ha fun z => hn _ z.symm) h1, e _ _ (ne_of h2 ha fun z => hn _ z.symm) h2, r⟩
theorem BagAt.ne {H : Hp} {b l : Addr} {n0 n1 n2 : Int} {xs : List Int} (h1 : H b = some (.lst [.int n0, .int n1, .int n2, .ref l])) {m : Addr} (h2 : H m = some (.lst (xs.map V.int))) : m ≠ b := by
  refine ne_of h2 h1 fun z => ?_
  injection z with z
  exact int_no_ref z
theorem sqL_bag {K : PySem.W.Frag} {H H' : Hp} {b e' l : Addr} {xs : List V} (e : ExB b H H') (hb : BagAt H b e') (hx : ∀ x ∈ xs, ∀ q, x ≠ .ref q) (h : SqL K H l xs) : SqL K H' l xs := by
  obtain ⟨n0, n1, n2, ys, h1, _⟩ := hb
  have no : xs ≠ [.int n0, .int n1, .int n2, .ref e'] := fun z => hx (.ref e') (by rw [z]; simp) e' rfl
  rcases h with (h | ⟨u, h⟩) | h
  · exact .inl (.inl (e l _ (ne_of h h1 fun z => by injection z with z; exact no z) h))
  · exact .inl (.inr ⟨u, e l _ (ne_of h h1 fun z => nomatch z) h⟩)
  · exact .inr h
theorem ScriptV.b {K : PySem.W.Frag} {SC b e' : Addr} {H H' : Hp} {v : V} {w : Int} {cs : List Cl} (e : ExB b H H') (hb : BagAt H b e') (h : ScriptV K SC H v w cs) : ScriptV K SC H' v w cs := by
  obtain ⟨n0, n1, n2, ys, g1, _⟩ := hb
  obtain ⟨a, dx, t, rs, rfl, h1, h2, h3⟩ := h
  exact ⟨a, dx, t, rs, rfl, e a _ (ne_of h1 g1 fun z => nomatch z) h1, sqT_b e g1 noTup_lst h2, CallsV.b e g1 noTup_lst h3⟩
theorem LineV.b {K : PySem.W.Frag} {LC b e' : Addr} {H H' : Hp} {v : V} {w d : Int} {ns : List Int} (e : ExB b H H') (hb : BagAt H b e') (h : LineV K LC H v w d ns) : LineV K LC H' v w d ns := by
  obtain ⟨a, dx, l, rfl, h1, h2⟩ := h
  have g := hb
  obtain ⟨n0, n1, n2, ys, g1, _⟩ := hb
  refine ⟨a, dx, l, rfl, e a _ (ne_of h1 g1 fun z => nomatch z) h1, sqL_bag e g (fun x hx q z => ?_) h2⟩
  obtain ⟨n, _, rfl⟩ := List.mem_map.mp hx
  cases z
/-- an item of a list, by its place -/
theorem ix_at {xs : List V} {i : Int} {v : V} (j : Nat) (e : i = (j : Int)) (h : xs[j]? = some v) : atI xs i = some v := at_of e h
theorem ix_last {xs : List V} {v : V} : atI (xs ++ [v]) (-1) = some v := by
  unfold atI ixN
  rw [if_neg (by decide), if_pos (by rw [List.length_append, List.length_singleton]; omega)]
  show (xs ++ [v])[((-1 : Int) + ((xs ++ [v]).length : Nat)).toNat]? = some v
  rw [List.length_append, List.length_singleton, show ((-1 : Int) + ((xs.length + 1 : Nat) : Int)).toNat = xs.length by omega]
  simp
end Pp
end

section
set_option Elab.async false
set_option linter.all false
set_option maxRecDepth 100000
set_option maxHeartbeats 4000000
namespace Pp
open PySem PySem.Spec PyProof.Rows L2 Evl

theorem kb_ii : kitB "int" "int" = some true := by decide +kernel
theorem kb_ib : kitB "int" "bool" = some false := by decide +kernel
theorem kb_tt : kitB "tuple" "tuple" = some true := by decide +kernel
theorem kb_ss : kitB "str" "str" = some true := by decide +kernel
theorem kb_lt : kitB "list" "tuple" = some false := by decide +kernel
theorem kb_ll : kitB "list" "list" = some true := by decide +kernel
theorem boot_isi : bootBuiltins "isinstance" = some (.builtin "isinstance") := by decide +kernel
theorem boot_int' : bootBuiltins "int" = some (.type "int") := by decide +kernel
theorem boot_bool' : bootBuiltins "bool" = some (.type "bool") := by decide +kernel
theorem boot_tuple' : bootBuiltins "tuple" = some (.type "tuple") := by decide +kernel
theorem boot_list' : bootBuiltins "list" = some (.type "list") := by decide +kernel
theorem boot_str' : bootBuiltins "str" = some (.type "str") := by decide +kernel
theorem boot_abs' : bootBuiltins "abs" = some (.builtin "abs") := by decide +kernel
theorem boot_all' : bootBuiltins "all" = some (.builtin "all") := by decide +kernel
theorem boot_iter' : bootBuiltins "iter" = some (.builtin "iter") := by decide +kernel
theorem boot_sorted' : bootBuiltins "sorted" = some (.builtin "sorted") := by decide +kernel
/-- the ones that a def's end takes -/
abbrev RetB (b : Bool) (H : Hp) (Q : VK) : Prop := ∀ H', Ex H H' → Q (.bl b) H'

/-! ### kinds.py -/
def spInt : Sp := fun vs H Q _ => ∃ i : Int, vs = [.int i] ∧ Q (.bl true) H
def spFiles : Sp := fun vs H Q _ => ∃ i : Int, vs = [.int i] ∧ (i = 2 ∨ i = 3) ∧ RetB true H Q
def spRows : Sp := fun vs H Q _ => ∃ i : Int, vs = [.int i] ∧ 1 ≤ i ∧ Q (.bl true) H
def spIndex : Sp := fun vs H Q _ => ∃ i m : Int, vs = [.int i, .int m] ∧ 0 ≤ i ∧ i < m ∧ Q (.bl true) H
section
variable {P : Program} {w : World} {K : PySem.W.Frag} {mg : Str → Option Value} {base : Heap} {SC LC : Addr}
theorem sc_int : FnScope ["thing"] ["thing"] (defScope (top 2)) := ⟨rfl, rfl, rfl, by decide +kernel, rfl, by decide +kernel, by decide +kernel⟩
theorem ca_int (T : Txt w K mg SC LC) (D : Df K mg "is_integer" (top 2)) : Ca P w K mg base 1 "is_integer" spInt := by
  refine ca_of (k := 0) D sc_int (fun _ _ _ _ _ _ us hl => match us, hl with | [_], _ => rfl) (fun vs H Q E h => by obtain ⟨i, rfl, _⟩ := h; rfl) (fun f cdv A outer s H vs Q E hr h => ?_)
  obtain ⟨i, rfl, q⟩ := h
  refine ⟨_, pss_one (ps_ret (pe_and (pe_callB call_isi (by rfl) T.isi boot_isi (pa_cons (pv 0) (pa_cons (pe_bltn (v := .ty "int") (by rfl) T.int boot_int' rfl) pa_nil)))
    (pe_one (pe_not (pe_callB call_isi (by rfl) T.isi boot_isi (pa_cons (pv 0) (pa_cons (pe_bltn (v := .ty "bool") (by rfl) T.bool boot_bool' rfl) pa_nil))))))), ?_⟩
  refine ⟨_, rfl, .int i, .ty "int", .type "int", .type "int", true, rfl, .ty "int", .base (.int i), kit_ty kb_ii, true, rfl, iteT ?_⟩
  exact ⟨_, rfl, .int i, .ty "bool", .type "int", .type "bool", false, rfl, .ty "bool", .base (.int i), kit_ty kb_ib, false, rfl, q⟩
theorem sc_files : FnScope ["thing"] ["thing"] (defScope (top 3)) := ⟨rfl, rfl, rfl, by decide +kernel, rfl, by decide +kernel, by decide +kernel⟩
theorem ca_files (T : Txt w K mg SC LC) (D : Df K mg "is_files" (top 3)) (cI : Ca P w K mg base 1 "is_integer" spInt) : Ca P w K mg base 2 "is_files" spFiles := by
  refine ca_of (k := 1) D sc_files (fun _ _ _ _ _ _ us hl => match us, hl with | [_], _ => rfl) (fun vs H Q E h => by obtain ⟨i, rfl, _⟩ := h; rfl) (fun f cdv A outer s H vs Q E hr h => ?_)
  obtain ⟨i, rfl, hi, q⟩ := h
  refine ⟨_, pss_one (ps_ret (pe_and (C8.pe_c cI hr (by decide) (by rfl) (pa_cons (pv 0) pa_nil)) (pe_one (pe_cmpR op_in_seq (pv 0) (pe_tup (pa_cons pe_int (pa_cons pe_int pa_nil))) (by rfl))))), ?_⟩
  refine ⟨_, rfl, i, rfl, true, rfl, iteT ?_⟩
  refine ⟨_, rfl, (by show 2 ≤ sizeLine; decide), fun p hp => ?_⟩
  refine ⟨p, _, rfl, .inr (SqT.of upd_same), rfl, rfl, ?_⟩
  have e : inV (.int i) [V.int 2, V.int 3] = true := by
    rcases hi with rfl | rfl <;> decide
  show Q (.bl (inV (.int i) [V.int 2, V.int 3])) _
  rw [e]
  exact q _ (Ex.new hp)
theorem sc_rows : FnScope ["thing"] ["thing"] (defScope (top 4)) := ⟨rfl, rfl, rfl, by decide +kernel, rfl, by decide +kernel, by decide +kernel⟩
theorem ca_rows (T : Txt w K mg SC LC) (D : Df K mg "is_rows" (top 4)) (cI : Ca P w K mg base 1 "is_integer" spInt) : Ca P w K mg base 2 "is_rows" spRows := by
  refine ca_of (k := 1) D sc_rows (fun _ _ _ _ _ _ us hl => match us, hl with | [_], _ => rfl) (fun vs H Q E h => by obtain ⟨i, rfl, _⟩ := h; rfl) (fun f cdv A outer s H vs Q E hr h => ?_)
  obtain ⟨i, rfl, hi, q⟩ := h
  refine ⟨_, pss_one (ps_ret (pe_and (C8.pe_c cI hr (by decide) (by rfl) (pa_cons (pv 0) pa_nil)) (pe_one (pe_cmpR op_ge (pv 0) pe_int (nomark _))))), ?_⟩
  refine ⟨_, rfl, i, rfl, true, rfl, iteT ?_⟩
  refine ⟨_, rfl, _, _, rfl, rfl, ?_⟩
  show Q (.bl (decide (1 ≤ i))) _
  rw [decide_eq_true hi]
  exact q
theorem sc_index : FnScope ["thing", "many"] ["thing", "many"] (defScope (top 5)) := ⟨rfl, rfl, rfl, by decide +kernel, rfl, by decide +kernel, by decide +kernel⟩
theorem ca_index (T : Txt w K mg SC LC) (D : Df K mg "is_index" (top 5)) (cI : Ca P w K mg base 1 "is_integer" spInt) : Ca P w K mg base 2 "is_index" spIndex := by
  refine ca_of (k := 1) D sc_index (fun _ _ _ _ _ _ us hl => match us, hl with | [_, _], _ => rfl) (fun vs H Q E h => by obtain ⟨i, m, rfl, _⟩ := h; rfl) (fun f cdv A outer s H vs Q E hr h => ?_)
  obtain ⟨i, m, rfl, h0, h1, q⟩ := h
  refine ⟨_, pss_one (ps_ret (pe_and (C8.pe_c cI hr (by decide) (by rfl) (pa_cons (pv 0) pa_nil)) (pe_one (pe_chain op_le op_lt pe_int (pv 0) (pv 1))))), ?_⟩
  refine ⟨_, rfl, i, rfl, true, rfl, iteT ?_⟩
  refine ⟨_, rfl, _, _, rfl, rfl, true, ?_, iteT ?_⟩
  · show V.bl (decide (0 ≤ i)) = V.bl true
    rw [decide_eq_true h0]
  · refine ⟨_, rfl, _, _, rfl, rfl, ?_⟩
    show Q (.bl (decide (i < m))) _
    rw [decide_eq_true h1]
    exact q
end
end Pp
end

section
set_option Elab.async false
set_option linter.all false
set_option maxRecDepth 100000
set_option maxHeartbeats 4000000
namespace Pp
open PySem PySem.Spec PyProof.Rows L2 Evl

/-! ### a call's word, files, number -/
def tag : Cl → Str
  | .all _ => "all" | .up _ _ => "up" | .swap _ _ => "swap" | .wheel _ _ _ => "wheel" | .about => "about" | .front _ _ => "front"
  | .halve => "halve" | .pair => "pair" | .others => "others" | .fill => "fill"
def fl : Cl → List Int
  | .up f _ => [f] | .swap f g => [f, g] | .wheel f g _ => [f, g] | .front f g => [f, g] | _ => []
def kn : Cl → List Int
  | .all k => [k] | .up _ k => [k] | .wheel _ _ k => [k] | _ => []
theorem vals_eq (c : Cl) : valsOf c = .str (tag c) :: (fl c ++ kn c).map V.int := by cases c <;> rfl
theorem kn_len (c : Cl) : (kn c).length = 0 ∨ (kn c).length = 1 := by cases c <;> simp [kn]
theorem fl_ok {w : Int} {c : Cl} (h : c.Ok w) : ∀ f ∈ fl c, 0 ≤ f ∧ f < w := by
  cases c <;> simp [fl, Cl.Ok] at h ⊢ <;> omega
theorem tag_num (c : Cl) : inV (.str (tag c)) [.str "all", .str "up", .str "wheel"] = decide ((kn c).length = 1) := by
  cases c with
  | all k => exact (by decide +kernel : inV (.str "all") [.str "all", .str "up", .str "wheel"] = true)
  | up f k => exact (by decide +kernel : inV (.str "up") [.str "all", .str "up", .str "wheel"] = true)
  | swap f g => exact (by decide +kernel : inV (.str "swap") [.str "all", .str "up", .str "wheel"] = false)
  | wheel f g k => exact (by decide +kernel : inV (.str "wheel") [.str "all", .str "up", .str "wheel"] = true)
  | about => exact (by decide +kernel : inV (.str "about") [.str "all", .str "up", .str "wheel"] = false)
  | front f g => exact (by decide +kernel : inV (.str "front") [.str "all", .str "up", .str "wheel"] = false)
  | halve => exact (by decide +kernel : inV (.str "halve") [.str "all", .str "up", .str "wheel"] = false)
  | pair => exact (by decide +kernel : inV (.str "pair") [.str "all", .str "up", .str "wheel"] = false)
  | others => exact (by decide +kernel : inV (.str "others") [.str "all", .str "up", .str "wheel"] = false)
  | fill => exact (by decide +kernel : inV (.str "fill") [.str "all", .str "up", .str "wheel"] = false)
theorem cut_files (c : Cl) : cutV (valsOf c) (some 1) (some (1 + ((fl c).length : Int))) = (fl c).map V.int := by cases c <;> rfl
theorem cut_not (c : Cl) : ¬ (HT.sIx (valsOf c).length 0 (some 1) = 0 ∧ HT.sIx (valsOf c).length (valsOf c).length (some (1 + ((fl c).length : Int))) = (valsOf c).length) := by
  have e : HT.sIx (valsOf c).length 0 (some 1) = 1 := by cases c <;> rfl
  rw [e]
  rintro ⟨h, _⟩
  cases h
theorem at_tag (c : Cl) : atI (valsOf c) 0 = some (.str (tag c)) := by cases c <;> rfl
/-- the files of the word, in the table -/
theorem byF_get {w : World} {K : PySem.W.Frag} {mg : Str → Option Value} {SC LC : Addr} (T : Txt w K mg SC LC) : ∃ a es n, mg "BY_FILES" = some (.ref a) ∧ KDict K w a es n ∧ ∀ c : Cl, ∃ t, PySem.W.nsIn K a (tag c) = some (some (.int ((fl c).length : Int) t)) := by
  obtain ⟨a, es, n, h, D, h1, h2, h3, h4, h5, h6, h7, h8, h9, h10⟩ := T.byF
  refine ⟨a, es, n, h, D, fun c => ?_⟩
  cases c with
  | all k => exact h1
  | up f k => exact h2
  | swap f g => exact h3
  | wheel f g k => exact h4
  | about => exact h5
  | front f g => exact h6
  | halve => exact h7
  | pair => exact h8
  | others => exact h9
  | fill => exact h10

theorem last_num {w : Int} {c : Cl} (h : c.Ok w) (e : (kn c).length = 1) : ∃ k, k ≠ 0 ∧ atI (valsOf c) (-1) = some (.int k) := by
  cases c with
  | all k => exact ⟨k, h, rfl⟩
  | up f k => exact ⟨k, h.2, rfl⟩
  | wheel f g k => exact ⟨k, h.2.2.2, rfl⟩
  | _ => cases e
theorem two_files {w : Int} {c : Cl} (h : c.Ok w) (e : (fl c).length = 2) : ∃ f g, f ≠ g ∧ atI (valsOf c) 1 = some (.int f) ∧ atI (valsOf c) 2 = some (.int g) := by
  cases c with
  | swap f g => exact ⟨f, g, h.2.2, rfl, rfl⟩
  | wheel f g k => exact ⟨f, g, h.2.2.1, rfl, rfl⟩
  | front f g => exact ⟨f, g, h.2.2, rfl, rfl⟩
  | _ => cases e
theorem tyx_tup {K : PySem.W.Frag} {H : Hp} {p : Addr} {xs : List V} (h : SqT K H p xs) : TyX K H (.ref p) (.type "tuple") := by
  rcases h with (h | ⟨o, h⟩) | ⟨o, its, n, hk, hc, _⟩
  · exact .base (.tup h)
  · exact .fTuple h
  · exact .kTuple hk hc

def spIsCall (K : PySem.W.Frag) : Sp := fun vs H Q _ => ∃ (w : Int) (v : V) (c : Cl), vs = [.int w, v] ∧ CallV K H v c ∧ c.Ok w ∧ RetB true H Q
section
variable {P : Program} {w : World} {K : PySem.W.Frag} {mg : Str → Option Value} {base : Heap} {SC LC : Addr}
theorem sc_isCall : FnScope ["files", "thing", "many", "numbers", "file"] ["files", "thing"] (defScope (top 10)) := ⟨rfl, rfl, rfl, by decide +kernel, rfl, by decide +kernel, by decide +kernel⟩
theorem ca_isCall (T : Txt w K mg SC LC) (D : Df K mg "is_call" (top 10)) (c_is_integer : Ca P w K mg base 1 "is_integer" spInt) (c_is_index : Ca P w K mg base 2 "is_index" spIndex) : Ca P w K mg base 3 "is_call" (spIsCall K) := by
  obtain ⟨bf, es, n, mF, DF, gF⟩ := byF_get T
  obtain ⟨bn, mN, sN⟩ := T.byN
  refine ca_of (k := 2) D sc_isCall (fun _ _ _ _ _ _ us hl => match us, hl with | [_, _], _ => rfl) (fun vs H Q E h => by obtain ⟨w, v, c, rfl, _⟩ := h; rfl) (fun f cdv A outer s H vs Q E hr h => ?_)
  obtain ⟨wd, v, c, rfl, ⟨p, rfl, hp⟩, hc, q⟩ := h
  obtain ⟨tF, gF'⟩ := gF c
  have hlen : (valsOf c).length = 1 + (fl c).length + (kn c).length := by rw [vals_eq]; simp; omega
  refine ⟨_, (pss_cons (ps_if (PW.pt (pw_or (pt_not (pt_val (pe_callB call_isi (by rfl) T.isi boot_isi (pa_cons (pv 1) (pa_cons (pe_bltn (v := .ty "tuple") (by rfl) T.tuple boot_tuple' rfl) pa_nil))))) (pw_or (pt_cmpR op_eq (pe_callB call_len_seq (by rfl) T.len PySem.boot_len (pa_cons (pv 1) pa_nil)) pe_int (nomark _)) (pw_or (pt_not (pt_val (pe_callB call_isi (by rfl) T.isi boot_isi (pa_cons (pe_ix ix_tup (pv 1) pe_int (fun _ _ => rfl)) (pa_cons (pe_bltn (v := .ty "str") (by rfl) T.str boot_str' rfl) pa_nil))))) (pw_or1 (pt_cmpR (op_notIn_kd DF) (pe_ix ix_tup (pv 1) pe_int (fun _ _ => rfl)) (pe_glob (by rfl) mF (v := .ref bf) rfl) (by rfl))))))) pss_never pss_nil)
      (pss_cons (ps_par rfl sc_isCall.nd (i := 2) (j := 3) rfl rfl (by decide) rfl rfl (pa_cons (pe_ix ix_kdict (pe_glob (by rfl) mF (v := .ref bf) rfl) (pe_ix ix_tup (pv 1) pe_int (fun _ _ => rfl)) (fun _ _ => rfl)) (pa_cons (pe_callTy call_int1 (by rfl) T.int boot_int' (pa_cons (pe_cmpR op_in_seq (pe_ix ix_tup (pv 1) pe_int (fun _ _ => rfl)) (pe_glob (by rfl) mN (v := .ref bn) rfl) (by rfl)) pa_nil)) pa_nil)) (by rfl))
      (pss_cons (ps_if (PW.pt (pw_or (pt_cmpR op_ne (pe_callB call_len_seq (by rfl) T.len PySem.boot_len (pa_cons (pv 1) pa_nil)) (pe_op op_add (pe_op op_add pe_int (pv 2)) (pv 3)) (nomark _)) (pw_or1 (pt_not (pt_val (pe_callB (cr_all rfl) (by rfl) T.all boot_all' (pa_cons (pe_lc (own := [("file", 4)]) (g := gName 4) (tt := tYes) rfl sc_isCall.nd (pi_tup (pe_slice sl_tup (pv 1) (po_some pe_int) (po_some (pe_op op_add pe_int (pv 2))))) (blkOk_by (own := [("file", 4)]) (N := ["files", "thing", "many", "numbers", "file"]) (sc := defScope (top 10)) (by decide +kernel)) (fun _ _ _ _ _ => pg_name (i := 4) sc_isCall.nd rfl (Or.inl rfl)) (fun _ _ _ _ _ => pts_nil) (fun _ _ _ _ _ => C8.pe_c c_is_index hr (by decide) (by rfl) (pa_cons (pv 4) (pa_cons (pv 0) pa_nil)))) pa_nil))))))) pss_never pss_nil)
      (pss_cons (ps_if (PW.pt (pw_and (pt_cmpR op_eq (pv 2) pe_int (nomark _)) (pw_and1 (pt_cmpR op_eq (pe_ix ix_tup (pv 1) pe_int (fun _ _ => rfl)) (pe_ix ix_tup (pv 1) pe_int (fun _ _ => rfl)) (nomark _))))) pss_never pss_nil)
      (pss_one (ps_ret (pe_or (pe_cmpR op_eq (pv 3) pe_int (nomark _)) (pe_one (pe_and (C8.pe_c c_is_integer hr (by decide) (by rfl) (pa_cons (pe_ix ix_tup (pv 1) (pe_un un_neg pe_int) (fun _ _ => rfl)) pa_nil)) (pe_one (pe_cmpR op_ne (pe_ix ix_tup (pv 1) (pe_un un_neg pe_int) (fun _ _ => rfl)) pe_int (nomark _)))))))))))), ?_⟩
  have tp := tyx_tup hp
  -- if not isinstance(thing, tuple) or len(thing) == 0 or ..
  refine ⟨_, rfl, .ref p, .ty "tuple", .type "tuple", .type "tuple", true, rfl, .ty "tuple", tp, kit_ty kb_tt, true, rfl, iteF ?_⟩
  refine ⟨_, rfl, p, _, rfl, .inr hp, rfl, false, ?_, iteF ?_⟩
  · show V.bl (decide (V.int ((valsOf c).length : Int) = V.int 0)) = V.bl false
    rw [decide_eq_false fun z => by injection z with z; omega]
  refine ⟨_, rfl, p, _, _, _, rfl, rfl, hp, at_tag c, .str (tag c), .ty "str", .type "str", .type "str", true, rfl, .ty "str", .base (.str _), kit_ty kb_ss, true, rfl, iteF ?_⟩
  refine ⟨_, rfl, p, _, _, _, rfl, rfl, hp, at_tag c, tag c, _, rfl, rfl, gF', false, rfl, iteF ?_⟩
  -- many, numbers
  refine ⟨_, rfl, p, _, _, _, rfl, rfl, hp, at_tag c, bf, tag c, .int ((fl c).length : Int), rfl, rfl, ⟨es, n, _, DF.at_, DF.lit, gF', ⟨tF, rfl⟩⟩, ?_⟩
  refine ⟨_, rfl, p, _, _, _, rfl, rfl, hp, at_tag c, bn, _, rfl, .inr (sN _), rfl, by decide +kernel, .inr ⟨decide ((kn c).length = 1), congrArg (fun b => [V.bl b]) (tag_num c), _, _, rfl, ?_⟩⟩
  have hk : (if decide ((kn c).length = 1) = true then (1 : Int) else 0) = ((kn c).length : Int) := by
    rcases kn_len c with e | e <;> rw [e] <;> rfl
  -- if len(thing) != 1 + many + numbers or not all(..)
  refine ⟨_, rfl, p, _, rfl, .inr hp, _, rfl, _, _, rfl, rfl, _, rfl, _, _, rfl, rfl, rfl, false, ?_, iteF ?_⟩
  · show V.bl (!decide (V.int ((valsOf c).length : Int) = V.int (1 + ((fl c).length : Int) + (if decide ((kn c).length = 1) = true then (1 : Int) else 0)))) = V.bl false
    rw [hk, decide_eq_true (show V.int ((valsOf c).length : Int) = V.int (1 + ((fl c).length : Int) + ((kn c).length : Int)) from congrArg V.int (by omega))] <;> rfl
  refine ⟨_, rfl, 1, rfl, _, rfl, _, _, rfl, rfl, _, rfl, p, _, rfl, hp, cut_not c, fun sp hsp => ⟨sp, rfl, ⟨_, SqT.of upd_same⟩, fun D hD => ?_⟩⟩
  have hT : SqT K (upd H sp (.tup (cutV (valsOf c) (some 1) (some (1 + ((fl c).length : Int)))))) sp ((fl c).map V.int) := by
    rw [cut_files]
    exact SqT.of upd_same
  refine lc_tup (K := K) (a := sp) (xs := (fl c).map V.int) (fun i H' => Ex (upd H sp (.tup (cutV (valsOf c) (some 1) (some (1 + ((fl c).length : Int)))))) H' ∧ H' D = some (.lst ((List.replicate i true).map V.bl))) ⟨Ex.new hD, upd_same⟩ (fun i H' _ e => ex_t e.1 hT) (fun i x H' hi e => ?_) (fun H' e => ?_)
  · obtain ⟨f0, hf, rfl⟩ : ∃ f0, f0 ∈ fl c ∧ x = V.int f0 := by
      obtain ⟨f0, hf, e⟩ := List.mem_map.mp (List.mem_of_getElem? hi)
      exact ⟨f0, hf, e.symm⟩
    have b0 := fl_ok hc f0 hf
    have hlt : i < (fl c).length := by
      have z := (List.getElem?_eq_some_iff.mp hi).1
      rw [List.length_map] at z
      exact z
    have h2 : (fl c).length ≤ 2 := by cases c <;> simp [fl]
    refine ⟨rfl, ?_⟩
    refine ⟨_, rfl, _, rfl, f0, wd, rfl, b0.1, b0.2, _, e.2, ?_, ?_, ?_⟩
    · rw [List.length_map, List.length_replicate]
      exact sz_lt (by omega)
    · exact Ex.mut e.1 (by
        cases hz : upd H sp (.tup (cutV (valsOf c) (some 1) (some (1 + ((fl c).length : Int))))) D with
        | none => rfl
        | some o => rw [hz] at hD; cases hD)
    · rw [upd_same, List.replicate_succ', List.map_append] <;> rfl
  have eH : Ex H H' := (Ex.new hsp).trans e.1
  have hp' : SqT K H' p (valsOf c) := ex_t eH hp
  have all1 : ∀ m : Nat, (List.replicate m true).all id = true := fun m => by
    rw [List.all_eq_true]
    intro b hb
    exact (List.mem_replicate.mp hb).2
  refine ⟨D, _, rfl, SqL.of e.2, true, congrArg V.bl (all1 _), iteF ?_⟩
  -- if many == 2 and thing[1] == thing[2]
  have rest : ∀ R : Prop, (∀ H2, Ex H H2 → R) → R := fun R hR => hR H' eH
  refine ⟨_, rfl, rfl, decide ((fl c).length = 2), ?_, ?_⟩
  · show V.bl (decide (V.int ((fl c).length : Int) = V.int 2)) = V.bl (decide ((fl c).length = 2))
    congr 1
    by_cases h2 : (fl c).length = 2
    · rw [h2] <;> rfl
    · rw [decide_eq_false h2, decide_eq_false fun z => by injection z with z; omega]
  have fin : ∀ σ4 : L2.St, σ4 = [some (.int wd), some (.ref p), some (.int ((fl c).length : Int)), some (.int (if decide ((kn c).length = 1) = true then (1 : Int) else 0)), none] →
      tRet (tOrV (tOp rEq (tVar 3) (tC (.int 0))) (tAndV (tCall spInt [] E0 (tCons (tOp (rIxT K) (tVar 1) (tUn (rU fun i => .int (-i)) (tC (.int 1)))) tNil)) (tOp rNe (tOp (rIxT K) (tVar 1) (tUn (rU fun i => .int (-i)) (tC (.int 1)))) (tC (.int 0))))) { nx := fun _ H' => Q .non H', rt := Q } σ4 H' := by
    rintro _ rfl
    refine ⟨_, rfl, rfl, decide ((kn c).length = 0), ?_, ?_⟩
    · show V.bl (decide (V.int (if decide ((kn c).length = 1) = true then (1 : Int) else 0) = V.int 0)) = _
      rw [hk]
      congr 1
      by_cases h0 : (kn c).length = 0
      · rw [h0] <;> rfl
      · rw [decide_eq_false h0, decide_eq_false fun z => by injection z with z; omega]
    rcases kn_len c with e0 | e1
    · rw [decide_eq_true e0]
      exact iteT (q _ eH)
    · rw [decide_eq_false (by omega)]
      obtain ⟨k, hk0, hka⟩ := last_num hc e1
      refine iteF ⟨_, rfl, 1, rfl, p, _, _, _, rfl, rfl, hp', hka, k, rfl, true, rfl, iteT ?_⟩
      refine ⟨_, rfl, 1, rfl, p, _, _, _, rfl, rfl, hp', hka, rfl, ?_⟩
      show Q (.bl (!decide (V.int k = V.int 0))) _
      rw [decide_eq_false fun z => by injection z with z; exact hk0 z]
      exact q _ eH
  by_cases h2 : (fl c).length = 2
  · rw [decide_eq_true h2]
    obtain ⟨f1, g1, hfg, ha1, ha2⟩ := two_files hc h2
    refine iteT ⟨_, rfl, p, _, _, _, rfl, rfl, hp', ha1, _, rfl, p, _, _, _, rfl, rfl, hp', ha2, rfl, false, ?_, iteF (fin _ rfl)⟩
    show V.bl (decide (V.int f1 = V.int g1)) = V.bl false
    rw [decide_eq_false fun z => by injection z with z; exact hfg z]
  · rw [decide_eq_false h2]
    exact iteF (iteF (fin _ rfl))
end
end Pp
end

section
set_option Elab.async false
set_option linter.all false
set_option maxRecDepth 100000
set_option maxHeartbeats 4000000
namespace Pp
open PySem PySem.Spec PyProof.Rows L2 Evl
/-! ### the words -/
theorem is_all (c : Cl) : decide (V.str (tag c) = V.str "all") = (match c with | .all _ => true | _ => false) := by
  cases c with
  | all k => exact (by decide +kernel : decide (V.str "all" = V.str "all") = true)
  | up f k => exact (by decide +kernel : decide (V.str "up" = V.str "all") = false)
  | swap f g => exact (by decide +kernel : decide (V.str "swap" = V.str "all") = false)
  | wheel f g k => exact (by decide +kernel : decide (V.str "wheel" = V.str "all") = false)
  | about => exact (by decide +kernel : decide (V.str "about" = V.str "all") = false)
  | front f g => exact (by decide +kernel : decide (V.str "front" = V.str "all") = false)
  | halve => exact (by decide +kernel : decide (V.str "halve" = V.str "all") = false)
  | pair => exact (by decide +kernel : decide (V.str "pair" = V.str "all") = false)
  | others => exact (by decide +kernel : decide (V.str "others" = V.str "all") = false)
  | fill => exact (by decide +kernel : decide (V.str "fill" = V.str "all") = false)
theorem is_up (c : Cl) : decide (V.str (tag c) = V.str "up") = (match c with | .up _ _ => true | _ => false) := by
  cases c with
  | all k => exact (by decide +kernel : decide (V.str "all" = V.str "up") = false)
  | up f k => exact (by decide +kernel : decide (V.str "up" = V.str "up") = true)
  | swap f g => exact (by decide +kernel : decide (V.str "swap" = V.str "up") = false)
  | wheel f g k => exact (by decide +kernel : decide (V.str "wheel" = V.str "up") = false)
  | about => exact (by decide +kernel : decide (V.str "about" = V.str "up") = false)
  | front f g => exact (by decide +kernel : decide (V.str "front" = V.str "up") = false)
  | halve => exact (by decide +kernel : decide (V.str "halve" = V.str "up") = false)
  | pair => exact (by decide +kernel : decide (V.str "pair" = V.str "up") = false)
  | others => exact (by decide +kernel : decide (V.str "others" = V.str "up") = false)
  | fill => exact (by decide +kernel : decide (V.str "fill" = V.str "up") = false)
theorem is_about (c : Cl) : decide (V.str (tag c) = V.str "about") = (match c with | .about => true | _ => false) := by
  cases c with
  | all k => exact (by decide +kernel : decide (V.str "all" = V.str "about") = false)
  | up f k => exact (by decide +kernel : decide (V.str "up" = V.str "about") = false)
  | swap f g => exact (by decide +kernel : decide (V.str "swap" = V.str "about") = false)
  | wheel f g k => exact (by decide +kernel : decide (V.str "wheel" = V.str "about") = false)
  | about => exact (by decide +kernel : decide (V.str "about" = V.str "about") = true)
  | front f g => exact (by decide +kernel : decide (V.str "front" = V.str "about") = false)
  | halve => exact (by decide +kernel : decide (V.str "halve" = V.str "about") = false)
  | pair => exact (by decide +kernel : decide (V.str "pair" = V.str "about") = false)
  | others => exact (by decide +kernel : decide (V.str "others" = V.str "about") = false)
  | fill => exact (by decide +kernel : decide (V.str "fill" = V.str "about") = false)
theorem is_wheel (c : Cl) : decide (V.str (tag c) = V.str "wheel") = (match c with | .wheel _ _ _ => true | _ => false) := by
  cases c with
  | all k => exact (by decide +kernel : decide (V.str "all" = V.str "wheel") = false)
  | up f k => exact (by decide +kernel : decide (V.str "up" = V.str "wheel") = false)
  | swap f g => exact (by decide +kernel : decide (V.str "swap" = V.str "wheel") = false)
  | wheel f g k => exact (by decide +kernel : decide (V.str "wheel" = V.str "wheel") = true)
  | about => exact (by decide +kernel : decide (V.str "about" = V.str "wheel") = false)
  | front f g => exact (by decide +kernel : decide (V.str "front" = V.str "wheel") = false)
  | halve => exact (by decide +kernel : decide (V.str "halve" = V.str "wheel") = false)
  | pair => exact (by decide +kernel : decide (V.str "pair" = V.str "wheel") = false)
  | others => exact (by decide +kernel : decide (V.str "others" = V.str "wheel") = false)
  | fill => exact (by decide +kernel : decide (V.str "fill" = V.str "wheel") = false)
theorem is_halve (c : Cl) : decide (V.str (tag c) = V.str "halve") = (match c with | .halve => true | _ => false) := by
  cases c with
  | all k => exact (by decide +kernel : decide (V.str "all" = V.str "halve") = false)
  | up f k => exact (by decide +kernel : decide (V.str "up" = V.str "halve") = false)
  | swap f g => exact (by decide +kernel : decide (V.str "swap" = V.str "halve") = false)
  | wheel f g k => exact (by decide +kernel : decide (V.str "wheel" = V.str "halve") = false)
  | about => exact (by decide +kernel : decide (V.str "about" = V.str "halve") = false)
  | front f g => exact (by decide +kernel : decide (V.str "front" = V.str "halve") = false)
  | halve => exact (by decide +kernel : decide (V.str "halve" = V.str "halve") = true)
  | pair => exact (by decide +kernel : decide (V.str "pair" = V.str "halve") = false)
  | others => exact (by decide +kernel : decide (V.str "others" = V.str "halve") = false)
  | fill => exact (by decide +kernel : decide (V.str "fill" = V.str "halve") = false)
theorem is_pair (c : Cl) : decide (V.str (tag c) = V.str "pair") = (match c with | .pair => true | _ => false) := by
  cases c with
  | all k => exact (by decide +kernel : decide (V.str "all" = V.str "pair") = false)
  | up f k => exact (by decide +kernel : decide (V.str "up" = V.str "pair") = false)
  | swap f g => exact (by decide +kernel : decide (V.str "swap" = V.str "pair") = false)
  | wheel f g k => exact (by decide +kernel : decide (V.str "wheel" = V.str "pair") = false)
  | about => exact (by decide +kernel : decide (V.str "about" = V.str "pair") = false)
  | front f g => exact (by decide +kernel : decide (V.str "front" = V.str "pair") = false)
  | halve => exact (by decide +kernel : decide (V.str "halve" = V.str "pair") = false)
  | pair => exact (by decide +kernel : decide (V.str "pair" = V.str "pair") = true)
  | others => exact (by decide +kernel : decide (V.str "others" = V.str "pair") = false)
  | fill => exact (by decide +kernel : decide (V.str "fill" = V.str "pair") = false)
theorem is_others (c : Cl) : decide (V.str (tag c) = V.str "others") = (match c with | .others => true | _ => false) := by
  cases c with
  | all k => exact (by decide +kernel : decide (V.str "all" = V.str "others") = false)
  | up f k => exact (by decide +kernel : decide (V.str "up" = V.str "others") = false)
  | swap f g => exact (by decide +kernel : decide (V.str "swap" = V.str "others") = false)
  | wheel f g k => exact (by decide +kernel : decide (V.str "wheel" = V.str "others") = false)
  | about => exact (by decide +kernel : decide (V.str "about" = V.str "others") = false)
  | front f g => exact (by decide +kernel : decide (V.str "front" = V.str "others") = false)
  | halve => exact (by decide +kernel : decide (V.str "halve" = V.str "others") = false)
  | pair => exact (by decide +kernel : decide (V.str "pair" = V.str "others") = false)
  | others => exact (by decide +kernel : decide (V.str "others" = V.str "others") = true)
  | fill => exact (by decide +kernel : decide (V.str "fill" = V.str "others") = false)
theorem is_front (c : Cl) : decide (V.str (tag c) = V.str "front") = (match c with | .front _ _ => true | _ => false) := by
  cases c with
  | all k => exact (by decide +kernel : decide (V.str "all" = V.str "front") = false)
  | up f k => exact (by decide +kernel : decide (V.str "up" = V.str "front") = false)
  | swap f g => exact (by decide +kernel : decide (V.str "swap" = V.str "front") = false)
  | wheel f g k => exact (by decide +kernel : decide (V.str "wheel" = V.str "front") = false)
  | about => exact (by decide +kernel : decide (V.str "about" = V.str "front") = false)
  | front f g => exact (by decide +kernel : decide (V.str "front" = V.str "front") = true)
  | halve => exact (by decide +kernel : decide (V.str "halve" = V.str "front") = false)
  | pair => exact (by decide +kernel : decide (V.str "pair" = V.str "front") = false)
  | others => exact (by decide +kernel : decide (V.str "others" = V.str "front") = false)
  | fill => exact (by decide +kernel : decide (V.str "fill" = V.str "front") = false)
theorem is_sf (c : Cl) : inV (.str (tag c)) [.str "swap", .str "front"] = (match c with | .swap _ _ => true | .front _ _ => true | _ => false) := by
  cases c with
  | all k => exact (by decide +kernel : inV (.str "all") [.str "swap", .str "front"] = false)
  | up f k => exact (by decide +kernel : inV (.str "up") [.str "swap", .str "front"] = false)
  | swap f g => exact (by decide +kernel : inV (.str "swap") [.str "swap", .str "front"] = true)
  | wheel f g k => exact (by decide +kernel : inV (.str "wheel") [.str "swap", .str "front"] = false)
  | about => exact (by decide +kernel : inV (.str "about") [.str "swap", .str "front"] = false)
  | front f g => exact (by decide +kernel : inV (.str "front") [.str "swap", .str "front"] = true)
  | halve => exact (by decide +kernel : inV (.str "halve") [.str "swap", .str "front"] = false)
  | pair => exact (by decide +kernel : inV (.str "pair") [.str "swap", .str "front"] = false)
  | others => exact (by decide +kernel : inV (.str "others") [.str "swap", .str "front"] = false)
  | fill => exact (by decide +kernel : inV (.str "fill") [.str "swap", .str "front"] = false)

theorem is_halve_no {c : Cl} (h : ¬ c = .halve) : decide (V.str (tag c) = V.str "halve") = false := by rw [is_halve]; cases c <;> first | rfl | exact absurd rfl h
theorem is_pair_no {c : Cl} (h : ¬ c = .pair) : decide (V.str (tag c) = V.str "pair") = false := by rw [is_pair]; cases c <;> first | rfl | exact absurd rfl h
theorem is_others_no {c : Cl} (h : ¬ c = .others) : decide (V.str (tag c) = V.str "others") = false := by rw [is_others]; cases c <;> first | rfl | exact absurd rfl h

/-- a value of which P, behind an extension -/
abbrev RetP (P : V → Hp → Prop) (H : Hp) (Q : VK) : Prop := ∀ v' H', Ex H H' → P v' H' → Q v' H'
/-- the open calls, in the table -/
theorem opC_get {w : World} {K : PySem.W.Frag} {mg : Str → Option Value} {SC LC : Addr} (T : Txt w K mg SC LC) : ∃ a es n, mg "OPEN_CALLS" = some (.ref a) ∧ KDict K w a es n ∧
    ∀ c : Cl, (c.inv = c ∧ PySem.W.nsIn K a (tag c) = some none) ∨ ((∃ t, PySem.W.nsIn K a (tag c) = some (some (.str (tag c.inv) t))) ∧ valsOf c.inv = [.str (tag c.inv)]) ∨ decide ((kn c).length = 1) = true := by
  obtain ⟨a, es, n, h, D, h1, h2, h3, h4, h5, h6, h7, h8, h9, h10⟩ := T.opC
  refine ⟨a, es, n, h, D, fun c => ?_⟩
  cases c with
  | all k => exact .inr (.inr rfl)
  | up f k => exact .inr (.inr rfl)
  | swap f g => exact .inl ⟨rfl, h3⟩
  | wheel f g k => exact .inr (.inr rfl)
  | about => exact .inl ⟨rfl, h5⟩
  | front f g => exact .inl ⟨rfl, h6⟩
  | halve => exact .inr (.inl ⟨h7, rfl⟩)
  | pair => exact .inr (.inl ⟨h8, rfl⟩)
  | others => exact .inr (.inl ⟨h9, rfl⟩)
  | fill => exact .inr (.inl ⟨h10, rfl⟩)

theorem cut_but {xs : List V} {x : V} : cutV (xs ++ [x]) none (some (-1)) = xs := by
  have e : HT.sIx (xs ++ [x]).length (xs ++ [x]).length (some (-1)) = xs.length := by
    unfold HT.sIx
    rw [List.length_append, List.length_singleton]
    show (if (-1 : Int) < 0 then _ else _) = _
    rw [if_pos (by decide)]
    omega
  unfold cutV
  rw [e, HT.sIx_none, List.drop_zero, Nat.sub_zero]
  exact List.take_left
theorem cut_but_not {xs : List V} {x : V} : ¬ (HT.sIx (xs ++ [x]).length 0 none = 0 ∧ HT.sIx (xs ++ [x]).length (xs ++ [x]).length (some (-1)) = (xs ++ [x]).length) := by
  rintro ⟨_, h⟩
  unfold HT.sIx at h
  rw [List.length_append, List.length_singleton] at h
  change (if (-1 : Int) < 0 then _ else _) = _ at h
  rw [if_pos (by decide)] at h
  omega
def spTurned (K : PySem.W.Frag) : Sp := fun vs H Q _ => ∃ (v : V) (c : Cl), vs = [v] ∧ CallV K H v c ∧ RetP (fun v' H' => CallV K H' v' c.inv) H Q
section
variable {P : Program} {w : World} {K : PySem.W.Frag} {mg : Str → Option Value} {base : Heap} {SC LC : Addr}
theorem sc_turned : FnScope ["call"] ["call"] (defScope (top 11)) := ⟨rfl, rfl, rfl, by decide +kernel, rfl, by decide +kernel, by decide +kernel⟩
theorem ca_turned (T : Txt w K mg SC LC) (D : Df K mg "turned" (top 11)) : Ca P w K mg base 1 "turned" (spTurned K) := by
  obtain ⟨bn, mN, sN⟩ := T.byN
  obtain ⟨bo, es, n, mO, DO, gO⟩ := opC_get T
  refine ca_of (k := 0) D sc_turned (fun _ _ _ _ _ _ us hl => match us, hl with | [_], _ => rfl) (fun vs H Q E h => by obtain ⟨v, c, rfl, _⟩ := h; rfl) (fun f cdv A outer s H vs Q E hr h => ?_)
  obtain ⟨v, c, rfl, ⟨p, rfl, hp⟩, q⟩ := h
  refine ⟨_, (pss_cons (ps_if (pt_cmpR op_in_seq (pe_ix ix_tup (pv 0) pe_int (fun _ _ => rfl)) (pe_glob (by rfl) mN (v := .ref bn) rfl) (by rfl)) (pss_one (ps_ret (pe_op op_catT (pe_slice sl_tup (pv 0) po_none (po_some (pe_un un_neg pe_int))) (pe_tup (pa_cons (pe_un un_neg (pe_ix ix_tup (pv 0) (pe_un un_neg pe_int) (fun _ _ => rfl))) pa_nil))))) pss_nil)
      (pss_one (ps_ret (pe_ifExp (pt_cmpR (op_in_kd DO) (pe_ix ix_tup (pv 0) pe_int (fun _ _ => rfl)) (pe_glob (by rfl) mO (v := .ref bo) rfl) (by rfl)) (pe_tup (pa_cons (pe_ix ix_kdict (pe_glob (by rfl) mO (v := .ref bo) rfl) (pe_ix ix_tup (pv 0) pe_int (fun _ _ => rfl)) (fun _ _ => rfl)) pa_nil)) (pv 0))))), ?_⟩
  refine ⟨_, rfl, p, _, _, _, rfl, rfl, hp, at_tag c, bn, _, rfl, .inr (sN _), rfl, by decide +kernel, decide ((kn c).length = 1), congrArg V.bl (tag_num c), ?_⟩
  -- one with a number
  have num : ∀ (a : V) (r : List V) (k : Int), valsOf c = (a :: r) ++ [.int k] → valsOf c.inv = (a :: r) ++ [.int (-k)] →
      tRet (tOp (rCatT K) (tSl (rSlT K) (tVar 0) tNoPart (tPart (tUn (rU fun i => .int (-i)) (tC (.int 1))))) (tTup (tCons (tUn (rU fun i => .int (-i)) (tOp (rIxT K) (tVar 0) (tUn (rU fun i => .int (-i)) (tC (.int 1))))) tNil)))
        { nx := fun _ H' => Q .non H', rt := Q } [some (.ref p)] H := by
    intro a r k e1 e2
    have hp1 : SqT K H p ((a :: r) ++ [.int k]) := e1 ▸ hp
    refine ⟨_, rfl, 1, rfl, -1, rfl, p, _, rfl, hp1, cut_but_not, fun t1 h1 => ?_⟩
    have x1 : Ex H (upd H t1 (.tup (cutV ((a :: r) ++ [.int k]) none (some (-1))))) := Ex.new h1
    refine ⟨_, rfl, 1, rfl, p, _, _, _, rfl, rfl, ex_t x1 hp1, ix_last, k, rfl, (by show 1 ≤ sizeLine; decide), fun t2 h2 => ?_⟩
    have ne12 : t1 ≠ t2 := fun z => by rw [← z, upd_same] at h2; cases h2
    refine ⟨t1, t2, a :: r, _, rfl, rfl, SqT.of (by rw [upd_ne ne12, upd_same, cut_but]), SqT.of upd_same, (fun z => by cases z), ?_, (fun z => by cases z), fun _ t3 h3 => ?_⟩
    · have hl : (valsOf c).length ≤ 4 := by cases c <;> simp [valsOf]
      rw [e1, List.length_append] at hl
      exact sz_of (by simp at hl ⊢; omega)
    · refine q _ _ ((x1.trans (Ex.new h2)).trans (Ex.new h3)) ⟨t3, rfl, ?_⟩
      rw [e2]
      exact SqT.of upd_same
  -- one of the others
  have other : decide ((kn c).length = 1) = false → (c.inv = c ∧ PySem.W.nsIn K bo (tag c) = some none) ∨ ((∃ t, PySem.W.nsIn K bo (tag c) = some (some (.str (tag c.inv) t))) ∧ valsOf c.inv = [.str (tag c.inv)]) →
      tRet (tIf (tTest (tOp (fun x y H Q => ∃ (z : Str) (r : Option Value), x = .str z ∧ y = .ref bo ∧ PySem.W.nsIn K bo z = some r ∧ Q (.bl r.isSome) H) (tOp (rIxT K) (tVar 0) (tC (.int 0))) (tC (.ref bo)))) (tTup (tCons (tOp (rIxD K w) (tC (.ref bo)) (tOp (rIxT K) (tVar 0) (tC (.int 0)))) tNil)) (tVar 0))
        { nx := fun _ H' => Q .non H', rt := Q } [some (.ref p)] H := by
    intro _ ho
    rcases ho with ⟨e, hn⟩ | ⟨⟨t, hn⟩, e⟩
    · refine ⟨_, rfl, p, _, _, _, rfl, rfl, hp, at_tag c, tag c, _, rfl, rfl, hn, false, rfl, iteF ⟨_, rfl, ?_⟩⟩
      exact q _ _ (Ex.refl H) ⟨p, rfl, by rw [e]; exact hp⟩
    · refine ⟨_, rfl, p, _, _, _, rfl, rfl, hp, at_tag c, tag c, _, rfl, rfl, hn, true, rfl, iteT ?_⟩
      refine ⟨_, rfl, p, _, _, _, rfl, rfl, hp, at_tag c, bo, tag c, .str (tag c.inv), rfl, rfl, ⟨es, n, _, DO.at_, DO.lit, hn, ⟨t, rfl⟩⟩, (by show 1 ≤ sizeLine; decide), fun t1 h1 => ?_⟩
      exact q _ _ (Ex.new h1) ⟨t1, rfl, by rw [e]; exact SqT.of upd_same⟩
  have go := gO c
  cases c with
  | all k => exact iteT (num (.str "all") [] k rfl rfl)
  | up f k => exact iteT (num (.str "up") [.int f] k rfl rfl)
  | wheel f g k => exact iteT (num (.str "wheel") [.int f, .int g] k rfl rfl)
  | _ => exact iteF (other rfl (by
      rcases go with g | g | g
      · exact .inl g
      · exact .inr g
      · cases g))
end
end Pp
end

section
set_option Elab.async false
set_option linter.all false
set_option maxRecDepth 100000
set_option maxHeartbeats 4000000
namespace Pp
open PySem PySem.Spec PyProof.Rows L2 Evl

/-- a new tuple of two ints, handed back -/
theorem ret_place {K : PySem.W.Frag} {H H' : Hp} {Q : VK} {a b : Int} {p : Pl} (q : RetP (fun v' H' => PlaceV K H' v' p) H Q) (x : Ex H H') (e1 : a = p.1) (e2 : b = p.2) : ∀ t, H' t = none → Q (.ref t) (upd H' t (.tup [.int a, .int b])) := fun t ht => by
  subst e1 e2
  exact q _ _ (x.trans (Ex.new ht)) ⟨t, rfl, SqT.of upd_same⟩
theorem two_ok : [V.int 0, V.int 0].length ≤ sizeLine := by show 2 ≤ sizeLine; decide

/-! ### on_wheel -/
def spWheel (K : PySem.W.Frag) : Sp := fun vs H Q _ => ∃ (cv pv : V) (d f g k : Int) (p : Pl), vs = [cv, .int d, pv] ∧ CallV K H cv (.wheel f g k) ∧ PlaceV K H pv p ∧ 0 < d ∧ RetP (fun v' H' => PlaceV K H' v' (Cl.wh d f g k p)) H Q
section
variable {P : Program} {w : World} {K : PySem.W.Frag} {mg : Str → Option Value} {base : Heap} {SC LC : Addr}
theorem sc_wheel : FnScope ["call", "rows", "place", "row", "file", "seat"] ["call", "rows", "place"] (defScope (top 12)) := ⟨rfl, rfl, rfl, by decide +kernel, rfl, by decide +kernel, by decide +kernel⟩
theorem ca_wheel (T : Txt w K mg SC LC) (D : Df K mg "on_wheel" (top 12)) : Ca P w K mg base 1 "on_wheel" (spWheel K) := by
  refine ca_of (k := 0) D sc_wheel (fun _ _ _ _ _ _ us hl => match us, hl with | [_, _, _], _ => rfl) (fun vs H Q E h => by obtain ⟨v, v2, d, f, g, k, p, rfl, _⟩ := h; rfl) (fun f cdv A outer s H vs Q E hr h => ?_)
  obtain ⟨cv, pv, d, f, g, k, ⟨r, fi⟩, rfl, ⟨c, rfl, hc⟩, ⟨p, rfl, hp⟩, hd, q⟩ := h
  have hc : SqT K H c [.str "wheel", .int f, .int g, .int k] := hc
  have hp : SqT K H p [.int r, .int fi] := hp
  refine ⟨_, (pss_cons (ps_asg (pv 2) (pg_tup rfl (pgs_cons (pg_name (i := 3) sc_wheel.nd rfl (Or.inl rfl)) (pgs_cons (pg_name (i := 4) sc_wheel.nd rfl (Or.inl rfl)) pgs_nil))))
      (pss_cons (ps_if (pt_cmpR op_notIn_seq (pv 4) (pe_slice sl_tup (pv 0) (po_some pe_int) (po_some pe_int)) (by rfl)) (pss_one (ps_ret (pv 2))) pss_nil)
      (pss_cons (ps_set (i := 5) sc_wheel.nd rfl (Or.inl rfl) (pe_ifExp (pt_cmpR op_eq (pv 4) (pe_ix ix_tup (pv 0) pe_int (fun _ _ => rfl)) (nomark _)) (pe_op op_sub (pe_op op_sub (pv 1) pe_int) (pv 3)) (pe_op op_add (pv 1) (pv 3))))
      (pss_cons (ps_set (i := 5) sc_wheel.nd rfl (Or.inl rfl) (pe_op op_mod (pe_op op_add (pv 5) (pe_ix ix_tup (pv 0) pe_int (fun _ _ => rfl))) (pe_op op_mul pe_int (pv 1))))
      (pss_one (ps_ret (pe_ifExp (pt_cmpR op_lt (pv 5) (pv 1) (nomark _)) (pe_tup (pa_cons (pe_op op_sub (pe_op op_sub (pv 1) pe_int) (pv 5)) (pa_cons (pe_ix ix_tup (pv 0) pe_int (fun _ _ => rfl)) pa_nil))) (pe_tup (pa_cons (pe_op op_sub (pv 5) (pv 1)) (pa_cons (pe_ix ix_tup (pv 0) pe_int (fun _ _ => rfl)) pa_nil)))))))))), ?_⟩
  refine ⟨_, rfl, p, _, rfl, hp, rfl, _, _, rfl, _, _, rfl, rfl, ?_⟩
  -- if file not in call[1:3]
  refine ⟨_, rfl, _, rfl, 1, rfl, 3, rfl, c, _, rfl, hc, (by rintro ⟨h, _⟩; cases h), fun t1 h1 => ?_⟩
  have x1 : Ex H (upd H t1 (.tup (cutV [.str "wheel", .int f, .int g, .int k] (some 1) (some 3)))) := Ex.new h1
  have hc1 := ex_t x1 hc
  refine ⟨t1, _, rfl, .inr (SqT.of upd_same), rfl, rfl, _, rfl, ?_⟩
  have ein : inV (.int fi) (cutV [.str "wheel", .int f, .int g, .int k] (some 1) (some 3)) = decide (fi = f ∨ fi = g) := by
    show (eqV (.int f) (.int fi) || (eqV (.int g) (.int fi) || false)) = _
    show ((f == fi) || ((g == fi) || false)) = _
    rw [Bool.or_false, Bool.eq_iff_iff, Bool.or_eq_true, beq_iff_eq, beq_iff_eq, decide_eq_true_iff]
    exact ⟨fun z => z.imp Eq.symm Eq.symm, fun z => z.imp Eq.symm Eq.symm⟩
  show if (!inV (.int fi) (cutV [.str "wheel", .int f, .int g, .int k] (some 1) (some 3))) = true then _ else _
  rw [ein]
  by_cases hf : fi = f ∨ fi = g
  · rw [decide_eq_true hf]
    -- seat = ..
    refine iteF ⟨_, rfl, _, rfl, c, _, _, _, rfl, rfl, hc1, ix_at 1 rfl rfl, rfl, decide (fi = f), ?_, ?_⟩
    · show V.bl (decide (V.int fi = V.int f)) = V.bl (decide (fi = f))
      rw [dec_int]
      exact congrArg V.bl (by rw [Bool.eq_iff_iff]; simp)
    have rest : ∀ y : Int, y = (if fi = f then d - 1 - r else d + r) → ∀ H1, Ex H H1 → SqT K H1 c [.str "wheel", .int f, .int g, .int k] →
        tSeq (tAsg (tOp (rI (fun _ j => 0 < j) fun i j => .int (i % j)) (tOp (rI0 fun i j => .int (i + j)) (tVar 5) (tOp (rIxT K) (tVar 0) (tC (.int 3)))) (tOp (rI CMul fun i j => .int (i * j)) (tC (.int 2)) (tVar 1))) (gName 5))
          (tRet (tIf (tTest (tOp (rI0 fun i j => .bl (decide (i < j))) (tVar 5) (tVar 1))) (tTup (tCons (tOp (rI0 fun i j => .int (i - j)) (tOp (rI0 fun i j => .int (i - j)) (tVar 1) (tC (.int 1))) (tVar 5)) (tCons (tOp (rIxT K) (tVar 0) (tC (.int 1))) tNil)))
            (tTup (tCons (tOp (rI0 fun i j => .int (i - j)) (tVar 5) (tVar 1)) (tCons (tOp (rIxT K) (tVar 0) (tC (.int 2))) tNil)))))
          { nx := fun _ H' => Q .non H', rt := Q } [some (.ref c), some (.int d), some (.ref p), some (.int r), some (.int fi), some (.int y)] H1 := by
      intro y hy H1 x hcc
      refine ⟨_, rfl, _, rfl, c, _, _, _, rfl, rfl, hcc, ix_at 3 rfl rfl, _, _, rfl, rfl, _, rfl, _, _, rfl, rfl, .inl ⟨by decide, by decide⟩, _, _, rfl, rfl, (by show 0 < 2 * d; omega), ?_⟩
      refine ⟨_, rfl, _, rfl, _, _, rfl, rfl, _, rfl, ?_⟩
      refine ite2 (fun hlt => ?_) (fun hlt => ?_)
      · have hlt : (y + k) % (2 * d) < d := of_decide_eq_true hlt
        refine ⟨_, rfl, _, _, rfl, rfl, _, rfl, _, _, rfl, rfl, _, rfl, c, _, _, _, rfl, rfl, hcc, ix_at 1 rfl rfl, two_ok, ret_place q x ?_ ?_⟩
        · show d - 1 - (y + k) % (2 * d) = (Cl.wh d f g k (r, fi)).1
          unfold Cl.wh
          dsimp only
          rw [if_pos hf, ← hy, if_pos hlt]
        · show f = (Cl.wh d f g k (r, fi)).2
          unfold Cl.wh
          dsimp only
          rw [if_pos hf, ← hy, if_pos hlt]
      · have hlt : ¬ (y + k) % (2 * d) < d := fun z => hlt (decide_eq_true z)
        refine ⟨_, rfl, _, rfl, _, _, rfl, rfl, _, rfl, c, _, _, _, rfl, rfl, hcc, ix_at 2 rfl rfl, two_ok, ret_place q x ?_ ?_⟩
        · show (y + k) % (2 * d) - d = (Cl.wh d f g k (r, fi)).1
          unfold Cl.wh
          dsimp only
          rw [if_pos hf, ← hy, if_neg hlt]
        · show g = (Cl.wh d f g k (r, fi)).2
          unfold Cl.wh
          dsimp only
          rw [if_pos hf, ← hy, if_neg hlt]
    refine ite2 (fun he => ?_) (fun he => ?_)
    · have he : fi = f := of_decide_eq_true he
      refine ⟨_, rfl, _, _, rfl, rfl, _, rfl, _, _, rfl, rfl, ?_⟩
      exact rest _ (by rw [if_pos he]) _ x1 hc1
    · have he : ¬ fi = f := fun z => he (decide_eq_true z)
      refine ⟨_, rfl, _, rfl, _, _, rfl, rfl, ?_⟩
      exact rest _ (by rw [if_neg he]) _ x1 hc1
  · rw [decide_eq_false hf]
    refine iteT ⟨_, rfl, ?_⟩
    refine q _ _ x1 ⟨p, rfl, ?_⟩
    have e : Cl.wh d f g k (r, fi) = (r, fi) := by
      unfold Cl.wh
      dsimp only
      rw [if_neg hf]
    rw [e]
    exact ex_t x1 hp
end
end Pp
end

section
set_option Elab.async false
set_option linter.all false
set_option maxRecDepth 100000
set_option maxHeartbeats 4000000
namespace Pp
open PySem PySem.Spec PyProof.Rows L2 Evl

/-! ### on_open -/
def isOpen : Cl → Bool
  | .halve => true | .pair => true | .others => true | .fill => true | _ => false
def spOpen (K : PySem.W.Frag) : Sp := fun vs H Q _ => ∃ (cv pv : V) (w d : Int) (c : Cl) (p : Pl), vs = [cv, .int w, .int d, pv] ∧ CallV K H cv c ∧ isOpen c = true ∧ PlaceV K H pv p ∧ (w = 2 ∨ w = 3) ∧ 0 < d ∧ d ≤ 1000 ∧ In w d p ∧
  RetP (fun v' H' => PlaceV K H' v' (c.mv w d p)) H Q
section
variable {P : Program} {w : World} {K : PySem.W.Frag} {mg : Str → Option Value} {base : Heap} {SC LC : Addr}
theorem sc_open : FnScope ["call", "files", "rows", "place", "row", "file", "number", "half"] ["call", "files", "rows", "place"] (defScope (top 13)) := ⟨rfl, rfl, rfl, by decide +kernel, rfl, by decide +kernel, by decide +kernel⟩
theorem ca_open (T : Txt w K mg SC LC) (D : Df K mg "on_open" (top 13)) : Ca P w K mg base 1 "on_open" (spOpen K) := by
  refine ca_of (k := 0) D sc_open (fun _ _ _ _ _ _ us hl => match us, hl with | [_, _, _, _], _ => rfl) (fun vs H Q E h => by obtain ⟨v, v2, w, d, c, p, rfl, _⟩ := h; rfl) (fun f cdv A outer s H vs Q E hr h => ?_)
  obtain ⟨cv, pv, wd, d, cl, ⟨r, f⟩, rfl, ⟨c, rfl, hc⟩, ho, ⟨p, rfl, hp⟩, hw, hd, hd2, hin, q⟩ := h
  have hp : SqT K H p [.int r, .int f] := hp
  obtain ⟨⟨i1, i2⟩, i3, i4⟩ := hin
  simp only at i1 i2 i3 i4
  refine ⟨_, (pss_cons (ps_asg (pv 3) (pg_tup rfl (pgs_cons (pg_name (i := 4) sc_open.nd rfl (Or.inl rfl)) (pgs_cons (pg_name (i := 5) sc_open.nd rfl (Or.inl rfl)) pgs_nil))))
      (pss_cons (ps_if (pt_cmpR op_eq (pe_ix ix_tup (pv 0) pe_int (fun _ _ => rfl)) pe_str (nomark _)) (pss_cons (ps_set (i := 6) sc_open.nd rfl (Or.inl rfl) (pe_op op_add (pe_op op_mul (pv 4) (pv 1)) (pv 5)))
      (pss_one (ps_ret (pe_tup (pa_cons (pe_op op_mod (pv 6) (pv 2)) (pa_cons (pe_op op_fdiv (pv 6) (pv 2)) pa_nil)))))) pss_nil)
      (pss_cons (ps_if (pt_cmpR op_eq (pe_ix ix_tup (pv 0) pe_int (fun _ _ => rfl)) pe_str (nomark _)) (pss_cons (ps_set (i := 6) sc_open.nd rfl (Or.inl rfl) (pe_op op_add (pe_op op_mul (pv 5) (pv 2)) (pv 4)))
      (pss_one (ps_ret (pe_tup (pa_cons (pe_op op_fdiv (pv 6) (pv 1)) (pa_cons (pe_op op_mod (pv 6) (pv 1)) pa_nil)))))) pss_nil)
      (pss_cons (ps_set (i := 7) sc_open.nd rfl (Or.inl rfl) (pe_op op_fdiv (pe_op op_add (pv 2) pe_int) pe_int))
      (pss_cons (ps_if (pt_cmpR op_eq (pe_ix ix_tup (pv 0) pe_int (fun _ _ => rfl)) pe_str (nomark _)) (pss_one (ps_ret (pe_ifExp (pt_cmpR op_eq (pe_op op_mod (pv 4) pe_int) pe_int (nomark _)) (pe_tup (pa_cons (pe_op op_fdiv (pv 4) pe_int) (pa_cons (pv 5) pa_nil))) (pe_tup (pa_cons (pe_op op_add (pv 7) (pe_op op_fdiv (pv 4) pe_int)) (pa_cons (pv 5) pa_nil)))))) pss_nil)
      (pss_one (ps_ret (pe_ifExp (pt_cmpR op_lt (pv 4) (pv 7) (nomark _)) (pe_tup (pa_cons (pe_op op_mul pe_int (pv 4)) (pa_cons (pv 5) pa_nil))) (pe_tup (pa_cons (pe_op op_add (pe_op op_mul pe_int (pe_op op_sub (pv 4) (pv 7))) pe_int) (pa_cons (pv 5) pa_nil))))))))))), ?_⟩
  refine ⟨_, rfl, p, _, rfl, hp, rfl, _, _, rfl, _, _, rfl, rfl, ?_⟩
  -- if call[0] == "halve"
  by_cases e1 : cl = .halve
  · subst e1
    refine ⟨_, rfl, c, _, _, _, rfl, rfl, hc, at_tag .halve, rfl, true, congrArg V.bl (is_halve .halve), iteT ?_⟩
    refine ⟨_, rfl, _, rfl, _, _, rfl, rfl, .inl ⟨by omega, by omega⟩, _, rfl, _, _, rfl, rfl, ?_⟩
    exact ⟨_, rfl, _, rfl, _, _, rfl, rfl, hd, _, rfl, _, rfl, _, _, rfl, rfl, ⟨hd, by show d < 1073741824; omega⟩, two_ok, ret_place q (Ex.refl H) rfl rfl⟩
  refine ⟨_, rfl, c, _, _, _, rfl, rfl, hc, at_tag cl, rfl, false, congrArg V.bl (is_halve_no e1), iteF ?_⟩
  -- if call[0] == "pair"
  by_cases e2 : cl = .pair
  · subst e2
    refine ⟨_, rfl, c, _, _, _, rfl, rfl, hc, at_tag .pair, rfl, true, congrArg V.bl (is_pair .pair), iteT ?_⟩
    refine ⟨_, rfl, _, rfl, _, _, rfl, rfl, .inl ⟨by omega, by omega⟩, _, rfl, _, _, rfl, rfl, ?_⟩
    exact ⟨_, rfl, _, rfl, _, _, rfl, rfl, ⟨by show 0 < wd; omega, by show wd < 1073741824; omega⟩, _, rfl, _, rfl, _, _, rfl, rfl, (by show 0 < wd; omega), two_ok, ret_place q (Ex.refl H) rfl rfl⟩
  refine ⟨_, rfl, c, _, _, _, rfl, rfl, hc, at_tag cl, rfl, false, congrArg V.bl (is_pair_no e2), iteF ?_⟩
  -- half = (rows + 1) // 2
  refine ⟨_, rfl, _, _, rfl, rfl, _, _, rfl, rfl, ⟨by decide, by decide⟩, ?_⟩
  -- if call[0] == "others"
  by_cases e3 : cl = .others
  · subst e3
    refine ⟨_, rfl, c, _, _, _, rfl, rfl, hc, at_tag .others, rfl, true, congrArg V.bl (is_others .others), iteT ?_⟩
    refine ⟨_, rfl, _, _, rfl, rfl, (by show (0 : Int) < 2; decide), rfl, decide (r % 2 = 0), ?_, ?_⟩
    · show V.bl (decide (V.int (r % 2) = V.int 0)) = _
      rw [dec_int]
      exact congrArg V.bl (by rw [Bool.eq_iff_iff]; simp)
    refine ite2 (fun he => ?_) (fun he => ?_)
    · have he : r % 2 = 0 := of_decide_eq_true he
      refine ⟨_, rfl, _, _, rfl, rfl, ⟨by decide, by decide⟩, _, rfl, two_ok, ret_place q (Ex.refl H) ?_ ?_⟩
      · show r / 2 = (if r % 2 = 0 then (r / 2, f) else ((d + 1) / 2 + r / 2, f)).1
        rw [if_pos he]
      · show f = (if r % 2 = 0 then (r / 2, f) else ((d + 1) / 2 + r / 2, f)).2
        rw [if_pos he]
    · have he : ¬ r % 2 = 0 := fun z => he (decide_eq_true z)
      refine ⟨_, rfl, _, rfl, _, _, rfl, rfl, ⟨by decide, by decide⟩, _, _, rfl, rfl, _, rfl, two_ok, ret_place q (Ex.refl H) ?_ ?_⟩
      · show (d + 1) / 2 + r / 2 = (if r % 2 = 0 then (r / 2, f) else ((d + 1) / 2 + r / 2, f)).1
        rw [if_neg he]
      · show f = (if r % 2 = 0 then (r / 2, f) else ((d + 1) / 2 + r / 2, f)).2
        rw [if_neg he]
  refine ⟨_, rfl, c, _, _, _, rfl, rfl, hc, at_tag cl, rfl, false, congrArg V.bl (is_others_no e3), iteF ?_⟩
  have e4 : cl = .fill := by
    cases cl <;> first | rfl | exact absurd rfl e1 | exact absurd rfl e2 | exact absurd rfl e3 | cases ho
  subst e4
  refine ⟨_, rfl, _, rfl, _, _, rfl, rfl, _, rfl, ?_⟩
  refine ite2 (fun he => ?_) (fun he => ?_)
  · have he : r < (d + 1) / 2 := of_decide_eq_true he
    refine ⟨_, rfl, _, _, rfl, rfl, .inl ⟨by decide, by decide⟩, _, rfl, two_ok, ret_place q (Ex.refl H) ?_ ?_⟩
    · show 2 * r = (if r < (d + 1) / 2 then (2 * r, f) else (2 * (r - (d + 1) / 2) + 1, f)).1
      rw [if_pos he]
    · show f = (if r < (d + 1) / 2 then (2 * r, f) else (2 * (r - (d + 1) / 2) + 1, f)).2
      rw [if_pos he]
  · have he : ¬ r < (d + 1) / 2 := fun z => he (decide_eq_true z)
    refine ⟨_, rfl, _, rfl, _, _, rfl, rfl, _, _, rfl, rfl, .inl ⟨by decide, by decide⟩, _, _, rfl, rfl, _, rfl, two_ok, ret_place q (Ex.refl H) ?_ ?_⟩
    · show 2 * (r - (d + 1) / 2) + 1 = (if r < (d + 1) / 2 then (2 * r, f) else (2 * (r - (d + 1) / 2) + 1, f)).1
      rw [if_neg he]
    · show f = (if r < (d + 1) / 2 then (2 * r, f) else (2 * (r - (d + 1) / 2) + 1, f)).2
      rw [if_neg he]
end
end Pp
end

section
set_option Elab.async false
set_option linter.all false
set_option maxRecDepth 100000
set_option maxHeartbeats 4000000
namespace Pp
open PySem PySem.Spec PyProof.Rows L2 Evl

theorem dec_bl' (a b : Int) : V.bl (decide (V.int a = V.int b)) = V.bl (decide (a = b)) := by
  rw [dec_int]
  exact congrArg V.bl (by rw [Bool.eq_iff_iff]; simp)
theorem in_two (f a b : Int) : inV (.int f) [.int a, .int b] = decide (f = a ∨ f = b) := by
  show ((a == f) || ((b == f) || false)) = _
  rw [Bool.or_false, Bool.eq_iff_iff, Bool.or_eq_true, beq_iff_eq, beq_iff_eq, decide_eq_true_iff]
  exact ⟨fun z => z.imp Eq.symm Eq.symm, fun z => z.imp Eq.symm Eq.symm⟩
theorem flat2 : [V.str "swap", V.str "front"].all flatV = true := rfl

/-! ### moved_by -/
def spMoved (K : PySem.W.Frag) : Sp := fun vs H Q _ => ∃ (cv pv : V) (w d : Int) (c : Cl) (p : Pl), vs = [cv, .int w, .int d, pv] ∧ CallV K H cv c ∧ PlaceV K H pv p ∧ (w = 2 ∨ w = 3) ∧ 0 < d ∧ d ≤ 1000 ∧ In w d p ∧
  RetP (fun v' H' => PlaceV K H' v' (c.mv w d p)) H Q
section
variable {P : Program} {w : World} {K : PySem.W.Frag} {mg : Str → Option Value} {base : Heap} {SC LC : Addr}
theorem sc_moved : FnScope ["call", "files", "rows", "place", "row", "file"] ["call", "files", "rows", "place"] (defScope (top 14)) := ⟨rfl, rfl, rfl, by decide +kernel, rfl, by decide +kernel, by decide +kernel⟩
theorem ca_moved (T : Txt w K mg SC LC) (D : Df K mg "moved_by" (top 14)) (c_on_wheel : Ca P w K mg base 1 "on_wheel" (spWheel K)) (c_on_open : Ca P w K mg base 1 "on_open" (spOpen K)) : Ca P w K mg base 2 "moved_by" (spMoved K) := by
  refine ca_of (k := 1) D sc_moved (fun _ _ _ _ _ _ us hl => match us, hl with | [_, _, _, _], _ => rfl) (fun vs H Q E h => by obtain ⟨v, v2, w, d, c, p, rfl, _⟩ := h; rfl) (fun f cdv A outer s H vs Q E hr h => ?_)
  obtain ⟨cv, pv, wd, d, cl, ⟨r, f⟩, rfl, ⟨c, rfl, hc⟩, ⟨p, rfl, hp⟩, hw, hd, hd2, hin, q⟩ := h
  have hp : SqT K H p [.int r, .int f] := hp
  refine ⟨_, (pss_cons (ps_asg (pv 3) (pg_tup rfl (pgs_cons (pg_name (i := 4) sc_moved.nd rfl (Or.inl rfl)) (pgs_cons (pg_name (i := 5) sc_moved.nd rfl (Or.inl rfl)) pgs_nil))))
      (pss_cons (ps_if (pt_cmpR op_eq (pe_ix ix_tup (pv 0) pe_int (fun _ _ => rfl)) pe_str (nomark _)) (pss_one (ps_ret (pe_tup (pa_cons (pe_op op_mod (pe_op op_sub (pv 4) (pe_ix ix_tup (pv 0) pe_int (fun _ _ => rfl))) (pv 2)) (pa_cons (pv 5) pa_nil))))) pss_nil)
      (pss_cons (ps_if (pt_cmpR op_eq (pe_ix ix_tup (pv 0) pe_int (fun _ _ => rfl)) pe_str (nomark _)) (pss_one (ps_ret (pe_ifExp (pt_cmpR op_eq (pv 5) (pe_ix ix_tup (pv 0) pe_int (fun _ _ => rfl)) (nomark _)) (pe_tup (pa_cons (pe_op op_mod (pe_op op_sub (pv 4) (pe_ix ix_tup (pv 0) pe_int (fun _ _ => rfl))) (pv 2)) (pa_cons (pv 5) pa_nil))) (pv 3)))) pss_nil)
      (pss_cons (ps_if (pt_cmpR op_eq (pe_ix ix_tup (pv 0) pe_int (fun _ _ => rfl)) pe_str (nomark _)) (pss_one (ps_ret (pe_tup (pa_cons (pe_op op_sub (pe_op op_sub (pv 2) pe_int) (pv 4)) (pa_cons (pe_op op_sub (pe_op op_sub (pv 1) pe_int) (pv 5)) pa_nil))))) pss_nil)
      (pss_cons (ps_if (pt_cmpR op_eq (pe_ix ix_tup (pv 0) pe_int (fun _ _ => rfl)) pe_str (nomark _)) (pss_one (ps_ret (C8.pe_c c_on_wheel hr (by decide) (by rfl) (pa_cons (pv 0) (pa_cons (pv 2) (pa_cons (pv 3) pa_nil)))))) pss_nil)
      (pss_cons (ps_if (pt_cmpR op_in_seq (pe_ix ix_tup (pv 0) pe_int (fun _ _ => rfl)) (pe_tup (pa_cons pe_str (pa_cons pe_str pa_nil))) (by rfl)) (pss_cons (ps_if (PW.pt (pw_or (pt_cmpR op_notIn_seq (pv 5) (pe_slice sl_tup (pv 0) (po_some pe_int) po_none) (by rfl)) (pw_or1 (PW.pt (pw_and (pt_cmpR op_eq (pe_ix ix_tup (pv 0) pe_int (fun _ _ => rfl)) pe_str (nomark _)) (pw_and1 (pt_cmpR op_gt (pv 4) pe_int (nomark _)))))))) (pss_one (ps_ret (pv 3))) pss_nil)
      (pss_one (ps_ret (pe_tup (pa_cons (pv 4) (pa_cons (pe_ifExp (pt_cmpR op_eq (pv 5) (pe_ix ix_tup (pv 0) pe_int (fun _ _ => rfl)) (nomark _)) (pe_ix ix_tup (pv 0) pe_int (fun _ _ => rfl)) (pe_ix ix_tup (pv 0) pe_int (fun _ _ => rfl))) pa_nil)))))) pss_nil)
      (pss_one (ps_ret (C8.pe_c c_on_open hr (by decide) (by rfl) (pa_cons (pv 0) (pa_cons (pv 1) (pa_cons (pv 2) (pa_cons (pv 3) pa_nil))))))))))))), ?_⟩
  refine ⟨_, rfl, p, _, rfl, hp, rfl, _, _, rfl, _, _, rfl, rfl, ?_⟩
  cases cl with
  | all k =>
    refine ⟨_, rfl, c, _, _, _, rfl, rfl, hc, at_tag (.all k), rfl, true, congrArg V.bl (is_all (.all k)), iteT ?_⟩
    exact ⟨_, rfl, _, rfl, c, _, _, _, rfl, rfl, hc, ix_at 1 rfl rfl, _, _, rfl, rfl, _, rfl, _, _, rfl, rfl, hd, _, rfl, two_ok, ret_place q (Ex.refl H) rfl rfl⟩
  | up g k =>
    refine ⟨_, rfl, c, _, _, _, rfl, rfl, hc, at_tag (.up g k), rfl, false, congrArg V.bl (is_all (.up g k)), iteF ?_⟩
    refine ⟨_, rfl, c, _, _, _, rfl, rfl, hc, at_tag (.up g k), rfl, true, congrArg V.bl (is_up (.up g k)), iteT ?_⟩
    refine ⟨_, rfl, _, rfl, c, _, _, _, rfl, rfl, hc, ix_at 1 rfl rfl, rfl, decide (f = g), dec_bl' f g, ?_⟩
    refine ite2 (fun he => ?_) (fun he => ?_)
    · have he : f = g := of_decide_eq_true he
      refine ⟨_, rfl, _, rfl, c, _, _, _, rfl, rfl, hc, ix_at 2 rfl rfl, _, _, rfl, rfl, _, rfl, _, _, rfl, rfl, hd, _, rfl, two_ok, ret_place q (Ex.refl H) ?_ ?_⟩
      · show (r - k) % d = (if f = g then ((r - k) % d, f) else (r, f)).1
        rw [if_pos he]
      · show f = (if f = g then ((r - k) % d, f) else (r, f)).2
        rw [if_pos he]
    · have he : ¬ f = g := fun z => he (decide_eq_true z)
      refine ⟨_, rfl, q _ _ (Ex.refl H) ⟨p, rfl, ?_⟩⟩
      have e : Cl.mv wd d (.up g k) (r, f) = (r, f) := if_neg he
      rw [e]
      exact hp
  | about =>
    refine ⟨_, rfl, c, _, _, _, rfl, rfl, hc, at_tag .about, rfl, false, congrArg V.bl (is_all .about), iteF ?_⟩
    refine ⟨_, rfl, c, _, _, _, rfl, rfl, hc, at_tag .about, rfl, false, congrArg V.bl (is_up .about), iteF ?_⟩
    refine ⟨_, rfl, c, _, _, _, rfl, rfl, hc, at_tag .about, rfl, true, congrArg V.bl (is_about .about), iteT ?_⟩
    exact ⟨_, rfl, _, _, rfl, rfl, _, rfl, _, _, rfl, rfl, _, rfl, _, _, rfl, rfl, _, rfl, _, _, rfl, rfl, two_ok, ret_place q (Ex.refl H) rfl rfl⟩
  | wheel a b k =>
    refine ⟨_, rfl, c, _, _, _, rfl, rfl, hc, at_tag (.wheel a b k), rfl, false, congrArg V.bl (is_all (.wheel a b k)), iteF ?_⟩
    refine ⟨_, rfl, c, _, _, _, rfl, rfl, hc, at_tag (.wheel a b k), rfl, false, congrArg V.bl (is_up (.wheel a b k)), iteF ?_⟩
    refine ⟨_, rfl, c, _, _, _, rfl, rfl, hc, at_tag (.wheel a b k), rfl, false, congrArg V.bl (is_about (.wheel a b k)), iteF ?_⟩
    refine ⟨_, rfl, c, _, _, _, rfl, rfl, hc, at_tag (.wheel a b k), rfl, true, congrArg V.bl (is_wheel (.wheel a b k)), iteT ?_⟩
    exact ⟨_, rfl, _, rfl, _, rfl, .ref c, .ref p, d, a, b, k, (r, f), rfl, ⟨c, rfl, hc⟩, ⟨p, rfl, hp⟩, hd, q⟩
  | swap a b =>
    refine ⟨_, rfl, c, _, _, _, rfl, rfl, hc, at_tag (.swap a b), rfl, false, congrArg V.bl (is_all (.swap a b)), iteF ?_⟩
    refine ⟨_, rfl, c, _, _, _, rfl, rfl, hc, at_tag (.swap a b), rfl, false, congrArg V.bl (is_up (.swap a b)), iteF ?_⟩
    refine ⟨_, rfl, c, _, _, _, rfl, rfl, hc, at_tag (.swap a b), rfl, false, congrArg V.bl (is_about (.swap a b)), iteF ?_⟩
    refine ⟨_, rfl, c, _, _, _, rfl, rfl, hc, at_tag (.swap a b), rfl, false, congrArg V.bl (is_wheel (.swap a b)), iteF ?_⟩
    refine ⟨_, rfl, c, _, _, _, rfl, rfl, hc, at_tag (.swap a b), two_ok, fun t ht => ⟨t, _, rfl, .inr (SqT.of upd_same), rfl, flat2, true, congrArg V.bl (is_sf (.swap a b)), iteT ?_⟩⟩
    have x1 : Ex H (upd H t (.tup [.str "swap", .str "front"])) := Ex.new ht
    have hc1 := ex_t x1 hc
    -- if file not in call[1:] or ..
    refine ⟨_, rfl, _, rfl, 1, rfl, c, _, rfl, hc1, (by rintro ⟨h, _⟩; cases h), fun t2 h2 => ?_⟩
    have x2 : Ex H (upd (upd H t (.tup [.str "swap", .str "front"])) t2 (.tup (cutV (valsOf (.swap a b)) (some 1) none))) := x1.trans (Ex.new h2)
    have hc2 := ex_t x2 hc
    refine ⟨t2, _, rfl, .inr (SqT.of upd_same), rfl, rfl, !decide (f = a ∨ f = b), congrArg (fun z => V.bl (!z)) (in_two f a b), ?_⟩
    have stay : Cl.mv wd d (.swap a b) (r, f) = (r, f) → PlaceV K (upd (upd H t (.tup [.str "swap", .str "front"])) t2 (.tup (cutV (valsOf (.swap a b)) (some 1) none))) (.ref p) (Cl.mv wd d (.swap a b) (r, f)) := fun e => by
      rw [e]
      exact ⟨p, rfl, ex_t x2 hp⟩
    by_cases hf : f = a ∨ f = b
    · rw [decide_eq_true hf]
      refine iteF ?_
      refine ⟨_, rfl, c, _, _, _, rfl, rfl, hc2, at_tag (.swap a b), rfl, false, congrArg V.bl (is_front (.swap a b)), iteF (iteF ?_)⟩
      refine ⟨_, rfl, _, rfl, _, rfl, c, _, _, _, rfl, rfl, hc2, ix_at 1 rfl rfl, rfl, decide (f = a), dec_bl' f a, ?_⟩
      refine ite2 (fun he => ?_) (fun he => ?_)
      · have he : f = a := of_decide_eq_true he
        refine ⟨_, rfl, c, _, _, _, rfl, rfl, hc2, ix_at 2 rfl rfl, two_ok, ret_place q x2 ?_ ?_⟩
        · show r = (if f = a then (r, b) else if f = b then (r, a) else (r, f)).1
          rw [if_pos he]
        · show b = (if f = a then (r, b) else if f = b then (r, a) else (r, f)).2
          rw [if_pos he]
      · have he : ¬ f = a := fun z => he (decide_eq_true z)
        have hb : f = b := hf.resolve_left he
        refine ⟨_, rfl, c, _, _, _, rfl, rfl, hc2, ix_at 1 rfl rfl, two_ok, ret_place q x2 ?_ ?_⟩
        · show r = (if f = a then (r, b) else if f = b then (r, a) else (r, f)).1
          rw [if_neg he, if_pos hb]
        · show a = (if f = a then (r, b) else if f = b then (r, a) else (r, f)).2
          rw [if_neg he, if_pos hb]
    · rw [decide_eq_false hf]
      refine iteT (iteT ⟨_, rfl, q _ _ x2 (stay ?_)⟩)
      show (if f = a then (r, b) else if f = b then (r, a) else (r, f)) = (r, f)
      rw [if_neg fun z => hf (.inl z), if_neg fun z => hf (.inr z)]
  | front a b =>
    refine ⟨_, rfl, c, _, _, _, rfl, rfl, hc, at_tag (.front a b), rfl, false, congrArg V.bl (is_all (.front a b)), iteF ?_⟩
    refine ⟨_, rfl, c, _, _, _, rfl, rfl, hc, at_tag (.front a b), rfl, false, congrArg V.bl (is_up (.front a b)), iteF ?_⟩
    refine ⟨_, rfl, c, _, _, _, rfl, rfl, hc, at_tag (.front a b), rfl, false, congrArg V.bl (is_about (.front a b)), iteF ?_⟩
    refine ⟨_, rfl, c, _, _, _, rfl, rfl, hc, at_tag (.front a b), rfl, false, congrArg V.bl (is_wheel (.front a b)), iteF ?_⟩
    refine ⟨_, rfl, c, _, _, _, rfl, rfl, hc, at_tag (.front a b), two_ok, fun t ht => ⟨t, _, rfl, .inr (SqT.of upd_same), rfl, flat2, true, congrArg V.bl (is_sf (.front a b)), iteT ?_⟩⟩
    have x1 : Ex H (upd H t (.tup [.str "swap", .str "front"])) := Ex.new ht
    have hc1 := ex_t x1 hc
    -- if file not in call[1:] or ..
    refine ⟨_, rfl, _, rfl, 1, rfl, c, _, rfl, hc1, (by rintro ⟨h, _⟩; cases h), fun t2 h2 => ?_⟩
    have x2 : Ex H (upd (upd H t (.tup [.str "swap", .str "front"])) t2 (.tup (cutV (valsOf (.front a b)) (some 1) none))) := x1.trans (Ex.new h2)
    have hc2 := ex_t x2 hc
    refine ⟨t2, _, rfl, .inr (SqT.of upd_same), rfl, rfl, !decide (f = a ∨ f = b), congrArg (fun z => V.bl (!z)) (in_two f a b), ?_⟩
    have stay : Cl.mv wd d (.front a b) (r, f) = (r, f) → PlaceV K (upd (upd H t (.tup [.str "swap", .str "front"])) t2 (.tup (cutV (valsOf (.front a b)) (some 1) none))) (.ref p) (Cl.mv wd d (.front a b) (r, f)) := fun e => by
      rw [e]
      exact ⟨p, rfl, ex_t x2 hp⟩
    by_cases hf : f = a ∨ f = b
    · rw [decide_eq_true hf]
      refine iteF ?_
      refine ⟨_, rfl, c, _, _, _, rfl, rfl, hc2, at_tag (.front a b), rfl, true, congrArg V.bl (is_front (.front a b)), iteT ?_⟩
      refine ⟨_, rfl, _, _, rfl, rfl, _, rfl, ?_⟩
      by_cases h0 : 0 < r
      · rw [decide_eq_true h0]
        refine iteT ⟨_, rfl, q _ _ x2 (stay ?_)⟩
        show (if 0 < r then (r, f) else if f = a then (r, b) else if f = b then (r, a) else (r, f)) = (r, f)
        rw [if_pos h0]
      rw [decide_eq_false h0]
      refine iteF ?_
      refine ⟨_, rfl, _, rfl, _, rfl, c, _, _, _, rfl, rfl, hc2, ix_at 1 rfl rfl, rfl, decide (f = a), dec_bl' f a, ?_⟩
      refine ite2 (fun he => ?_) (fun he => ?_)
      · have he : f = a := of_decide_eq_true he
        refine ⟨_, rfl, c, _, _, _, rfl, rfl, hc2, ix_at 2 rfl rfl, two_ok, ret_place q x2 ?_ ?_⟩
        · show r = (if 0 < r then (r, f) else if f = a then (r, b) else if f = b then (r, a) else (r, f)).1
          rw [if_neg h0, if_pos he]
        · show b = (if 0 < r then (r, f) else if f = a then (r, b) else if f = b then (r, a) else (r, f)).2
          rw [if_neg h0, if_pos he]
      · have he : ¬ f = a := fun z => he (decide_eq_true z)
        have hb : f = b := hf.resolve_left he
        refine ⟨_, rfl, c, _, _, _, rfl, rfl, hc2, ix_at 1 rfl rfl, two_ok, ret_place q x2 ?_ ?_⟩
        · show r = (if 0 < r then (r, f) else if f = a then (r, b) else if f = b then (r, a) else (r, f)).1
          rw [if_neg h0, if_neg he, if_pos hb]
        · show a = (if 0 < r then (r, f) else if f = a then (r, b) else if f = b then (r, a) else (r, f)).2
          rw [if_neg h0, if_neg he, if_pos hb]
    · rw [decide_eq_false hf]
      refine iteT (iteT ⟨_, rfl, q _ _ x2 (stay ?_)⟩)
      show (if 0 < r then (r, f) else if f = a then (r, b) else if f = b then (r, a) else (r, f)) = (r, f)
      by_cases h0 : 0 < r
      · rw [if_pos h0]
      · rw [if_neg h0, if_neg fun z => hf (.inl z), if_neg fun z => hf (.inr z)]
  | halve =>
    refine ⟨_, rfl, c, _, _, _, rfl, rfl, hc, at_tag .halve, rfl, false, congrArg V.bl (is_all .halve), iteF ?_⟩
    refine ⟨_, rfl, c, _, _, _, rfl, rfl, hc, at_tag .halve, rfl, false, congrArg V.bl (is_up .halve), iteF ?_⟩
    refine ⟨_, rfl, c, _, _, _, rfl, rfl, hc, at_tag .halve, rfl, false, congrArg V.bl (is_about .halve), iteF ?_⟩
    refine ⟨_, rfl, c, _, _, _, rfl, rfl, hc, at_tag .halve, rfl, false, congrArg V.bl (is_wheel .halve), iteF ?_⟩
    refine ⟨_, rfl, c, _, _, _, rfl, rfl, hc, at_tag .halve, two_ok, fun t ht => ⟨t, _, rfl, .inr (SqT.of upd_same), rfl, flat2, false, congrArg V.bl (is_sf .halve), iteF ?_⟩⟩
    exact ⟨_, rfl, _, rfl, _, rfl, _, rfl, .ref c, .ref p, wd, d, .halve, (r, f), rfl, ⟨c, rfl, ex_t (Ex.new ht) hc⟩, rfl, ⟨p, rfl, ex_t (Ex.new ht) hp⟩, hw, hd, hd2, hin, fun v' H' x => q v' H' ((Ex.new ht).trans x)⟩
  | pair =>
    refine ⟨_, rfl, c, _, _, _, rfl, rfl, hc, at_tag .pair, rfl, false, congrArg V.bl (is_all .pair), iteF ?_⟩
    refine ⟨_, rfl, c, _, _, _, rfl, rfl, hc, at_tag .pair, rfl, false, congrArg V.bl (is_up .pair), iteF ?_⟩
    refine ⟨_, rfl, c, _, _, _, rfl, rfl, hc, at_tag .pair, rfl, false, congrArg V.bl (is_about .pair), iteF ?_⟩
    refine ⟨_, rfl, c, _, _, _, rfl, rfl, hc, at_tag .pair, rfl, false, congrArg V.bl (is_wheel .pair), iteF ?_⟩
    refine ⟨_, rfl, c, _, _, _, rfl, rfl, hc, at_tag .pair, two_ok, fun t ht => ⟨t, _, rfl, .inr (SqT.of upd_same), rfl, flat2, false, congrArg V.bl (is_sf .pair), iteF ?_⟩⟩
    exact ⟨_, rfl, _, rfl, _, rfl, _, rfl, .ref c, .ref p, wd, d, .pair, (r, f), rfl, ⟨c, rfl, ex_t (Ex.new ht) hc⟩, rfl, ⟨p, rfl, ex_t (Ex.new ht) hp⟩, hw, hd, hd2, hin, fun v' H' x => q v' H' ((Ex.new ht).trans x)⟩
  | others =>
    refine ⟨_, rfl, c, _, _, _, rfl, rfl, hc, at_tag .others, rfl, false, congrArg V.bl (is_all .others), iteF ?_⟩
    refine ⟨_, rfl, c, _, _, _, rfl, rfl, hc, at_tag .others, rfl, false, congrArg V.bl (is_up .others), iteF ?_⟩
    refine ⟨_, rfl, c, _, _, _, rfl, rfl, hc, at_tag .others, rfl, false, congrArg V.bl (is_about .others), iteF ?_⟩
    refine ⟨_, rfl, c, _, _, _, rfl, rfl, hc, at_tag .others, rfl, false, congrArg V.bl (is_wheel .others), iteF ?_⟩
    refine ⟨_, rfl, c, _, _, _, rfl, rfl, hc, at_tag .others, two_ok, fun t ht => ⟨t, _, rfl, .inr (SqT.of upd_same), rfl, flat2, false, congrArg V.bl (is_sf .others), iteF ?_⟩⟩
    exact ⟨_, rfl, _, rfl, _, rfl, _, rfl, .ref c, .ref p, wd, d, .others, (r, f), rfl, ⟨c, rfl, ex_t (Ex.new ht) hc⟩, rfl, ⟨p, rfl, ex_t (Ex.new ht) hp⟩, hw, hd, hd2, hin, fun v' H' x => q v' H' ((Ex.new ht).trans x)⟩
  | fill =>
    refine ⟨_, rfl, c, _, _, _, rfl, rfl, hc, at_tag .fill, rfl, false, congrArg V.bl (is_all .fill), iteF ?_⟩
    refine ⟨_, rfl, c, _, _, _, rfl, rfl, hc, at_tag .fill, rfl, false, congrArg V.bl (is_up .fill), iteF ?_⟩
    refine ⟨_, rfl, c, _, _, _, rfl, rfl, hc, at_tag .fill, rfl, false, congrArg V.bl (is_about .fill), iteF ?_⟩
    refine ⟨_, rfl, c, _, _, _, rfl, rfl, hc, at_tag .fill, rfl, false, congrArg V.bl (is_wheel .fill), iteF ?_⟩
    refine ⟨_, rfl, c, _, _, _, rfl, rfl, hc, at_tag .fill, two_ok, fun t ht => ⟨t, _, rfl, .inr (SqT.of upd_same), rfl, flat2, false, congrArg V.bl (is_sf .fill), iteF ?_⟩⟩
    exact ⟨_, rfl, _, rfl, _, rfl, _, rfl, .ref c, .ref p, wd, d, .fill, (r, f), rfl, ⟨c, rfl, ex_t (Ex.new ht) hc⟩, rfl, ⟨p, rfl, ex_t (Ex.new ht) hp⟩, hw, hd, hd2, hin, fun v' H' x => q v' H' ((Ex.new ht).trans x)⟩
end
end Pp
end

section
set_option Elab.async false
set_option linter.all false
set_option maxRecDepth 100000
set_option maxHeartbeats 4000000
namespace Pp
open PySem PySem.Spec PyProof.Rows L2 Evl

/-! ### small rules -/
section
variable {X : Cx} {tg e : Expr} {w1 w2 : TI}
/-- two ways to walk one thing -/
theorem pi_or (h : PI X tg e w1) (h' : PI X tg e w2) : PI X tg e (fun σ H R => w1 σ H R ∨ w2 σ H R) :=
  ⟨fun pins s σ H R I q => q.elim (h.run pins s σ H R I) (h'.run pins s σ H R I)⟩
end
theorem Me.met {P : Program} {w : World} {K : PySem.W.Frag} {mg : Str → Option Value} {base : Heap} {k : Nat} {C : Addr} {m : Str} {sp : Sp} (h : Me P w K mg base k C m sp) (c : Cls K C) : C8.Met P w K mg base k C m sp [] := by
  obtain ⟨f, fd, ps, F, b, kp, at_, fn⟩ := h.ex
  exact ⟨f, fd, ps, [], c, ⟨at_, fn, kp⟩, F, b, .nil⟩
theorem tyx_seq {K : PySem.W.Frag} {H : Hp} {p : Addr} {xs : List V} (h : SqL K H p xs ∨ SqT K H p xs) : TyX K H (.ref p) (.type "list") ∨ TyX K H (.ref p) (.type "tuple") := by
  rcases h with ((h | ⟨o, h⟩) | ⟨o, its, n, hk, hc, _⟩) | h
  · exact .inl (.base (.lst h))
  · exact .inl (.base (.frz h))
  · exact .inl (.kList hk hc)
  · exact .inr (tyx_tup h)
theorem kit_lt {K : PySem.W.Frag} {t : Value} (h : t = .type "list" ∨ t = .type "tuple") : PySem.W.kitAny K t [.type "tuple", .type "list"] = some true := by
  rcases h with rfl | rfl
  · exact kitAny_cons (kit_ty kb_lt) (fun _ => kitAny_cons (kit_ty kb_ll) (fun z => by cases z) (fun _ => rfl)) (fun z => by cases z)
  · exact kitAny_cons (kit_ty kb_tt) (fun z => by cases z) (fun _ => rfl)
def tIsLT (K : PySem.W.Frag) (te : TE) : TE := te

/-! ### Script.__init__ -/
def spSInit (K : PySem.W.Frag) (SC : Addr) : Sp := fun vs H Q _ => ∃ (x dx c : Addr) (w : Int) (rs : List V) (cs : List Cl), vs = [.ref x, .int w, .ref c] ∧ H x = some (.ins SC dx []) ∧ (w = 2 ∨ w = 3) ∧ (SqL K H c rs ∨ SqT K H c rs) ∧ CallsV K H rs cs ∧ Oks w cs ∧ rs.length ≤ 1000 ∧
  ∀ H', ExB x H H' → ScriptV K SC H' (.ref x) w cs → Q .non H'
section
variable {P : Program} {w : World} {K : PySem.W.Frag} {mg : Str → Option Value} {base : Heap} {SC LC : Addr}
theorem sc_sinit : FnScope ["self", "files", "calls", "call"] ["self", "files", "calls"] (defScope (inClass sScript 0)) := ⟨rfl, rfl, rfl, by decide +kernel, rfl, by decide +kernel, by decide +kernel⟩
/-- the comprehension's reading, over a list or a tuple of calls -/
theorem all_calls {H H1 : Hp} {D : Addr} {rs : List V} {cs : List Cl} {wd : Int} {σ : L2.St} {Qd : Hp → Prop} (hD : H1 D = none) (x : Ex H H1) (hcs : CallsV K H rs cs) (ok : Oks wd cs) (hl : rs.length ≤ 1000)
    (hd : ∀ H', Ex H1 H' → H' D = some (.lst ((List.replicate rs.length true).map V.bl)) → Qd H') (hσ1 : ∀ y, ((wipe σ [3]).set 3 (some y))[1]? = some (some (.int wd))) (hσ3 : ∀ y, ((wipe σ [3]).set 3 (some y))[3]? = some (some y)) (hσw : ∀ y, wipe ((wipe σ [3]).set 3 (some y)) [3] = wipe σ [3]) (i : Nat) (y : V) (H' : Hp) (hi : rs[i]? = some y)
    (p : Ex H1 H' ∧ H' D = some (.lst ((List.replicate i true).map V.bl))) :
    gName 3 y (wipe σ [3]) H' fun σ2 H2 => wipe σ2 [3] = wipe σ [3] ∧ tYes σ2 H2 fun b H3 => if b = true then tCall (spIsCall K) [] E0 (tCons (tVar 1) (tCons (tVar 3) tNil)) σ2 H3 fun z H4 => ∃ acc, H4 D = some (.lst acc) ∧ acc.length < sizeLine ∧
      (Ex H1 (upd H4 D (.lst (acc ++ [z]))) ∧ (upd H4 D (.lst (acc ++ [z]))) D = some (.lst ((List.replicate (i + 1) true).map V.bl))) else (Ex H1 H3 ∧ H3 D = some (.lst ((List.replicate (i + 1) true).map V.bl))) := by
  obtain ⟨c, hc, hv⟩ := Paired.get (hcs.mono (x.trans p.1)) hi
  have hlt := (List.getElem?_eq_some_iff.mp hi).1
  refine ⟨hσw y, ?_⟩
  refine ⟨_, hσ1 y, _, hσ3 y, wd, y, c, rfl, hv, ok c (List.mem_of_getElem? hc), fun H4 x4 => ?_⟩
  refine ⟨_, x4 _ _ p.2, ?_, Ex.mut (p.1.trans x4) hD, ?_⟩
  · rw [List.length_map, List.length_replicate]
    exact sz_lt (by omega)
  · rw [upd_same, List.replicate_succ', List.map_append] <;> rfl
theorem me_sinit (T : Txt w K mg SC LC) (D : Md K SC "__init__" "Script.__init__" (inClass sScript 0)) (c_is_files : Ca P w K mg base 2 "is_files" spFiles) (c_is_call : Ca P w K mg base 3 "is_call" (spIsCall K)) : Me P w K mg base 4 SC "__init__" (spSInit K SC) := by
  refine me_of (k := 3) D sc_sinit (fun _ _ _ _ _ _ us hl => match us, hl with | [_, _, _], _ => rfl) (fun vs H Q E h => by obtain ⟨x, dx, c, w, rs, cs, rfl, _⟩ := h; rfl) (fun f cdv A outer s H vs Q E hr h => ?_)
  obtain ⟨x, dx, c, wd, rs, cs, rfl, hx, hw, hc, hcs, ok, hl, q⟩ := h
  refine ⟨_, (pss_cons (ps_if (pt_not (pt_val (C8.pe_c c_is_files hr (by decide) (by rfl) (pa_cons (pv 1) pa_nil)))) pss_never pss_nil)
      (pss_cons (ps_if (PW.pt (pw_or (pt_not (pt_val (pe_callB call_isiT (by rfl) T.isi boot_isi (pa_cons (pv 2) (pa_cons (pe_tup (pa_cons (pe_bltn (v := .ty "tuple") (by rfl) T.tuple boot_tuple' rfl) (pa_cons (pe_bltn (v := .ty "list") (by rfl) T.list boot_list' rfl) pa_nil))) pa_nil))))) (pw_or1 (pt_not (pt_val (pe_callB (cr_all rfl) (by rfl) T.all boot_all' (pa_cons (pe_lc (own := [("call", 3)]) (g := gName 3) (tt := tYes) rfl sc_sinit.nd (pi_or (pi_list (pv 2)) (pi_tup (pv 2))) (blkOk_by (own := [("call", 3)]) (N := ["self", "files", "calls", "call"]) (sc := defScope (inClass sScript 0)) (by decide +kernel)) (fun _ _ _ _ _ => pg_name (i := 3) sc_sinit.nd rfl (Or.inl rfl)) (fun _ _ _ _ _ => pts_nil) (fun _ _ _ _ _ => C8.pe_c c_is_call hr (by decide) (by rfl) (pa_cons (pv 1) (pa_cons (pv 3) pa_nil)))) pa_nil))))))) pss_never pss_nil)
      (pss_cons (ps_fld (pv 0) (pv 1) rfl)
      (pss_one (ps_fld (pv 0) (pe_callTy call_tuple_of (by rfl) T.tuple boot_tuple' (pa_cons (pv 2) pa_nil)) rfl))))), ?_⟩
  -- if not is_files(files)
  refine ⟨_, rfl, wd, rfl, hw, fun H1 x1 => ⟨true, rfl, iteF ?_⟩⟩
  -- if not isinstance(calls, (tuple, list)) or not all(..)
  refine ⟨_, rfl, two_ok, fun t ht => ?_⟩
  have x2 : Ex H (upd H1 t (.tup [.ty "tuple", .ty "list"])) := x1.trans (Ex.new ht)
  have hc2 : SqL K (upd H1 t (.tup [.ty "tuple", .ty "list"])) c rs ∨ SqT K (upd H1 t (.tup [.ty "tuple", .ty "list"])) c rs := hc.imp (ex_l x2) (ex_t x2)
  obtain ⟨ty, hty, ety⟩ : ∃ ty, TyX K (upd H1 t (.tup [.ty "tuple", .ty "list"])) (.ref c) ty ∧ (ty = .type "list" ∨ ty = .type "tuple") := by
    rcases tyx_seq hc2 with z | z
    · exact ⟨_, z, .inl rfl⟩
    · exact ⟨_, z, .inr rfl⟩
  refine ⟨.ref c, t, _, ty, _, true, rfl, upd_same, .cons (.ty "tuple") (.cons (.ty "list") .nil), hty, kit_lt ety, true, rfl, iteF ?_⟩
  -- the comprehension
  have after : ∀ D H', (upd H1 t (.tup [.ty "tuple", .ty "list"])) D = none → Ex (upd H1 t (.tup [.ty "tuple", .ty "list"])) H' → H' D = some (.lst ((List.replicate rs.length true).map V.bl)) →
      tSeq (sFld K (tVar 0) (tVar 1) "width") (sFld K (tVar 0) (tCB (fun xs H Q => ∃ p ys, xs = [.ref p] ∧ ((SqL K H p ys ∧ ∀ l, H l = none → Q (.ref l) (upd H l (.tup ys))) ∨ (SqT K H p ys ∧ Q (.ref p) H))) (tCons (tVar 2) tNil)) "steps")
        { nx := fun _ H' => Q .non H', rt := Q } [some (.ref x), some (.int wd), some (.ref c), none] H' := by
    intro D H' _ x3 _
    have x4 := x2.trans x3
    have hx4 := x4 _ _ hx
    refine ⟨_, rfl, _, rfl, x, SC, dx, [], rfl, hx4, T.clS, T.sW, (by show 0 < 1000; decide), ?_⟩
    have b5 : ExB x H (upd H' x (.ins SC dx (putF "width" (.int wd) []))) := (ExB.of x4).trans ExB.upd
    have hcs5 := CallsV.b b5 hx noTup_ins hcs
    refine ⟨_, rfl, c, rs, rfl, ?_⟩
    rcases hc with hc | hc
    · have hc5 : SqL K (upd H' x (.ins SC dx (putF "width" (.int wd) []))) c rs := by
        rcases ex_l x4 hc with (z | ⟨u, z⟩) | z
        · exact .inl (.inl (by rw [upd_ne (ne_of z hx4 fun y => nomatch y)]; exact z))
        · exact .inl (.inr ⟨u, by rw [upd_ne (ne_of z hx4 fun y => nomatch y)]; exact z⟩)
        · exact .inr z
      refine .inl ⟨hc5, fun l hl => ?_⟩
      have nl : x ≠ l := fun z => by rw [← z, upd_same] at hl; cases hl
      refine ⟨_, rfl, x, SC, dx, _, rfl, Eq.trans (upd_ne nl) upd_same, T.clS, T.sS, (by show 1 < 1000; decide), ?_⟩
      have b6 : ExB x H (upd (upd (upd H' x (.ins SC dx (putF "width" (.int wd) []))) l (.tup rs)) x (.ins SC dx (putF "steps" (.ref l) (putF "width" (.int wd) [])))) := (b5.trans (ExB.of (Ex.new hl))).trans ExB.upd
      exact q _ b6 ⟨x, dx, l, rs, rfl, upd_same, SqT.of (by rw [upd_ne nl.symm, upd_same]), CallsV.b b6 hx noTup_ins hcs⟩
    · refine .inr ⟨sqT_b b5 hx noTup_ins hc, ?_⟩
      refine ⟨_, rfl, x, SC, dx, _, rfl, upd_same, T.clS, T.sS, (by show 1 < 1000; decide), ?_⟩
      have b6 : ExB x H (upd (upd H' x (.ins SC dx (putF "width" (.int wd) []))) x (.ins SC dx (putF "steps" (.ref c) (putF "width" (.int wd) [])))) := b5.trans ExB.upd
      exact q _ b6 ⟨x, dx, c, rs, rfl, upd_same, sqT_b b6 hx noTup_ins hc, CallsV.b b6 hx noTup_ins hcs⟩
  have all1 : (List.replicate rs.length true).all id = true := by
    rw [List.all_eq_true]
    intro b hb
    exact (List.mem_replicate.mp hb).2
  have fin : ∀ D H', (upd H1 t (.tup [.ty "tuple", .ty "list"])) D = none → Ex (upd H1 t (.tup [.ty "tuple", .ty "list"])) H' → H' D = some (.lst ((List.replicate rs.length true).map V.bl)) → _ := after
  rcases hc2 with hc2 | hc2
  · refine .inl ⟨_, rfl, c, rfl, ⟨_, hc2⟩, fun D hD => ?_⟩
    refine lc_list (K := K) (a := c) (xs := rs) (fun i H' => Ex (upd H1 t (.tup [.ty "tuple", .ty "list"])) H' ∧ H' D = some (.lst ((List.replicate i true).map V.bl))) ⟨Ex.new hD, upd_same⟩ (fun i H' _ e => ex_l e.1 hc2)
      (fun i y H' hi e => all_calls (σ := [some (.ref x), some (.int wd), some (.ref c), none]) (Qd := fun _ => True) hD x2 hcs ok hl (fun _ _ _ => trivial) (fun _ => rfl) (fun _ => rfl) (fun _ => rfl) i y H' hi e) (fun H' e => ?_)
    exact ⟨D, _, rfl, SqL.of e.2, true, congrArg V.bl all1, iteF (after D H' hD e.1 e.2)⟩
  · refine .inr ⟨_, rfl, c, rfl, ⟨_, hc2⟩, fun D hD => ?_⟩
    refine lc_tup (K := K) (a := c) (xs := rs) (fun i H' => Ex (upd H1 t (.tup [.ty "tuple", .ty "list"])) H' ∧ H' D = some (.lst ((List.replicate i true).map V.bl))) ⟨Ex.new hD, upd_same⟩ (fun i H' _ e => ex_t e.1 hc2)
      (fun i y H' hi e => all_calls (σ := [some (.ref x), some (.int wd), some (.ref c), none]) (Qd := fun _ => True) hD x2 hcs ok hl (fun _ _ _ => trivial) (fun _ => rfl) (fun _ => rfl) (fun _ => rfl) i y H' hi e) (fun H' e => ?_)
    exact ⟨D, _, rfl, SqL.of e.2, true, congrArg V.bl all1, iteF (after D H' hD e.1 e.2)⟩
end
end Pp
end

section
set_option Elab.async false
set_option linter.all false
set_option maxRecDepth 100000
set_option maxHeartbeats 4000000
namespace Pp
open PySem PySem.Spec PyProof.Rows L2 Evl

/-- Script(..) may be called by its name -/
abbrev MkS (P : Program) (w : World) (K : PySem.W.Frag) (mg : Str → Option Value) (base : Heap) (SC : Addr) : Prop := C8.Mak P w K mg base 4 "Script" SC (spSInit K SC) []
/-- the property files -/
structure Pr (P : Program) (w : World) (K : PySem.W.Frag) (mg : Str → Option Value) (base : Heap) (SC : Addr) : Prop where
  ex : ∃ (p g : Addr) (fd : FuncData) (ps : List Str), PropOf K SC "files" p g ∧ FnOk P w K mg base CX0 1 g fd ps (getSp SC "width") ∧ Binds K fd ps []
section
variable {P : Program} {w : World} {K : PySem.W.Frag} {mg : Str → Option Value} {base : Heap} {SC LC : Addr}
theorem mkS_of (T : Txt w K mg SC LC) (h : Me P w K mg base 4 SC "__init__" (spSInit K SC)) : MkS P w K mg base SC := by
  obtain ⟨f, fd, ps, F, b, kp, at_, fn⟩ := h.ex
  exact ⟨f, fd, ps, [], ⟨T.mkS, at_, fn, T.kpS⟩, F, T.mgS, b, .nil⟩
/-- what making a script asks -/
theorem mk_script {H1 : Hp} {c : Addr} {wd : Int} {rs : List V} {cs : List Cl} {Q : VK} (q : RetP (fun v H' => ScriptV K SC H' v wd cs) H1 Q) (hw : wd = 2 ∨ wd = 3) (hc : SqL K H1 c rs ∨ SqT K H1 c rs) (hcs : CallsV K H1 rs cs) (ok : Oks wd cs) (hl : rs.length ≤ 1000) :
    ∀ x dx, H1 x = none → H1 dx = none → dx ≠ x → spSInit K SC (.ref x :: ([.int wd, .ref c] ++ [])) (upd (upd H1 dx (.own x)) x (.ins SC dx [])) (fun v H2 => v = .non ∧ Q (.ref x) H2) E0 := by
  intro x dx nx nd ne
  have nx2 : (upd H1 dx (.own x)) x = none := by rw [upd_ne ne.symm]; exact nx
  have e : Ex H1 (upd (upd H1 dx (.own x)) x (.ins SC dx [])) := (Ex.new nd).trans (Ex.new nx2)
  refine ⟨x, dx, c, wd, rs, cs, rfl, upd_same, hw, hc.imp (ex_l e) (ex_t e), hcs.mono e, ok, hl, fun H' b s => ⟨rfl, ?_⟩⟩
  exact q _ _ (b.ex e nx) s
theorem sc_files_p : FnScope ["self"] ["self"] (defScope (inClass sScript 4)) := ⟨rfl, rfl, rfl, by decide +kernel, rfl, by decide +kernel, by decide +kernel⟩
theorem pr_files (T : Txt w K mg SC LC) {p g : Addr} {fd : FuncData} (hp : PropOf K SC "files" p g) (F : Fun K "files" "Script.files" (inClass sScript 4) g fd) : Pr P w K mg base SC := by
  refine ⟨p, g, fd, ["self"], hp, F.ok (k := 0) sc_files_p (fun vs H Q E h => ?_) (fun cdv A outer s H vs Q E hr h => ?_), F.binds fun _ _ _ _ _ _ us hl => match us, hl with | [_], _ => rfl⟩
  · obtain ⟨a, dx, fs, v, rfl, _⟩ := h
    rfl
  · obtain ⟨a, dx, fs, v, rfl, ha, hf, q⟩ := h
    exact ⟨_, (pss_one (ps_ret (pe_fld (pv 0) rfl))), _, rfl, a, SC, dx, fs, v, rfl, ha, T.clS, T.sW, hf, q⟩

/-! ### __iter__ -/
def spIter (K : PySem.W.Frag) (SC : Addr) : Sp := fun vs H Q _ => ∃ (a dx t : Addr) (wd : Int) (rs : List V), vs = [.ref a] ∧ H a = some (.ins SC dx (sf wd t)) ∧ SqT K H t rs ∧ ∀ it, H it = none → (∀ b o, H b = some o → b < it) → Q (.ref it) (upd H it (ItT t it 0))
theorem sc_iter : FnScope ["self"] ["self"] (defScope (inClass sScript 3)) := ⟨rfl, rfl, rfl, by decide +kernel, rfl, by decide +kernel, by decide +kernel⟩
theorem me_iter (T : Txt w K mg SC LC) (D : Md K SC "__iter__" "Script.__iter__" (inClass sScript 3)) : Me P w K mg base 1 SC "__iter__" (spIter K SC) := by
  refine me_of (k := 0) D sc_iter (fun _ _ _ _ _ _ us hl => match us, hl with | [_], _ => rfl) (fun vs H Q E h => by obtain ⟨a, dx, t, wd, rs, rfl, _⟩ := h; rfl) (fun f cdv A outer s H vs Q E hr h => ?_)
  obtain ⟨a, dx, t, wd, rs, rfl, ha, ht, q⟩ := h
  exact ⟨_, (pss_one (ps_ret (pe_callB call_iterT (by rfl) T.iter boot_iter' (pa_cons (pe_fld (pv 0) rfl) pa_nil)))), _, rfl, a, SC, dx, _, _, rfl, ha, T.clS, T.sS, sf_s _ _, t, rs, rfl, ht, q⟩

/-! ### calls -/
def spCalls (K : PySem.W.Frag) (SC : Addr) : Sp := fun vs H Q _ => ∃ (v : V) (wd : Int) (cs : List Cl), vs = [v] ∧ ScriptV K SC H v wd cs ∧ RetP (fun v H' => ∃ l rs, v = .ref l ∧ H' l = some (.lst rs) ∧ CallsV K H' rs cs) H Q
theorem sc_calls : FnScope ["self"] ["self"] (defScope (inClass sScript 6)) := ⟨rfl, rfl, rfl, by decide +kernel, rfl, by decide +kernel, by decide +kernel⟩
theorem me_calls (T : Txt w K mg SC LC) (D : Md K SC "calls" "Script.calls" (inClass sScript 6)) : Me P w K mg base 1 SC "calls" (spCalls K SC) := by
  refine me_of (k := 0) D sc_calls (fun _ _ _ _ _ _ us hl => match us, hl with | [_], _ => rfl) (fun vs H Q E h => by obtain ⟨v, wd, cs, rfl, _⟩ := h; rfl) (fun f cdv A outer s H vs Q E hr h => ?_)
  obtain ⟨v, wd, cs, rfl, ⟨a, dx, t, rs, rfl, ha, ht, hcs⟩, q⟩ := h
  refine ⟨_, (pss_one (ps_ret (pe_callTy call_list_of (by rfl) T.list boot_list' (pa_cons (pe_fld (pv 0) rfl) pa_nil)))), _, rfl, a, SC, dx, _, _, rfl, ha, T.clS, T.sS, sf_s _ _, t, rs, rfl, .inr ht, fun l hl => ?_⟩
  exact q _ _ (Ex.new hl) ⟨l, rs, rfl, upd_same, hcs.mono (Ex.new hl)⟩

/-! ### __mul__ -/
def spMul (K : PySem.W.Frag) (SC : Addr) : Sp := fun vs H Q _ => ∃ (u v : V) (wd : Int) (cs ds : List Cl), vs = [u, v] ∧ ScriptV K SC H u wd cs ∧ ScriptV K SC H v wd ds ∧ (wd = 2 ∨ wd = 3) ∧ Oks wd cs ∧ Oks wd ds ∧ cs.length + ds.length ≤ 1000 ∧ RetP (fun v H' => ScriptV K SC H' v wd (cs ++ ds)) H Q
theorem sc_mul : FnScope ["self", "other"] ["self", "other"] (defScope (inClass sScript 9)) := ⟨rfl, rfl, rfl, by decide +kernel, rfl, by decide +kernel, by decide +kernel⟩
theorem calls_len {H : Hp} {rs : List V} {cs : List Cl} (h : CallsV K H rs cs) : rs.length = cs.length := Paired.length h
theorem no_calls (wd : Int) (t : Addr) : (sf wd t).lookup ("calls" : Str) = none := sf_no _ _ (by decide +kernel) (by decide +kernel)
theorem me_mul (T : Txt w K mg SC LC) (D : Md K SC "__mul__" "Script.__mul__" (inClass sScript 9)) (c_Script : MkS P w K mg base SC) (pr : Pr P w K mg base SC) (m_calls : Me P w K mg base 1 SC "calls" (spCalls K SC)) : Me P w K mg base 6 SC "__mul__" (spMul K SC) := by
  obtain ⟨pp, gg, fdG, psG, pF, FG, bG⟩ := pr.ex
  refine me_of (k := 5) D sc_mul (fun _ _ _ _ _ _ us hl => match us, hl with | [_, _], _ => rfl) (fun vs H Q E h => by obtain ⟨u, v, wd, cs, ds, rfl, _⟩ := h; rfl) (fun f cdv A outer s H vs Q E hr h => ?_)
  obtain ⟨u, v, wd, cs, ds, rfl, ⟨a, dx, t, rs, rfl, ha, ht, hcs⟩, ⟨b, dy, t', rs', rfl, hb, ht', hds⟩, hw, oc, od, hl, q⟩ := h
  refine ⟨_, (pss_cons (ps_if (pt_cmpR op_ne (pe_fld (pv 0) rfl) (pe_prop (pv 1) T.clS pF FG (hr.mono (by decide)) bG .nil pass0 rfl) (nomark _)) pss_never pss_nil)
      (pss_one (ps_ret (C8.pe_mk c_Script hr (by decide) (by rfl) (pa_cons (pe_fld (pv 0) rfl) (pa_cons (pe_op op_catA (pe_fld (pv 0) rfl) (pe_callTy call_tuple_of (by rfl) T.tuple boot_tuple' (pa_cons (C8.pe_mt0 (m_calls.met T.clS) hr (by decide) (pv 1)) pa_nil))) pa_nil)))))), ?_⟩
  -- if self.width != other.files
  refine ⟨_, rfl, a, SC, dx, _, _, rfl, ha, T.clS, T.sW, sf_w _ _, _, rfl, b, dy, _, rfl, hb, b, dy, _, _, rfl, hb, sf_w _ _, rfl, false, ?_, iteF ?_⟩
  · show V.bl (!decide (V.int wd = V.int wd)) = V.bl false
    rw [decide_eq_true rfl] <;> rfl
  -- the new script
  refine ⟨_, rfl, a, SC, dx, _, _, rfl, ha, T.clS, T.sW, sf_w _ _, _, rfl, a, SC, dx, _, _, rfl, ha, T.clS, T.sS, sf_s _ _, ?_⟩
  refine ⟨_, rfl, b, dy, _, rfl, hb, no_calls _ _, .ref b, wd, ds, rfl, ⟨b, dy, t', rs', rfl, hb, ht', hds⟩, ?_⟩
  rintro _ H1 x1 ⟨l, ys, rfl, hl1, hys⟩
  have e1 := calls_len hcs
  have e2 := calls_len hys
  refine ⟨l, ys, rfl, .inl ⟨sq_of hl1, fun m hm => ?_⟩⟩
  have x2 : Ex H (upd H1 m (.tup ys)) := x1.trans (Ex.new hm)
  have ht2 := ex_t x2 ht
  have hcs2 := hcs.mono x2
  have hys2 := hys.mono (Ex.new hm (o := .tup ys))
  refine ⟨t, m, rs, ys, rfl, rfl, ht2, SqT.of upd_same, sz_of (by omega), fun z => ?_, fun _ z => ?_, fun _ _ p hp => ?_⟩
  · subst z
    have : cs = [] := List.length_eq_zero_iff.mp (by rw [← e1]; rfl)
    subst this
    exact mk_script (rs := ys) (fun v H' x => q v H' (x2.trans x)) hw (.inr (SqT.of upd_same)) hys2 (by exact od) (by omega)
  · subst z
    have : ds = [] := List.length_eq_zero_iff.mp (by rw [← e2]; rfl)
    subst this
    exact mk_script (cs := cs) (rs := rs) (fun v H' x s => q v H' (x2.trans x) (by rw [List.append_nil]; exact s)) hw (.inr ht2) hcs2 oc (by omega)
  · have x3 := Ex.new hp (o := .tup (rs ++ ys))
    exact mk_script (rs := rs ++ ys) (fun v H' x => q v H' ((x2.trans x3).trans x)) hw (.inr (SqT.of upd_same)) (Paired.app (hcs2.mono x3) (hys2.mono x3)) (oc.append od) (by rw [List.length_append]; omega)

/-! ### __invert__ -/
def spInv (K : PySem.W.Frag) (SC : Addr) : Sp := fun vs H Q _ => ∃ (u : V) (wd : Int) (cs : List Cl), vs = [u] ∧ ScriptV K SC H u wd cs ∧ (wd = 2 ∨ wd = 3) ∧ Oks wd cs ∧ cs.length ≤ 1000 ∧ RetP (fun v H' => ScriptV K SC H' v wd (invs cs)) H Q
theorem sc_inv : FnScope ["self", "call"] ["self"] (defScope (inClass sScript 10)) := ⟨rfl, rfl, rfl, by decide +kernel, rfl, by decide +kernel, by decide +kernel⟩
theorem me_inv (T : Txt w K mg SC LC) (D : Md K SC "__invert__" "Script.__invert__" (inClass sScript 10)) (c_Script : MkS P w K mg base SC) (c_turned : Ca P w K mg base 1 "turned" (spTurned K)) : Me P w K mg base 6 SC "__invert__" (spInv K SC) := by
  refine me_of (k := 5) D sc_inv (fun _ _ _ _ _ _ us hl => match us, hl with | [_], _ => rfl) (fun vs H Q E h => by obtain ⟨u, wd, cs, rfl, _⟩ := h; rfl) (fun f cdv A outer s H vs Q E hr h => ?_)
  obtain ⟨u, wd, cs, rfl, ⟨a, dx, t, rs, rfl, ha, ht, hcs⟩, hw, oc, hl, q⟩ := h
  have e1 := calls_len hcs
  refine ⟨_, (pss_one (ps_ret (C8.pe_mk c_Script hr (by decide) (by rfl) (pa_cons (pe_fld (pv 0) rfl) (pa_cons (pe_lc (own := [("call", 1)]) (g := gName 1) (tt := tYes) rfl sc_inv.nd (pi_tup (pe_revT (pe_fld (pv 0) rfl))) (blkOk_by (own := [("call", 1)]) (N := ["self", "call"]) (sc := defScope (inClass sScript 10)) (by decide +kernel)) (fun _ _ _ _ _ => pg_name (i := 1) sc_inv.nd rfl (Or.inl rfl)) (fun _ _ _ _ _ => pts_nil) (fun _ _ _ _ _ => C8.pe_c c_turned hr (by decide) (by rfl) (pa_cons (pv 1) pa_nil))) pa_nil))))), ?_⟩
  refine ⟨_, rfl, a, SC, dx, _, _, rfl, ha, T.clS, T.sW, sf_w _ _, _, rfl, a, SC, dx, _, _, rfl, ha, T.clS, T.sS, sf_s _ _, t, rs, rfl, ht, fun t2 h2 => ⟨t2, rfl, ⟨_, SqT.of upd_same⟩, fun D hD => ?_⟩⟩
  have x2 : Ex H (upd H t2 (.tup rs.reverse)) := Ex.new h2
  have hrev : CallsV K (upd H t2 (.tup rs.reverse)) rs.reverse cs.reverse := Paired.rev (hcs.mono x2)
  have ht2 : SqT K (upd H t2 (.tup rs.reverse)) t2 rs.reverse := SqT.of upd_same
  refine lc_tup (K := K) (a := t2) (xs := rs.reverse) (fun i H' => Ex (upd H t2 (.tup rs.reverse)) H' ∧ ∃ ys, ys.length = i ∧ H' D = some (.lst ys) ∧ CallsV K H' ys ((cs.reverse.take i).map Cl.inv)) ⟨Ex.new hD, [], rfl, upd_same, .nil⟩ (fun i H' _ e => ex_t e.1 ht2)
    (fun i y H' hi e => ?_) (fun H' e => ?_)
  · obtain ⟨x3, ys, hy, hD', hys⟩ := e
    obtain ⟨c, hc, hv⟩ := Paired.get (hrev.mono x3) hi
    have hlt := (List.getElem?_eq_some_iff.mp hi).1
    rw [List.length_reverse] at hlt
    refine ⟨rfl, ?_⟩
    refine ⟨_, rfl, y, c, rfl, hv, fun v H4 x4 hv4 => ?_⟩
    have nD : (upd H t2 (.tup rs.reverse)) D = none := hD
    refine ⟨ys, x4 _ _ hD', sz_lt (by omega), Ex.mut (x3.trans x4) nD, ys ++ [v], by rw [List.length_append, hy] <;> rfl, upd_same, ?_⟩
    have b5 : ExB D H4 (upd H4 D (.lst (ys ++ [v]))) := ExB.upd
    have hD4 := x4 _ _ hD'
    have e3 : (cs.reverse.take (i + 1)).map Cl.inv = (cs.reverse.take i).map Cl.inv ++ [c.inv] := by
      rw [List.take_add_one, hc, List.map_append] <;> rfl
    rw [e3]
    exact Paired.app (CallsV.b b5 hD4 noTup_lst (hys.mono x4)) (.cons (hv4.b b5 hD4 noTup_lst) .nil)
  · obtain ⟨x3, ys, hy, hD', hys⟩ := e
    have e4 : (cs.reverse.take rs.reverse.length).map Cl.inv = invs cs := by
      rw [List.take_of_length_le (by rw [List.length_reverse, List.length_reverse, e1]; exact Nat.le_refl _)] <;> rfl
    rw [e4] at hys
    rw [List.length_reverse] at hy
    exact mk_script (rs := ys) (fun v H' x => q v H' ((x2.trans x3).trans x)) hw (.inl (sq_of hD')) hys oc.invs (by omega)

/-! ### times -/
def spTimes (K : PySem.W.Frag) (SC : Addr) : Sp := fun vs H Q _ => ∃ (u : V) (k wd : Int) (cs : List Cl), vs = [u, .int k] ∧ ScriptV K SC H u wd cs ∧ (wd = 2 ∨ wd = 3) ∧ Oks wd cs ∧ cs.length ≤ 20 ∧ (-20 ≤ k ∧ k ≤ 20) ∧ RetP (fun v H' => ScriptV K SC H' v wd (tms k cs)) H Q
theorem sc_times : FnScope ["self", "number", "base"] ["self", "number"] (defScope (inClass sScript 11)) := ⟨rfl, rfl, rfl, by decide +kernel, rfl, by decide +kernel, by decide +kernel⟩
theorem reps_calls {H : Hp} {rs : List V} {cs : List Cl} (h : CallsV K H rs cs) : ∀ k, CallsV K H ((List.replicate k rs).flatten) (reps k cs)
  | 0 => .nil
  | k + 1 => by
    show CallsV K H ((List.replicate (k + 1) rs).flatten) ((List.replicate (k + 1) cs).flatten)
    rw [List.replicate_succ, List.replicate_succ, List.flatten_cons, List.flatten_cons]
    exact Paired.app h (reps_calls h k)
theorem me_times (T : Txt w K mg SC LC) (D : Md K SC "times" "Script.times" (inClass sScript 11)) (c_Script : MkS P w K mg base SC) (m_calls : Me P w K mg base 1 SC "calls" (spCalls K SC)) (m_inv : Me P w K mg base 6 SC "__invert__" (spInv K SC)) : Me P w K mg base 7 SC "times" (spTimes K SC) := by
  obtain ⟨fI, fdI, psI, FI, bI, _, atI, fnI⟩ := m_inv.ex
  refine me_of (k := 6) D sc_times (fun _ _ _ _ _ _ us hl => match us, hl with | [_, _], _ => rfl) (fun vs H Q E h => by obtain ⟨u, k, wd, cs, rfl, _⟩ := h; rfl) (fun f cdv A outer s H vs Q E hr h => ?_)
  obtain ⟨u, k, wd, cs, rfl, hs, hw, oc, hl, hk, q⟩ := h
  obtain ⟨a, dx, t, rs, rfl, ha, ht, hcs⟩ := id hs
  refine ⟨_, (pss_cons (ps_set (i := 2) sc_times.nd rfl (Or.inl rfl) (pe_ifExp (pt_cmpR op_ge (pv 1) pe_int (nomark _)) (pv 0) (pe_un (un_own (r := ()) atI fnI FI (hr.mono (by decide)) bI) (pv 0))))
      (pss_one (ps_ret (C8.pe_mk c_Script hr (by decide) (by rfl) (pa_cons (pe_fld (pv 0) rfl) (pa_cons (pe_op op_rep (C8.pe_mt0 (m_calls.met T.clS) hr (by decide) (pv 2)) (pe_callB call_abs (by rfl) T.abs boot_abs' (pa_cons (pv 1) pa_nil))) pa_nil)))))), ?_⟩
  have rest : ∀ (v : V) (cs0 : List Cl) (H1 : Hp), Ex H H1 → ScriptV K SC H1 v wd cs0 → Oks wd cs0 → cs0.length = cs.length → reps k.natAbs cs0 = tms k cs →
      tRet (tMake SC (spSInit K SC) [] E0 (tCons (tFld K (tVar 0) "width") (tCons (tOp rRep (tMeth SC "calls" (spCalls K SC) [] E0 (tVar 2) tNil) (tCB (fun xs H Q => ∃ i, xs = [.int i] ∧ Q (.int (if i < 0 then -i else i)) H) (tCons (tVar 1) tNil))) tNil)))
        { nx := fun _ H' => Q .non H', rt := Q } [some (.ref a), some (.int k), some v] H1 := by
    intro v cs0 H1 x1 hs0 ok0 hl0 he
    obtain ⟨b, dy, t', rs', rfl, hb, ht', hds⟩ := id hs0
    refine ⟨_, rfl, a, SC, dx, _, _, rfl, x1 _ _ ha, T.clS, T.sW, sf_w _ _, ?_⟩
    refine ⟨_, rfl, b, dy, _, rfl, hb, no_calls _ _, .ref b, wd, cs0, rfl, hs0, ?_⟩
    rintro _ H2 x2 ⟨l, ys, rfl, hl1, hys⟩
    have e2 := calls_len hys
    have ek : (if k < 0 then -k else k).toNat = k.natAbs := by split <;> omega
    have hz : ys.length * (if k < 0 then -k else k).toNat ≤ 400 := by
      rw [ek]
      exact Nat.le_trans (Nat.mul_le_mul (show ys.length ≤ 20 by omega) (show k.natAbs ≤ 20 by omega)) (by decide)
    refine ⟨_, rfl, k, rfl, l, _, ys, rfl, rfl, hl1, ?_, ?_, sz_of (by omega), fun p hp => ?_⟩
    · split <;> omega
    · split <;> omega
    have x3 := Ex.new hp (o := .lst (List.replicate (if k < 0 then -k else k).toNat ys).flatten)
    refine mk_script (cs := tms k cs) (fun v H' x => q v H' (((x1.trans x2).trans x3).trans x)) hw (.inl (sq_of upd_same)) ?_ (tms_ok k oc) ?_
    · rw [← he, ek]
      have := reps_calls (hys.mono (Ex.new hp (o := .lst (List.replicate (if k < 0 then -k else k).toNat ys).flatten))) k.natAbs
      rw [ek] at this
      exact this
    · rw [List.length_flatten, List.map_replicate, List.sum_replicate_nat, Nat.mul_comm]
      omega
  refine ⟨_, rfl, _, _, rfl, rfl, _, rfl, ?_⟩
  refine ite2 (fun hk0 => ?_) (fun hk0 => ?_)
  · have hk0 : 0 ≤ k := of_decide_eq_true hk0
    exact ⟨_, rfl, rest _ cs H (Ex.refl H) hs oc rfl (by unfold tms; rw [if_pos hk0])⟩
  · have hk0 : ¬ 0 ≤ k := fun z => hk0 (decide_eq_true z)
    refine ⟨_, rfl, a, dx, _, rfl, ha, .ref a, wd, cs, rfl, hs, hw, oc, by omega, fun v H1 x1 s1 => ?_⟩
    exact rest v (invs cs) H1 x1 s1 oc.invs (by unfold invs; rw [List.length_map, List.length_reverse]) (by unfold tms; rw [if_neg hk0])
end
end Pp
end

section
set_option Elab.async false
set_option linter.all false
set_option maxRecDepth 100000
set_option maxHeartbeats 4000000
namespace Pp
open PySem PySem.Spec PyProof.Rows L2 Evl

/-! ### moves.py -/
def spIsPlace (K : PySem.W.Frag) : Sp := fun vs H Q _ => ∃ (w d : Int) (v : V) (p : Pl), vs = [.int w, .int d, v] ∧ PlaceV K H v p ∧ In w d p ∧ Q (.bl true) H
def spNum (K : PySem.W.Frag) : Sp := fun vs H Q _ => ∃ (w : Int) (v : V) (p : Pl), vs = [.int w, v] ∧ PlaceV K H v p ∧ (w = 2 ∨ w = 3) ∧ Q (.int (num w p)) H
def spPl (K : PySem.W.Frag) : Sp := fun vs H Q _ => ∃ (w n : Int), vs = [.int w, .int n] ∧ (w = 2 ∨ w = 3) ∧ RetP (fun v H' => PlaceV K H' v (pl w n)) H Q
def spPassed (K : PySem.W.Frag) (SC : Addr) : Sp := fun vs H Q _ => ∃ (sv pv : V) (d wd : Int) (cs : List Cl) (p : Pl), vs = [sv, .int d, pv] ∧ ScriptV K SC H sv wd cs ∧ PlaceV K H pv p ∧ (wd = 2 ∨ wd = 3) ∧ 0 < d ∧ d ≤ 1000 ∧ In wd d p ∧ Oks wd cs ∧ cs.length ≤ 1000 ∧
  RetP (fun v H' => ∃ l ys x, v = .ref l ∧ H' l = some (.lst (ys ++ [x])) ∧ PlaceV K H' x (mvs wd d cs p)) H Q
def spMvd (K : PySem.W.Frag) (SC : Addr) : Sp := fun vs H Q _ => ∃ (sv pv : V) (d wd : Int) (cs : List Cl) (p : Pl), vs = [sv, .int d, pv] ∧ ScriptV K SC H sv wd cs ∧ PlaceV K H pv p ∧ (wd = 2 ∨ wd = 3) ∧ 0 < d ∧ d ≤ 1000 ∧ In wd d p ∧ Oks wd cs ∧ cs.length ≤ 1000 ∧
  RetP (fun v H' => PlaceV K H' v (mvs wd d cs p)) H Q
section
variable {P : Program} {w : World} {K : PySem.W.Frag} {mg : Str → Option Value} {base : Heap} {SC LC : Addr}
theorem sc_isPlace : FnScope ["files", "rows", "thing"] ["files", "rows", "thing"] (defScope (top 22)) := ⟨rfl, rfl, rfl, by decide +kernel, rfl, by decide +kernel, by decide +kernel⟩
theorem ca_isPlace (T : Txt w K mg SC LC) (D : Df K mg "is_place" (top 22)) (c_is_index : Ca P w K mg base 2 "is_index" spIndex) : Ca P w K mg base 3 "is_place" (spIsPlace K) := by
  refine ca_of (k := 2) D sc_isPlace (fun _ _ _ _ _ _ us hl => match us, hl with | [_, _, _], _ => rfl) (fun vs H Q E h => by obtain ⟨w, d, v, p, rfl, _⟩ := h; rfl) (fun f cdv A outer s H vs Q E hr h => ?_)
  obtain ⟨wd, d, v, ⟨r, fi⟩, rfl, ⟨p, rfl, hp⟩, ⟨⟨h1, h2⟩, h3, h4⟩, q⟩ := h
  have hp : SqT K H p [.int r, .int fi] := hp
  refine ⟨_, (pss_cons (ps_if (PW.pt (pw_or (pt_not (pt_val (pe_callB call_isi (by rfl) T.isi boot_isi (pa_cons (pv 2) (pa_cons (pe_bltn (v := .ty "tuple") (by rfl) T.tuple boot_tuple' rfl) pa_nil))))) (pw_or1 (pt_cmpR op_ne (pe_callB call_len_seq (by rfl) T.len PySem.boot_len (pa_cons (pv 2) pa_nil)) pe_int (nomark _))))) pss_never pss_nil)
      (pss_one (ps_ret (pe_and (C8.pe_c c_is_index hr (by decide) (by rfl) (pa_cons (pe_ix ix_tup (pv 2) pe_int (fun _ _ => rfl)) (pa_cons (pv 1) pa_nil))) (pe_one (C8.pe_c c_is_index hr (by decide) (by rfl) (pa_cons (pe_ix ix_tup (pv 2) pe_int (fun _ _ => rfl)) (pa_cons (pv 0) pa_nil)))))))), ?_⟩
  refine ⟨_, rfl, .ref p, .ty "tuple", .type "tuple", .type "tuple", true, rfl, .ty "tuple", tyx_tup hp, kit_ty kb_tt, true, rfl, iteF ?_⟩
  refine ⟨_, rfl, p, _, rfl, .inr hp, rfl, false, rfl, iteF ?_⟩
  refine ⟨_, rfl, p, _, _, _, rfl, rfl, hp, ix_at 0 rfl rfl, _, rfl, r, d, rfl, h1, h2, true, rfl, iteT ?_⟩
  exact ⟨_, rfl, p, _, _, _, rfl, rfl, hp, ix_at 1 rfl rfl, _, rfl, fi, wd, rfl, h3, h4, q⟩
theorem sc_num : FnScope ["files", "place"] ["files", "place"] (defScope (top 23)) := ⟨rfl, rfl, rfl, by decide +kernel, rfl, by decide +kernel, by decide +kernel⟩
theorem ca_num (T : Txt w K mg SC LC) (D : Df K mg "number_of" (top 23)) : Ca P w K mg base 1 "number_of" (spNum K) := by
  refine ca_of (k := 0) D sc_num (fun _ _ _ _ _ _ us hl => match us, hl with | [_, _], _ => rfl) (fun vs H Q E h => by obtain ⟨w, v, p, rfl, _⟩ := h; rfl) (fun f cdv A outer s H vs Q E hr h => ?_)
  obtain ⟨wd, v, ⟨r, fi⟩, rfl, ⟨p, rfl, hp⟩, hw, q⟩ := h
  have hp : SqT K H p [.int r, .int fi] := hp
  refine ⟨_, (pss_one (ps_ret (pe_op op_add (pe_op op_mul (pe_ix ix_tup (pv 1) pe_int (fun _ _ => rfl)) (pv 0)) (pe_ix ix_tup (pv 1) pe_int (fun _ _ => rfl))))), ?_⟩
  exact ⟨_, rfl, p, _, _, _, rfl, rfl, hp, ix_at 0 rfl rfl, _, rfl, _, _, rfl, rfl, .inr ⟨by omega, by omega⟩, _, rfl, p, _, _, _, rfl, rfl, hp, ix_at 1 rfl rfl, _, _, rfl, rfl, q⟩
theorem sc_pl : FnScope ["files", "number"] ["files", "number"] (defScope (top 24)) := ⟨rfl, rfl, rfl, by decide +kernel, rfl, by decide +kernel, by decide +kernel⟩
theorem ca_pl (T : Txt w K mg SC LC) (D : Df K mg "place_of" (top 24)) : Ca P w K mg base 1 "place_of" (spPl K) := by
  refine ca_of (k := 0) D sc_pl (fun _ _ _ _ _ _ us hl => match us, hl with | [_, _], _ => rfl) (fun vs H Q E h => by obtain ⟨w, n, rfl, _⟩ := h; rfl) (fun f cdv A outer s H vs Q E hr h => ?_)
  obtain ⟨wd, n, rfl, hw, q⟩ := h
  refine ⟨_, (pss_one (ps_ret (pe_tup (pa_cons (pe_op op_fdiv (pv 1) (pv 0)) (pa_cons (pe_op op_mod (pv 1) (pv 0)) pa_nil))))), ?_⟩
  exact ⟨_, rfl, _, rfl, _, _, rfl, rfl, ⟨by show 0 < wd; omega, by show wd < 1073741824; omega⟩, _, rfl, _, rfl, _, _, rfl, rfl, (by show 0 < wd; omega), two_ok, ret_place q (Ex.refl H) rfl rfl⟩
theorem sc_passed : FnScope ["script", "rows", "place", "found", "call"] ["script", "rows", "place"] (defScope (top 25)) := ⟨rfl, rfl, rfl, by decide +kernel, rfl, by decide +kernel, by decide +kernel⟩
theorem ca_passed (T : Txt w K mg SC LC) (D : Df K mg "passed" (top 25)) (pr : Pr P w K mg base SC) (m_iter : Me P w K mg base 1 SC "__iter__" (spIter K SC)) (c_is_place : Ca P w K mg base 3 "is_place" (spIsPlace K)) (c_moved_by : Ca P w K mg base 2 "moved_by" (spMoved K)) :
    Ca P w K mg base 4 "passed" (spPassed K SC) := by
  obtain ⟨pp, gg, fdG, psG, pF, FG, bG⟩ := pr.ex
  obtain ⟨fIt, fdIt, psIt, FIt, bIt, _, atIt, fnIt⟩ := m_iter.ex
  refine ca_of (k := 3) D sc_passed (fun _ _ _ _ _ _ us hl => match us, hl with | [_, _, _], _ => rfl) (fun vs H Q E h => by obtain ⟨sv, pv, d, wd, cs, p, rfl, _⟩ := h; rfl) (fun f cdv A outer s H vs Q E hr h => ?_)
  obtain ⟨sv, pv', d, wd, cs, p, rfl, ⟨a, dx, t, rs, rfl, ha, ht, hcs⟩, hp, hw, hd, hd2, hin, ok, hl, q⟩ := h
  have e1 := calls_len hcs
  refine ⟨_, (pss_cons (ps_if (pt_not (pt_val (C8.pe_c c_is_place hr (by decide) (by rfl) (pa_cons (pe_prop (pv 0) T.clS pF FG (hr.mono (by decide)) bG .nil pass0 rfl) (pa_cons (pv 1) (pa_cons (pv 2) pa_nil)))))) pss_never pss_nil)
      (pss_cons (ps_set (i := 3) sc_passed.nd rfl (Or.inl rfl) (pe_lstN (pa_cons (pv 2) pa_nil)))
      (pss_cons (ps_for PassesOwn.never rfl (pi_own atIt fnIt FIt (hr.mono (by decide)) bIt (pv 0)) (pg_name (i := 4) sc_passed.nd rfl (Or.inl rfl)) (pss_one (ps_expr (pe_bm PySem.F.plainAttrs_list PySem.F.slot_list_append PySem.F.type_list_append mt_append (pv 3) (pa_cons (C8.pe_c c_moved_by hr (by decide) (by rfl) (pa_cons (pv 4) (pa_cons (pe_prop (pv 0) T.clS pF FG (hr.mono (by decide)) bG .nil pass0 rfl) (pa_cons (pv 1) (pa_cons (pe_ix ix_list (pv 3) (pe_un un_neg pe_int) (fun _ _ => rfl)) pa_nil))))) pa_nil)))))
      (pss_one (ps_ret (pv 3)))))), ?_⟩
  -- if not is_place(script.files, rows, place)
  refine ⟨_, rfl, a, dx, _, rfl, ha, a, dx, _, _, rfl, ha, sf_w _ _, _, rfl, _, rfl, wd, d, pv', p, rfl, hp, hin, true, rfl, iteF ?_⟩
  -- found = [place]
  refine ⟨_, rfl, (by show 1 ≤ sizeLine; decide), fun l hl0 hn => ?_⟩
  have x1 : Ex H (upd H l (.lst [pv'])) := Ex.new hl0
  -- for call in script
  refine ⟨_, rfl, a, dx, _, rfl, x1 _ _ ha, a, dx, t, wd, rs, rfl, x1 _ _ ha, ex_t x1 ht, fun it hit big => ⟨it, t, rfl, ?_, upd_same, ?_⟩⟩
  · exact Nat.le_of_lt (Nat.lt_of_le_of_lt hn (big l _ upd_same))
  rw [show ItX.dropH (upd (upd H l (.lst [pv'])) it (ItT t it 0)) it = upd H l (.lst [pv']) from ItX.dropH_upd hit]
  refine for_tup (K := K) (a := t) (xs := rs) (fun i σ' H' => ∃ (y : Option V) (ys : List V) (x : V), σ' = [some (.ref a), some (.int d), some pv', some (.ref l), y] ∧ Ex H H' ∧ H' l = some (.lst (ys ++ [x])) ∧ ys.length = i ∧ PlaceV K H' x (mvs wd d (cs.take i) p))
    ⟨none, [], pv', rfl, x1, upd_same, rfl, hp.mono x1⟩ (fun i σ' H' _ ⟨_, _, _, _, x, _⟩ => ex_t x ht) (fun i x σ' H' hi pr' => ?_) (fun σ' H' pr' => ?_)
  · obtain ⟨y, ys, z, rfl, x2, hl2, hys, hz⟩ := pr'
    obtain ⟨c, hc, hv⟩ := Paired.get (hcs.mono x2) hi
    have hlt := (List.getElem?_eq_some_iff.mp hi).1
    have okt : Oks wd (cs.take i) := fun c' hc' => ok c' (List.mem_of_mem_take hc')
    refine ⟨_, rfl, .inl ⟨rfl, _, SqL.of hl2⟩, ?_⟩
    refine ⟨_, rfl, _, rfl, a, dx, _, rfl, x2 _ _ ha, a, dx, _, _, rfl, x2 _ _ ha, sf_w _ _, _, rfl, _, rfl, 1, rfl, l, _, _, _, rfl, rfl, SqL.of hl2, ix_last, ?_⟩
    refine ⟨x, z, wd, d, c, mvs wd d (cs.take i) p, rfl, hv, hz, hw, hd, hd2, mvs_in hw hd okt hin, fun v' H3 x3 hv' => ?_⟩
    refine ⟨l, _, v', rfl, rfl, x3 _ _ hl2, ?_, some x, ys ++ [z], v', rfl, Ex.mut (x2.trans x3) hl0, upd_same, ?_, ?_⟩
    · rw [List.length_append, List.length_singleton]
      exact sz_lt (by omega)
    · rw [List.length_append, List.length_singleton, hys]
    · have e3 : mvs wd d (cs.take (i + 1)) p = c.mv wd d (mvs wd d (cs.take i) p) := by
        rw [List.take_add_one, hc, mvs_append] <;> rfl
      rw [e3]
      exact hv'.b ExB.upd (x3 _ _ hl2) noTup_lst
  · obtain ⟨y, ys, z, rfl, x2, hl2, hys, hz⟩ := pr'
    rw [e1, List.take_length] at hz
    exact ⟨_, rfl, q _ _ x2 ⟨l, ys, z, rfl, hl2, hz⟩⟩
theorem sc_mvd : FnScope ["script", "rows", "place"] ["script", "rows", "place"] (defScope (top 26)) := ⟨rfl, rfl, rfl, by decide +kernel, rfl, by decide +kernel, by decide +kernel⟩
theorem ca_mvd (T : Txt w K mg SC LC) (D : Df K mg "moved" (top 26)) (c_passed : Ca P w K mg base 4 "passed" (spPassed K SC)) : Ca P w K mg base 5 "moved" (spMvd K SC) := by
  refine ca_of (k := 4) D sc_mvd (fun _ _ _ _ _ _ us hl => match us, hl with | [_, _, _], _ => rfl) (fun vs H Q E h => by obtain ⟨sv, pv, d, wd, cs, p, rfl, _⟩ := h; rfl) (fun f cdv A outer s H vs Q E hr h => ?_)
  obtain ⟨sv, pv', d, wd, cs, p, rfl, hs, hp, hw, hd, hd2, hin, ok, hl, q⟩ := h
  refine ⟨_, (pss_one (ps_ret (pe_ix ix_list (C8.pe_c c_passed hr (by decide) (by rfl) (pa_cons (pv 0) (pa_cons (pv 1) (pa_cons (pv 2) pa_nil)))) (pe_un un_neg pe_int) (fun _ _ => rfl)))), ?_⟩
  refine ⟨_, rfl, _, rfl, _, rfl, sv, pv', d, wd, cs, p, rfl, hs, hp, hw, hd, hd2, hin, ok, hl, ?_⟩
  rintro _ H1 x1 ⟨l, ys, x, rfl, hl1, hx⟩
  exact ⟨1, rfl, l, _, _, _, rfl, rfl, SqL.of hl1, ix_last, q _ _ x1 hx⟩
end
end Pp
end

section
set_option Elab.async false
set_option linter.all false
set_option maxRecDepth 100000
set_option maxHeartbeats 4000000
namespace Pp
open PySem PySem.Spec PyProof.Rows L2 Evl

/-! ### lines.py: moves_of, Line made, compared, copied -/
theorem sqL_b {K : PySem.W.Frag} {a p C dx : Addr} {fs : List (Str × V)} {H H' : Hp} {xs : List V} (e : ExB a H H') (ha : H a = some (.ins C dx fs)) (h : SqL K H p xs) : SqL K H' p xs := by
  rcases h with (h | ⟨u, h⟩) | h
  · exact .inl (.inl (e p _ (ne_of h ha fun z => nomatch z) h))
  · exact .inl (.inr ⟨u, e p _ (ne_of h ha fun z => nomatch z) h⟩)
  · exact .inr h
theorem dp_all {K : PySem.W.Frag} {H : Hp} : ∀ ns : List Int, DpAll K H (ns.map V.int) (ns.map PyData.int)
  | [] => .nil
  | n :: r => .cons (.int n) (dp_all r)
theorem dp_ints {K : PySem.W.Frag} {H : Hp} {p : Addr} {ns : List Int} (h : SqL K H p (ns.map V.int)) : Dp K H (.ref p) (.list (ns.map PyData.int)) := .lst h (dp_all ns)
theorem eqv_ints (ns : List Int) : PyData.eqv (.list (ns.map PyData.int)) (.list (ns.map PyData.int)) = true := SeqAt.eqv_refl _ (SeqAt.canLay_of_shaped (PySem.W.ke_shaped_ints ns))
def mvl (w d : Int) (cs : List Cl) : List Int := (List.range (many w d)).map fun n => (goal w d cs n : Int)
def mvlN (w d : Int) (cs : List Cl) (i : Nat) : List Int := (List.range i).map fun n => (goal w d cs n : Int)
theorem mvlN_succ (w d : Int) (cs : List Cl) (i : Nat) : mvlN w d cs (i + 1) = mvlN w d cs i ++ [(goal w d cs i : Int)] := by
  unfold mvlN
  rw [List.range_succ, List.map_append] <;> rfl
theorem many_le {w d : Int} (hw : w = 2 ∨ w = 3) (hd : 0 < d) (hd2 : d ≤ 1000) : many w d ≤ 3000 ∧ d * w = (many w d : Int) := by
  unfold many
  rcases hw with rfl | rfl <;> omega
theorem rg_home {w d : Int} (hw : w = 2 ∨ w = 3) (hd : 0 < d) : rgV 0 (w * d) = (home (many w d)).map V.int := by
  unfold rgV home many
  rw [List.map_map, show w * d - 0 = d * w by rw [Int.mul_comm]; omega]
  refine List.map_congr_left fun n _ => ?_
  show V.int (0 + (n : Int)) = V.int (n : Int)
  rw [Int.zero_add]

def spMovesOf (K : PySem.W.Frag) (SC : Addr) : Sp := fun vs H Q _ => ∃ (sv : V) (d wd : Int) (cs : List Cl), vs = [sv, .int d] ∧ ScriptV K SC H sv wd cs ∧ (wd = 2 ∨ wd = 3) ∧ 0 < d ∧ d ≤ 1000 ∧ Oks wd cs ∧ cs.length ≤ 1000 ∧
  RetP (fun v H' => ∃ l, v = .ref l ∧ H' l = some (.lst ((mvl wd d cs).map V.int))) H Q
def spLInit (K : PySem.W.Frag) (LC : Addr) : Sp := fun vs H Q _ => ∃ (x dx : Addr) (w d : Int), vs = [.ref x, .int w, .int d] ∧ H x = some (.ins LC dx []) ∧ (w = 2 ∨ w = 3) ∧ 1 ≤ d ∧ d ≤ 400 ∧
  ∀ H', ExB x H H' → LineV K LC H' (.ref x) w d (home (many w d)) → Q .non H'
/-- == of two lines that stand alike -/
def spLEq (K : PySem.W.Frag) (LC : Addr) : Sp := fun vs H Q _ => ∃ (u v : V) (w d : Int) (ns : List Int), vs = [u, v] ∧ LineV K LC H u w d ns ∧ LineV K LC H v w d ns ∧ Q (.bl true) H
def spOrder (K : PySem.W.Frag) (LC : Addr) : Sp := fun vs H Q _ => ∃ (u : V) (w d : Int) (ns : List Int), vs = [u] ∧ LineV K LC H u w d ns ∧ RetP (fun v H' => ∃ l, v = .ref l ∧ H' l = some (.lst (ns.map V.int))) H Q
/-- a new line -/
def spCopied (K : PySem.W.Frag) (LC : Addr) : Sp := fun vs H Q _ => ∃ (u : V) (w d : Int) (ns : List Int), vs = [u] ∧ LineV K LC H u w d ns ∧ (w = 2 ∨ w = 3) ∧ 1 ≤ d ∧ d ≤ 400 ∧ RetP (fun v H' => ∃ a, v = .ref a ∧ H a = none ∧ LineV K LC H' v w d ns) H Q
abbrev MkL (P : Program) (w : World) (K : PySem.W.Frag) (mg : Str → Option Value) (base : Heap) (LC : Addr) : Prop := C8.Mak P w K mg base 3 "Line" LC (spLInit K LC) []
section
variable {P : Program} {w : World} {K : PySem.W.Frag} {mg : Str → Option Value} {base : Heap} {SC LC : Addr}
theorem sc_movesOf : FnScope ["script", "rows", "found", "number"] ["script", "rows"] (defScope (top 31)) := ⟨rfl, rfl, rfl, by decide +kernel, rfl, by decide +kernel, by decide +kernel⟩
theorem ca_movesOf (T : Txt w K mg SC LC) (D : Df K mg "moves_of" (top 31)) (pr : Pr P w K mg base SC) (c_number_of : Ca P w K mg base 1 "number_of" (spNum K)) (c_place_of : Ca P w K mg base 1 "place_of" (spPl K)) (c_moved : Ca P w K mg base 5 "moved" (spMvd K SC)) :
    Ca P w K mg base 6 "moves_of" (spMovesOf K SC) := by
  obtain ⟨pp, gg, fdG, psG, pF, FG, bG⟩ := pr.ex
  refine ca_of (k := 5) D sc_movesOf (fun _ _ _ _ _ _ us hl => match us, hl with | [_, _], _ => rfl) (fun vs H Q E h => by obtain ⟨sv, d, wd, cs, rfl, _⟩ := h; rfl) (fun f cdv A outer s H vs Q E hr h => ?_)
  obtain ⟨sv, d, wd, cs, rfl, hs, hw, hd, hd2, ok, hl, q⟩ := h
  obtain ⟨a, dx, t, rs, rfl, ha, ht, hcs⟩ := id hs
  obtain ⟨m1, m2⟩ := many_le hw hd hd2
  refine ⟨_, (pss_cons (ps_set (i := 2) sc_movesOf.nd rfl (Or.inl rfl) (pe_lst pa_nil))
      (pss_cons (ps_for PassesOwn.never rfl (pi_range1 (by rfl) T.range (pa_cons (pe_op op_mul (pv 1) (pe_prop (pv 0) T.clS pF FG (hr.mono (by decide)) bG .nil pass0 rfl)) pa_nil)) (pg_name (i := 3) sc_movesOf.nd rfl (Or.inl rfl)) (pss_one (ps_expr (pe_bm PySem.F.plainAttrs_list PySem.F.slot_list_append PySem.F.type_list_append mt_append (pv 2) (pa_cons (C8.pe_c c_number_of hr (by decide) (by rfl) (pa_cons (pe_prop (pv 0) T.clS pF FG (hr.mono (by decide)) bG .nil pass0 rfl) (pa_cons (C8.pe_c c_moved hr (by decide) (by rfl) (pa_cons (pv 0) (pa_cons (pv 1) (pa_cons (C8.pe_c c_place_of hr (by decide) (by rfl) (pa_cons (pe_prop (pv 0) T.clS pF FG (hr.mono (by decide)) bG .nil pass0 rfl) (pa_cons (pv 3) pa_nil))) pa_nil)))) pa_nil))) pa_nil)))))
      (pss_one (ps_ret (pv 2))))), ?_⟩
  refine ⟨Nat.zero_le _, fun l hl0 => ?_⟩
  have x1 : Ex H (upd H l (.lst [])) := Ex.new hl0
  refine ⟨_, rfl, _, rfl, a, dx, _, rfl, x1 _ _ ha, a, dx, _, _, rfl, x1 _ _ ha, sf_w _ _, _, _, rfl, rfl, .inr ⟨by omega, by omega⟩, _, rfl, by omega, by omega, ?_⟩
  refine for_range (lo := 0) (n := (d * wd).toNat) (fun i σ' H' => ∃ y : Option V, σ' = [some (.ref a), some (.int d), some (.ref l), y] ∧ Ex H H' ∧ H' l = some (.lst ((mvlN wd d cs i).map V.int))) ⟨none, rfl, x1, upd_same⟩ (fun i σ' H' hi pr' => ?_) (fun σ' H' pr' => ?_)
  · obtain ⟨y, rfl, x2, hl2⟩ := pr'
    have hi' : i < many wd d := hi
    have s2 := hs.mono x2
    refine ⟨_, rfl, .inl ⟨rfl, _, SqL.of hl2⟩, ?_⟩
    refine ⟨_, rfl, a, dx, _, rfl, x2 _ _ ha, a, dx, _, _, rfl, x2 _ _ ha, sf_w _ _, ?_⟩
    refine ⟨_, rfl, _, rfl, _, rfl, a, dx, _, rfl, x2 _ _ ha, a, dx, _, _, rfl, x2 _ _ ha, sf_w _ _, _, rfl, wd, 0 + (i : Int), rfl, hw, fun v2 H2 x3 hp2 => ?_⟩
    have hin : In wd d (pl wd (0 + (i : Int))) := pl_in hw (by omega) (by omega)
    refine ⟨_, v2, d, wd, cs, _, rfl, s2.mono x3, hp2, hw, hd, hd2, hin, ok, hl, fun v3 H3 x4 hp3 => ?_⟩
    refine ⟨wd, v3, _, rfl, hp3, hw, ?_⟩
    have e0 : num wd (mvs wd d cs (pl wd (0 + (i : Int)))) = (goal wd d cs i : Int) := by
      rw [Int.zero_add]
      exact goal_int hw hd ok hi'
    refine ⟨l, _, _, rfl, rfl, x4 _ _ (x3 _ _ hl2), ?_, _, rfl, Ex.mut ((x2.trans x3).trans x4) hl0, ?_⟩
    · rw [List.length_map]
      unfold mvlN
      rw [List.length_map, List.length_range]
      exact sz_lt (by omega)
    · rw [upd_same, e0, mvlN_succ, List.map_append] <;> rfl
  · obtain ⟨y, rfl, x2, hl2⟩ := pr'
    exact ⟨_, rfl, q _ _ x2 ⟨l, rfl, hl2⟩⟩

/-! ### Line.__init__ -/
theorem sc_linit : FnScope ["self", "files", "rows"] ["self", "files", "rows"] (defScope (inClass sLine 0)) := ⟨rfl, rfl, rfl, by decide +kernel, rfl, by decide +kernel, by decide +kernel⟩
theorem me_linit (T : Txt w K mg SC LC) (D : Md K LC "__init__" "Line.__init__" (inClass sLine 0)) (c_is_files : Ca P w K mg base 2 "is_files" spFiles) (c_is_rows : Ca P w K mg base 2 "is_rows" spRows) : Me P w K mg base 3 LC "__init__" (spLInit K LC) := by
  obtain ⟨tM, mM⟩ := T.most
  refine me_of (k := 2) D sc_linit (fun _ _ _ _ _ _ us hl => match us, hl with | [_, _, _], _ => rfl) (fun vs H Q E h => by obtain ⟨x, dx, w, d, rfl, _⟩ := h; rfl) (fun f cdv A outer s H vs Q E hr h => ?_)
  obtain ⟨x, dx, wd, d, rfl, hx, hw, hd, hd2, q⟩ := h
  obtain ⟨m1, m2⟩ := many_le hw (by omega : 0 < d) (by omega)
  have em : wd * d = (many wd d : Int) := by rw [Int.mul_comm]; exact m2
  refine ⟨_, (pss_cons (ps_if (pt_not (pt_val (C8.pe_c c_is_files hr (by decide) (by rfl) (pa_cons (pv 1) pa_nil)))) pss_never pss_nil)
      (pss_cons (ps_if (PW.pt (pw_or (pt_not (pt_val (C8.pe_c c_is_rows hr (by decide) (by rfl) (pa_cons (pv 2) pa_nil)))) (pw_or1 (pt_cmpR op_gt (pv 2) (pe_glob (by rfl) mM (v := .int 400) ⟨tM, rfl⟩) (nomark _))))) pss_never pss_nil)
      (pss_cons (ps_fld (pv 0) (pv 1) rfl)
      (pss_cons (ps_fld (pv 0) (pv 2) rfl)
      (pss_one (ps_fld (pv 0) (pe_listRg rfl (by rfl) T.list (prg_1 (by rfl) T.range (pe_op op_mul (pv 1) (pv 2)))) rfl)))))), ?_⟩
  refine ⟨_, rfl, wd, rfl, hw, fun H1 x1 => ⟨true, rfl, iteF ?_⟩⟩
  refine ⟨_, rfl, d, rfl, hd, true, rfl, iteF ?_⟩
  refine ⟨_, rfl, _, _, rfl, rfl, false, ?_, iteF ?_⟩
  · show V.bl (decide ((400 : Int) < d)) = V.bl false
    rw [decide_eq_false (by omega)]
  have hx1 := x1 _ _ hx
  refine ⟨_, rfl, _, rfl, x, LC, dx, [], rfl, hx1, T.clL, T.lW, (by show 0 < 1000; decide), ?_⟩
  refine ⟨_, rfl, _, rfl, x, LC, dx, _, rfl, upd_same, T.clL, T.lD, (by show 1 < 1000; decide), ?_⟩
  refine ⟨_, rfl, _, rfl, _, _, rfl, rfl, .inl ⟨by omega, by omega⟩, _, rfl, RgOk.of_le (by decide) (by rw [em]; omega) (by decide) (by rw [em]; omega), fun l hl => ?_⟩
  have nl : x ≠ l := fun z => by rw [← z, upd_same] at hl; cases hl
  refine ⟨_, rfl, x, LC, dx, _, rfl, Eq.trans (upd_ne nl) upd_same, T.clL, T.lS, ?_, ?_⟩
  · have h1 := length_putF "deep" (V.int d) (putF "width" (V.int wd) [])
    have h2 := length_putF "width" (V.int wd) []
    simp only [List.length_nil] at h2
    omega
  · refine q _ ?_ ⟨x, dx, l, rfl, upd_same, SqL.of ?_⟩
    · exact ((((ExB.of x1).trans ExB.upd).trans ExB.upd).trans (ExB.of (Ex.new hl))).trans ExB.upd
    · rw [upd_ne nl.symm, upd_same, rg_home hw (by omega)]
theorem mkL_of (T : Txt w K mg SC LC) (h : Me P w K mg base 3 LC "__init__" (spLInit K LC)) : MkL P w K mg base LC := by
  obtain ⟨f, fd, ps, F, b, kp, at_, fn⟩ := h.ex
  exact ⟨f, fd, ps, [], ⟨T.mkL, at_, fn, T.kpL⟩, F, T.mgL, b, .nil⟩
/-- what making a line asks -/
theorem mk_line {H1 : Hp} {wd d : Int} {R : Addr → Hp → Prop} (q : ∀ x H', H1 x = none → Ex H1 H' → LineV K LC H' (.ref x) wd d (home (many wd d)) → R x H') (hw : wd = 2 ∨ wd = 3) (hd : 1 ≤ d) (hd2 : d ≤ 400) :
    ∀ x dx, H1 x = none → H1 dx = none → dx ≠ x → spLInit K LC (.ref x :: ([.int wd, .int d] ++ [])) (upd (upd H1 dx (.own x)) x (.ins LC dx [])) (fun v H2 => v = .non ∧ R x H2) E0 := by
  intro x dx nx nd ne
  have nx2 : (upd H1 dx (.own x)) x = none := by rw [upd_ne ne.symm]; exact nx
  have e : Ex H1 (upd (upd H1 dx (.own x)) x (.ins LC dx [])) := (Ex.new nd).trans (Ex.new nx2)
  exact ⟨x, dx, wd, d, rfl, upd_same, hw, hd, hd2, fun H' b s => ⟨rfl, q _ _ nx (b.ex e nx) s⟩⟩

/-! ### Line.__eq__ -/
theorem sc_leq : FnScope ["self", "other"] ["self", "other"] (defScope (inClass sLine 1)) := ⟨rfl, rfl, rfl, by decide +kernel, rfl, by decide +kernel, by decide +kernel⟩
theorem me_leq (T : Txt w K mg SC LC) (D : Md K LC "__eq__" "Line.__eq__" (inClass sLine 1)) : Me P w K mg base 1 LC "__eq__" (spLEq K LC) := by
  refine me_of (k := 0) D sc_leq (fun _ _ _ _ _ _ us hl => match us, hl with | [_, _], _ => rfl) (fun vs H Q E h => by obtain ⟨u, v, w, d, ns, rfl, _⟩ := h; rfl) (fun f cdv A outer s H vs Q E hr h => ?_)
  obtain ⟨u, v, wd, d, ns, rfl, ⟨a, dx, l, rfl, ha, hl⟩, ⟨b, dy, m, rfl, hb, hm⟩, q⟩ := h
  refine ⟨_, (pss_cons (ps_if (PW.pt (pw_or (pt_not (pt_val (pe_callB (C8.call_isC T.insL) (by rfl) T.isi boot_isi (pa_cons (pv 1) (pa_cons (pe_glob (by rfl) T.mgL (v := .ref LC) rfl) pa_nil))))) (pw_or1 (pt_cmpR op_ne (pe_fld (pv 0) rfl) (pe_fld (pv 1) rfl) (nomark _))))) pss_never pss_nil)
      (pss_one (ps_ret (pe_cmpR (op_eqD hr.units) (pe_fld (pv 0) rfl) (pe_fld (pv 1) rfl) (nomark _))))), ?_⟩
  refine ⟨_, rfl, b, dy, _, rfl, hb, true, rfl, iteF ?_⟩
  refine ⟨_, rfl, a, LC, dx, _, _, rfl, ha, T.clL, T.lW, lf_w _ _ _, _, rfl, b, LC, dy, _, _, rfl, hb, T.clL, T.lW, lf_w _ _ _, rfl, false, ?_, iteF ?_⟩
  · show V.bl (!decide (V.int wd = V.int wd)) = V.bl false
    rw [decide_eq_true rfl] <;> rfl
  refine ⟨_, rfl, a, LC, dx, _, _, rfl, ha, T.clL, T.lS, lf_s _ _ _, _, rfl, b, LC, dy, _, _, rfl, hb, T.clL, T.lS, lf_s _ _ _, ?_⟩
  refine ⟨_, _, dp_ints hl, dp_ints hm, PySem.W.ke_shaped_ints ns, PySem.W.ke_shaped_ints ns, ?_⟩
  rw [eqv_ints]
  exact q

/-! ### Line.order, Line.copied -/
theorem sc_order : FnScope ["self"] ["self"] (defScope (inClass sLine 6)) := ⟨rfl, rfl, rfl, by decide +kernel, rfl, by decide +kernel, by decide +kernel⟩
theorem me_order (T : Txt w K mg SC LC) (D : Md K LC "order" "Line.order" (inClass sLine 6)) : Me P w K mg base 1 LC "order" (spOrder K LC) := by
  refine me_of (k := 0) D sc_order (fun _ _ _ _ _ _ us hl => match us, hl with | [_], _ => rfl) (fun vs H Q E h => by obtain ⟨u, w, d, ns, rfl, _⟩ := h; rfl) (fun f cdv A outer s H vs Q E hr h => ?_)
  obtain ⟨u, wd, d, ns, rfl, ⟨a, dx, l, rfl, ha, hl⟩, q⟩ := h
  refine ⟨_, (pss_one (ps_ret (pe_callTy call_list_of (by rfl) T.list boot_list' (pa_cons (pe_fld (pv 0) rfl) pa_nil)))), ?_⟩
  exact ⟨_, rfl, a, LC, dx, _, _, rfl, ha, T.clL, T.lS, lf_s _ _ _, l, _, rfl, .inl hl, fun m hm => q _ _ (Ex.new hm) ⟨m, rfl, upd_same⟩⟩
theorem sc_copied : FnScope ["self", "twin"] ["self"] (defScope (inClass sLine 15)) := ⟨rfl, rfl, rfl, by decide +kernel, rfl, by decide +kernel, by decide +kernel⟩
theorem me_copied (T : Txt w K mg SC LC) (D : Md K LC "copied" "Line.copied" (inClass sLine 15)) (c_Line : MkL P w K mg base LC) : Me P w K mg base 5 LC "copied" (spCopied K LC) := by
  refine me_of (k := 4) D sc_copied (fun _ _ _ _ _ _ us hl => match us, hl with | [_], _ => rfl) (fun vs H Q E h => by obtain ⟨u, w, d, ns, rfl, _⟩ := h; rfl) (fun f cdv A outer s H vs Q E hr h => ?_)
  obtain ⟨u, wd, d, ns, rfl, ⟨a, dx, l, rfl, ha, hl⟩, hw, hd, hd2, q⟩ := h
  refine ⟨_, (pss_cons (ps_set (i := 1) sc_copied.nd rfl (Or.inl rfl) (C8.pe_mk c_Line hr (by decide) (by rfl) (pa_cons (pe_fld (pv 0) rfl) (pa_cons (pe_fld (pv 0) rfl) pa_nil))))
      (pss_cons (ps_fld (pv 1) (pe_callTy call_list_of (by rfl) T.list boot_list' (pa_cons (pe_fld (pv 0) rfl) pa_nil)) rfl)
      (pss_one (ps_ret (pv 1))))), ?_⟩
  refine ⟨_, rfl, a, LC, dx, _, _, rfl, ha, T.clL, T.lW, lf_w _ _ _, _, rfl, a, LC, dx, _, _, rfl, ha, T.clL, T.lD, lf_d _ _ _, ?_⟩
  refine mk_line (fun y H1 ny x1 s1 => ?_) hw hd hd2
  obtain ⟨b, dy, l0, eb, hb, _⟩ := s1
  cases eb
  refine ⟨_, rfl, a, LC, dx, _, _, rfl, x1 _ _ ha, T.clL, T.lS, lf_s _ _ _, l, _, rfl, .inl (ex_l x1 hl), fun m hm => ?_⟩
  have nm : y ≠ m := ne_of_none hb hm
  refine ⟨_, rfl, y, LC, dy, _, rfl, Eq.trans (upd_ne nm) hb, T.clL, T.lS, by rw [lf_len]; decide, ?_⟩
  refine ⟨_, rfl, q _ _ ?_ ⟨y, rfl, ny, y, dy, m, rfl, ?_, SqL.of ?_⟩⟩
  · exact Ex.mut (x1.trans (Ex.new hm)) ny
  · rw [upd_same, lf_put]
  · rw [upd_ne nm.symm, upd_same]
end
end Pp
end

section
set_option Elab.async false
set_option linter.all false
set_option maxRecDepth 100000
set_option maxHeartbeats 4000000
namespace Pp
open PySem PySem.Spec PyProof.Rows L2 Evl

/-! ### lines.py: follow, do, go -/
theorem none_of {H H' : Hp} {p : Addr} (e : Ex H H') (h : H' p = none) : H p = none := by
  cases hq : H p with
  | none => rfl
  | some o => rw [e _ _ hq] at h; cases h
theorem for_enum {K : PySem.W.Frag} {a : Addr} {xs : List V} {g : TG} {tb : TS} {D : Ends} {σ : L2.St} {H : Hp} (Pv : Nat → L2.St → Hp → Prop) (h0 : Pv 0 σ H) (hl : ∀ i σ H, i ≤ xs.length → Pv i σ H → SqL K H a xs)
    (hs : ∀ i x T σ H, xs[i]? = some x → Pv i σ H → H T = none → g (.ref T) σ (upd H T (.tup [.int (i : Nat), x])) fun σ2 H2 => tb { D with nx := Pv (i + 1), ct := Pv (i + 1), bk := D.nx } σ2 H2) (hd : ∀ σ H, Pv xs.length σ H → D.nx σ H) :
    ∃ W : Nat → Nat → L2.St → Hp → Prop, (∃ m, W 0 m σ H) ∧ ∀ i m σ H, W i m σ H →
      ((Ite K a).stop i H ∧ D.nx σ H) ∨ ((Ite K a).go i H ∧ ∃ N : L2.St → Hp → Prop, (∀ σ' H', N σ' H' → ∃ m', m' < m ∧ W (i + 1) m' σ' H') ∧ ∀ x H', (Ite K a).yld i H x H' → g x σ H' fun σ2 H2 => tb { D with nx := N, ct := N, bk := D.nx } σ2 H2) := by
  refine ⟨fun i m σ H => m = xs.length - i ∧ i ≤ xs.length ∧ Pv i σ H, ⟨xs.length, by simp, Nat.zero_le _, h0⟩, ?_⟩
  rintro i m σ H ⟨rfl, hi, p⟩
  have q := hl i σ H hi p
  by_cases hlt : i < xs.length
  · refine .inr ⟨⟨xs, xs[i], q, by simp [hlt]⟩, Pv (i + 1), fun σ' H' p' => ⟨xs.length - (i + 1), by omega, rfl, hlt, p'⟩, fun x H' y => ?_⟩
    obtain ⟨t, x', rfl, ht, rfl, y⟩ := y
    exact hs i x' t σ _ (y xs q) p ht
  · have e : i = xs.length := by omega
    subst e
    exact .inl ⟨⟨xs, q, Nat.le_refl _⟩, hd σ H p⟩

/-- where the first i have gone to their goals -/
def half (w d : Int) (cs : List Cl) (ns : List Int) (i : Nat) : List Int := (List.range (many w d)).map fun j => if goal w d (invs cs) j < i then ns.getD (goal w d (invs cs) j) 0 else 0
theorem half_zero (w d : Int) (cs : List Cl) (ns : List Int) : half w d cs ns 0 = List.replicate (many w d) 0 := by
  unfold half
  rw [List.map_congr_left (g := fun _ => (0 : Int)) fun j _ => if_neg (Nat.not_lt_zero _), List.map_const', List.length_range]
theorem half_len (w d : Int) (cs : List Cl) (ns : List Int) (i : Nat) : (half w d cs ns i).length = many w d := by
  unfold half
  rw [List.length_map, List.length_range]
theorem half_all {w d : Int} {cs : List Cl} {ns : List Int} (hw : w = 2 ∨ w = 3) (hd : 0 < d) (hc : Oks w cs) : half w d cs ns (many w d) = stand w d cs ns := by
  unfold half stand pick
  refine List.map_congr_left fun j hj => ?_
  rw [if_pos (goal_lt hw hd hc.invs (List.mem_range.mp hj))]
theorem half_succ {w d : Int} {cs : List Cl} {ns : List Int} {i : Nat} (hw : w = 2 ∨ w = 3) (hd : 0 < d) (hc : Oks w cs) (hi : i < many w d) : (half w d cs ns i).set (goal w d cs i) (ns.getD i 0) = half w d cs ns (i + 1) := by
  refine List.ext_getElem? fun j => ?_
  rw [List.getElem?_set, half_len]
  have g1 := goal_lt hw hd hc hi
  by_cases e : goal w d cs i = j
  · subst e
    rw [if_pos rfl, if_pos g1]
    unfold half
    rw [List.getElem?_map, List.getElem?_range g1]
    show some (ns.getD i 0) = some (if goal w d (invs cs) (goal w d cs i) < i + 1 then ns.getD (goal w d (invs cs) (goal w d cs i)) 0 else 0)
    rw [goal_inv hw hd hc hi, if_pos (Nat.lt_succ_self i)]
  · rw [if_neg e]
    unfold half
    by_cases hj : j < many w d
    · rw [List.getElem?_map, List.getElem?_map, List.getElem?_range hj]
      show some (if goal w d (invs cs) j < i then ns.getD (goal w d (invs cs) j) 0 else 0) = some (if goal w d (invs cs) j < i + 1 then ns.getD (goal w d (invs cs) j) 0 else 0)
      have ne : goal w d (invs cs) j ≠ i := fun z => e (by rw [← z]; exact goal_inv' hw hd hc hj)
      have h2 : goal w d (invs cs) j < i ↔ goal w d (invs cs) j < i + 1 := by omega
      by_cases h3 : goal w d (invs cs) j < i
      · rw [if_pos h3, if_pos (h2.mp h3)]
      · rw [if_neg h3, if_neg (fun z => h3 (h2.mpr z))]
    · rw [List.getElem?_eq_none (by rw [List.length_map, List.length_range]; omega), List.getElem?_eq_none (by rw [List.length_map, List.length_range]; omega)]
theorem mvl_len (w d : Int) (cs : List Cl) : ((mvl w d cs).map V.int).length = many w d := by
  unfold mvl
  rw [List.length_map, List.length_map, List.length_range]
theorem mvl_at {w d : Int} {cs : List Cl} {i : Nat} {x : V} (h : ((mvl w d cs).map V.int)[i]? = some x) : i < many w d ∧ x = .int (goal w d cs i : Int) := by
  have hi : i < many w d := by
    rw [← mvl_len w d cs]
    exact (List.getElem?_eq_some_iff.mp h).1
  unfold mvl at h
  rw [List.getElem?_map, List.getElem?_map, List.getElem?_range hi] at h
  cases h
  exact ⟨hi, rfl⟩
theorem ints_at {ns : List Int} {i : Nat} (h : i < ns.length) : (ns.map V.int)[i]? = some (V.int (ns.getD i 0)) := by
  rw [List.getElem?_map, List.getD_eq_getElem?_getD, List.getElem?_eq_getElem h]
  rfl
theorem ints_set (ns : List Int) (j : Nat) (x : Int) : (ns.map V.int).set j (.int x) = (ns.set j x).map V.int := (List.map_set ..).symm

def spFollow (K : PySem.W.Frag) (LC : Addr) : Sp := fun vs H Q _ => ∃ (a m : Addr) (w d : Int) (cs : List Cl) (ns : List Int), vs = [.ref a, .ref m] ∧ LineV K LC H (.ref a) w d ns ∧ H m = some (.lst ((mvl w d cs).map V.int)) ∧ (w = 2 ∨ w = 3) ∧ 1 ≤ d ∧ d ≤ 400 ∧ Oks w cs ∧ ns.length = many w d ∧
  ∀ H', ExB a H H' → LineV K LC H' (.ref a) w d (stand w d cs ns) → Q .non H'
def spDo (K : PySem.W.Frag) (LC : Addr) : Sp := fun vs H Q _ => ∃ (a : Addr) (v : V) (w d : Int) (c : Cl) (ns : List Int), vs = [.ref a, v] ∧ LineV K LC H (.ref a) w d ns ∧ CallV K H v c ∧ (w = 2 ∨ w = 3) ∧ 1 ≤ d ∧ d ≤ 400 ∧ c.Ok w ∧ ns.length = many w d ∧
  ∀ H', ExB a H H' → LineV K LC H' (.ref a) w d (stand w d [c] ns) → Q .non H'
def spGo (K : PySem.W.Frag) (SC LC : Addr) : Sp := fun vs H Q _ => ∃ (a : Addr) (v : V) (w d k : Int) (cs : List Cl) (ns : List Int), vs = [.ref a, v, .int k] ∧ LineV K LC H (.ref a) w d ns ∧ ScriptV K SC H v w cs ∧ (w = 2 ∨ w = 3) ∧ 1 ≤ d ∧ d ≤ 400 ∧ Oks w cs ∧ cs.length ≤ 1000 ∧ (-100 ≤ k ∧ k ≤ 100) ∧ ns.length = many w d ∧
  ∀ H', ExB a H H' → LineV K LC H' (.ref a) w d (rounds w d cs k ns) → Q .non H'
section
variable {P : Program} {w : World} {K : PySem.W.Frag} {mg : Str → Option Value} {base : Heap} {SC LC : Addr}
theorem sc_follow : FnScope ["self", "moves", "later", "number", "goal"] ["self", "moves"] (defScope (inClass sLine 12)) := ⟨rfl, rfl, rfl, by decide +kernel, rfl, by decide +kernel, by decide +kernel⟩
theorem me_follow (T : Txt w K mg SC LC) (D : Md K LC "follow" "Line.follow" (inClass sLine 12)) : Me P w K mg base 1 LC "follow" (spFollow K LC) := by
  refine me_of (k := 0) D sc_follow (fun _ _ _ _ _ _ us hl => match us, hl with | [_, _], _ => rfl) (fun vs H Q E h => by obtain ⟨a, m, w, d, cs, ns, rfl, _⟩ := h; rfl) (fun f cdv A outer s H vs Q E hr h => ?_)
  obtain ⟨a, m, wd, d, cs, ns, rfl, ⟨a', dx, l, ea, ha, hl⟩, hm, hw, hd, hd2, ok, hn, q⟩ := h
  cases ea
  obtain ⟨m1, m2⟩ := many_le hw (by omega : 0 < d) (by omega)
  refine ⟨_, (pss_cons (ps_set (i := 2) sc_follow.nd rfl (Or.inl rfl) (pe_op op_rep (pe_lst (pa_cons pe_int pa_nil)) (pe_callB call_len_seq (by rfl) T.len PySem.boot_len (pa_cons (pv 1) pa_nil))))
      (pss_cons (ps_for PassesOwn.never rfl (pi_enum (by rfl) T.enum (pa_cons (pv 1) pa_nil)) (pg_tup rfl (pgs_cons (pg_name (i := 3) sc_follow.nd rfl (Or.inl rfl)) (pgs_cons (pg_name (i := 4) sc_follow.nd rfl (Or.inl rfl)) pgs_nil))) (pss_one (ps_asg (pe_ix ix_list (pe_fld (pv 0) rfl) (pv 3) (fun _ _ => rfl)) (pg_sub (pv 2) (pv 4) set_list))))
      (pss_one (ps_fld (pv 0) (pv 2) rfl)))), ?_⟩
  refine ⟨by decide, fun l0 h0 => ?_⟩
  have x1 : Ex H (upd H l0 (.lst [.int 0])) := Ex.new h0
  refine ⟨_, rfl, m, _, rfl, .inl (SqL.of (x1 _ _ hm)), ?_⟩
  refine ⟨l0, _, [.int 0], rfl, rfl, upd_same, ?_, ?_, ?_, fun p hp => ?_⟩
  · rw [mvl_len]; omega
  · rw [mvl_len]; omega
  · rw [mvl_len]; exact sz_of (by show 1 * _ ≤ _; omega)
  have x2 := x1.trans (Ex.new hp (o := .lst (List.replicate (((mvl wd d cs).map V.int).length : Int).toNat [V.int 0]).flatten))
  have np := none_of x1 hp
  have e0 : (List.replicate (((mvl wd d cs).map V.int).length : Int).toNat [V.int 0]).flatten = (half wd d cs ns 0).map V.int := by
    rw [mvl_len, half_zero, Int.toNat_natCast, List.map_replicate]
    induction many wd d with
    | zero => rfl
    | succ n ih => rw [List.replicate_succ, List.flatten_cons, ih, List.replicate_succ] <;> rfl
  refine ⟨_, rfl, m, _, rfl, SqL.of (x2 _ _ hm), ?_⟩
  refine for_enum (K := K) (xs := (mvl wd d cs).map V.int) (fun i σ' H' => ∃ y z : Option V, σ' = [some (.ref a), some (.ref m), some (.ref p), y, z] ∧ Ex H H' ∧ H' p = some (.lst ((half wd d cs ns i).map V.int))) ⟨none, none, rfl, x2, ?_⟩ (fun i σ' H' _ pr => ?_) (fun i x t σ' H' hx pr nt => ?_) (fun σ' H' pr => ?_)
  · rw [upd_same, e0]
  · obtain ⟨y, z, rfl, x3, h3⟩ := pr
    exact SqL.of (x3 _ _ hm)
  · obtain ⟨y, z, rfl, x3, h3⟩ := pr
    obtain ⟨hi, rfl⟩ := mvl_at hx
    have x4 := x3.trans (Ex.new nt (o := .tup [.int (i : Nat), .int (goal wd d cs i : Int)]))
    have nt2 : p ≠ t := ne_of_none h3 nt
    refine ⟨t, _, rfl, st_of upd_same, rfl, _, _, rfl, _, _, rfl, rfl, ?_⟩
    have g1 := goal_lt hw (by omega : 0 < d) ok hi
    refine ⟨_, rfl, a, LC, dx, _, _, rfl, x4 _ _ ha, T.clL, T.lS, lf_s _ _ _, _, rfl, l, _, _, _, rfl, rfl, ex_l x4 hl, atI_nat (ints_at (by omega)), ?_⟩
    refine ⟨_, rfl, _, rfl, p, _, _, goal wd d cs i, rfl, rfl, Eq.trans (upd_ne nt2) h3, ixN_nat (by rw [List.length_map, half_len]; exact g1), ?_⟩
    refine ⟨_, _, rfl, Ex.mut x4 np, ?_⟩
    rw [upd_same, ints_set, half_succ hw (by omega) ok hi]
  · obtain ⟨y, z, rfl, x3, h3⟩ := pr
    have nap : a ≠ p := ne_of_none ha np
    refine ⟨_, rfl, _, rfl, a, LC, dx, _, rfl, x3 _ _ ha, T.clL, T.lS, by rw [lf_len]; decide, ?_⟩
    refine q _ ((ExB.of x3).trans ExB.upd) ⟨a, dx, p, rfl, ?_, SqL.of ?_⟩
    · rw [upd_same, lf_put]
    · rw [upd_ne nap.symm, h3, mvl_len, half_all hw (by omega) ok]
end
end Pp
end

section
set_option Elab.async false
set_option linter.all false
set_option maxRecDepth 100000
set_option maxHeartbeats 4000000
namespace Pp
open PySem PySem.Spec PyProof.Rows L2 Evl

section
variable {P : Program} {w : World} {K : PySem.W.Frag} {mg : Str → Option Value} {base : Heap} {SC LC : Addr}
theorem one_ok (v : V) : [v].length ≤ sizeLine := sz_of (by show 1 ≤ _; decide)
theorem mk_scriptA {H1 : Hp} {c : Addr} {wd : Int} {rs : List V} {cs : List Cl} {R : Addr → Hp → Prop} (q : ∀ x H', H1 x = none → Ex H1 H' → ScriptV K SC H' (.ref x) wd cs → R x H') (hw : wd = 2 ∨ wd = 3) (hc : SqL K H1 c rs ∨ SqT K H1 c rs) (hcs : CallsV K H1 rs cs) (ok : Oks wd cs) (hl : rs.length ≤ 1000) :
    ∀ x dx, H1 x = none → H1 dx = none → dx ≠ x → spSInit K SC (.ref x :: ([.int wd, .ref c] ++ [])) (upd (upd H1 dx (.own x)) x (.ins SC dx [])) (fun v H2 => v = .non ∧ R x H2) E0 := by
  intro x dx nx nd ne
  have nx2 : (upd H1 dx (.own x)) x = none := by rw [upd_ne ne.symm]; exact nx
  have e : Ex H1 (upd (upd H1 dx (.own x)) x (.ins SC dx [])) := (Ex.new nd).trans (Ex.new nx2)
  exact ⟨x, dx, c, wd, rs, cs, rfl, upd_same, hw, hc.imp (ex_l e) (ex_t e), hcs.mono e, ok, hl, fun H' b s => ⟨rfl, q _ _ nx (b.ex e nx) s⟩⟩
theorem no_follow (wd d : Int) (l : Addr) : (lf wd d l).lookup ("follow" : Str) = none := lf_no _ _ _ (by decide +kernel) (by decide +kernel) (by decide +kernel)
theorem sc_do : FnScope ["self", "thing"] ["self", "thing"] (defScope (inClass sLine 13)) := ⟨rfl, rfl, rfl, by decide +kernel, rfl, by decide +kernel, by decide +kernel⟩
theorem me_do (T : Txt w K mg SC LC) (D : Md K LC "do" "Line.do" (inClass sLine 13)) (pr : Pr P w K mg base SC) (c_Script : MkS P w K mg base SC) (c_is_call : Ca P w K mg base 3 "is_call" (spIsCall K)) (c_moves_of : Ca P w K mg base 6 "moves_of" (spMovesOf K SC)) (m_follow : Me P w K mg base 1 LC "follow" (spFollow K LC)) : Me P w K mg base 7 LC "do" (spDo K LC) := by
  obtain ⟨pp, gg, fdG, psG, pF, FG, bG⟩ := pr.ex
  refine me_of (k := 6) D sc_do (fun _ _ _ _ _ _ us hl => match us, hl with | [_, _], _ => rfl) (fun vs H Q E h => by obtain ⟨a, v, w, d, c, ns, rfl, _⟩ := h; rfl) (fun f cdv A outer s H vs Q E hr h => ?_)
  obtain ⟨a, v, wd, d, c, ns, rfl, hs, hc, hw, hd, hd2, ok, hn, q⟩ := h
  obtain ⟨a', dx, l, ea, ha, hl⟩ := id hs
  cases ea
  obtain ⟨p, rfl, hp⟩ := id hc
  refine ⟨_, (pss_one (ps_if (PW.pt (pw_and (pt_val (pe_callB call_isi (by rfl) T.isi boot_isi (pa_cons (pv 1) (pa_cons (pe_glob (by rfl) T.mgS (v := .ref SC) rfl) pa_nil)))) (pw_and1 (pt_cmpR op_eq (pe_prop (pv 1) T.clS pF FG (hr.mono (by decide)) bG .nil pass0 rfl) (pe_fld (pv 0) rfl) (nomark _))))) pss_never (pss_one (ps_if (pt_val (C8.pe_c c_is_call hr (by decide) (by rfl) (pa_cons (pe_fld (pv 0) rfl) (pa_cons (pv 1) pa_nil)))) (pss_one (ps_expr (C8.pe_mt (m_follow.met T.clL) hr (by decide) (pv 0) (pa_cons (C8.pe_c c_moves_of hr (by decide) (by rfl) (pa_cons (C8.pe_mk c_Script hr (by decide) (by rfl) (pa_cons (pe_fld (pv 0) rfl) (pa_cons (pe_lst (pa_cons (pv 1) pa_nil)) pa_nil))) (pa_cons (pe_fld (pv 0) rfl) pa_nil))) pa_nil)))) (pss_one ps_never))))), ?_⟩
  refine ⟨_, rfl, .ref p, .ref SC, .type "tuple", .ref SC, false, rfl, .own SC, tyx_tup hp, T.notS, false, rfl, iteF ?_⟩
  refine ⟨_, rfl, a, LC, dx, _, _, rfl, ha, T.clL, T.lW, lf_w _ _ _, _, rfl, wd, _, c, rfl, hc, ok, fun H1 x1 => ⟨true, rfl, iteT ?_⟩⟩
  refine ⟨_, rfl, a, dx, _, rfl, x1 _ _ ha, no_follow _ _ _, ?_⟩
  refine ⟨_, rfl, a, LC, dx, _, _, rfl, x1 _ _ ha, T.clL, T.lW, lf_w _ _ _, _, rfl, one_ok _, fun l0 h0 => ?_⟩
  have x2 := x1.trans (Ex.new h0 (o := .lst [.ref p]))
  have okc : Oks wd [c] := fun c' h => by rw [List.mem_singleton] at h; subst h; exact ok
  refine mk_scriptA (cs := [c]) (fun x2' H2 _ x3 s2 => ?_) hw (.inl (sq_of upd_same)) (.cons (hc.mono x2) .nil) okc (by show 1 ≤ 1000; decide)
  have x4 := x2.trans x3
  refine ⟨_, rfl, a, LC, dx, _, _, rfl, x4 _ _ ha, T.clL, T.lD, lf_d _ _ _, _, d, wd, [c], rfl, s2, hw, by omega, by omega, okc, by show 1 ≤ 1000; decide, fun v3 H3 x5 r3 => ?_⟩
  obtain ⟨m, rfl, hm⟩ := r3
  have x6 := x4.trans x5
  exact ⟨a, m, wd, d, [c], ns, rfl, hs.mono x6, hm, hw, hd, hd2, okc, hn, fun H4 x7 s4 => q _ ((ExB.of x6).trans x7) s4⟩
theorem sc_go : FnScope ["self", "script", "rounds", "moves", "turn"] ["self", "script", "rounds"] (defScope (inClass sLine 14)) := ⟨rfl, rfl, rfl, by decide +kernel, rfl, by decide +kernel, by decide +kernel⟩
theorem me_go (T : Txt w K mg SC LC) (D : Md K LC "go" "Line.go" (inClass sLine 14)) (pr : Pr P w K mg base SC) (c_moves_of : Ca P w K mg base 6 "moves_of" (spMovesOf K SC)) (m_follow : Me P w K mg base 1 LC "follow" (spFollow K LC)) (m_inv : Me P w K mg base 6 SC "__invert__" (spInv K SC)) : Me P w K mg base 7 LC "go" (spGo K SC LC) := by
  obtain ⟨pp, gg, fdG, psG, pF, FG, bG⟩ := pr.ex
  obtain ⟨fI, fdI, psI, FI, bI, _, atI, fnI⟩ := m_inv.ex
  refine me_of (k := 6) D sc_go (fun _ _ _ _ _ _ us hl => match us, hl with | [_, _, _], _ => rfl) (fun vs H Q E h => by obtain ⟨a, v, w, d, k, cs, ns, rfl, _⟩ := h; rfl) (fun f cdv A outer s H vs Q E hr h => ?_)
  obtain ⟨a, v, wd, d, k, cs, ns, rfl, hs, hc, hw, hd, hd2, ok, hl, hk, hn, q⟩ := h
  obtain ⟨a', dx, l, ea, ha, hla⟩ := id hs
  cases ea
  obtain ⟨b, dy, t, rs, rfl, hb, ht, hcs⟩ := id hc
  refine ⟨_, (pss_cons (ps_if (pt_cmpR op_ne (pe_prop (pv 1) T.clS pF FG (hr.mono (by decide)) bG .nil pass0 rfl) (pe_fld (pv 0) rfl) (nomark _)) pss_never pss_nil)
      (pss_cons (ps_set (i := 3) sc_go.nd rfl (Or.inl rfl) (C8.pe_c c_moves_of hr (by decide) (by rfl) (pa_cons (pe_ifExp (pt_cmpR op_ge (pv 2) pe_int (nomark _)) (pv 1) (pe_un (un_own (r := ()) atI fnI FI (hr.mono (by decide)) bI) (pv 1))) (pa_cons (pe_fld (pv 0) rfl) pa_nil))))
      (pss_one (ps_for PassesOwn.never rfl (pi_range1 (by rfl) T.range (pa_cons (pe_callB call_abs (by rfl) T.abs boot_abs' (pa_cons (pv 2) pa_nil)) pa_nil)) (pg_name (i := 4) sc_go.nd rfl (Or.inl rfl)) (pss_one (ps_expr (C8.pe_mt (m_follow.met T.clL) hr (by decide) (pv 0) (pa_cons (pv 3) pa_nil)))))))), ?_⟩
  refine ⟨_, rfl, b, dy, _, rfl, hb, b, dy, _, _, rfl, hb, sf_w _ _, _, rfl, a, LC, dx, _, _, rfl, ha, T.clL, T.lW, lf_w _ _ _, rfl, false, ?_, iteF ?_⟩
  · show V.bl (!decide (V.int wd = V.int wd)) = V.bl false
    rw [decide_eq_true rfl] <;> rfl
  refine ⟨_, rfl, _, _, rfl, rfl, _, rfl, ?_⟩
  have go_rest : ∀ (cs' : List Cl) (v1 : V) (H1 : Hp), Ex H H1 → (∃ l, v1 = V.ref l ∧ H1 l = some (HO.lst (List.map V.int (mvl wd d cs')))) → rounds wd d cs k ns = times (stand wd d cs') k.natAbs ns → Oks wd cs' →
      tFor (iRng1 (tCons (tCB (fun xs H Q => ∃ i, xs = [V.int i] ∧ Q (V.int (if i < 0 then -i else i)) H) (tCons (tVar 2) tNil)) tNil)) (gName 4)
        (tDrop (tMeth LC "follow" (spFollow K LC) [] C8.E0 (tVar 0) (tCons (tVar 3) tNil))) { nx := fun x H' => Q V.non H', rt := Q } [some (.ref a), some (.ref b), some (.int k), some v1, none] H1 := by
    rintro cs' _ H1 x1 ⟨m, rfl, hm⟩ er ok'
    have ek : (if k < 0 then -k else k) = (k.natAbs : Int) := by split <;> omega
    refine ⟨_, rfl, k, rfl, _, rfl, ?_, ?_, ?_⟩
    · rw [ek]; omega
    · rw [ek]; omega
    rw [ek, Int.toNat_natCast]
    refine for_range (lo := 0) (n := k.natAbs) (fun i σ' H' => ∃ y : Option V, σ' = [some (.ref a), some (.ref b), some (.int k), some (.ref m), y] ∧ ExB a H H' ∧ H' m = some (HO.lst (List.map V.int (mvl wd d cs'))) ∧ LineV K LC H' (.ref a) wd d (times (stand wd d cs') i ns)) ⟨none, rfl, .of x1, hm, hs.mono x1⟩ (fun i σ' H' hi pr' => ?_) (fun σ' H' pr' => ?_)
    · obtain ⟨y, rfl, x2, hm2, s2⟩ := pr'
      obtain ⟨a2, dx2, l2, e2, ha2, hl2⟩ := id s2
      cases e2
      refine ⟨_, rfl, a, dx2, _, rfl, ha2, no_follow _ _ _, _, rfl, a, m, wd, d, cs', _, rfl, s2, hm2, hw, hd, hd2, ok', times_len hn _, fun H3 x3 s3 => ?_⟩
      refine ⟨_, rfl, x2.trans x3, x3 m _ (ne_of hm2 ha2 fun z => nomatch z) hm2, ?_⟩
      rw [times_succ]
      exact s3
    · obtain ⟨y, rfl, x2, hm2, s2⟩ := pr'
      exact q _ x2 (er ▸ s2)
  refine ite2 (fun hk0 => ?_) (fun hk0 => ?_)
  · have hk0 : 0 ≤ k := of_decide_eq_true hk0
    refine ⟨_, rfl, _, rfl, a, LC, dx, _, _, rfl, ha, T.clL, T.lD, lf_d _ _ _, .ref b, d, wd, cs, rfl, hc, hw, by omega, by omega, ok, hl, fun v1 H1 x1 r1 => ?_⟩
    have er : rounds wd d cs k ns = times (stand wd d cs) k.natAbs ns := by rw [rounds_eq, if_pos hk0]
    exact go_rest cs v1 H1 x1 r1 er ok
  · have hk0 : ¬ 0 ≤ k := fun z => hk0 (decide_eq_true z)
    refine ⟨_, rfl, b, dy, _, rfl, hb, .ref b, wd, cs, rfl, hc, hw, ok, hl, fun v0 H0 x0 s0 => ?_⟩
    refine ⟨_, rfl, a, LC, dx, _, _, rfl, x0 _ _ ha, T.clL, T.lD, lf_d _ _ _, v0, d, wd, invs cs, rfl, s0, hw, by omega, by omega, ok.invs, by unfold invs; rw [List.length_map, List.length_reverse]; exact hl, fun v1 H1 x1 r1 => ?_⟩
    have er : rounds wd d cs k ns = times (stand wd d (invs cs)) k.natAbs ns := by rw [rounds_eq, if_neg hk0]
    exact go_rest (invs cs) v1 H1 (x0.trans x1) r1 er ok.invs
end
end Pp
end

section
set_option Elab.async false
set_option linter.all false
set_option maxRecDepth 100000
set_option maxHeartbeats 4000000
namespace Pp
open PySem PySem.Spec PyProof.Rows L2 Evl

/-! ### a statement after which only what R says is known -/
def tCut (t : TS) : TS := fun D σ H => ∃ R : L2.St → Hp → Prop, t { D with nx := R } σ H ∧ ∀ σ' H', R σ' H' → D.nx σ' H'
theorem ps_cut {X : Cx} {st : Stmt} {t : TS} (h : PS X st t) : PS X st (tCut t) := by
  refine ⟨fun pins s σ H D I hw => ?_⟩
  obtain ⟨R, h1, h2⟩ := hw
  refine thn (h.run pins s σ H { D with nx := R } I h1) fun f s1 q => ?_
  cases f with
  | next =>
    obtain ⟨σ', H', I', q⟩ := q
    exact ⟨σ', H', I', h2 _ _ q⟩
  | ret v => exact q
  | brk => exact q
  | cont => exact q

/-! ### the law's own: _law_bag, _law_take -/
/-- r below m is drawn from the bag at b -/
abbrev Drawn (b e : Addr) (m : Int) (H : Hp) (Q : VK) : Prop := ∀ r H', 0 ≤ r → r < m → ExB b H H' → BagAt H' b e → Q (.int r) H'
def spTake : Sp := fun vs H Q _ => ∃ (b e : Addr) (m : Int), vs = [.ref b, .int m] ∧ BagAt H b e ∧ 0 < m ∧ m < 1073741824 ∧ Drawn b e m H Q
section
variable {P : Program} {w : World} {K : PySem.W.Frag} {mg : Str → Option Value} {base : Heap} {SC LC : Addr}
theorem sc_take : FnScope ["_law_bag_here", "_law_many", "_law_cell", "_law_mixed_here", "_law_drawn", "_law_begin", "_law_second"] ["_law_bag_here", "_law_many"] (defScope (top 35)) := ⟨rfl, rfl, rfl, by decide +kernel, rfl, by decide +kernel, by decide +kernel⟩
theorem ca_take (T : Txt w K mg SC LC) (D : Df K mg "_law_take" (top 35)) : Ca P w K mg base 1 "_law_take" spTake := by
  refine ca_of (k := 0) D sc_take (fun _ _ _ _ _ _ us hl => match us, hl with | [_, _], _ => rfl) (fun vs H Q E h => by obtain ⟨b, e, m, rfl, _⟩ := h; rfl) (fun f cdv A outer s H vs Q E hr h => ?_)
  obtain ⟨b, l, m, rfl, ⟨n0, n1, n2, xs, hb, hl, p0, p1, p2, px⟩, m0, m1, q⟩ := h
  refine ⟨_, (pss_cons (ps_cut (ps_if (pt_cmpR op_eq (pe_ix ix_list (pv 0) pe_int (fun _ _ => rfl)) pe_int (nomark _)) (pss_cons (ps_set (i := 2) sc_take.nd rfl (Or.inl rfl) pe_int)
      (pss_cons (ps_cut (ps_if (pt_cmpR op_lt (pe_ix ix_list (pv 0) pe_int (fun _ _ => rfl)) (pe_callB call_len_seq (by rfl) T.len PySem.boot_len (pa_cons (pe_ix ix_list (pv 0) pe_int (fun _ _ => rfl)) pa_nil)) (nomark _)) (pss_one (ps_set (i := 2) sc_take.nd rfl (Or.inl rfl) (pe_ix ix_list (pe_ix ix_list (pv 0) pe_int (fun _ _ => rfl)) (pe_ix ix_list (pv 0) pe_int (fun _ _ => rfl)) (fun _ _ => rfl)))) pss_nil))
      (pss_cons (ps_augS (pv 0) pe_int pget_list pe_int ip_add set_list)
      (pss_cons (ps_cut (ps_if (pt_cmpR op_ge (pv 2) pe_int (nomark _)) (pss_one (ps_asg (pv 2) (pg_sub (pv 0) pe_int set_list))) pss_nil))
      (pss_cons (ps_set (i := 3) sc_take.nd rfl (Or.inl rfl) (pe_op op_add (pe_op op_add (pe_op op_mul (pe_ix ix_list (pv 0) pe_int (fun _ _ => rfl)) pe_int) (pe_op op_mod (pe_callTy call_int1 (by rfl) T.int boot_int' (pa_cons (pv 2) pa_nil)) pe_int)) (pe_op op_mul pe_int (pe_ix ix_list (pv 0) pe_int (fun _ _ => rfl)))))
      (pss_one (ps_asg (pe_op op_mod (pe_callTy call_int1 (by rfl) T.int boot_int' (pa_cons (pv 3) pa_nil)) pe_int) (pg_sub (pv 0) pe_int set_list)))))))) pss_nil))
      (pss_cons (ps_if (pt_cmpR op_gt (pe_ix ix_list (pv 0) pe_int (fun _ _ => rfl)) pe_int (nomark _)) (pss_cons (ps_set (i := 4) sc_take.nd rfl (Or.inl rfl) (pe_op op_mod (pe_callTy call_int1 (by rfl) T.int boot_int' (pa_cons (pe_ix ix_list (pv 0) pe_int (fun _ _ => rfl)) pa_nil)) (pv 1)))
      (pss_cons (ps_asg (pe_op op_fdiv (pe_callTy call_int1 (by rfl) T.int boot_int' (pa_cons (pe_ix ix_list (pv 0) pe_int (fun _ _ => rfl)) pa_nil)) (pv 1)) (pg_sub (pv 0) pe_int set_list))
      (pss_one (ps_ret (pv 4))))) pss_nil)
      (pss_cons (ps_set (i := 5) sc_take.nd rfl (Or.inl rfl) (pe_op op_mod (pe_callTy call_int1 (by rfl) T.int boot_int' (pa_cons (pe_op op_mul (pe_op op_add (pe_ix ix_list (pv 0) pe_int (fun _ _ => rfl)) pe_int) pe_int) pa_nil)) pe_int))
      (pss_cons (ps_set (i := 6) sc_take.nd rfl (Or.inl rfl) (pe_op op_mod (pe_callTy call_int1 (by rfl) T.int boot_int' (pa_cons (pe_op op_mul (pe_op op_mod (pe_callTy call_int1 (by rfl) T.int boot_int' (pa_cons (pe_op op_mul (pv 5) (pv 5)) pa_nil)) pe_int) pe_int) pa_nil)) pe_int))
      (pss_one (ps_ret (pe_op op_mod (pe_callTy call_int1 (by rfl) T.int boot_int' (pa_cons (pe_op op_fdiv (pv 6) pe_int) pa_nil)) (pv 1)))))))), ?_⟩
  refine ⟨fun σ' H' => ∃ (y z : Option V), σ' = [some (.ref b), some (.int m), y, z, none, none, none] ∧ ExB b H H' ∧ BagAt H' b l, ?_, ?_⟩
  · obtain ⟨j, rfl⟩ := Int.eq_ofNat_of_zero_le p2
    refine ⟨_, rfl, b, _, _, _, rfl, rfl, SqL.of hb, ix_at 0 rfl rfl, rfl, _, rfl, ite2 (fun _ => ?_) (fun _ => ?_)⟩
    · refine ⟨fun σ' H' => ∃ c : Int, σ' = [some (.ref b), some (.int m), some (.int c), none, none, none, none] ∧ H' = H ∧ 0 ≤ c, ?_, ?_⟩
      · refine ⟨_, rfl, b, _, _, _, rfl, rfl, SqL.of hb, ix_at 2 rfl rfl, _, rfl, b, _, _, _, rfl, rfl, SqL.of hb, ix_at 3 rfl rfl, l, _, rfl, .inl (SqL.of hl), _, _, rfl, rfl, _, rfl, ite2 (fun hc => ?_) (fun _ => ?_)⟩
        · have hj : j < xs.length := by
            have := of_decide_eq_true hc
            rw [List.length_map] at this
            omega
          refine ⟨_, rfl, b, _, _, _, rfl, rfl, SqL.of hb, ix_at 3 rfl rfl, _, rfl, b, _, _, _, rfl, rfl, SqL.of hb, ix_at 2 rfl rfl, l, _, _, _, rfl, rfl, SqL.of hl, atI_nat (ints_at hj), ?_⟩
          refine ⟨_, rfl, rfl, px _ ?_⟩
          rw [List.getD_eq_getElem?_getD, List.getElem?_eq_getElem hj]
          exact List.getElem_mem hj
        · exact ⟨0, rfl, rfl, by decide⟩
      · rintro _ H0 ⟨c, rfl, rfl, hc⟩
        have ne : l ≠ b := BagAt.ne hb hl
        refine ⟨_, rfl, b, _, 2, _, rfl, rfl, SqL.of hb, rfl, _, _, rfl, rfl, b, _, _, 2, rfl, rfl, hb, rfl, ?_⟩
        refine ⟨fun σ' H' => σ' = [some (.ref b), some (.int m), some (.int c), none, none, none, none] ∧ ExB b H0 H' ∧ ∃ n0' : Int, 0 ≤ n0' ∧ H' b = some (.lst [.int n0', .int n1, .int ((j : Int) + 1), .ref l]), ?_, ?_⟩
        · refine ⟨_, rfl, _, _, rfl, rfl, _, rfl, ite2 (fun _ => ?_) (fun _ => ?_)⟩
          · refine ⟨_, rfl, _, rfl, b, _, _, 0, rfl, rfl, upd_same, rfl, ?_⟩
            exact ⟨rfl, ExB.upd.trans ExB.upd, c, hc, upd_same⟩
          · exact ⟨rfl, ExB.upd, _, p0, upd_same⟩
        · rintro _ H1 ⟨rfl, e1, n0', p0', hb1⟩
          refine ⟨_, rfl, b, _, _, _, rfl, rfl, SqL.of hb1, ix_at 1 rfl rfl, _, _, rfl, rfl, .inr ⟨by decide, by decide⟩, ?_⟩
          refine ⟨_, rfl, .inl ⟨_, rfl, _, _, rfl, rfl, (show (0 : Int) < 2147483647 by decide), _, _, rfl, rfl, ?_⟩⟩
          refine ⟨_, rfl, b, _, _, _, rfl, rfl, SqL.of hb1, ix_at 2 rfl rfl, _, _, rfl, rfl, .inl ⟨by decide, by decide⟩, _, _, rfl, rfl, ?_⟩
          refine ⟨_, rfl, .inl ⟨_, rfl, _, _, rfl, rfl, (show (0 : Int) < 2147483647 by decide), ?_⟩⟩
          refine ⟨_, rfl, b, _, _, 1, rfl, rfl, hb1, rfl, ?_⟩
          have k := mod_range (x := n1 * 48271 + c % 2147483647 + 7919 * ((j : Int) + 1)) (d := 2147483647) (by decide)
          exact ⟨_, _, rfl, e1.trans ExB.upd, n0', _, _, xs, upd_same, Eq.trans (upd_ne ne) (e1 l _ ne hl), p0', k, by omega, px⟩
    · exact ⟨none, none, rfl, .refl, n0, n1, _, xs, hb, hl, p0, p1, p2, px⟩
  · rintro _ H1 ⟨y, z, rfl, e1, n0, n1, n2, xs, hb, hl, p0, p1, p2, px⟩
    have ne : l ≠ b := BagAt.ne hb hl
    refine ⟨_, rfl, b, _, _, _, rfl, rfl, SqL.of hb, ix_at 0 rfl rfl, _, _, rfl, rfl, _, rfl, ite2 (fun _ => ?_) (fun _ => ?_)⟩
    · refine ⟨_, rfl, b, _, _, _, rfl, rfl, SqL.of hb, ix_at 0 rfl rfl, .inl ⟨_, rfl, _, rfl, _, _, rfl, rfl, m0, ?_⟩⟩
      refine ⟨_, rfl, b, _, _, _, rfl, rfl, SqL.of hb, ix_at 0 rfl rfl, .inl ⟨_, rfl, _, rfl, _, _, rfl, rfl, ⟨m0, m1⟩, ?_⟩⟩
      refine ⟨_, rfl, b, _, _, 0, rfl, rfl, hb, rfl, ?_⟩
      have k := mod_range (x := n0) m0
      exact ⟨_, rfl, q _ _ k.1 k.2 (e1.trans ExB.upd) ⟨_, n1, n2, xs, upd_same, Eq.trans (upd_ne ne) hl, Int.ediv_nonneg p0 (by omega), p1, p2, px⟩⟩
    · refine ⟨_, rfl, b, _, _, _, rfl, rfl, SqL.of hb, ix_at 1 rfl rfl, _, _, rfl, rfl, _, _, rfl, rfl, .inr ⟨by decide, by decide⟩, .inl ⟨_, rfl, _, _, rfl, rfl, (show (0 : Int) < 1000000007 by decide), ?_⟩⟩
      have k := mod_range (x := (n1 + 1) * 39373) (d := 1000000007) (by decide)
      refine ⟨_, rfl, _, rfl, _, _, rfl, rfl, .inl ⟨by omega, by omega⟩, .inl ⟨_, rfl, _, _, rfl, rfl, (show (0 : Int) < 998244353 by decide), _, _, rfl, rfl, .inr ⟨by decide, by decide⟩, .inl ⟨_, rfl, _, _, rfl, rfl, (show (0 : Int) < 998244353 by decide), ?_⟩⟩⟩
      refine ⟨_, rfl, _, _, rfl, rfl, ⟨by decide, by decide⟩, .inl ⟨_, rfl, _, rfl, _, _, rfl, rfl, m0, ?_⟩⟩
      have k2 := mod_range (x := (n1 + 1) * 39373 % 1000000007 * ((n1 + 1) * 39373 % 1000000007) % 998244353 * 30011 % 998244353 / 7) m0
      exact q _ _ k2.1 k2.2 e1 ⟨n0, n1, n2, xs, hb, hl, p0, p1, p2, px⟩
end
end Pp
end

section
set_option Elab.async false
set_option linter.all false
set_option maxRecDepth 100000
set_option maxHeartbeats 4000000
namespace Pp
open PySem PySem.Spec PyProof.Rows L2 Evl

/-! ### the law's own: _law_one, _law_mixed, _law_number, _law_two -/
def spOne (K : PySem.W.Frag) : Sp := fun vs H Q _ => ∃ (b e l : Addr) (ys : List V), vs = [.ref b, .ref l] ∧ BagAt H b e ∧ SqL K H l ys ∧ (∀ x ∈ ys, ∀ q, x ≠ .ref q) ∧ 0 < ys.length ∧ ys.length < 1000 ∧ ∀ v H', v ∈ ys → ExB b H H' → BagAt H' b e → Q v H'
def spMixed (K : PySem.W.Frag) : Sp := fun vs H Q _ => ∃ (b e l : Addr) (ns : List Int), vs = [.ref b, .ref l] ∧ BagAt H b e ∧ SqL K H l (ns.map V.int) ∧ ns.length < 1000 ∧ ∀ p ms H', ExB b H H' → BagAt H' b e → H' p = some (.lst (ms.map V.int)) → List.Perm ms ns → Q (.ref p) H'
def spNumber : Sp := fun vs H Q _ => ∃ (b e : Addr) (m : Int), vs = [.ref b, .int m] ∧ BagAt H b e ∧ 0 < m ∧ m < 1073741824 ∧ ∀ k H', k ≠ 0 → ExB b H H' → BagAt H' b e → Q (.int k) H'
def spTwo (K : PySem.W.Frag) : Sp := fun vs H Q _ => ∃ (b e : Addr) (w : Int), vs = [.ref b, .int w] ∧ BagAt H b e ∧ (w = 2 ∨ w = 3) ∧ ∀ f g v H', (0 ≤ f ∧ f < w) → (0 ≤ g ∧ g < w) → f ≠ g → ExB b H H' → BagAt H' b e → TupV K H' v [.int f, .int g] → Q v H'
theorem ints_noref {ns : List Int} : ∀ x ∈ ns.map V.int, ∀ q, x ≠ .ref q := fun x hx q z => by
  obtain ⟨n, _, e⟩ := List.mem_map.mp hx
  rw [z] at e
  cases e
theorem ints_ins (ms : List Int) (j : Nat) (x : Int) : (ms.map V.int).take j ++ [V.int x] ++ (ms.map V.int).drop j = (ms.take j ++ [x] ++ ms.drop j).map V.int := by
  rw [List.map_append, List.map_append, List.map_take, List.map_drop] <;> rfl
section
variable {P : Program} {w : World} {K : PySem.W.Frag} {mg : Str → Option Value} {base : Heap} {SC LC : Addr}
theorem sc_one : FnScope ["_law_bag_here", "_law_some"] ["_law_bag_here", "_law_some"] (defScope (top 36)) := ⟨rfl, rfl, rfl, by decide +kernel, rfl, by decide +kernel, by decide +kernel⟩
theorem ca_one (T : Txt w K mg SC LC) (D : Df K mg "_law_one" (top 36)) (c__law_take : Ca P w K mg base 1 "_law_take" spTake) : Ca P w K mg base 2 "_law_one" (spOne K) := by
  refine ca_of (k := 1) D sc_one (fun _ _ _ _ _ _ us hl => match us, hl with | [_, _], _ => rfl) (fun vs H Q E h => by obtain ⟨b, e, l, ys, rfl, _⟩ := h; rfl) (fun f cdv A outer s H vs Q E hr h => ?_)
  obtain ⟨b, e, l, ys, rfl, hb, hl, nr, l0, l1, q⟩ := h
  refine ⟨_, (pss_one (ps_ret (pe_ix ix_list (pv 1) (C8.pe_c c__law_take hr (by decide) (by rfl) (pa_cons (pv 0) (pa_cons (pe_callB call_len_seq (by rfl) T.len PySem.boot_len (pa_cons (pv 1) pa_nil)) pa_nil))) (fun _ _ => rfl)))), ?_⟩
  refine ⟨_, rfl, _, rfl, _, rfl, l, ys, rfl, .inl hl, b, e, _, rfl, hb, by omega, by omega, fun r H1 h0 h1 x1 hb1 => ?_⟩
  obtain ⟨j, rfl⟩ := Int.eq_ofNat_of_zero_le h0
  have hj : j < ys.length := by omega
  exact ⟨l, ys, _, _, rfl, rfl, sqL_bag x1 hb nr hl, atI_nat (List.getElem?_eq_getElem hj), q _ _ (List.getElem_mem hj) x1 hb1⟩

theorem sc_mixed : FnScope ["_law_bag_here", "_law_things", "_law_found", "_law_thing"] ["_law_bag_here", "_law_things"] (defScope (top 37)) := ⟨rfl, rfl, rfl, by decide +kernel, rfl, by decide +kernel, by decide +kernel⟩
theorem ca_mixed (T : Txt w K mg SC LC) (D : Df K mg "_law_mixed" (top 37)) (c__law_take : Ca P w K mg base 1 "_law_take" spTake) : Ca P w K mg base 2 "_law_mixed" (spMixed K) := by
  refine ca_of (k := 1) D sc_mixed (fun _ _ _ _ _ _ us hl => match us, hl with | [_, _], _ => rfl) (fun vs H Q E h => by obtain ⟨b, e, l, ns, rfl, _⟩ := h; rfl) (fun f cdv A outer s H vs Q E hr h => ?_)
  obtain ⟨b, e, l, ns, rfl, hb, hl, l1, q⟩ := h
  refine ⟨_, (pss_cons (ps_set (i := 2) sc_mixed.nd rfl (Or.inl rfl) (pe_lst pa_nil))
      (pss_cons (ps_for PassesOwn.never rfl (pi_list (pv 1)) (pg_name (i := 3) sc_mixed.nd rfl (Or.inl rfl)) (pss_one (ps_expr (pe_bm PySem.F.plainAttrs_list PySem.F.slot_list_insert PySem.F.type_list_insert mt_insert (pv 2) (pa_cons (C8.pe_c c__law_take hr (by decide) (by rfl) (pa_cons (pv 0) (pa_cons (pe_op op_add (pe_callB call_len_seq (by rfl) T.len PySem.boot_len (pa_cons (pv 2) pa_nil)) pe_int) pa_nil))) (pa_cons (pv 3) pa_nil))))))
      (pss_one (ps_ret (pv 2))))), ?_⟩
  refine ⟨Nat.zero_le _, fun p hp => ?_⟩
  have x1 : Ex H (upd H p (.lst [])) := Ex.new hp
  refine ⟨_, rfl, l, rfl, ⟨_, ex_l x1 hl⟩, ?_⟩
  refine for_list (K := K) (xs := ns.map V.int) (fun i σ' H' => ∃ (y : Option V) (ms : List Int), σ' = [some (.ref b), some (.ref l), some (.ref p), y] ∧ ExB b H H' ∧ BagAt H' b e ∧ H' p = some (.lst (ms.map V.int)) ∧ List.Perm ms (ns.take i)) ⟨none, [], rfl, .of x1, hb.mono x1, upd_same, .refl _⟩ (fun i σ' H' _ pr => ?_) (fun i x σ' H' hx pr => ?_) (fun σ' H' pr => ?_)
  · obtain ⟨y, ms, rfl, e1, hb1, h1, pm⟩ := pr
    exact sqL_bag e1 hb ints_noref hl
  · obtain ⟨y, ms, rfl, e1, hb1, h1, pm⟩ := pr
    obtain ⟨hi, ee⟩ := List.getElem?_eq_some_iff.mp hx
    rw [List.length_map] at hi
    have ex : x = V.int (ns[i]'hi) := by rw [← ee, List.getElem_map]
    subst ex
    have hm := pm.length_eq
    rw [List.length_take] at hm
    have np := hb.new hp
    refine ⟨_, rfl, .inl ⟨rfl, _, SqL.of h1⟩, _, rfl, _, rfl, p, _, rfl, .inl (SqL.of h1), _, _, rfl, rfl, b, e, _, rfl, hb1, by omega, ?_, fun r H2 h0 hr1 x2 hb2 => ?_⟩
    · rw [List.length_map]; omega
    have h2 := x2 p _ np.1 h1
    refine ⟨_, rfl, p, _, r, _, rfl, rfl, h2, ?_, h0, ?_, ?_⟩
    · rw [List.length_map]; exact sz_lt (by omega)
    · rw [List.length_map] at hr1; omega
    refine ⟨_, ms.take r.toNat ++ [ns[i]] ++ ms.drop r.toNat, rfl, (e1.trans x2).both hp .upd, hb2.upd np, ?_, ?_⟩
    · rw [upd_same, ints_ins]
    · rw [List.take_succ_eq_append_getElem hi, List.append_assoc]
      refine (List.perm_append_comm_assoc _ _ _).trans ?_
      rw [List.take_append_drop]
      exact List.perm_append_comm.trans (pm.append_right _)
  · obtain ⟨y, ms, rfl, e1, hb1, h1, pm⟩ := pr
    refine ⟨_, rfl, q p ms _ e1 hb1 h1 ?_⟩
    rw [List.length_map, List.take_length] at pm
    exact pm

theorem sc_number : FnScope ["_law_bag_here", "_law_most", "_law_number_here"] ["_law_bag_here", "_law_most"] (defScope (top 38)) := ⟨rfl, rfl, rfl, by decide +kernel, rfl, by decide +kernel, by decide +kernel⟩
theorem ca_number (T : Txt w K mg SC LC) (D : Df K mg "_law_number" (top 38)) (c__law_take : Ca P w K mg base 1 "_law_take" spTake) : Ca P w K mg base 2 "_law_number" spNumber := by
  refine ca_of (k := 1) D sc_number (fun _ _ _ _ _ _ us hl => match us, hl with | [_, _], _ => rfl) (fun vs H Q E h => by obtain ⟨b, e, m, rfl, _⟩ := h; rfl) (fun f cdv A outer s H vs Q E hr h => ?_)
  obtain ⟨b, e, m, rfl, hb, m0, m1, q⟩ := h
  refine ⟨_, (pss_cons (ps_set (i := 2) sc_number.nd rfl (Or.inl rfl) (pe_op op_add pe_int (C8.pe_c c__law_take hr (by decide) (by rfl) (pa_cons (pv 0) (pa_cons (pe_ix ix_list (pe_lst (pa_cons pe_int (pa_cons pe_int (pa_cons pe_int (pa_cons (pv 1) pa_nil))))) (C8.pe_c c__law_take hr (by decide) (by rfl) (pa_cons (pv 0) (pa_cons pe_int pa_nil))) (fun _ _ => rfl)) pa_nil)))))
      (pss_one (ps_ret (pe_ifExp (pt_cmpR op_eq (C8.pe_c c__law_take hr (by decide) (by rfl) (pa_cons (pv 0) (pa_cons pe_int pa_nil))) pe_int (nomark _)) (pv 2) (pe_un un_neg (pv 2)))))), ?_⟩
  refine ⟨_, rfl, _, rfl, sz_of (by show 4 ≤ _; decide), fun p hp => ?_⟩
  have x1 : Ex H (upd H p (.lst [.int 2, .int 4, .int 4, .int m])) := Ex.new hp
  refine ⟨_, rfl, b, e, _, rfl, hb.mono x1, by decide, by decide, fun r H1 h0 h1 x2 hb1 => ?_⟩
  obtain ⟨j, rfl⟩ := Int.eq_ofNat_of_zero_le h0
  have hp1 : H1 p = some (.lst [.int 2, .int 4, .int 4, .int m]) := x2 p _ (hb.new hp).1 upd_same
  obtain ⟨z, hz, z0, z1⟩ : ∃ z : Int, ([.int 2, .int 4, .int 4, .int m] : List V)[j]? = some (.int z) ∧ 0 < z ∧ z < 1073741824 := by
    match j, h1 with
    | 0, _ => exact ⟨2, rfl, by decide, by decide⟩
    | 1, _ => exact ⟨4, rfl, by decide, by decide⟩
    | 2, _ => exact ⟨4, rfl, by decide, by decide⟩
    | 3, _ => exact ⟨m, rfl, m0, m1⟩
    | j + 4, h => omega
  refine ⟨p, _, _, _, rfl, rfl, SqL.of hp1, atI_nat hz, b, e, z, rfl, hb1, z0, z1, fun r2 H2 g0 g1 x3 hb2 => ?_⟩
  refine ⟨_, _, rfl, rfl, ?_⟩
  have x4 : ExB b H H2 := ((ExB.of x1).trans x2).trans x3
  refine ⟨_, rfl, b, e, _, rfl, hb2, by decide, by decide, fun r3 H3 _ _ x5 hb3 => ?_⟩
  refine ⟨rfl, _, rfl, ite2 (fun _ => ?_) (fun _ => ?_)⟩
  · exact ⟨_, rfl, q _ _ (by omega) (x4.trans x5) hb3⟩
  · exact ⟨_, rfl, _, rfl, q _ _ (by omega) (x4.trans x5) hb3⟩

theorem sc_two : FnScope ["_law_bag_here", "_law_files", "_law_some"] ["_law_bag_here", "_law_files"] (defScope (top 39)) := ⟨rfl, rfl, rfl, by decide +kernel, rfl, by decide +kernel, by decide +kernel⟩
theorem ca_two (T : Txt w K mg SC LC) (D : Df K mg "_law_two" (top 39)) (c__law_mixed : Ca P w K mg base 2 "_law_mixed" (spMixed K)) : Ca P w K mg base 3 "_law_two" (spTwo K) := by
  refine ca_of (k := 2) D sc_two (fun _ _ _ _ _ _ us hl => match us, hl with | [_, _], _ => rfl) (fun vs H Q E h => by obtain ⟨b, e, wd, rfl, _⟩ := h; rfl) (fun f cdv A outer s H vs Q E hr h => ?_)
  obtain ⟨b, e, wd, rfl, hb, hw, q⟩ := h
  refine ⟨_, (pss_cons (ps_set (i := 2) sc_two.nd rfl (Or.inl rfl) (C8.pe_c c__law_mixed hr (by decide) (by rfl) (pa_cons (pv 0) (pa_cons (pe_listRg rfl (by rfl) T.list (prg_1 (by rfl) T.range (pv 1))) pa_nil))))
      (pss_one (ps_ret (pe_tup (pa_cons (pe_ix ix_list (pv 2) pe_int (fun _ _ => rfl)) (pa_cons (pe_ix ix_list (pv 2) pe_int (fun _ _ => rfl)) pa_nil)))))), ?_⟩
  refine ⟨_, rfl, _, rfl, _, rfl, RgOk.of_le (by decide) (by omega) (by decide) (by omega), fun l hl => ?_⟩
  have x1 : Ex H (upd H l (.lst (rgV 0 wd))) := Ex.new hl
  obtain ⟨ns, en, hn, nd, l2, l3⟩ : ∃ ns : List Int, rgV 0 wd = ns.map V.int ∧ (∀ x ∈ ns, 0 ≤ x ∧ x < wd) ∧ ns.Nodup ∧ 2 ≤ ns.length ∧ ns.length < 1000 := by
    rcases hw with rfl | rfl
    · exact ⟨[0, 1], rfl, by decide, by decide, by decide, by decide⟩
    · exact ⟨[0, 1, 2], rfl, by decide, by decide, by decide, by decide⟩
  rw [en] at x1 ⊢
  refine ⟨b, e, l, ns, rfl, hb.mono x1, SqL.of upd_same, l3, fun p ms H1 x2 hb1 hp pm => ?_⟩
  have nd' := (pm.nodup_iff).mpr nd
  have hm : ∀ x ∈ ms, 0 ≤ x ∧ x < wd := fun x hx => hn x (pm.mem_iff.mp hx)
  match ms, pm.length_eq with
  | [], h => exact absurd h (by simp only [List.length_nil]; omega)
  | [_], h => exact absurd h (by simp only [List.length_cons, List.length_nil]; omega)
  | f0 :: g0 :: r, _ =>
    have hne : f0 ≠ g0 := fun z => by
      rw [List.nodup_cons] at nd'
      exact nd'.1 (by rw [z]; exact List.mem_cons_self)
    have hf := hm f0 List.mem_cons_self
    have hg := hm g0 (List.mem_cons_of_mem _ List.mem_cons_self)
    refine ⟨_, rfl, p, _, _, _, rfl, rfl, SqL.of hp, ix_at 0 rfl rfl, _, rfl, p, _, _, _, rfl, rfl, SqL.of hp, ix_at 1 rfl rfl, two_ok, fun t ht => ?_⟩
    exact q f0 g0 _ _ hf hg hne (((ExB.of x1).trans x2).trans (ExB.of (Ex.new ht))) (hb1.mono (Ex.new ht)) (TupV.new upd_same)
end
end Pp
end

section
set_option Elab.async false
set_option linter.all false
set_option maxRecDepth 100000
set_option maxHeartbeats 4000000
namespace Pp
open PySem PySem.Spec PyProof.Rows L2 Evl

/-! ### the law's own: _law_all_kinds, _law_call, _law_calls -/
def kinds : List V := [.str "all", .str "up", .str "swap", .str "wheel", .str "about", .str "front", .str "halve", .str "pair", .str "others", .str "fill"]
theorem kinds_noref : ∀ x ∈ kinds, ∀ q, x ≠ .ref q := by
  intro x hx q
  rcases List.mem_cons.mp hx with rfl | hx
  · exact fun z => nomatch z
  rcases List.mem_cons.mp hx with rfl | hx
  · exact fun z => nomatch z
  rcases List.mem_cons.mp hx with rfl | hx
  · exact fun z => nomatch z
  rcases List.mem_cons.mp hx with rfl | hx
  · exact fun z => nomatch z
  rcases List.mem_cons.mp hx with rfl | hx
  · exact fun z => nomatch z
  rcases List.mem_cons.mp hx with rfl | hx
  · exact fun z => nomatch z
  rcases List.mem_cons.mp hx with rfl | hx
  · exact fun z => nomatch z
  rcases List.mem_cons.mp hx with rfl | hx
  · exact fun z => nomatch z
  rcases List.mem_cons.mp hx with rfl | hx
  · exact fun z => nomatch z
  rcases List.mem_cons.mp hx with rfl | hx
  · exact fun z => nomatch z
  · cases hx
theorem sqT_bag {K : PySem.W.Frag} {H H' : Hp} {b e p : Addr} {xs : List V} (x : ExB b H H') (hb : BagAt H b e) (h : SqT K H p xs) : SqT K H' p xs := by
  obtain ⟨n0, n1, n2, ys, g1, _⟩ := hb
  exact sqT_b x g1 noTup_lst h
theorem CallsV.bag {K : PySem.W.Frag} {H H' : Hp} {b e : Addr} {rs : List V} {cs : List Cl} (x : ExB b H H') (hb : BagAt H b e) (h : CallsV K H rs cs) : CallsV K H' rs cs := by
  obtain ⟨n0, n1, n2, ys, g1, _⟩ := hb
  exact CallsV.b x g1 noTup_lst h
theorem CallV.bag {K : PySem.W.Frag} {H H' : Hp} {b e : Addr} {v : V} {c : Cl} (x : ExB b H H') (hb : BagAt H b e) (h : CallV K H v c) : CallV K H' v c := by
  obtain ⟨n0, n1, n2, ys, g1, _⟩ := hb
  exact h.b x g1 noTup_lst
theorem four_ok {xs : List V} (h : xs.length ≤ 10) : xs.length ≤ sizeLine := sz_of (by omega)

def spKinds : Sp := fun vs H Q _ => vs = [] ∧ RetP (fun v H' => ∃ l, v = .ref l ∧ H' l = some (.lst kinds)) H Q
def spCall (K : PySem.W.Frag) : Sp := fun vs H Q _ => ∃ (b e l : Addr) (w m : Int), vs = [.ref b, .int w, .ref l, .int m] ∧ BagAt H b e ∧ SqL K H l kinds ∧ (w = 2 ∨ w = 3) ∧ 0 < m ∧ m < 1073741824 ∧ ∀ (c : Cl) v H', c.Ok w → ExB b H H' → BagAt H' b e → CallV K H' v c → Q v H'
def spCalls2 (K : PySem.W.Frag) : Sp := fun vs H Q _ => ∃ (b e l : Addr) (w n : Int), vs = [.ref b, .int w, .ref l, .int n] ∧ BagAt H b e ∧ SqL K H l kinds ∧ (w = 2 ∨ w = 3) ∧ 0 ≤ n ∧ n ≤ 20 ∧
  ∀ (cs : List Cl) p rs H', Oks w cs → cs.length ≤ 20 → ExB b H H' → BagAt H' b e → H' p = some (.lst rs) → CallsV K H' rs cs → H p = none → Q (.ref p) H'
section
variable {P : Program} {w : World} {K : PySem.W.Frag} {mg : Str → Option Value} {base : Heap} {SC LC : Addr}
theorem sc_kinds : FnScope [] [] (defScope (top 41)) := ⟨rfl, rfl, rfl, by decide +kernel, rfl, by decide +kernel, by decide +kernel⟩
theorem ca_kinds (T : Txt w K mg SC LC) (D : Df K mg "_law_all_kinds" (top 41)) : Ca P w K mg base 1 "_law_all_kinds" spKinds := by
  refine ca_of (k := 0) D sc_kinds (fun _ _ _ _ _ _ us hl => match us, hl with | [], _ => rfl) (fun vs H Q E h => by obtain ⟨rfl, _⟩ := h; rfl) (fun f cdv A outer s H vs Q E hr h => ?_)
  obtain ⟨rfl, q⟩ := h
  refine ⟨_, (pss_one (ps_ret (pe_lst (pa_cons pe_str (pa_cons pe_str (pa_cons pe_str (pa_cons pe_str (pa_cons pe_str (pa_cons pe_str (pa_cons pe_str (pa_cons pe_str (pa_cons pe_str (pa_cons pe_str pa_nil))))))))))))), ?_⟩
  exact ⟨sz_of (by show 10 ≤ _; decide), fun p hp => q _ _ (Ex.new hp) ⟨p, rfl, upd_same⟩⟩

theorem sc_call2 : FnScope ["_law_bag_here", "_law_files", "_law_kinds", "_law_most", "_law_kind"] ["_law_bag_here", "_law_files", "_law_kinds", "_law_most"] (defScope (top 40)) := ⟨rfl, rfl, rfl, by decide +kernel, rfl, by decide +kernel, by decide +kernel⟩
theorem ca_call2 (T : Txt w K mg SC LC) (D : Df K mg "_law_call" (top 40)) (c__law_take : Ca P w K mg base 1 "_law_take" spTake) (c__law_one : Ca P w K mg base 2 "_law_one" (spOne K)) (c__law_number : Ca P w K mg base 2 "_law_number" spNumber) (c__law_two : Ca P w K mg base 3 "_law_two" (spTwo K)) : Ca P w K mg base 4 "_law_call" (spCall K) := by
  refine ca_of (k := 3) D sc_call2 (fun _ _ _ _ _ _ us hl => match us, hl with | [_, _, _, _], _ => rfl) (fun vs H Q E h => by obtain ⟨b, e, l, w, m, rfl, _⟩ := h; rfl) (fun f cdv A outer s H vs Q E hr h => ?_)
  obtain ⟨b, e, l, wd, m, rfl, hb, hl, hw, m0, m1, q⟩ := h
  refine ⟨_, (pss_cons (ps_set (i := 4) sc_call2.nd rfl (Or.inl rfl) (C8.pe_c c__law_one hr (by decide) (by rfl) (pa_cons (pv 0) (pa_cons (pv 2) pa_nil))))
      (pss_cons (ps_if (pt_cmpR op_eq (pv 4) pe_str (nomark _)) (pss_one (ps_ret (pe_tup (pa_cons pe_str (pa_cons (C8.pe_c c__law_number hr (by decide) (by rfl) (pa_cons (pv 0) (pa_cons (pv 3) pa_nil))) pa_nil))))) pss_nil)
      (pss_cons (ps_if (pt_cmpR op_eq (pv 4) pe_str (nomark _)) (pss_one (ps_ret (pe_tup (pa_cons pe_str (pa_cons (C8.pe_c c__law_take hr (by decide) (by rfl) (pa_cons (pv 0) (pa_cons (pv 1) pa_nil))) (pa_cons (C8.pe_c c__law_number hr (by decide) (by rfl) (pa_cons (pv 0) (pa_cons (pv 3) pa_nil))) pa_nil)))))) pss_nil)
      (pss_cons (ps_if (pt_cmpR op_in_seq (pv 4) (pe_tup (pa_cons pe_str (pa_cons pe_str pa_nil))) (by rfl)) (pss_one (ps_ret (pe_op op_catA (pe_tup (pa_cons (pv 4) pa_nil)) (C8.pe_c c__law_two hr (by decide) (by rfl) (pa_cons (pv 0) (pa_cons (pv 1) pa_nil)))))) pss_nil)
      (pss_cons (ps_if (pt_cmpR op_eq (pv 4) pe_str (nomark _)) (pss_one (ps_ret (pe_op op_catA (pe_op op_catA (pe_tup (pa_cons pe_str pa_nil)) (C8.pe_c c__law_two hr (by decide) (by rfl) (pa_cons (pv 0) (pa_cons (pv 1) pa_nil)))) (pe_tup (pa_cons (C8.pe_c c__law_number hr (by decide) (by rfl) (pa_cons (pv 0) (pa_cons (pv 3) pa_nil))) pa_nil))))) pss_nil)
      (pss_one (ps_ret (pe_tup (pa_cons (pv 4) pa_nil))))))))), ?_⟩
  refine ⟨_, rfl, _, rfl, b, e, l, kinds, rfl, hb, hl, kinds_noref, by decide, by decide, fun v H1 hv x1 hb1 => ?_⟩
  rcases List.mem_cons.mp hv with rfl | hv
  · refine ⟨_, rfl, rfl, true, congrArg V.bl (by decide +kernel : decide (V.str "all" = V.str "all") = true), iteT ?_⟩
    refine ⟨_, rfl, _, rfl, b, e, m, rfl, hb1, m0, m1, fun n H2 hn x2 hb2 => ⟨two_ok, fun t ht => ?_⟩⟩
    exact q (.all n) _ _ hn (((x1.trans x2)).trans (.of (Ex.new ht))) (hb2.mono (Ex.new ht)) (TupV.new upd_same)
  rcases List.mem_cons.mp hv with rfl | hv
  · refine ⟨_, rfl, rfl, false, congrArg V.bl (by decide +kernel : decide (V.str "up" = V.str "all") = false), iteF ?_⟩
    refine ⟨_, rfl, rfl, true, congrArg V.bl (by decide +kernel : decide (V.str "up" = V.str "up") = true), iteT ?_⟩
    refine ⟨_, rfl, _, rfl, b, e, wd, rfl, hb1, by omega, by omega, fun r H2 r0 r1 x2 hb2 => ?_⟩
    refine ⟨_, rfl, _, rfl, b, e, m, rfl, hb2, m0, m1, fun n H3 hn x3 hb3 => ⟨four_ok (by show 3 ≤ 10; decide), fun t ht => ?_⟩⟩
    exact q (.up r n) _ _ ⟨⟨r0, r1⟩, hn⟩ (((x1.trans x2).trans x3).trans (.of (Ex.new ht))) (hb3.mono (Ex.new ht)) (TupV.new upd_same)
  rcases List.mem_cons.mp hv with rfl | hv
  · refine ⟨_, rfl, rfl, false, congrArg V.bl (by decide +kernel : decide (V.str "swap" = V.str "all") = false), iteF ?_⟩
    refine ⟨_, rfl, rfl, false, congrArg V.bl (by decide +kernel : decide (V.str "swap" = V.str "up") = false), iteF ?_⟩
    refine ⟨_, rfl, two_ok, fun t0 ht0 => ⟨t0, _, rfl, .inr (SqT.of upd_same), rfl, (by decide +kernel), true, congrArg V.bl (by decide +kernel : inV (.str "swap") [.str "swap", .str "front"] = true), iteT ?_⟩⟩
    have x2 : ExB b H (upd H1 t0 (.tup [.str "swap", .str "front"])) := x1.trans (.of (Ex.new ht0))
    have hb2 : BagAt (upd H1 t0 (.tup [.str "swap", .str "front"])) b e := hb1.mono (Ex.new ht0)
    refine ⟨_, rfl, four_ok (by show 1 ≤ 10; decide), fun t1 ht1 => ?_⟩
    have hb3 := hb2.mono (Ex.new ht1 (o := .tup [.str "swap"]))
    refine ⟨_, rfl, _, rfl, b, e, wd, rfl, hb3, hw, fun f0 g0 v2 H2 hf hg hne x3 hb4 hv2 => ?_⟩
    obtain ⟨p2, rfl, hp2⟩ := hv2
    refine ⟨t1, p2, _, _, rfl, rfl, sqT_bag x3 hb3 (SqT.of upd_same), hp2, sz_of (by show 3 ≤ _; decide), (fun z => by cases z), (fun _ z => by cases z), fun _ _ t3 ht3 => ?_⟩
    exact q (.swap f0 g0) _ _ ⟨hf, hg, hne⟩ (((x2.trans (.of (Ex.new ht1))).trans x3).trans (.of (Ex.new ht3))) (hb4.mono (Ex.new ht3)) (TupV.new upd_same)
  rcases List.mem_cons.mp hv with rfl | hv
  · refine ⟨_, rfl, rfl, false, congrArg V.bl (by decide +kernel : decide (V.str "wheel" = V.str "all") = false), iteF ?_⟩
    refine ⟨_, rfl, rfl, false, congrArg V.bl (by decide +kernel : decide (V.str "wheel" = V.str "up") = false), iteF ?_⟩
    refine ⟨_, rfl, two_ok, fun t0 ht0 => ⟨t0, _, rfl, .inr (SqT.of upd_same), rfl, (by decide +kernel), false, congrArg V.bl (by decide +kernel : inV (.str "wheel") [.str "swap", .str "front"] = false), iteF ?_⟩⟩
    have x2 : ExB b H (upd H1 t0 (.tup [.str "swap", .str "front"])) := x1.trans (.of (Ex.new ht0))
    have hb2 : BagAt (upd H1 t0 (.tup [.str "swap", .str "front"])) b e := hb1.mono (Ex.new ht0)
    refine ⟨_, rfl, rfl, true, congrArg V.bl (by decide +kernel : decide (V.str "wheel" = V.str "wheel") = true), iteT ?_⟩
    refine ⟨four_ok (by show 1 ≤ 10; decide), fun t1 ht1 => ?_⟩
    have hb3 := hb2.mono (Ex.new ht1 (o := .tup [.str "wheel"]))
    refine ⟨_, rfl, _, rfl, b, e, wd, rfl, hb3, hw, fun f0 g0 v2 H2 hf hg hne x3 hb4 hv2 => ?_⟩
    obtain ⟨p2, rfl, hp2⟩ := hv2
    refine ⟨t1, p2, _, _, rfl, rfl, sqT_bag x3 hb3 (SqT.of upd_same), hp2, sz_of (by show 3 ≤ _; decide), (fun z => by cases z), (fun _ z => by cases z), fun _ _ t3 ht3 => ?_⟩
    have hb5 := hb4.mono (Ex.new ht3 (o := .tup ([.str "wheel"] ++ [.int f0, .int g0])))
    refine ⟨_, rfl, _, rfl, b, e, m, rfl, hb5, m0, m1, fun n H3 hn x4 hb6 => ⟨four_ok (by show 1 ≤ 10; decide), fun t4 ht4 => ?_⟩⟩
    have x5 := (((x2.trans (.of (Ex.new ht1))).trans x3).trans (.of (Ex.new ht3 (o := .tup ([.str "wheel"] ++ [.int f0, .int g0]))))).trans x4
    refine ⟨t3, t4, _, _, rfl, rfl, ex_t (Ex.new ht4) (sqT_bag x4 hb5 (SqT.of upd_same)), SqT.of upd_same, sz_of (by show 4 ≤ _; decide), (fun z => by cases z), (fun _ z => by cases z), fun _ _ t5 ht5 => ?_⟩
    exact q (.wheel f0 g0 n) _ _ ⟨hf, hg, hne, hn⟩ ((x5.trans (.of (Ex.new ht4))).trans (.of (Ex.new ht5))) ((hb6.mono (Ex.new ht4)).mono (Ex.new ht5)) (TupV.new upd_same)
  rcases List.mem_cons.mp hv with rfl | hv
  · refine ⟨_, rfl, rfl, false, congrArg V.bl (by decide +kernel : decide (V.str "about" = V.str "all") = false), iteF ?_⟩
    refine ⟨_, rfl, rfl, false, congrArg V.bl (by decide +kernel : decide (V.str "about" = V.str "up") = false), iteF ?_⟩
    refine ⟨_, rfl, two_ok, fun t0 ht0 => ⟨t0, _, rfl, .inr (SqT.of upd_same), rfl, (by decide +kernel), false, congrArg V.bl (by decide +kernel : inV (.str "about") [.str "swap", .str "front"] = false), iteF ?_⟩⟩
    have x2 : ExB b H (upd H1 t0 (.tup [.str "swap", .str "front"])) := x1.trans (.of (Ex.new ht0))
    have hb2 : BagAt (upd H1 t0 (.tup [.str "swap", .str "front"])) b e := hb1.mono (Ex.new ht0)
    refine ⟨_, rfl, rfl, false, congrArg V.bl (by decide +kernel : decide (V.str "about" = V.str "wheel") = false), iteF ?_⟩
    refine ⟨_, rfl, four_ok (by show 1 ≤ 10; decide), fun t1 ht1 => ?_⟩
    exact q .about _ _ trivial (x2.trans (.of (Ex.new ht1))) (hb2.mono (Ex.new ht1)) (TupV.new upd_same)
  rcases List.mem_cons.mp hv with rfl | hv
  · refine ⟨_, rfl, rfl, false, congrArg V.bl (by decide +kernel : decide (V.str "front" = V.str "all") = false), iteF ?_⟩
    refine ⟨_, rfl, rfl, false, congrArg V.bl (by decide +kernel : decide (V.str "front" = V.str "up") = false), iteF ?_⟩
    refine ⟨_, rfl, two_ok, fun t0 ht0 => ⟨t0, _, rfl, .inr (SqT.of upd_same), rfl, (by decide +kernel), true, congrArg V.bl (by decide +kernel : inV (.str "front") [.str "swap", .str "front"] = true), iteT ?_⟩⟩
    have x2 : ExB b H (upd H1 t0 (.tup [.str "swap", .str "front"])) := x1.trans (.of (Ex.new ht0))
    have hb2 : BagAt (upd H1 t0 (.tup [.str "swap", .str "front"])) b e := hb1.mono (Ex.new ht0)
    refine ⟨_, rfl, four_ok (by show 1 ≤ 10; decide), fun t1 ht1 => ?_⟩
    have hb3 := hb2.mono (Ex.new ht1 (o := .tup [.str "front"]))
    refine ⟨_, rfl, _, rfl, b, e, wd, rfl, hb3, hw, fun f0 g0 v2 H2 hf hg hne x3 hb4 hv2 => ?_⟩
    obtain ⟨p2, rfl, hp2⟩ := hv2
    refine ⟨t1, p2, _, _, rfl, rfl, sqT_bag x3 hb3 (SqT.of upd_same), hp2, sz_of (by show 3 ≤ _; decide), (fun z => by cases z), (fun _ z => by cases z), fun _ _ t3 ht3 => ?_⟩
    exact q (.front f0 g0) _ _ ⟨hf, hg, hne⟩ (((x2.trans (.of (Ex.new ht1))).trans x3).trans (.of (Ex.new ht3))) (hb4.mono (Ex.new ht3)) (TupV.new upd_same)
  rcases List.mem_cons.mp hv with rfl | hv
  · refine ⟨_, rfl, rfl, false, congrArg V.bl (by decide +kernel : decide (V.str "halve" = V.str "all") = false), iteF ?_⟩
    refine ⟨_, rfl, rfl, false, congrArg V.bl (by decide +kernel : decide (V.str "halve" = V.str "up") = false), iteF ?_⟩
    refine ⟨_, rfl, two_ok, fun t0 ht0 => ⟨t0, _, rfl, .inr (SqT.of upd_same), rfl, (by decide +kernel), false, congrArg V.bl (by decide +kernel : inV (.str "halve") [.str "swap", .str "front"] = false), iteF ?_⟩⟩
    have x2 : ExB b H (upd H1 t0 (.tup [.str "swap", .str "front"])) := x1.trans (.of (Ex.new ht0))
    have hb2 : BagAt (upd H1 t0 (.tup [.str "swap", .str "front"])) b e := hb1.mono (Ex.new ht0)
    refine ⟨_, rfl, rfl, false, congrArg V.bl (by decide +kernel : decide (V.str "halve" = V.str "wheel") = false), iteF ?_⟩
    refine ⟨_, rfl, four_ok (by show 1 ≤ 10; decide), fun t1 ht1 => ?_⟩
    exact q .halve _ _ trivial (x2.trans (.of (Ex.new ht1))) (hb2.mono (Ex.new ht1)) (TupV.new upd_same)
  rcases List.mem_cons.mp hv with rfl | hv
  · refine ⟨_, rfl, rfl, false, congrArg V.bl (by decide +kernel : decide (V.str "pair" = V.str "all") = false), iteF ?_⟩
    refine ⟨_, rfl, rfl, false, congrArg V.bl (by decide +kernel : decide (V.str "pair" = V.str "up") = false), iteF ?_⟩
    refine ⟨_, rfl, two_ok, fun t0 ht0 => ⟨t0, _, rfl, .inr (SqT.of upd_same), rfl, (by decide +kernel), false, congrArg V.bl (by decide +kernel : inV (.str "pair") [.str "swap", .str "front"] = false), iteF ?_⟩⟩
    have x2 : ExB b H (upd H1 t0 (.tup [.str "swap", .str "front"])) := x1.trans (.of (Ex.new ht0))
    have hb2 : BagAt (upd H1 t0 (.tup [.str "swap", .str "front"])) b e := hb1.mono (Ex.new ht0)
    refine ⟨_, rfl, rfl, false, congrArg V.bl (by decide +kernel : decide (V.str "pair" = V.str "wheel") = false), iteF ?_⟩
    refine ⟨_, rfl, four_ok (by show 1 ≤ 10; decide), fun t1 ht1 => ?_⟩
    exact q .pair _ _ trivial (x2.trans (.of (Ex.new ht1))) (hb2.mono (Ex.new ht1)) (TupV.new upd_same)
  rcases List.mem_cons.mp hv with rfl | hv
  · refine ⟨_, rfl, rfl, false, congrArg V.bl (by decide +kernel : decide (V.str "others" = V.str "all") = false), iteF ?_⟩
    refine ⟨_, rfl, rfl, false, congrArg V.bl (by decide +kernel : decide (V.str "others" = V.str "up") = false), iteF ?_⟩
    refine ⟨_, rfl, two_ok, fun t0 ht0 => ⟨t0, _, rfl, .inr (SqT.of upd_same), rfl, (by decide +kernel), false, congrArg V.bl (by decide +kernel : inV (.str "others") [.str "swap", .str "front"] = false), iteF ?_⟩⟩
    have x2 : ExB b H (upd H1 t0 (.tup [.str "swap", .str "front"])) := x1.trans (.of (Ex.new ht0))
    have hb2 : BagAt (upd H1 t0 (.tup [.str "swap", .str "front"])) b e := hb1.mono (Ex.new ht0)
    refine ⟨_, rfl, rfl, false, congrArg V.bl (by decide +kernel : decide (V.str "others" = V.str "wheel") = false), iteF ?_⟩
    refine ⟨_, rfl, four_ok (by show 1 ≤ 10; decide), fun t1 ht1 => ?_⟩
    exact q .others _ _ trivial (x2.trans (.of (Ex.new ht1))) (hb2.mono (Ex.new ht1)) (TupV.new upd_same)
  rcases List.mem_cons.mp hv with rfl | hv
  · refine ⟨_, rfl, rfl, false, congrArg V.bl (by decide +kernel : decide (V.str "fill" = V.str "all") = false), iteF ?_⟩
    refine ⟨_, rfl, rfl, false, congrArg V.bl (by decide +kernel : decide (V.str "fill" = V.str "up") = false), iteF ?_⟩
    refine ⟨_, rfl, two_ok, fun t0 ht0 => ⟨t0, _, rfl, .inr (SqT.of upd_same), rfl, (by decide +kernel), false, congrArg V.bl (by decide +kernel : inV (.str "fill") [.str "swap", .str "front"] = false), iteF ?_⟩⟩
    have x2 : ExB b H (upd H1 t0 (.tup [.str "swap", .str "front"])) := x1.trans (.of (Ex.new ht0))
    have hb2 : BagAt (upd H1 t0 (.tup [.str "swap", .str "front"])) b e := hb1.mono (Ex.new ht0)
    refine ⟨_, rfl, rfl, false, congrArg V.bl (by decide +kernel : decide (V.str "fill" = V.str "wheel") = false), iteF ?_⟩
    refine ⟨_, rfl, four_ok (by show 1 ≤ 10; decide), fun t1 ht1 => ?_⟩
    exact q .fill _ _ trivial (x2.trans (.of (Ex.new ht1))) (hb2.mono (Ex.new ht1)) (TupV.new upd_same)
  · cases hv
end
end Pp
end

section
set_option Elab.async false
set_option linter.all false
set_option maxRecDepth 100000
set_option maxHeartbeats 4000000
namespace Pp
open PySem PySem.Spec PyProof.Rows L2 Evl

section
variable {P : Program} {w : World} {K : PySem.W.Frag} {mg : Str → Option Value} {base : Heap} {SC LC : Addr}
theorem CallsV.len {H : Hp} {rs : List V} {cs : List Cl} (h : CallsV K H rs cs) : rs.length = cs.length := calls_len h
theorem sc_calls2 : FnScope ["_law_bag_here", "_law_files", "_law_kinds", "_law_many", "_law_found", "_law_left", "_law_k", "_law_call_here", "_law_size"] ["_law_bag_here", "_law_files", "_law_kinds", "_law_many"] (defScope (top 42)) := ⟨rfl, rfl, rfl, by decide +kernel, rfl, by decide +kernel, by decide +kernel⟩
theorem ca_calls2 (T : Txt w K mg SC LC) (D : Df K mg "_law_calls" (top 42)) (c__law_call : Ca P w K mg base 4 "_law_call" (spCall K)) : Ca P w K mg base 5 "_law_calls" (spCalls2 K) := by
  refine ca_of (k := 4) D sc_calls2 (fun _ _ _ _ _ _ us hl => match us, hl with | [_, _, _, _], _ => rfl) (fun vs H Q E h => by obtain ⟨b, e, l, w, n, rfl, _⟩ := h; rfl) (fun f cdv A outer s H vs Q E hr h => ?_)
  obtain ⟨b, e, l, wd, n, rfl, hb, hl, hw, n0, n1, q⟩ := h
  refine ⟨_, (pss_cons (ps_par rfl sc_calls2.nd (i := 4) (j := 5) rfl rfl (by decide) rfl rfl (pa_cons (pe_lst pa_nil) (pa_cons pe_int pa_nil)) (by rfl))
      (pss_cons (ps_for PassesOwn.never rfl (pi_range1 (by rfl) T.range (pa_cons (pv 3) pa_nil)) (pg_name (i := 6) sc_calls2.nd rfl (Or.inl rfl)) (pss_cons (ps_set (i := 7) sc_calls2.nd rfl (Or.inl rfl) (C8.pe_c c__law_call hr (by decide) (by rfl) (pa_cons (pv 0) (pa_cons (pv 1) (pa_cons (pv 2) (pa_cons pe_int pa_nil))))))
      (pss_cons (ps_cut (ps_set (i := 8) sc_calls2.nd rfl (Or.inl rfl) (pe_ifExp (pt_cmpR op_in_seq (pe_ix ix_tup (pv 7) pe_int (fun _ _ => rfl)) (pe_tup (pa_cons pe_str (pa_cons pe_str (pa_cons pe_str pa_nil)))) (by rfl)) (pe_callB call_abs (by rfl) T.abs boot_abs' (pa_cons (pe_ix ix_tup (pv 7) (pe_un un_neg pe_int) (fun _ _ => rfl)) pa_nil)) pe_int)))
      (pss_one (ps_if (pt_cmpR op_le (pv 8) (pv 5) (nomark _)) (pss_cons (ps_expr (pe_bm PySem.F.plainAttrs_list PySem.F.slot_list_append PySem.F.type_list_append mt_append (pv 4) (pa_cons (pv 7) pa_nil)))
      (pss_one (ps_aug (i := 5) sc_calls2.nd rfl (Or.inl rfl) (pv 8) ip_sub))) pss_nil)))))
      (pss_one (ps_ret (pv 4))))), ?_⟩
  refine ⟨Nat.zero_le _, fun p hp => ?_⟩
  have x0 : Ex H (upd H p (.lst [])) := Ex.new hp
  have np := hb.new hp
  refine ⟨_, _, rfl, _, rfl, _, rfl, by omega, by omega, ?_⟩
  refine for_range (lo := 0) (n := n.toNat) (fun i σ' H' => ∃ (y1 y2 y3 : Option V) (lf : Int) (rs : List V) (cs : List Cl), σ' = [some (.ref b), some (.int wd), some (.ref l), some (.int n), some (.ref p), some (.int lf), y1, y2, y3] ∧ ExB b H H' ∧ BagAt H' b e ∧ H' p = some (.lst rs) ∧ CallsV K H' rs cs ∧ Oks wd cs ∧ cs.length ≤ i) ⟨none, none, none, 15, [], [], rfl, .of x0, hb.mono x0, upd_same, .nil, (fun c h => by cases h), Nat.le_refl _⟩ (fun i σ' H' hi pr => ?_) (fun σ' H' pr => ?_)
  · obtain ⟨y1, y2, y3, lf, rs, cs, rfl, x1, hb1, hp1, hcs, ok, hlen⟩ := pr
    refine ⟨_, rfl, _, rfl, _, rfl, b, e, l, wd, 4, rfl, hb1, sqL_bag x1 hb kinds_noref hl, hw, by decide, by decide, fun c v H2 okc x2 hb2 hv => ?_⟩
    obtain ⟨p0, rfl, hp0⟩ := id hv
    have hp2 := x2 p _ np.1 hp1
    have hcs2 := CallsV.bag x2 hb1 hcs
    refine ⟨fun σ' H' => ∃ z : Int, σ' = [some (.ref b), some (.int wd), some (.ref l), some (.int n), some (.ref p), some (.int lf), some (.int (0 + (i : Int))), some (.ref p0), some (.int z)] ∧ Ex H2 H', ?_, ?_⟩
    · refine ⟨_, rfl, p0, _, _, _, rfl, rfl, hp0, at_tag c, four_ok (by show 3 ≤ 10; decide), fun t ht => ⟨t, _, rfl, .inr (SqT.of upd_same), rfl, by decide +kernel, decide ((kn c).length = 1), congrArg V.bl (tag_num c), ?_⟩⟩
      have x3 : Ex H2 (upd H2 t (.tup [.str "all", .str "up", .str "wheel"])) := Ex.new ht
      have num : ∀ (a : List V) (k : Int), valsOf c = a ++ [.int k] → atI (valsOf c) (-1) = some (.int k) := fun a k h => by rw [h]; exact ix_last
      cases c with
      | all k => exact iteT ⟨_, rfl, 1, rfl, p0, _, _, _, rfl, rfl, ex_t x3 hp0, num [.str "all"] k rfl, k, rfl, _, rfl, x3⟩
      | up f k => exact iteT ⟨_, rfl, 1, rfl, p0, _, _, _, rfl, rfl, ex_t x3 hp0, num [.str "up", .int f] k rfl, k, rfl, _, rfl, x3⟩
      | wheel f g k => exact iteT ⟨_, rfl, 1, rfl, p0, _, _, _, rfl, rfl, ex_t x3 hp0, num [.str "wheel", .int f, .int g] k rfl, k, rfl, _, rfl, x3⟩
      | _ => exact iteF ⟨_, rfl, x3⟩
    · rintro _ H3 ⟨z, rfl, x3⟩
      refine ⟨_, rfl, _, rfl, _, _, rfl, rfl, _, rfl, ite2 (fun _ => ?_) (fun _ => ?_)⟩
      · refine ⟨_, rfl, .inl ⟨rfl, _, SqL.of (x3 _ _ hp2)⟩, _, rfl, p, _, _, rfl, rfl, x3 _ _ hp2, ?_, ?_⟩
        · have := hcs.len
          exact sz_lt (by omega)
        refine ⟨_, rfl, _, rfl, _, _, rfl, rfl, ?_⟩
        refine ⟨_, _, _, _, rs ++ [.ref p0], cs ++ [c], rfl, ((x1.trans x2).trans (.of x3)).both hp .upd, (hb2.mono x3).upd np, upd_same, Paired.app (CallsV.b .upd (x3 _ _ hp2) noTup_lst (hcs2.mono x3)) (.cons ((hv.mono x3).b .upd (x3 _ _ hp2) noTup_lst) .nil), ?_, ?_⟩
        · exact ok.append (fun c' h => by rw [List.mem_singleton] at h; subst h; exact okc)
        · rw [List.length_append, List.length_singleton]; omega
      · exact ⟨_, _, _, _, rs, cs, rfl, (x1.trans x2).trans (.of x3), hb2.mono x3, x3 _ _ hp2, hcs2.mono x3, ok, by omega⟩
  · obtain ⟨y1, y2, y3, lf, rs, cs, rfl, x1, hb1, hp1, hcs, ok, hlen⟩ := pr
    exact ⟨_, rfl, q cs p rs _ ok (by omega) x1 hb1 hp1 hcs hp⟩
end
end Pp
end

section
set_option Elab.async false
set_option linter.all false
set_option maxRecDepth 100000
set_option maxHeartbeats 4000000
namespace Pp

/-! ### every pupil stands once -/
theorem whole_pick {N : Nat} {t : Nat → Nat} {ns : List Int} (h : Whole N ns) (lt : ∀ j, j < N → t j < N) (inj : ∀ i j, i < N → j < N → t i = t j → i = j) : Whole N (pick N t ns) := by
  obtain ⟨hl, nd, rg⟩ := h
  have gd : ∀ j (hj : j < N), ns.getD (t j) 0 = ns[t j]'(by rw [hl]; exact lt j hj) := fun j hj => by
    rw [List.getD_eq_getElem?_getD, List.getElem?_eq_getElem (by rw [hl]; exact lt j hj)]
    rfl
  refine ⟨pick_len _ _ _, ?_, ?_⟩
  · refine List.pairwise_iff_getElem.mpr fun i j hi hj hij => ?_
    have hi' : i < N := by rw [pick_len] at hi; exact hi
    have hj' : j < N := by rw [pick_len] at hj; exact hj
    have ge : ∀ i (hi : i < (pick N t ns).length), (pick N t ns)[i] = ns.getD (t i) 0 := fun i hi => by
      rw [← pick_get (N := N) (t := t) (ns := ns) (by rw [pick_len] at hi; exact hi), List.getD_eq_getElem?_getD, List.getElem?_eq_getElem hi]
      rfl
    rw [ge i hi, ge j hj, gd i hi', gd j hj']
    have ne : t i ≠ t j := fun z => by have := inj i j hi' hj' z; omega
    have pw := List.pairwise_iff_getElem.mp nd
    rcases Nat.lt_or_gt_of_ne ne with h | h
    · exact pw _ _ (by rw [hl]; exact lt i hi') (by rw [hl]; exact lt j hj') h
    · exact (pw _ _ (by rw [hl]; exact lt j hj') (by rw [hl]; exact lt i hi') h).symm
  · intro x hx
    unfold pick at hx
    obtain ⟨j, hj, rfl⟩ := List.mem_map.mp hx
    have hj' := List.mem_range.mp hj
    rw [gd j hj']
    exact rg _ (List.getElem_mem _)
theorem whole_stand {w d : Int} {cs : List Cl} {ns : List Int} (hw : w = 2 ∨ w = 3) (hd : 0 < d) (hc : Oks w cs) (h : Whole (many w d) ns) : Whole (many w d) (stand w d cs ns) := by
  refine whole_pick h (fun j hj => goal_lt hw hd hc.invs hj) (fun i j hi hj e => ?_)
  rw [← goal_inv' hw hd hc hi, e, goal_inv' hw hd hc hj]
theorem whole_times {w d : Int} {cs : List Cl} {ns : List Int} (hw : w = 2 ∨ w = 3) (hd : 0 < d) (hc : Oks w cs) (h : Whole (many w d) ns) : ∀ k, Whole (many w d) (times (stand w d cs) k ns)
  | 0 => h
  | k + 1 => by rw [times_succ]; exact whole_stand hw hd hc (whole_times hw hd hc h k)
theorem whole_rounds {w d : Int} {cs : List Cl} {ns : List Int} (hw : w = 2 ∨ w = 3) (hd : 0 < d) (hc : Oks w cs) (h : Whole (many w d) ns) (k : Int) : Whole (many w d) (rounds w d cs k ns) := by
  rw [rounds_eq]
  split
  · exact whole_times hw hd hc h _
  · exact whole_times hw hd hc.invs h _
theorem home_get (N i : Nat) (h : i < (home N).length) : (home N)[i] = (i : Int) := by simp [home]
theorem sorted_home {N : Nat} {ns : List Int} (h : Whole N ns) (so : ns.Pairwise (· ≤ ·)) : ns = home N := by
  obtain ⟨hl, nd, rg⟩ := h
  subst hl
  have st : ∀ i j (hi : i < ns.length) (hj : j < ns.length), i < j → ns[i] < ns[j] := fun i j hi hj hij => by
    have a := List.pairwise_iff_getElem.mp so i j hi hj hij
    have b := List.pairwise_iff_getElem.mp nd i j hi hj hij
    omega
  have lo : ∀ i (hi : i < ns.length), (i : Int) ≤ ns[i] := by
    intro i
    induction i with
    | zero => exact fun hi => (rg _ (List.getElem_mem hi)).1
    | succ i ih =>
      intro hi
      have a := ih (by omega)
      have b := st i (i + 1) (by omega) hi (by omega)
      omega
  have up : ∀ k i (hi : i < ns.length), i + k + 1 = ns.length → ns[i] ≤ (i : Int) := by
    intro k
    induction k with
    | zero =>
      intro i hi e
      have a := (rg _ (List.getElem_mem hi)).2
      omega
    | succ k ih =>
      intro i hi e
      have a := ih (i + 1) (by omega) (by omega)
      have b := st i (i + 1) (by omega) (by omega) (by omega)
      omega
  refine List.ext_getElem (by rw [home_len]) fun i h1 h2 => ?_
  have a := lo i h1
  have b := up (ns.length - i - 1) i h1 (by omega)
  rw [home_get]
  omega
theorem whole_perm {N : Nat} {ns ms : List Int} (p : List.Perm ms ns) (h : Whole N ns) : Whole N ms := ⟨p.length_eq.trans h.1, p.nodup_iff.mpr h.2.1, fun x hx => h.2.2 x (p.mem_iff.mp hx)⟩
/-- the goals of two scripts, one behind the other -/
theorem mvl_product {w d : Int} {cs ds : List Cl} (hw : w = 2 ∨ w = 3) (hd : 0 < d) (hc : Oks w cs) : mvl w d (cs ++ ds) = (mvl w d cs).map fun g => (mvl w d ds).getD g.toNat 0 := by
  unfold mvl
  rw [List.map_map]
  refine List.map_congr_left fun n hn => ?_
  have hn' := List.mem_range.mp hn
  have g1 := goal_lt hw hd hc hn'
  show (goal w d (cs ++ ds) n : Int) = ((List.range (many w d)).map fun n => (goal w d ds n : Int)).getD (goal w d cs n : Int).toNat 0
  rw [goal_append hw hd hc hn', Int.toNat_natCast, List.getD_eq_getElem?_getD, List.getElem?_map, List.getElem?_range g1]
  rfl
end Pp
end

section
set_option Elab.async false
set_option linter.all false
set_option maxRecDepth 100000
set_option maxHeartbeats 4000000
namespace Pp
open PySem PySem.Spec PyProof.Rows L2 Evl

/-- f() -/
theorem pe_c0 {X : Cx} {j k : Nat} {x : Str} {sp : Sp} {dvs : List V} {p pos : Pos} (c : C8.Cal X.prog X.w X.K X.mg X.base k x sp dvs) (hr : Room j X.A) (hk : k ≤ j) (hg : Gl X x)
    (hdb : (x == ("__debug__" : Str)) = false := by decide) : PE X (.Call (.Name x p) [] [] pos) (tCall sp dvs C8.E0 tNil) := by
  obtain ⟨f, fd, ps, ds, F, hm, kp, b, d⟩ := c.ex
  exact pe_call0 F (hr.mono hk) hg hm kp b d C8.pass0 hdb
/-! ### the law's own: _law_bag, _law_begun, _law_behind -/
def spBag (K : PySem.W.Frag) : Sp := fun vs H Q _ => ∃ (l : Addr) (ns : List Int), vs = [.ref l] ∧ SqL K H l (ns.map V.int) ∧ ns.length ≤ 63 ∧ ∀ b e H', Ex H H' → BagAt H' b e → Q (.ref b) H'
def spBegun (K : PySem.W.Frag) (LC : Addr) : Sp := fun vs H Q _ => ∃ (b e : Addr) (w d : Int), vs = [.ref b, .int w, .int d] ∧ BagAt H b e ∧ (w = 2 ∨ w = 3) ∧ 1 ≤ d ∧ d ≤ 400 ∧
  ∀ v ns H', ExB b H H' → BagAt H' b e → Whole (many w d) ns → LineV K LC H' v w d ns → Q v H'
def spBehind (K : PySem.W.Frag) (SC LC : Addr) : Sp := fun vs H Q _ => ∃ (u v : V) (w d k : Int) (cs : List Cl) (ns : List Int), vs = [u, v, .int k] ∧ LineV K LC H u w d ns ∧ ScriptV K SC H v w cs ∧ (w = 2 ∨ w = 3) ∧ 1 ≤ d ∧ d ≤ 400 ∧ Oks w cs ∧ cs.length ≤ 1000 ∧ (-100 ≤ k ∧ k ≤ 100) ∧ ns.length = many w d ∧
  RetP (fun v' H' => LineV K LC H' v' w d (rounds w d cs k ns)) H Q
section
variable {P : Program} {w : World} {K : PySem.W.Frag} {mg : Str → Option Value} {base : Heap} {SC LC : Addr}
theorem no_do (wd d : Int) (l : Addr) : (lf wd d l).lookup ("do" : Str) = none := lf_no _ _ _ (by decide +kernel) (by decide +kernel) (by decide +kernel)
theorem no_go (wd d : Int) (l : Addr) : (lf wd d l).lookup ("go" : Str) = none := lf_no _ _ _ (by decide +kernel) (by decide +kernel) (by decide +kernel)
theorem no_copied (wd d : Int) (l : Addr) : (lf wd d l).lookup ("copied" : Str) = none := lf_no _ _ _ (by decide +kernel) (by decide +kernel) (by decide +kernel)
theorem no_order (wd d : Int) (l : Addr) : (lf wd d l).lookup ("order" : Str) = none := lf_no _ _ _ (by decide +kernel) (by decide +kernel) (by decide +kernel)
theorem sc_begun : FnScope ["_law_bag_here", "_law_files", "_law_rows", "_law_line", "_law_call_here"] ["_law_bag_here", "_law_files", "_law_rows"] (defScope (top 43)) := ⟨rfl, rfl, rfl, by decide +kernel, rfl, by decide +kernel, by decide +kernel⟩
theorem ca_begun (T : Txt w K mg SC LC) (D : Df K mg "_law_begun" (top 43)) (c_Line : MkL P w K mg base LC) (c__law_take : Ca P w K mg base 1 "_law_take" spTake) (c__law_all_kinds : Ca P w K mg base 1 "_law_all_kinds" spKinds) (c__law_calls : Ca P w K mg base 5 "_law_calls" (spCalls2 K)) (m_do : Me P w K mg base 7 LC "do" (spDo K LC)) : Ca P w K mg base 8 "_law_begun" (spBegun K LC) := by
  refine ca_of (k := 7) D sc_begun (fun _ _ _ _ _ _ us hl => match us, hl with | [_, _, _], _ => rfl) (fun vs H Q E h => by obtain ⟨b, e, w, d, rfl, _⟩ := h; rfl) (fun f cdv A outer s H vs Q E hr h => ?_)
  obtain ⟨b, e, wd, d, rfl, hb, hw, hd, hd2, q⟩ := h
  refine ⟨_, (pss_cons (ps_set (i := 3) sc_begun.nd rfl (Or.inl rfl) (C8.pe_mk c_Line hr (by decide) (by rfl) (pa_cons (pv 1) (pa_cons (pv 2) pa_nil))))
      (pss_cons (ps_for PassesOwn.never rfl (pi_list (C8.pe_c c__law_calls hr (by decide) (by rfl) (pa_cons (pv 0) (pa_cons (pv 1) (pa_cons (pe_c0 c__law_all_kinds hr (by decide) (by rfl)) (pa_cons (C8.pe_c c__law_take hr (by decide) (by rfl) (pa_cons (pv 0) (pa_cons pe_int pa_nil))) pa_nil)))))) (pg_name (i := 4) sc_begun.nd rfl (Or.inl rfl)) (pss_one (ps_expr (C8.pe_mt (m_do.met T.clL) hr (by decide) (pv 3) (pa_cons (pv 4) pa_nil)))))
      (pss_one (ps_ret (pv 3))))), ?_⟩
  refine ⟨_, rfl, _, rfl, mk_line (fun x H1 nx x1 s1 => ?_) hw hd hd2⟩
  refine ⟨_, rfl, _, rfl, rfl, fun v2 H2 x2 r2 => ?_⟩
  obtain ⟨kl, rfl, hk⟩ := r2
  have hb2 := (hb.mono x1).mono x2
  refine ⟨_, rfl, b, e, _, rfl, hb2, by decide, by decide, fun r H3 r0 r1 x3 hb3 => ?_⟩
  refine ⟨b, e, kl, wd, r, rfl, hb3, sqL_bag x3 hb2 kinds_noref (SqL.of hk), hw, r0, by omega, fun cs p rs H4 ok len x4 hb4 hp hcs np => ?_⟩
  refine ⟨p, rfl, ⟨_, SqL.of hp⟩, ?_⟩
  have x5 : ExB b H H4 := ((ExB.of (x1.trans x2)).trans x3).trans x4
  refine for_list (K := K) (xs := rs) (fun i σ' H' => ∃ (y : Option V) (ns : List Int), σ' = [some (.ref b), some (.int wd), some (.int d), some (.ref x), y] ∧ ExB b H H' ∧ BagAt H' b e ∧ H' p = some (.lst rs) ∧ CallsV K H' rs cs ∧ Whole (many wd d) ns ∧ LineV K LC H' (.ref x) wd d ns)
    ⟨none, home (many wd d), rfl, x5, hb4, hp, hcs, whole_home _, ((s1.mono x2).b x3 hb2).b x4 hb3⟩ (fun i σ' H' _ pr => ?_) (fun i v σ' H' hx pr => ?_) (fun σ' H' pr => ?_)
  · obtain ⟨y, ns, rfl, e1, b1, p1, c1, w1, s⟩ := pr
    exact SqL.of p1
  · obtain ⟨y, ns, rfl, e1, b1, p1, c1, w1, s⟩ := pr
    obtain ⟨a, dx, l, ea, ha, hla⟩ := id s
    cases ea
    obtain ⟨c, hc, hv⟩ := Paired.get c1 hx
    have okc := ok c (List.mem_of_getElem? hc)
    refine ⟨_, rfl, x, dx, _, rfl, ha, no_do _ _ _, _, rfl, x, v, wd, d, c, ns, rfl, s, hv, hw, hd, hd2, okc, w1.1, fun H5 e5 s5 => ?_⟩
    refine ⟨_, _, rfl, e1.both nx e5, b1.exB e5 ha (fun _ z => nomatch z), e5 p _ (ne_of p1 ha fun z => nomatch z) p1, CallsV.b e5 ha noTup_ins c1, whole_stand hw (by omega) (fun c' h => by rw [List.mem_singleton] at h; subst h; exact okc) w1, s5⟩
  · obtain ⟨y, ns, rfl, e1, b1, p1, c1, w1, s⟩ := pr
    exact ⟨_, rfl, q _ ns _ e1 b1 w1 s⟩

theorem sc_behind : FnScope ["_law_line", "_law_some", "_law_rounds", "_law_later"] ["_law_line", "_law_some", "_law_rounds"] (defScope (top 44)) := ⟨rfl, rfl, rfl, by decide +kernel, rfl, by decide +kernel, by decide +kernel⟩
theorem ca_behind (T : Txt w K mg SC LC) (D : Df K mg "_law_behind" (top 44)) (m_copied : Me P w K mg base 5 LC "copied" (spCopied K LC)) (m_go : Me P w K mg base 7 LC "go" (spGo K SC LC)) : Ca P w K mg base 8 "_law_behind" (spBehind K SC LC) := by
  refine ca_of (k := 7) D sc_behind (fun _ _ _ _ _ _ us hl => match us, hl with | [_, _, _], _ => rfl) (fun vs H Q E h => by obtain ⟨u, v, w, d, k, cs, ns, rfl, _⟩ := h; rfl) (fun f cdv A outer s H vs Q E hr h => ?_)
  obtain ⟨u, v, wd, d, k, cs, ns, rfl, hs, hc, hw, hd, hd2, ok, len, hk, hn, q⟩ := h
  obtain ⟨a, dx, l, rfl, ha, hla⟩ := id hs
  refine ⟨_, (pss_cons (ps_set (i := 3) sc_behind.nd rfl (Or.inl rfl) (C8.pe_mt0 (m_copied.met T.clL) hr (by decide) (pv 0)))
      (pss_cons (ps_expr (C8.pe_mt (m_go.met T.clL) hr (by decide) (pv 3) (pa_cons (pv 1) (pa_cons (pv 2) pa_nil))))
      (pss_one (ps_ret (pv 3))))), ?_⟩
  refine ⟨_, rfl, a, dx, _, rfl, ha, no_copied _ _ _, .ref a, wd, d, ns, rfl, hs, hw, hd, hd2, fun v1 H1 x1 r1 => ?_⟩
  obtain ⟨a1, rfl, na, s1⟩ := r1
  obtain ⟨a1', dx1, l1, e1, ha1, hl1⟩ := id s1
  cases e1
  refine ⟨_, rfl, a1, dx1, _, rfl, ha1, no_go _ _ _, _, rfl, _, rfl, a1, v, wd, d, k, cs, ns, rfl, s1, hc.mono x1, hw, hd, hd2, ok, len, hk, hn, fun H2 x2 s2 => ?_⟩
  exact ⟨_, rfl, q _ _ (x2.ex x1 na) s2⟩


end
end Pp
end

section
set_option Elab.async false
set_option linter.all false
set_option maxRecDepth 100000
set_option maxHeartbeats 4000000
namespace Pp
open PySem PySem.Spec PyProof.Rows L2 Evl

/-! ### the law's own: _law_bag, _law_places_right -/
def spRight (K : PySem.W.Frag) (SC : Addr) : Sp := fun vs H Q _ => ∃ (b e : Addr) (u v : V) (w d : Int) (cs ds : List Cl), vs = [.ref b, u, v, .int w, .int d] ∧ BagAt H b e ∧ ScriptV K SC H u w cs ∧ ScriptV K SC H v w ds ∧ (w = 2 ∨ w = 3) ∧ 1 ≤ d ∧ d ≤ 400 ∧ Oks w cs ∧ Oks w ds ∧ cs.length + ds.length ≤ 1000 ∧
  ∀ H', ExB b H H' → BagAt H' b e → Q (.bl true) H'
def absI (x : Int) : Int := if x < 0 then -x else x
theorem absI_nn (x : Int) : 0 ≤ absI x := by unfold absI; split <;> omega
theorem cut_ints (ns : List Int) : ∃ ms : List Int, cutV (ns.map V.int) none (some 63) = ms.map V.int := by
  unfold cutV
  exact ⟨_, by rw [← List.map_drop, ← List.map_take]⟩
theorem mul_name : PySem.dunder (Operator.Mult).info.2 = "__mul__" := by decide +kernel
section
variable {P : Program} {w : World} {K : PySem.W.Frag} {mg : Str → Option Value} {base : Heap} {SC LC : Addr}
theorem sc_bag : FnScope ["_law_script", "_law_cell"] ["_law_script"] (defScope (top 34)) := ⟨rfl, rfl, rfl, by decide +kernel, rfl, by decide +kernel, by decide +kernel⟩
theorem ca_bag (T : Txt w K mg SC LC) (D : Df K mg "_law_bag" (top 34)) : Ca P w K mg base 1 "_law_bag" (spBag K) := by
  refine ca_of (k := 0) D sc_bag (fun _ _ _ _ _ _ us hl => match us, hl with | [_], _ => rfl) (fun vs H Q E h => by obtain ⟨l, ns, rfl, _⟩ := h; rfl) (fun f cdv A outer s H vs Q E hr h => ?_)
  obtain ⟨l, ns, rfl, hl, hlen, q⟩ := h
  refine ⟨_, (pss_one (ps_ret (pe_lst (pa_cons pe_int (pa_cons pe_int (pa_cons pe_int (pa_cons (pe_lc (own := [("_law_cell", 1)]) (g := gName 1) (tt := tYes) rfl sc_bag.nd (pi_list (pe_slice sl_list (pv 0) po_none (po_some pe_int))) (blkOk_by (own := [("_law_cell", 1)]) (N := ["_law_script", "_law_cell"]) (sc := defScope (top 34)) (by decide +kernel)) (fun _ _ _ _ _ => pg_name (i := 1) sc_bag.nd rfl (Or.inl rfl)) (fun _ _ _ _ _ => pts_nil) (fun _ _ _ _ _ => (pe_callB call_abs (by rfl) T.abs boot_abs' (pa_cons (pv 1) pa_nil)))) pa_nil))))))), ?_⟩
  obtain ⟨ms, em⟩ := cut_ints ns
  have hml : ms.length ≤ 63 := by
    have := cutV_length (ns.map V.int) none (some 63)
    rw [em, List.length_map, List.length_map] at this
    omega
  refine ⟨_, rfl, 63, rfl, l, _, rfl, hl, fun sp hsp => ⟨sp, rfl, ⟨_, SqL.of upd_same⟩, fun D hD => ?_⟩⟩
  rw [em] at hD ⊢
  have x1 : Ex H (upd H sp (.lst (ms.map V.int))) := Ex.new hsp
  have nD := none_of x1 hD
  refine lc_list (K := K) (a := sp) (xs := ms.map V.int) (fun i H' => Ex H H' ∧ H' sp = some (.lst (ms.map V.int)) ∧ H' D = some (.lst (((ms.take i).map absI).map V.int))) ⟨x1.trans (Ex.new hD), (Ex.new hD) _ _ upd_same, upd_same⟩ (fun i H' _ e => SqL.of e.2.1) (fun i x H' hi e => ?_) (fun H' e => ?_)
  · obtain ⟨hi', ee⟩ := List.getElem?_eq_some_iff.mp hi
    rw [List.length_map] at hi'
    have ex : x = V.int (ms[i]'hi') := by rw [← ee, List.getElem_map]
    subst ex
    refine ⟨rfl, ?_⟩
    refine ⟨_, rfl, ms[i], rfl, _, e.2.2, ?_, ?_, ?_, ?_⟩
    · rw [List.length_map, List.length_map, List.length_take]; exact sz_lt (by omega)
    · exact Ex.mut e.1 nD
    · exact Eq.trans (upd_ne (fun z => by rw [z, upd_same] at hD; cases hD)) e.2.1
    · rw [upd_same, List.take_succ_eq_append_getElem hi', List.map_append, List.map_append] <;> rfl
  · obtain ⟨e1, e2, e3⟩ := e
    refine ⟨sz_of (by show 4 ≤ _; decide), fun b hb => ?_⟩
    have e3' := (Ex.new hb (o := .lst [.int 0, .int 1234567891, .int 0, .ref D])) _ _ e3
    refine q b D _ (e1.trans (Ex.new hb)) ⟨0, 1234567891, 0, _, upd_same, e3', by decide, ⟨by decide, by decide⟩, by decide, fun x hx => ?_⟩
    obtain ⟨y, _, rfl⟩ := List.mem_map.mp hx
    exact absI_nn y

theorem sc_right : FnScope ["_law_bag_here", "_law_one_here", "_law_other", "_law_files", "_law_rows", "_law_found", "_law_goals", "_law_goal", "_law_place"] ["_law_bag_here", "_law_one_here", "_law_other", "_law_files", "_law_rows"] (defScope (top 45)) := ⟨rfl, rfl, rfl, by decide +kernel, rfl, by decide +kernel, by decide +kernel⟩
theorem ca_right (T : Txt w K mg SC LC) (D : Df K mg "_law_places_right" (top 45)) (m_mul : Me P w K mg base 6 SC "__mul__" (spMul K SC)) (c__law_take : Ca P w K mg base 1 "_law_take" spTake) (c_moves_of : Ca P w K mg base 6 "moves_of" (spMovesOf K SC)) (c_number_of : Ca P w K mg base 1 "number_of" (spNum K)) (c_place_of : Ca P w K mg base 1 "place_of" (spPl K)) (c_moved : Ca P w K mg base 5 "moved" (spMvd K SC)) : Ca P w K mg base 7 "_law_places_right" (spRight K SC) := by
  obtain ⟨fM, fdM, psM, FM, bM, _, atM0, fnM⟩ := m_mul.ex
  have atM : PySem.W.findIn K (.ref SC) (PySem.dunder (Operator.Mult).info.2) = some (some (.ref fM)) := by rw [mul_name]; exact atM0
  refine ca_of (k := 6) D sc_right (fun _ _ _ _ _ _ us hl => match us, hl with | [_, _, _, _, _], _ => rfl) (fun vs H Q E h => by obtain ⟨b, e, u, v, w, d, cs, ds, rfl, _⟩ := h; rfl) (fun f cdv A outer s H vs Q E hr h => ?_)
  obtain ⟨b, e, u, v, wd, d, cs, ds, rfl, hb, hu, hv, hw, hd, hd2, oc, od, len, q⟩ := h
  obtain ⟨a1, dx1, t1, rs1, rfl, ha1, ht1, hc1⟩ := id hu
  obtain ⟨a2, dx2, t2, rs2, rfl, ha2, ht2, hc2⟩ := id hv
  obtain ⟨m1, m2⟩ := many_le hw (by omega : 0 < d) (by omega)
  refine ⟨_, (pss_cons (ps_asg (pe_tup (pa_cons (C8.pe_c c_moves_of hr (by decide) (by rfl) (pa_cons (pe_op (op_own2 T.first atM fnM FM (hr.mono (by decide)) bM) (pv 1) (pv 2)) (pa_cons (pv 4) pa_nil))) (pa_cons (pe_lst (pa_cons (C8.pe_c c_moves_of hr (by decide) (by rfl) (pa_cons (pv 1) (pa_cons (pv 4) pa_nil))) (pa_cons (C8.pe_c c_moves_of hr (by decide) (by rfl) (pa_cons (pv 2) (pa_cons (pv 4) pa_nil))) pa_nil))) pa_nil))) (pg_tup rfl (pgs_cons (pg_name (i := 5) sc_right.nd rfl (Or.inl rfl)) (pgs_cons (pg_name (i := 6) sc_right.nd rfl (Or.inr rfl)) pgs_nil))))
      (pss_cons (ps_if (pt_cmpR (op_neD hr.units) (pv 5) (pe_lc (own := [("_law_goal", 7)]) (g := gName 7) (tt := tYes) rfl sc_right.nd (pi_list (pe_ix ix_list (pv 6) pe_int (fun _ _ => rfl))) (blkOk_by (own := [("_law_goal", 7)]) (N := ["_law_bag_here", "_law_one_here", "_law_other", "_law_files", "_law_rows", "_law_found", "_law_goals", "_law_goal", "_law_place"]) (sc := defScope (top 45)) (by decide +kernel)) (fun _ _ _ _ _ => pg_name (i := 7) sc_right.nd rfl (Or.inl rfl)) (fun _ _ _ _ _ => pts_nil) (fun _ _ _ _ _ => (pe_ix (show IxR _ (rIxL K) from ix_list) (pe_ix (show IxR _ (rIxL K) from ix_list) (pv 6) pe_int (fun _ _ => rfl)) (pv 7) (fun _ _ => rfl)))) (nomark _)) pss_never pss_nil)
      (pss_cons (ps_set (i := 8) sc_right.nd rfl (Or.inl rfl) (C8.pe_c c_place_of hr (by decide) (by rfl) (pa_cons (pv 3) (pa_cons (C8.pe_c c__law_take hr (by decide) (by rfl) (pa_cons (pv 0) (pa_cons (pe_op op_mul (pv 3) (pv 4)) pa_nil))) pa_nil))))
      (pss_one (ps_ret (pe_cmpR op_eq (C8.pe_c c_number_of hr (by decide) (by rfl) (pa_cons (pv 3) (pa_cons (C8.pe_c c_moved hr (by decide) (by rfl) (pa_cons (pe_op (op_own2 T.first atM fnM FM (hr.mono (by decide)) bM) (pv 1) (pv 2)) (pa_cons (pv 4) (pa_cons (pv 8) pa_nil)))) pa_nil))) (pe_ix ix_list (pv 5) (C8.pe_c c_number_of hr (by decide) (by rfl) (pa_cons (pv 3) (pa_cons (pv 8) pa_nil))) (fun _ _ => rfl)) (nomark _))))))), ?_⟩
  refine ⟨_, rfl, _, rfl, a1, dx1, _, a2, dx2, _, rfl, rfl, ha1, ha2, .ref a1, .ref a2, wd, cs, ds, rfl, hu, hv, hw, oc, od, len, fun v1 H1 x1 s1 => ?_⟩
  refine ⟨_, rfl, v1, d, wd, _, rfl, s1, hw, by omega, by omega, oc.append od, by rw [List.length_append]; exact len, fun v2 H2 x2 r2 => ?_⟩
  obtain ⟨l1, rfl, h1⟩ := r2
  refine ⟨_, rfl, _, rfl, .ref a1, d, wd, cs, rfl, (hu.mono x1).mono x2, hw, by omega, by omega, oc, by omega, fun v3 H3 x3 r3 => ?_⟩
  obtain ⟨l2, rfl, h2⟩ := r3
  refine ⟨_, rfl, _, rfl, .ref a2, d, wd, ds, rfl, ((hv.mono x1).mono x2).mono x3, hw, by omega, by omega, od, by omega, fun v4 H4 x4 r4 => ?_⟩
  obtain ⟨l3, rfl, h3⟩ := r4
  refine ⟨two_ok, fun g hg => ⟨two_ok, fun t ht => ?_⟩⟩
  have x6 : Ex H4 (upd H4 g (.lst [.ref l2, .ref l3])) := Ex.new hg
  have x7 := x6.trans (Ex.new ht (o := .tup [.ref l1, .ref g]))
  have g7 : (upd (upd H4 g (.lst [.ref l2, .ref l3])) t (.tup [.ref l1, .ref g])) g = some (.lst [.ref l2, .ref l3]) := (Ex.new ht) _ _ upd_same
  have f1 := x7 _ _ (x4 _ _ (x3 _ _ h1))
  have f2 := x7 _ _ (x4 _ _ h2)
  have f3 := x7 _ _ h3
  have x8 : Ex H (upd (upd H4 g (.lst [.ref l2, .ref l3])) t (.tup [.ref l1, .ref g])) := (((x1.trans x2).trans x3).trans x4).trans x7
  refine ⟨t, _, rfl, st_of upd_same, rfl, _, _, rfl, _, _, rfl, rfl, ?_⟩
  revert g7 f1 f2 f3 x8
  generalize upd (upd H4 g (.lst [.ref l2, .ref l3])) t (.tup [.ref l1, .ref g]) = H5
  intro g7 f1 f2 f3 x8
  have lc : (mvl wd d cs).length = many wd d := by have := mvl_len wd d cs; rw [List.length_map] at this; exact this
  have ld : (mvl wd d ds).length = many wd d := by have := mvl_len wd d ds; rw [List.length_map] at this; exact this
  refine ⟨_, rfl, _, rfl, g, _, _, _, rfl, rfl, SqL.of g7, ix_at 0 rfl rfl, l2, rfl, ⟨_, SqL.of f2⟩, fun D hD => ?_⟩
  refine lc_list (K := K) (a := l2) (xs := (mvl wd d cs).map V.int) (fun i H' => Ex H5 H' ∧ H' D = some (.lst ((((mvl wd d cs).take i).map fun z => (mvl wd d ds).getD z.toNat 0).map V.int))) ⟨Ex.new hD, upd_same⟩ (fun i H' _ e => SqL.of (e.1 _ _ f2)) (fun i x H' hi e => ?_) (fun H' e => ?_)
  · have hi0 := hi
    obtain ⟨hi1, rfl⟩ := mvl_at hi
    have g1 := goal_lt hw (by omega : 0 < d) oc hi1
    refine ⟨rfl, ?_⟩
    refine ⟨_, rfl, g, _, _, _, rfl, rfl, SqL.of (e.1 _ _ g7), ix_at 1 rfl rfl, _, rfl, l3, _, _, _, rfl, rfl, SqL.of (e.1 _ _ f3), atI_nat (ints_at (by omega)), _, e.2, ?_, Ex.mut e.1 hD, ?_⟩
    · rw [List.length_map, List.length_map, List.length_take]; exact sz_lt (by omega)
    · have hget : (mvl wd d cs)[i]'(by omega) = (goal wd d cs i : Int) := by
        unfold mvl
        rw [List.getElem_map, List.getElem_range]
      rw [upd_same, List.take_succ_eq_append_getElem (by omega : i < (mvl wd d cs).length), hget, List.map_append, List.map_append]
      show some (HO.lst _) = some (HO.lst (_ ++ [V.int ((mvl wd d ds).getD ((goal wd d cs i : Int)).toNat 0)]))
      rw [Int.toNat_natCast]
  · obtain ⟨e1, e2⟩ := e
    rw [List.length_map, List.take_length, ← mvl_product hw (by omega) oc] at e2
    refine ⟨_, _, dp_ints (SqL.of (e1 _ _ f1)), dp_ints (SqL.of e2), PySem.W.ke_shaped_ints _, PySem.W.ke_shaped_ints _, false, ?_, iteF ?_⟩
    · rw [eqv_ints] <;> rfl
    have x9 := x8.trans e1
    have hb1 := hb.mono x9
    have em : wd * d = (many wd d : Int) := by rw [Int.mul_comm]; exact m2
    have mp : 0 < many wd d := by
      have : wd * d = wd * d := rfl
      rcases hw with rfl | rfl <;> omega
    refine ⟨_, rfl, _, rfl, _, rfl, _, rfl, _, _, rfl, rfl, .inr ⟨by omega, by omega⟩, b, e, _, rfl, hb1, ?_, ?_, fun r H6 r0 r1 x10 hb2 => ?_⟩
    · rw [em]; omega
    · rw [em]; omega
    rw [em] at r1
    obtain ⟨j, rfl⟩ := Int.eq_ofNat_of_zero_le r0
    have hj : j < many wd d := by omega
    have hin : In wd d (pl wd (j : Int)) := pl_in hw (by omega) (by omega)
    refine ⟨wd, (j : Int), rfl, hw, fun v5 H7 x11 p5 => ?_⟩
    have nb1 : l1 ≠ b := by
      obtain ⟨n0, n1, n2, xs, g1, _⟩ := hb1
      exact BagAt.ne g1 (e1 _ _ f1)
    have f1' := x11 _ _ (x10 l1 _ nb1 (e1 _ _ f1))
    have hu7 := ((hu.mono x9).b x10 hb1).mono x11
    have hv7 := ((hv.mono x9).b x10 hb1).mono x11
    obtain ⟨a1', dx1', t1', rs1', ea1, ha1', _, _⟩ := id hu7
    cases ea1
    obtain ⟨a2', dx2', t2', rs2', ea2, ha2', _, _⟩ := id hv7
    cases ea2
    refine ⟨_, rfl, _, rfl, _, rfl, a1, _, _, a2, _, _, rfl, rfl, ha1', ha2', .ref a1, .ref a2, wd, cs, ds, rfl, hu7, hv7, hw, oc, od, len, fun v6 H8 x12 s6 => ?_⟩
    refine ⟨_, rfl, _, rfl, v6, v5, d, wd, _, _, rfl, s6, p5.mono x12, hw, by omega, by omega, hin, oc.append od, by rw [List.length_append]; exact len, fun v7 H9 x13 p7 => ?_⟩
    refine ⟨wd, v7, _, rfl, p7, hw, ?_⟩
    refine ⟨_, rfl, _, rfl, _, rfl, wd, v5, _, rfl, (p5.mono x12).mono x13, hw, ?_⟩
    rw [num_pl, goal_int hw (by omega) (oc.append od) hj]
    have lcd : (mvl wd d (cs ++ ds)).length = many wd d := by have := mvl_len wd d (cs ++ ds); rw [List.length_map] at this; exact this
    have hget : (mvl wd d (cs ++ ds)).getD j 0 = (goal wd d (cs ++ ds) j : Int) := by
      rw [List.getD_eq_getElem?_getD]
      unfold mvl
      rw [List.getElem?_map, List.getElem?_range hj] <;> rfl
    refine ⟨l1, _, _, _, rfl, rfl, SqL.of (x13 _ _ (x12 _ _ f1')), atI_nat (ints_at (by omega)), rfl, ?_⟩
    rw [hget, decide_eq_true rfl]
    exact q _ ((((ExB.of x9).trans x10).trans (.of x11)).trans (.of (x12.trans x13))) ((hb2.mono x11).mono (x12.trans x13))
end
end Pp
end

section
set_option Elab.async false
set_option linter.all false
set_option maxRecDepth 100000
set_option maxHeartbeats 4000000
namespace Pp
open PySem PySem.Spec PyProof.Rows L2 Evl

/-! ### the law -/
/-- the line, the two scripts and a line behind -/
structure Four (K : PySem.W.Frag) (SC LC : Addr) (w d : Int) (ns : List Int) (cs ds : List Cl) (ms : List Int) (vl v1 v2 vb : V) (H : Hp) : Prop where
  l : LineV K LC H vl w d ns
  o : ScriptV K SC H v1 w cs
  r : ScriptV K SC H v2 w ds
  b : LineV K LC H vb w d ms
theorem Four.mono {K : PySem.W.Frag} {SC LC : Addr} {w d : Int} {ns : List Int} {cs ds : List Cl} {ms : List Int} {vl v1 v2 vb : V} {H H' : Hp} (e : Ex H H') (h : Four K SC LC w d ns cs ds ms vl v1 v2 vb H) : Four K SC LC w d ns cs ds ms vl v1 v2 vb H' :=
  ⟨h.l.mono e, h.o.mono e, h.r.mono e, h.b.mono e⟩
theorem Four.bag {K : PySem.W.Frag} {SC LC b e : Addr} {w d : Int} {ns : List Int} {cs ds : List Cl} {ms : List Int} {vl v1 v2 vb : V} {H H' : Hp} (x : ExB b H H') (hb : BagAt H b e) (h : Four K SC LC w d ns cs ds ms vl v1 v2 vb H) : Four K SC LC w d ns cs ds ms vl v1 v2 vb H' :=
  ⟨h.l.b x hb, h.o.b x hb, h.r.b x hb, h.b.b x hb⟩
theorem tms_len (k : Int) (cs : List Cl) : (tms k cs).length = k.natAbs * cs.length := by
  unfold tms reps
  rw [List.length_flatten, List.map_replicate, List.sum_replicate_nat]
  split
  · rfl
  · unfold invs
    rw [List.length_map, List.length_reverse]
theorem tms_le {k : Int} {cs : List Cl} (h1 : -4 ≤ k ∧ k ≤ 4) (h2 : cs.length ≤ 20) : (tms k cs).length ≤ 80 := by
  rw [tms_len]
  exact Nat.le_trans (Nat.mul_le_mul (show k.natAbs ≤ 4 by omega) h2) (by decide)
theorem invs_len (cs : List Cl) : (invs cs).length = cs.length := by
  unfold invs
  rw [List.length_map, List.length_reverse]
/-- two lines that stand alike, compared by != -/
theorem ne_lines {K : PySem.W.Frag} {LC : Addr} {u v : V} {w d : Int} {ns : List Int} {H : Hp} {Q : VK} (hu : LineV K LC H u w d ns) (hv : LineV K LC H v w d ns) (q : Q (.bl false) H) : rOwnNe LC (spLEq K LC) u v H Q := by
  obtain ⟨a, dx, l, rfl, ha, hl⟩ := id hu
  obtain ⟨b, dy, m, rfl, hb, hm⟩ := id hv
  exact ⟨a, dx, _, b, dy, _, rfl, rfl, ha, hb, .ref a, .ref b, w, d, ns, rfl, hu, hv, true, rfl, q⟩
def spLaw (K : PySem.W.Frag) : Sp := fun vs H Q _ => ∃ (l : Addr) (ns : List Int), vs = [.ref l] ∧ SqL K H l (ns.map V.int) ∧ ns.length ≤ 63 ∧ ∀ H', Q (.bl true) H'
section
variable {P : Program} {w : World} {K : PySem.W.Frag} {mg : Str → Option Value} {base : Heap} {SC LC : Addr}
theorem sc_law : FnScope ["_law_script", "_law_bag_here", "_law_turn", "_law_files", "_law_rows", "_law_line", "_law_one_here", "_law_other", "_law_first", "_law_second", "_law_both", "_law_times"] ["_law_script"] (defScope (top 46)) := ⟨rfl, rfl, rfl, by decide +kernel, rfl, by decide +kernel, by decide +kernel⟩
theorem ok_law {f : Addr} {fd : FuncData} (F : Fun K "law" "law" (top 46) f fd) (T : Txt w K mg SC LC) (c_Script : MkS P w K mg base SC) (c__law_bag : Ca P w K mg base 1 "_law_bag" (spBag K)) (c__law_take : Ca P w K mg base 1 "_law_take" spTake) (c__law_all_kinds : Ca P w K mg base 1 "_law_all_kinds" spKinds) (c__law_calls : Ca P w K mg base 5 "_law_calls" (spCalls2 K))
    (c__law_begun : Ca P w K mg base 8 "_law_begun" (spBegun K LC)) (c__law_behind : Ca P w K mg base 8 "_law_behind" (spBehind K SC LC)) (c__law_places_right : Ca P w K mg base 7 "_law_places_right" (spRight K SC))
    (m_mul : Me P w K mg base 6 SC "__mul__" (spMul K SC)) (m_inv : Me P w K mg base 6 SC "__invert__" (spInv K SC)) (m_times : Me P w K mg base 7 SC "times" (spTimes K SC)) (m_eq : Me P w K mg base 1 LC "__eq__" (spLEq K LC)) (m_order : Me P w K mg base 1 LC "order" (spOrder K LC)) : FnOk P w K mg base CX0 9 f fd ["_law_script"] (spLaw K) := by
  obtain ⟨fM, fdM, psM, FM, bM, _, atM0, fnM⟩ := m_mul.ex
  have atM : PySem.W.findIn K (.ref SC) (PySem.dunder (Operator.Mult).info.2) = some (some (.ref fM)) := by rw [mul_name]; exact atM0
  obtain ⟨fI, fdI, psI, FI, bI, _, atI, fnI⟩ := m_inv.ex
  obtain ⟨fE, fdE, psE, FE, bE, _, atE, fnE⟩ := m_eq.ex
  have QE : EqC K LC fE := ⟨T.neL, atE, fnE, T.obL⟩
  refine F.ok (k := 8) sc_law (fun vs H Q E h => ?_) (fun cdv A outer s H vs Q E hr h => ?_)
  · obtain ⟨l, ns, rfl, _⟩ := h
    rfl
  obtain ⟨l, xs, rfl, hl, hlen, q⟩ := h
  refine ⟨_, (pss_cons (ps_set (i := 1) sc_law.nd rfl (Or.inl rfl) (C8.pe_c c__law_bag hr (by decide) (by rfl) (pa_cons (pv 0) pa_nil)))
      (pss_cons (ps_for PassesOwn.never rfl (pi_range1 (by rfl) T.range (pa_cons pe_int pa_nil)) (pg_name (i := 2) sc_law.nd rfl (Or.inl rfl)) (pss_cons (ps_par rfl sc_law.nd (i := 3) (j := 4) rfl rfl (by decide) rfl rfl (pa_cons (pe_op op_add pe_int (C8.pe_c c__law_take hr (by decide) (by rfl) (pa_cons (pv 1) (pa_cons pe_int pa_nil)))) (pa_cons (pe_op op_add pe_int (C8.pe_c c__law_take hr (by decide) (by rfl) (pa_cons (pv 1) (pa_cons pe_int pa_nil)))) pa_nil)) (by rfl))
      (pss_cons (ps_set (i := 5) sc_law.nd rfl (Or.inl rfl) (C8.pe_c c__law_begun hr (by decide) (by rfl) (pa_cons (pv 1) (pa_cons (pv 3) (pa_cons (pv 4) pa_nil)))))
      (pss_cons (ps_set (i := 6) sc_law.nd rfl (Or.inl rfl) (C8.pe_mk c_Script hr (by decide) (by rfl) (pa_cons (pv 3) (pa_cons (C8.pe_c c__law_calls hr (by decide) (by rfl) (pa_cons (pv 1) (pa_cons (pv 3) (pa_cons (pe_c0 c__law_all_kinds hr (by decide) (by rfl)) (pa_cons (C8.pe_c c__law_take hr (by decide) (by rfl) (pa_cons (pv 1) (pa_cons pe_int pa_nil))) pa_nil))))) pa_nil))))
      (pss_cons (ps_set (i := 7) sc_law.nd rfl (Or.inl rfl) (C8.pe_mk c_Script hr (by decide) (by rfl) (pa_cons (pv 3) (pa_cons (C8.pe_c c__law_calls hr (by decide) (by rfl) (pa_cons (pv 1) (pa_cons (pv 3) (pa_cons (pe_c0 c__law_all_kinds hr (by decide) (by rfl)) (pa_cons (C8.pe_c c__law_take hr (by decide) (by rfl) (pa_cons (pv 1) (pa_cons pe_int pa_nil))) pa_nil))))) pa_nil))))
      (pss_cons (ps_par rfl sc_law.nd (i := 8) (j := 9) rfl rfl (by decide) rfl rfl (pa_cons (pe_op op_sub (C8.pe_c c__law_take hr (by decide) (by rfl) (pa_cons (pv 1) (pa_cons pe_int pa_nil))) pe_int) (pa_cons (pe_op op_sub (C8.pe_c c__law_take hr (by decide) (by rfl) (pa_cons (pv 1) (pa_cons pe_int pa_nil))) pe_int) pa_nil)) (by rfl))
      (pss_cons (ps_set (i := 10) sc_law.nd rfl (Or.inl rfl) (C8.pe_c c__law_behind hr (by decide) (by rfl) (pa_cons (C8.pe_c c__law_behind hr (by decide) (by rfl) (pa_cons (pv 5) (pa_cons (pv 6) (pa_cons (pv 8) pa_nil)))) (pa_cons (pv 6) (pa_cons (pv 9) pa_nil)))))
      (pss_cons (ps_if (pt_cmpR (op_ownNe QE FE (hr.mono (by decide)) bE) (pv 10) (C8.pe_c c__law_behind hr (by decide) (by rfl) (pa_cons (pv 5) (pa_cons (pv 6) (pa_cons (pe_op op_add (pv 8) (pv 9)) pa_nil)))) (nomark _)) pss_never pss_nil)
      (pss_cons (ps_if (pt_cmpR (op_ownNe QE FE (hr.mono (by decide)) bE) (pv 10) (C8.pe_c c__law_behind hr (by decide) (by rfl) (pa_cons (C8.pe_c c__law_behind hr (by decide) (by rfl) (pa_cons (pv 5) (pa_cons (pv 6) (pa_cons (pv 9) pa_nil)))) (pa_cons (pv 6) (pa_cons (pv 8) pa_nil)))) (nomark _)) pss_never pss_nil)
      (pss_cons (ps_if (pt_cmpR (op_ownNe QE FE (hr.mono (by decide)) bE) (C8.pe_c c__law_behind hr (by decide) (by rfl) (pa_cons (C8.pe_c c__law_behind hr (by decide) (by rfl) (pa_cons (pv 5) (pa_cons (pv 6) (pa_cons (pv 8) pa_nil)))) (pa_cons (pe_un (un_own (r := ()) atI fnI FI (hr.mono (by decide)) bI) (pv 6)) (pa_cons (pv 8) pa_nil)))) (pv 5) (nomark _)) pss_never pss_nil)
      (pss_cons (ps_if (pt_cmpR (op_ownNe QE FE (hr.mono (by decide)) bE) (C8.pe_c c__law_behind hr (by decide) (by rfl) (pa_cons (pv 5) (pa_cons (pe_op (op_own2 T.first atM fnM FM (hr.mono (by decide)) bM) (pv 6) (pv 7)) (pa_cons pe_int pa_nil)))) (C8.pe_c c__law_behind hr (by decide) (by rfl) (pa_cons (C8.pe_c c__law_behind hr (by decide) (by rfl) (pa_cons (pv 5) (pa_cons (pv 6) (pa_cons pe_int pa_nil)))) (pa_cons (pv 7) (pa_cons pe_int pa_nil)))) (nomark _)) pss_never pss_nil)
      (pss_cons (ps_set (i := 11) sc_law.nd rfl (Or.inl rfl) (pe_op op_sub (C8.pe_c c__law_take hr (by decide) (by rfl) (pa_cons (pv 1) (pa_cons pe_int pa_nil))) pe_int))
      (pss_cons (ps_if (pt_cmpR (op_ownNe QE FE (hr.mono (by decide)) bE) (C8.pe_c c__law_behind hr (by decide) (by rfl) (pa_cons (pv 5) (pa_cons (C8.pe_mt (m_times.met T.clS) hr (by decide) (pv 6) (pa_cons (pv 11) pa_nil)) (pa_cons pe_int pa_nil)))) (C8.pe_c c__law_behind hr (by decide) (by rfl) (pa_cons (pv 5) (pa_cons (pv 6) (pa_cons (pv 11) pa_nil)))) (nomark _)) pss_never pss_nil)
      (pss_cons (ps_if (PW.pt (pw_or (pt_cmpR (op_neD hr.units) (pe_callB cr_sortedI (by rfl) T.sorted boot_sorted' (pa_cons (C8.pe_mt0 (m_order.met T.clL) hr (by decide) (pv 10)) pa_nil)) (pe_listRg rfl (by rfl) T.list (prg_1 (by rfl) T.range (pe_op op_mul (pv 3) (pv 4)))) (nomark _)) (pw_or1 (pt_cmpR (op_ownNe QE FE (hr.mono (by decide)) bE) (C8.pe_c c__law_behind hr (by decide) (by rfl) (pa_cons (pv 5) (pa_cons (pv 6) (pa_cons pe_int pa_nil)))) (pv 5) (nomark _))))) pss_never pss_nil)
      (pss_one (ps_if (pt_not (pt_val (C8.pe_c c__law_places_right hr (by decide) (by rfl) (pa_cons (pv 1) (pa_cons (pv 6) (pa_cons (pv 7) (pa_cons (pv 3) (pa_cons (pv 4) pa_nil)))))))) pss_never pss_nil))))))))))))))))
      (pss_one (ps_ret pe_bl)))), ?_⟩
  refine ⟨_, rfl, l, xs, rfl, hl, hlen, fun b e H1 x1 hb1 => ?_⟩
  refine ⟨_, rfl, by decide, by decide, for_range (lo := 0) (n := 5) (fun i σ' H' => ∃ y2 y3 y4 y5 y6 y7 y8 y9 y10 y11 : Option V, σ' = [some (.ref l), some (.ref b), y2, y3, y4, y5, y6, y7, y8, y9, y10, y11] ∧ BagAt H' b e) ⟨none, none, none, none, none, none, none, none, none, none, rfl, hb1⟩ (fun i σ' H2 hi pr => ?_) (fun σ' H' pr => ?_)⟩
  · clear hb1
    obtain ⟨y2, y3, y4, y5, y6, y7, y8, y9, y10, y11, rfl, hb2⟩ := pr
    refine ⟨_, rfl, b, e, _, rfl, hb2, by decide, by decide, fun r1 H3 r10 r11 x3 hb3 => ?_⟩
    refine ⟨_, _, rfl, rfl, _, rfl, b, e, _, rfl, hb3, by decide, by decide, fun r2 H4 r20 r21 x4 hb4 => ?_⟩
    refine ⟨_, _, rfl, rfl, _, _, rfl, ?_⟩
    have hw : 2 + r1 = 2 ∨ 2 + r1 = 3 := by omega
    have hd : 1 ≤ 1 + r2 := by omega
    have hd2 : 1 + r2 ≤ 400 := by omega
    clear x1
    revert hw hd hd2
    dsimp only
    generalize 2 + r1 = wd
    generalize 1 + r2 = d
    intro hw hd hd2
    have hd0 : 0 < d := by omega
    clear r10 r11 r20 r21 x3 x4 hb3 hb2
    -- the line
    refine ⟨_, rfl, _, rfl, _, rfl, b, e, wd, d, rfl, hb4, hw, hd, hd2, fun vl ns H5 _ hb5 wh sl => ?_⟩
    -- the first script
    refine ⟨_, rfl, _, rfl, _, rfl, rfl, fun vk H6 x6 rk => ?_⟩
    obtain ⟨kl, rfl, hk⟩ := rk
    have hb6 := hb5.mono x6
    refine ⟨_, rfl, b, e, _, rfl, hb6, by decide, by decide, fun n H7 n0 n1 x7 hb7 => ?_⟩
    refine ⟨b, e, kl, wd, n, rfl, hb7, sqL_bag x7 hb6 kinds_noref (SqL.of hk), hw, n0, by omega, fun cs p rs H8 oc lc x8 hb8 hp hcs _ => ?_⟩
    refine mk_scriptA (fun xo H9 _ x9 so => ?_) hw (.inl (SqL.of hp)) hcs oc (by have := hcs.len; omega)
    have sl9 := (((sl.mono x6).b x7 hb6).b x8 hb7).mono x9
    have hb9 := hb8.mono x9
    clear hcs hp hb8 x8 hb7 hk x7 hb6 x6 sl hb5 x9 hb4
    -- the second script
    refine ⟨_, rfl, _, rfl, _, rfl, rfl, fun vk H6 x6 rk => ?_⟩
    obtain ⟨kl2, rfl, hk⟩ := rk
    have hb6 := hb9.mono x6
    refine ⟨_, rfl, b, e, _, rfl, hb6, by decide, by decide, fun n' H7 n0' n1' x7 hb7 => ?_⟩
    refine ⟨b, e, kl2, wd, n', rfl, hb7, sqL_bag x7 hb6 kinds_noref (SqL.of hk), hw, n0', by omega, fun ds p rs H8 od ld x8 hb8 hp hcs _ => ?_⟩
    refine mk_scriptA (fun xr H10 _ x9 sr => ?_) hw (.inl (SqL.of hp)) hcs od (by have := hcs.len; omega)
    have sl10 := (((sl9.mono x6).b x7 hb6).b x8 hb7).mono x9
    have so10 := (((so.mono x6).b x7 hb6).b x8 hb7).mono x9
    have hb10 := hb8.mono x9
    clear hcs hp hb8 x8 hb7 hk x7 hb6 x6 sl9 so x9 hb9
    -- how many rounds
    refine ⟨_, rfl, b, e, _, rfl, hb10, by decide, by decide, fun k1 H3 k10 k11 x3 hb3 => ?_⟩
    refine ⟨_, _, rfl, rfl, _, rfl, b, e, _, rfl, hb3, by decide, by decide, fun k2 H4 k20 k21 x4 hb4 => ?_⟩
    refine ⟨_, _, rfl, rfl, _, _, rfl, ?_⟩
    have b1 : -20 ≤ k1 - 20 ∧ k1 - 20 ≤ 20 := by omega
    have b2 : -20 ≤ k2 - 20 ∧ k2 - 20 ≤ 20 := by omega
    revert b1 b2
    dsimp only
    generalize k1 - 20 = f1
    generalize k2 - 20 = f2
    intro b1 b2
    have sl4 := (sl10.b x3 hb10).b x4 hb3
    have so4 := (so10.b x3 hb10).b x4 hb3
    have sr4 := (sr.b x3 hb10).b x4 hb3
    clear k10 k11 k20 k21 x3 x4 hb3 hb10 sl10 so10 sr
    have hn := wh.1
    have len1 : cs.length ≤ 1000 := by omega
    -- both
    refine ⟨_, rfl, _, rfl, _, rfl, vl, .ref xo, wd, d, f1, cs, ns, rfl, sl4, so4, hw, hd, hd2, oc, len1, by omega, hn, fun va H5 x5 sa => ?_⟩
    refine ⟨_, rfl, _, rfl, va, .ref xo, wd, d, f2, cs, _, rfl, sa, so4.mono x5, hw, hd, hd2, oc, len1, by omega, rounds_len hn, fun vb H6 x6 sb => ?_⟩
    have hb6 := hb4.mono (x5.trans x6)
    have F6 : Four K SC LC wd d ns cs ds (rounds wd d cs f2 (rounds wd d cs f1 ns)) vl (.ref xo) (.ref xr) vb H6 := ⟨sl4.mono (x5.trans x6), so4.mono (x5.trans x6), sr4.mono (x5.trans x6), sb⟩
    clear sl4 so4 sr4 sb sa x5 x6 hb4
    -- both != behind(line, one, first + second)
    refine ⟨_, rfl, _, rfl, _, rfl, _, rfl, _, rfl, _, _, rfl, rfl, vl, .ref xo, wd, d, _, cs, ns, rfl, F6.l, F6.o, hw, hd, hd2, oc, len1, by omega, hn, fun v7 H7 x7 s7 => ?_⟩
    rw [← rounds_add hw hd0 oc hn] at s7
    have F7 := F6.mono x7
    have hb7 := hb6.mono x7
    clear F6 hb6 x7
    refine ne_lines F7.b s7 ⟨false, rfl, iteF ?_⟩
    -- both != behind(behind(line, one, second), one, first)
    refine ⟨_, rfl, _, rfl, _, rfl, _, rfl, vl, .ref xo, wd, d, f2, cs, ns, rfl, F7.l, F7.o, hw, hd, hd2, oc, len1, by omega, hn, fun v8 H8 x8 s8 => ?_⟩
    refine ⟨_, rfl, _, rfl, v8, .ref xo, wd, d, f1, cs, _, rfl, s8, F7.o.mono x8, hw, hd, hd2, oc, len1, by omega, rounds_len hn, fun v9 H9 x9 s9 => ?_⟩
    rw [← rounds_comm hw hd0 oc hn] at s9
    have F9 := (F7.mono x8).mono x9
    have hb9 := (hb7.mono x8).mono x9
    clear F7 hb7 x8 s8 x9 s7
    refine ne_lines F9.b s9 ⟨false, rfl, iteF ?_⟩
    clear s9
    -- behind(behind(line, one, first), ~one, first) != line
    refine ⟨_, rfl, _, rfl, _, rfl, vl, .ref xo, wd, d, f1, cs, ns, rfl, F9.l, F9.o, hw, hd, hd2, oc, len1, by omega, hn, fun v10 H10 x10 s10 => ?_⟩
    have F10 := F9.mono x10
    obtain ⟨ao, dxo, to, rso, eo, hao, _, _⟩ := id F10.o
    cases eo
    refine ⟨_, rfl, xo, dxo, _, rfl, hao, .ref xo, wd, cs, rfl, F10.o, hw, oc, len1, fun v11 H11 x11 s11 => ?_⟩
    refine ⟨_, rfl, v10, v11, wd, d, f1, invs cs, _, rfl, s10.mono x11, s11, hw, hd, hd2, oc.invs, by rw [invs_len]; exact len1, by omega, rounds_len hn, fun v12 H12 x12 s12 => ?_⟩
    rw [rounds_undo hw hd0 oc hn] at s12
    have F12 := (F10.mono x11).mono x12
    have hb12 := ((hb9.mono x10).mono x11).mono x12
    refine ⟨_, rfl, ne_lines s12 F12.l ⟨false, rfl, iteF ?_⟩⟩
    clear F9 F10 hb9 s10 s11 s12 x10 x11 x12 hao
    -- behind(line, one * other, 1) != behind(behind(line, one, 1), other, 1)
    obtain ⟨ao, dxo, to, rso, eo, hao, _, _⟩ := id F12.o
    cases eo
    obtain ⟨ar, dxr, tr, rsr, er, har, _, _⟩ := id F12.r
    cases er
    refine ⟨_, rfl, _, rfl, _, rfl, xo, dxo, _, xr, dxr, _, rfl, rfl, hao, har, .ref xo, .ref xr, wd, cs, ds, rfl, F12.o, F12.r, hw, oc, od, by omega, fun v13 H13 x13 s13 => ?_⟩
    have F13 := F12.mono x13
    refine ⟨vl, v13, wd, d, 1, cs ++ ds, ns, rfl, F13.l, s13, hw, hd, hd2, oc.append od, by rw [List.length_append]; omega, by omega, hn, fun v14 H14 x14 s14 => ?_⟩
    rw [rounds_product hw hd0 oc od] at s14
    have F14 := F13.mono x14
    refine ⟨_, rfl, _, rfl, vl, .ref xo, wd, d, 1, cs, ns, rfl, F14.l, F14.o, hw, hd, hd2, oc, len1, by omega, hn, fun v15 H15 x15 s15 => ?_⟩
    have F15 := F14.mono x15
    refine ⟨_, rfl, v15, .ref xr, wd, d, 1, ds, _, rfl, s15, F15.r, hw, hd, hd2, od, by omega, by omega, rounds_len hn, fun v16 H16 x16 s16 => ?_⟩
    have F16 := F15.mono x16
    have hb16 := (((hb12.mono x13).mono x14).mono x15).mono x16
    refine ne_lines ((s14.mono x15).mono x16) s16 ⟨false, rfl, iteF ?_⟩
    clear F12 F13 F14 F15 hb12 s13 s14 s15 s16 x13 x14 x15 x16 hao har
    -- times
    refine ⟨_, rfl, b, e, _, rfl, hb16, by decide, by decide, fun t H17 t0 t1 x17 hb17 => ?_⟩
    refine ⟨_, _, rfl, rfl, ?_⟩
    have F17 := F16.bag x17 hb16
    clear F16 hb16 x17
    have bt : -4 ≤ t - 4 ∧ t - 4 ≤ 4 := by omega
    -- behind(line, one.times(times), 1) != behind(line, one, times)
    obtain ⟨ao, dxo, to, rso, eo, hao, _, _⟩ := id F17.o
    cases eo
    refine ⟨_, rfl, _, rfl, xo, dxo, _, rfl, hao, sf_no _ _ (by decide +kernel) (by decide +kernel), _, rfl, .ref xo, _, wd, cs, rfl, F17.o, hw, oc, lc, by omega, fun v18 H18 x18 s18 => ?_⟩
    have F18 := F17.mono x18
    refine ⟨vl, v18, wd, d, 1, _, ns, rfl, F18.l, s18, hw, hd, hd2, tms_ok _ oc, Nat.le_trans (tms_le bt lc) (by decide), by omega, hn, fun v19 H19 x19 s19 => ?_⟩
    rw [rounds_times hw hd0 oc hn] at s19
    have F19 := F18.mono x19
    refine ⟨_, rfl, _, rfl, _, rfl, vl, .ref xo, wd, d, _, cs, ns, rfl, F19.l, F19.o, hw, hd, hd2, oc, len1, by omega, hn, fun v20 H20 x20 s20 => ?_⟩
    have F20 := F19.mono x20
    have hb20 := ((hb17.mono x18).mono x19).mono x20
    refine ne_lines (s19.mono x20) s20 ⟨false, rfl, iteF ?_⟩
    clear F17 F18 F19 hb17 s18 s19 s20 x18 x19 x20 hao
    -- sorted(both.order()) != list(range(files * rows)) or behind(line, one, 0) != line
    obtain ⟨ab, dxb, lb, eb, hab, hlb⟩ := id F20.b
    cases eb
    refine ⟨_, rfl, ab, dxb, _, rfl, hab, no_order _ _ _, .ref ab, wd, d, _, rfl, F20.b, fun v21 H21 x21 r21 => ?_⟩
    obtain ⟨l21, rfl, h21⟩ := r21
    have wr := whole_rounds hw hd0 oc (whole_rounds hw hd0 oc wh f1) f2
    refine ⟨l21, _, rfl, SqL.of h21, fun ms p pm so hp => ?_⟩
    have em := sorted_home (whole_perm pm wr) so
    subst em
    obtain ⟨m1, m2⟩ := many_le hw hd0 (by omega)
    have e2 : wd * d = (many wd d : Int) := by rw [Int.mul_comm]; exact m2
    refine ⟨_, rfl, _, rfl, _, _, rfl, rfl, .inl ⟨by omega, by omega⟩, _, rfl, RgOk.of_le (by decide) (by rw [e2]; omega) (by decide) (by rw [e2]; omega), fun pr hpr => ?_⟩
    have x22 := Ex.new hp (o := .lst ((home (many wd d)).map V.int))
    have x23 := Ex.new hpr (o := .lst (rgV 0 (wd * d)))
    refine ⟨_, _, dp_ints (SqL.of (x23 _ _ upd_same)), dp_ints (ns := home (many wd d)) (SqL.of (by rw [upd_same, rg_home hw hd0])), PySem.W.ke_shaped_ints _, PySem.W.ke_shaped_ints _, false, ?_, iteF ?_⟩
    · rw [eqv_ints] <;> rfl
    have F24 := ((F20.mono x21).mono x22).mono x23
    have hb24 := ((hb20.mono x21).mono x22).mono x23
    clear F20 hb20 hab hlb x21 h21
    refine ⟨_, rfl, _, rfl, vl, .ref xo, wd, d, 0, cs, ns, rfl, F24.l, F24.o, hw, hd, hd2, oc, len1, by omega, hn, fun v25 H25 x25 s25 => ?_⟩
    rw [rounds_zero] at s25
    have F25 := F24.mono x25
    have hb25 := hb24.mono x25
    refine ⟨_, rfl, ne_lines s25 F25.l ⟨false, rfl, iteF ?_⟩⟩
    -- not places_right(..)
    refine ⟨_, rfl, _, rfl, _, rfl, _, rfl, _, rfl, b, e, .ref xo, .ref xr, wd, d, cs, ds, rfl, hb25, F25.o, F25.r, hw, hd, hd2, oc, od, by omega, fun H26 x26 hb26 => ?_⟩
    refine ⟨true, rfl, iteF ?_⟩
    exact ⟨_, _, _, _, _, _, _, _, _, _, rfl, hb26⟩
  · obtain ⟨y2, y3, y4, y5, y6, y7, y8, y9, y10, y11, rfl, _⟩ := pr
    exact q _
end
end Pp
end

section
set_option Elab.async false
set_option linter.all false
set_option maxRecDepth 100000
set_option maxHeartbeats 4000000
namespace Pp
open PySem PySem.Spec PyProof.Rows L2 Evl

/-! ### what the top has left, in the words of the head -/
def DfK (K : PySem.W.Frag) (x : Str) (st : Stmt) : Prop := ∃ (f : Addr) (oc kV dc pm cd ct : Value) (od an : Option Addr) (sl : Array (Option Value)), PySem.W.nsIn K mainGlobals x = some (some (.ref f)) ∧
  K.lookup f = some ⟨oc, od, .func (PySem.W.fnOf x x (defArgs st) (defBody st) (defScope st) .none kV dc pm an cd ct), sl⟩ ∧ PySem.W.codeIn K cd x = true ∧ PySem.W.keepIn K (.ref f) = true
theorem dfK {K : PySem.W.Frag} {x : Str} {st : Stmt} {f : Addr} {oc kV dc pm cd ct : Value} {od an : Option Addr} {sl : Array (Option Value)} (a : PySem.W.nsIn K mainGlobals x = some (some (.ref f)))
    (l : K.lookup f = some ⟨oc, od, .func (PySem.W.fnOf x x (defArgs st) (defBody st) (defScope st) .none kV dc pm an cd ct), sl⟩) (c : PySem.W.codeIn K cd x = true) (k : PySem.W.keepIn K (.ref f) = true) : DfK K x st := ⟨f, oc, kV, dc, pm, cd, ct, od, an, sl, a, l, c, k⟩
def MdK (K : PySem.W.Frag) (C : Addr) (m q : Str) (st : Stmt) : Prop := ∃ (f : Addr) (oc kV dc pm cd ct : Value) (od an : Option Addr) (sl : Array (Option Value)), PySem.W.findIn K (.ref C) m = some (some (.ref f)) ∧ PySem.W.isFn K (.ref f) = true ∧
  K.lookup f = some ⟨oc, od, .func (PySem.W.fnOf m q (defArgs st) (defBody st) (defScope st) .none kV dc pm an cd ct), sl⟩ ∧ PySem.W.codeIn K cd q = true ∧ PySem.W.keepIn K (.ref f) = true
theorem mdK {K : PySem.W.Frag} {C : Addr} {m q : Str} {st : Stmt} {f : Addr} {oc kV dc pm cd ct : Value} {od an : Option Addr} {sl : Array (Option Value)} (a : PySem.W.findIn K (.ref C) m = some (some (.ref f))) (i : PySem.W.isFn K (.ref f) = true)
    (l : K.lookup f = some ⟨oc, od, .func (PySem.W.fnOf m q (defArgs st) (defBody st) (defScope st) .none kV dc pm an cd ct), sl⟩) (c : PySem.W.codeIn K cd q = true) (k : PySem.W.keepIn K (.ref f) = true) : MdK K C m q st := ⟨f, oc, kV, dc, pm, cd, ct, od, an, sl, a, i, l, c, k⟩
def PrK (K : PySem.W.Frag) (C : Addr) (m q : Str) (st : Stmt) : Prop := ∃ (p f : Addr) (rest : List Value) (oc kV dc pm cd ct : Value) (od an : Option Addr) (sl : Array (Option Value)), PySem.W.findIn K (.ref C) m = some (some (.ref p)) ∧ PySem.W.specialIn K (.ref p) "__get__" = some (some (.builtin "property.__get__")) ∧
  PySem.W.takesIn K (.ref p) = some true ∧ PySem.W.recIn K p "property" = some (.ref f :: rest) ∧
  K.lookup f = some ⟨oc, od, .func (PySem.W.fnOf m q (defArgs st) (defBody st) (defScope st) .none kV dc pm an cd ct), sl⟩ ∧ PySem.W.codeIn K cd q = true ∧ PySem.W.keepIn K (.ref f) = true
theorem prK {K : PySem.W.Frag} {C : Addr} {m q : Str} {st : Stmt} {p f : Addr} {rest : List Value} {oc kV dc pm cd ct : Value} {od an : Option Addr} {sl : Array (Option Value)} (a : PySem.W.findIn K (.ref C) m = some (some (.ref p)))
    (g : PySem.W.specialIn K (.ref p) "__get__" = some (some (.builtin "property.__get__"))) (t : PySem.W.takesIn K (.ref p) = some true) (r : PySem.W.recIn K p "property" = some (.ref f :: rest))
    (l : K.lookup f = some ⟨oc, od, .func (PySem.W.fnOf m q (defArgs st) (defBody st) (defScope st) .none kV dc pm an cd ct), sl⟩) (c : PySem.W.codeIn K cd q = true) (k : PySem.W.keepIn K (.ref f) = true) : PrK K C m q st := ⟨p, f, rest, oc, kV, dc, pm, cd, ct, od, an, sl, a, g, t, r, l, c, k⟩
theorem kit_self {K : PySem.W.Frag} {C : Addr} : PySem.W.kitOne K (.ref C) (.ref C) = some true := by
  unfold PySem.W.kitOne
  rw [if_pos (beq_iff_eq.mpr rfl)]
theorem kit_not {K : PySem.W.Frag} {C : Addr} {z : ClassData} (h1 : PySem.W.clsIn K C = some z) (h2 : PySem.W.typeIn K (.ref C) = some (.type "type")) (h3 : PySem.W.subIn K (.type "tuple") (.ref C) = some false) : PySem.W.kitOne K (.type "tuple") (.ref C) = some false := by
  unfold PySem.W.kitOne
  rw [if_neg (fun e => nomatch (beq_iff_eq.mp e : Value.type "tuple" = Value.ref C))]
  show (if ((PySem.W.clsIn K C).isSome && PySem.W.typeIn K (.ref C) == some (.type "type")) = true then PySem.W.subIn K (.type "tuple") (.ref C) else none) = _
  rw [h1, h2, if_pos (by rfl), h3]
theorem DfK.df {K : PySem.W.Frag} {h : Heap} {mg : Str → Option Value} {x : Str} {st : Stmt} (d : DfK K x st) (X : K.In h) (G : h.Ns mainGlobals mg) : Df K mg x st := by
  obtain ⟨f, oc, kV, dc, pm, cd, ct, od, an, sl, a, l, c, k⟩ := d
  exact ⟨f, _, fun_mk (st := st) l c k, PySem.W.mg_of X G a⟩
theorem MdK.md {K : PySem.W.Frag} {C : Addr} {m q : Str} {st : Stmt} (d : MdK K C m q st) : Md K C m q st := by
  obtain ⟨f, oc, kV, dc, pm, cd, ct, od, an, sl, a, i, l, c, k⟩ := d
  exact ⟨f, _, fun_mk (st := st) l c k, a, i⟩
theorem all_mk {l : PySem.W.OpenLaw} {w : World} {K : PySem.W.Frag} {h : Heap} {mg : Str → Option Value} {fa SC LC bN bF bO : Addr} (X : K.In h) (G : h.Ns mainGlobals mg) (hfa : mg "law" = some (.ref fa))
    {tM tn1 tn2 tn3 tf_all tf_up tf_swap tf_wheel tf_about tf_front tf_halve tf_pair tf_others tf_fill to_halve to_pair to_others to_fill : Tok} {odN : Option Addr} {nN nF nO : Nat} {cd0 : ClassData} {slN : Array (Option Value)} {esF esO : Array DictEntry}
    (aS : PySem.W.nsIn K mainGlobals "Script" = some (some (.ref SC)))
    (aL : PySem.W.nsIn K mainGlobals "Line" = some (some (.ref LC)))
    (d2 : DfK K "is_integer" (top 2))
    (d3 : DfK K "is_files" (top 3))
    (d4 : DfK K "is_rows" (top 4))
    (d5 : DfK K "is_index" (top 5))
    (d10 : DfK K "is_call" (top 10))
    (d11 : DfK K "turned" (top 11))
    (d12 : DfK K "on_wheel" (top 12))
    (d13 : DfK K "on_open" (top 13))
    (d14 : DfK K "moved_by" (top 14))
    (d22 : DfK K "is_place" (top 22))
    (d23 : DfK K "number_of" (top 23))
    (d24 : DfK K "place_of" (top 24))
    (d25 : DfK K "passed" (top 25))
    (d26 : DfK K "moved" (top 26))
    (d31 : DfK K "moves_of" (top 31))
    (d34 : DfK K "_law_bag" (top 34))
    (d35 : DfK K "_law_take" (top 35))
    (d36 : DfK K "_law_one" (top 36))
    (d37 : DfK K "_law_mixed" (top 37))
    (d38 : DfK K "_law_number" (top 38))
    (d39 : DfK K "_law_two" (top 39))
    (d40 : DfK K "_law_call" (top 40))
    (d41 : DfK K "_law_all_kinds" (top 41))
    (d42 : DfK K "_law_calls" (top 42))
    (d43 : DfK K "_law_begun" (top 43))
    (d44 : DfK K "_law_behind" (top 44))
    (d45 : DfK K "_law_places_right" (top 45))
    (d46 : DfK K "law" (top 46))
    (mS0 : MdK K SC "__init__" "Script.__init__" (inClass sScript 0))
    (mS3 : MdK K SC "__iter__" "Script.__iter__" (inClass sScript 3))
    (mS6 : MdK K SC "calls" "Script.calls" (inClass sScript 6))
    (mS9 : MdK K SC "__mul__" "Script.__mul__" (inClass sScript 9))
    (mS10 : MdK K SC "__invert__" "Script.__invert__" (inClass sScript 10))
    (mS11 : MdK K SC "times" "Script.times" (inClass sScript 11))
    (mL0 : MdK K LC "__init__" "Line.__init__" (inClass sLine 0))
    (mL1 : MdK K LC "__eq__" "Line.__eq__" (inClass sLine 1))
    (mL6 : MdK K LC "order" "Line.order" (inClass sLine 6))
    (mL12 : MdK K LC "follow" "Line.follow" (inClass sLine 12))
    (mL13 : MdK K LC "do" "Line.do" (inClass sLine 13))
    (mL14 : MdK K LC "go" "Line.go" (inClass sLine 14))
    (mL15 : MdK K LC "copied" "Line.copied" (inClass sLine 15))
    (pF : PrK K SC "files" "Script.files" (inClass sScript 4))
    (z_len : PySem.W.nsIn K mainGlobals "len" = some none)
    (z_isi : PySem.W.nsIn K mainGlobals "isinstance" = some none)
    (z_int : PySem.W.nsIn K mainGlobals "int" = some none)
    (z_bool : PySem.W.nsIn K mainGlobals "bool" = some none)
    (z_tuple : PySem.W.nsIn K mainGlobals "tuple" = some none)
    (z_list : PySem.W.nsIn K mainGlobals "list" = some none)
    (z_str : PySem.W.nsIn K mainGlobals "str" = some none)
    (z_abs : PySem.W.nsIn K mainGlobals "abs" = some none)
    (z_all : PySem.W.nsIn K mainGlobals "all" = some none)
    (z_range : PySem.W.nsIn K mainGlobals "range" = some none)
    (z_iter : PySem.W.nsIn K mainGlobals "iter" = some none)
    (z_enum : PySem.W.nsIn K mainGlobals "enumerate" = some none)
    (z_sorted : PySem.W.nsIn K mainGlobals "sorted" = some none)
    (pgS : PySem.W.plainGet K SC Str.empty = true)
    (hdS : PySem.W.hasDictIn K SC = true)
    (poS : PySem.W.plainOver K SC = true)
    (saS : PySem.W.findIn K (.ref SC) "__setattr__" = some (some (.builtin "object.__setattr__")))
    (mkS : PySem.W.makesIn K SC = true)
    (kpS : PySem.W.keepIn K (.ref SC) = true)
    (haS : PySem.W.findIn K (.ref SC) "__class__" = some (some (.builtin "object.__class__")))
    (hmS : PySem.W.mroIn K SC (.type "object") = some true)
    (pgL : PySem.W.plainGet K LC Str.empty = true)
    (hdL : PySem.W.hasDictIn K LC = true)
    (poL : PySem.W.plainOver K LC = true)
    (saL : PySem.W.findIn K (.ref LC) "__setattr__" = some (some (.builtin "object.__setattr__")))
    (mkL : PySem.W.makesIn K LC = true)
    (kpL : PySem.W.keepIn K (.ref LC) = true)
    (haL : PySem.W.findIn K (.ref LC) "__class__" = some (some (.builtin "object.__class__")))
    (hmL : PySem.W.mroIn K LC (.type "object") = some true)
    (hn : PySem.W.specialIn K (.builtin "object.__class__") "__get__" = some (some (.builtin "getset_descriptor.__get__")))
    (htk : PySem.W.takesIn K (.builtin "object.__class__") = some true)
    (sW : PySem.W.findIn K (.ref SC) "width" = some none)
    (sS : PySem.W.findIn K (.ref SC) "steps" = some none)
    (lW : PySem.W.findIn K (.ref LC) "width" = some none)
    (lD : PySem.W.findIn K (.ref LC) "deep" = some none)
    (lS : PySem.W.findIn K (.ref LC) "standing" = some none)
    (first : PySem.W.selfFirst K SC = true)
    (isS : PySem.W.clsIn K SC = some cd0)
    (tyS : PySem.W.typeIn K (.ref SC) = some (.type "type"))
    (suS : PySem.W.subIn K (.type "tuple") (.ref SC) = some false)
    (neL : PySem.W.findIn K (.ref LC) "__ne__" = some (some (.builtin "object.__ne__")))
    (mo : PySem.W.nsIn K mainGlobals "MOST_ROWS" = some (some (.int 400 tM)))
    (aN : PySem.W.nsIn K mainGlobals "BY_NUMBER" = some (some (.ref bN)))
    (lN : K.lookup bN = some ⟨.type "tuple", odN, .seq #[.str "all" tn1, .str "up" tn2, .str "wheel" tn3] nN, slN⟩)
    (aF : PySem.W.nsIn K mainGlobals "BY_FILES" = some (some (.ref bF)))
    (lF : K.lookup bF = some ⟨.type "dict", none, .dict esF nF, #[]⟩)
    (kF : PySem.W.KeysLit w.params esF.toList)
    (oF : (bF == sysModules) = false)
    (aO : PySem.W.nsIn K mainGlobals "OPEN_CALLS" = some (some (.ref bO)))
    (lO : K.lookup bO = some ⟨.type "dict", none, .dict esO nO, #[]⟩)
    (kO : PySem.W.KeysLit w.params esO.toList)
    (oO : (bO == sysModules) = false)
    (f_all : PySem.W.nsIn K bF "all" = some (some (.int 0 tf_all)))
    (f_up : PySem.W.nsIn K bF "up" = some (some (.int 1 tf_up)))
    (f_swap : PySem.W.nsIn K bF "swap" = some (some (.int 2 tf_swap)))
    (f_wheel : PySem.W.nsIn K bF "wheel" = some (some (.int 2 tf_wheel)))
    (f_about : PySem.W.nsIn K bF "about" = some (some (.int 0 tf_about)))
    (f_front : PySem.W.nsIn K bF "front" = some (some (.int 2 tf_front)))
    (f_halve : PySem.W.nsIn K bF "halve" = some (some (.int 0 tf_halve)))
    (f_pair : PySem.W.nsIn K bF "pair" = some (some (.int 0 tf_pair)))
    (f_others : PySem.W.nsIn K bF "others" = some (some (.int 0 tf_others)))
    (f_fill : PySem.W.nsIn K bF "fill" = some (some (.int 0 tf_fill)))
    (o_all : PySem.W.nsIn K bO "all" = some none)
    (o_up : PySem.W.nsIn K bO "up" = some none)
    (o_swap : PySem.W.nsIn K bO "swap" = some none)
    (o_wheel : PySem.W.nsIn K bO "wheel" = some none)
    (o_about : PySem.W.nsIn K bO "about" = some none)
    (o_front : PySem.W.nsIn K bO "front" = some none)
    (o_halve : PySem.W.nsIn K bO "halve" = some (some (.str "pair" to_halve)))
    (o_pair : PySem.W.nsIn K bO "pair" = some (some (.str "halve" to_pair)))
    (o_others : PySem.W.nsIn K bO "others" = some (some (.str "fill" to_others)))
    (o_fill : PySem.W.nsIn K bO "fill" = some (some (.str "others" to_fill))) :
    ∃ fd : FuncData, (∀ (s : Shared) (v : Value), BindsTo s fd ⟨[v], []⟩ [("_law_script", v)]) ∧ ∀ base : Heap, K.In base → base.Ns mainGlobals mg → FnOk l.prog w K mg base CX0 9 fa fd ["_law_script"] (spLaw K) := by
  have cS : Cls K SC := ⟨pgS, hdS, poS, saS⟩
  have cL : Cls K LC := ⟨pgL, hdL, poL, saL⟩
  have T : Txt w K mg SC LC := {
    len := PySem.W.mg_none_of X G z_len
    isi := PySem.W.mg_none_of X G z_isi
    int := PySem.W.mg_none_of X G z_int
    bool := PySem.W.mg_none_of X G z_bool
    tuple := PySem.W.mg_none_of X G z_tuple
    list := PySem.W.mg_none_of X G z_list
    str := PySem.W.mg_none_of X G z_str
    abs := PySem.W.mg_none_of X G z_abs
    all := PySem.W.mg_none_of X G z_all
    range := PySem.W.mg_none_of X G z_range
    iter := PySem.W.mg_none_of X G z_iter
    enum := PySem.W.mg_none_of X G z_enum
    sorted := PySem.W.mg_none_of X G z_sorted
    mgS := PySem.W.mg_of X G aS
    mgL := PySem.W.mg_of X G aL
    clS := cS
    clL := cL
    mkS := mkS
    mkL := mkL
    kpS := kpS
    kpL := kpL
    sW := sW
    sS := sS
    lW := lW
    lD := lD
    lS := lS
    first := first
    insS := ⟨cS, haS, hn, htk, hmS, kit_self⟩
    insL := ⟨cL, haL, hn, htk, hmL, kit_self⟩
    notS := kit_not isS tyS suS
    neL := neL
    obL := hmL
    most := ⟨tM, PySem.W.mg_of X G mo⟩
    byN := ⟨bN, PySem.W.mg_of X G aN, fun H => .inr ⟨_, _, _, lN, rfl, rfl, (by show 3 ≤ sizeLine; decide), .cons ⟨_, rfl⟩ (.cons ⟨_, rfl⟩ (.cons ⟨_, rfl⟩ .nil))⟩⟩
    byF := ⟨bF, esF, nF, PySem.W.mg_of X G aF, ⟨lF, kF, oF⟩, ⟨_, f_all⟩, ⟨_, f_up⟩, ⟨_, f_swap⟩, ⟨_, f_wheel⟩, ⟨_, f_about⟩, ⟨_, f_front⟩, ⟨_, f_halve⟩, ⟨_, f_pair⟩, ⟨_, f_others⟩, ⟨_, f_fill⟩⟩
    opC := ⟨bO, esO, nO, PySem.W.mg_of X G aO, ⟨lO, kO, oO⟩, o_all, o_up, o_swap, o_wheel, o_about, o_front, ⟨_, o_halve⟩, ⟨_, o_pair⟩, ⟨_, o_others⟩, ⟨_, o_fill⟩⟩ }
  obtain ⟨f46, oc, kV, dc, pm, cd, ct, od, an, sl, a46, l46, c46, k46⟩ := d46
  have e := hfa.symm.trans (PySem.W.mg_of X G a46)
  cases e
  refine ⟨PySem.W.fnOf "law" "law" (defArgs (top 46)) (defBody (top 46)) (defScope (top 46)) .none kV dc pm an cd ct, fun s v => .of_eq rfl, fun base _ _ => ?_⟩
  obtain ⟨pp, pf, rest, oc', kV', dc', pm', cd', ct', od', an', sl', pa, pg, pt, pr, pl, pc, pk⟩ := pF
  have PR : Pr l.prog w K mg base SC := pr_files T ⟨pa, pg, pt, rest, pr⟩ (fun_mk (st := inClass sScript 4) pl pc pk)
  have C2 := ca_int (P := l.prog) (w := w) (base := base) T (d2.df X G)
  have C3 := ca_files T (d3.df X G) C2
  have C4 := ca_rows T (d4.df X G) C2
  have C5 := ca_index T (d5.df X G) C2
  have C10 := ca_isCall T (d10.df X G) C2 C5
  have C11 := ca_turned (P := l.prog) (base := base) T (d11.df X G)
  have C12 := ca_wheel (P := l.prog) (base := base) T (d12.df X G)
  have C13 := ca_open (P := l.prog) (base := base) T (d13.df X G)
  have C14 := ca_moved T (d14.df X G) C12 C13
  have C22 := ca_isPlace T (d22.df X G) C5
  have C23 := ca_num (P := l.prog) (base := base) T (d23.df X G)
  have C24 := ca_pl (P := l.prog) (base := base) T (d24.df X G)
  have S0 := me_sinit T mS0.md C3 C10
  have CS := mkS_of T S0
  have S3 := me_iter (P := l.prog) (w := w) (base := base) T mS3.md
  have S6 := me_calls (P := l.prog) (w := w) (base := base) T mS6.md
  have S9 := me_mul T mS9.md CS PR S6
  have S10 := me_inv T mS10.md CS C11
  have S11 := me_times T mS11.md CS S6 S10
  have C25 := ca_passed T (d25.df X G) PR S3 C22 C14
  have C26 := ca_mvd T (d26.df X G) C25
  have C31 := ca_movesOf T (d31.df X G) PR C23 C24 C26
  have L0 := me_linit T mL0.md C3 C4
  have CL := mkL_of T L0
  have L1 := me_leq (P := l.prog) (w := w) (base := base) T mL1.md
  have L6 := me_order (P := l.prog) (w := w) (base := base) T mL6.md
  have L12 := me_follow (P := l.prog) (w := w) (base := base) T mL12.md
  have L13 := me_do T mL13.md PR CS C10 C31 L12
  have L14 := me_go T mL14.md PR C31 L12 S10
  have L15 := me_copied T mL15.md CL
  have C34 := ca_bag (P := l.prog) (base := base) T (d34.df X G)
  have C35 := ca_take (P := l.prog) (base := base) T (d35.df X G)
  have C36 := ca_one T (d36.df X G) C35
  have C37 := ca_mixed T (d37.df X G) C35
  have C38 := ca_number T (d38.df X G) C35
  have C39 := ca_two T (d39.df X G) C37
  have C40 := ca_call2 T (d40.df X G) C35 C36 C38 C39
  have C41 := ca_kinds (P := l.prog) (base := base) T (d41.df X G)
  have C42 := ca_calls2 T (d42.df X G) C40
  have C43 := ca_begun T (d43.df X G) CL C35 C41 C42 L13
  have C44 := ca_behind T (d44.df X G) L15 L14
  have C45 := ca_right T (d45.df X G) S9 C35 C31 C23 C24 C26
  exact ok_law (fun_mk (st := top 46) l46 c46 k46) T CS C34 C35 C41 C42 C43 C44 C45 S9 S10 S11 L1 L6
theorem walk {l : PySem.W.OpenLaw} {q : Program} {loose : List Str} {XP : (Str → Option Value) → Heap → Prop} {YP : World → Heap → Prop} {d : DefRec} {K : Params → PySem.W.Frag} (hn : l.most = some 63) (hdf : d.params.defaults = [])
    (hY : ∀ (w : World) (h : Heap), YP w h → (K w.params).In h)
    (F : ∀ (w : World) (mg : Str → Option Value) (fa : Addr) (h : Heap), (K w.params).In h → h.Ns mainGlobals mg → mg d.name = some (.ref fa) →
      ∃ fd : FuncData, (∀ (s : Shared) (u : Value), BindsTo s fd ⟨[u], []⟩ [("_law_script", u)]) ∧ ∀ base : Heap, (K w.params).In base → base.Ns mainGlobals mg → FnOk l.prog w (K w.params) mg base CX0 9 fa fd ["_law_script"] (spLaw (K w.params))) :
    PySem.W.WalkO q loose XP YP l.row.toRowW d [] (fun f vs => PySem.call f vs) :=
  L2.walk_of (n := 63) (k := 9) (x := "_law_script") (CX := fun _ => CX0) (sp := fun w => spLaw (K w.params)) hn (by decide) hdf ⟨rfl, by decide, by decide⟩ hY F (fun _ _ a ns hl _ hS => ⟨a, ns, rfl, hS, hl, fun _ => rfl⟩) fun _ _ _ _ _ z => z
end Pp
end

set_option Elab.async false
set_option maxRecDepth 100000
open PySem PySem.W PyProof.Rows in
set_option maxRecDepth 100000 in
set_option maxHeartbeats 0 in
theorem PySem.Challenge.cw_pupilpairs_k28_whole_rounds_add_up_holds : PySem.Challenge.rw_pupilpairs_k28_whole_rounds_add_up.Holds := by
  w_on; o_law; k_head; (case hw => w_witness2)
  k_fill
  refine Pp.walk (l := PySem.Challenge.rw_pupilpairs_k28_whole_rounds_add_up) rfl rfl (fun w h Y => PySem.W.kIn_of Y) ?F
  case F =>
    intro w mg fa h KX G hmg
    refine' Pp.all_mk KX G hmg ?aS ?aL ?d2 ?d3 ?d4 ?d5 ?d10 ?d11 ?d12 ?d13 ?d14 ?d22 ?d23 ?d24 ?d25 ?d26 ?d31 ?d34 ?d35 ?d36 ?d37 ?d38 ?d39 ?d40 ?d41 ?d42 ?d43 ?d44 ?d45 ?d46 ?mS0 ?mS3 ?mS6 ?mS9 ?mS10 ?mS11 ?mL0 ?mL1 ?mL6 ?mL12 ?mL13 ?mL14 ?mL15 ?pF ?z_len ?z_isi ?z_int ?z_bool ?z_tuple ?z_list ?z_str ?z_abs ?z_all ?z_range ?z_iter ?z_enum ?z_sorted ?pgS ?hdS ?poS ?saS ?mkS ?kpS ?haS ?hmS ?pgL ?hdL ?poL ?saL ?mkL ?kpL ?haL ?hmL ?hn ?htk ?sW ?sS ?lW ?lD ?lS ?first ?isS ?tyS ?suS ?neL ?mo ?aN ?lN ?aF ?lF ?kF ?oF ?aO ?lO ?kO ?oO ?f_all ?f_up ?f_swap ?f_wheel ?f_about ?f_front ?f_halve ?f_pair ?f_others ?f_fill ?o_all ?o_up ?o_swap ?o_wheel ?o_about ?o_front ?o_halve ?o_pair ?o_others ?o_fill
    (case aS => k_is)
    (case aL => k_is)
    (case d2 => (refine' Pp.dfK ?xa ?xl ?xc ?xk; (case xa => k_is); (case xl => k_is); (case xc => k_is); (case xk => k_is)))
    (case d3 => (refine' Pp.dfK ?xa ?xl ?xc ?xk; (case xa => k_is); (case xl => k_is); (case xc => k_is); (case xk => k_is)))
    (case d4 => (refine' Pp.dfK ?xa ?xl ?xc ?xk; (case xa => k_is); (case xl => k_is); (case xc => k_is); (case xk => k_is)))
    (case d5 => (refine' Pp.dfK ?xa ?xl ?xc ?xk; (case xa => k_is); (case xl => k_is); (case xc => k_is); (case xk => k_is)))
    (case d10 => (refine' Pp.dfK ?xa ?xl ?xc ?xk; (case xa => k_is); (case xl => k_is); (case xc => k_is); (case xk => k_is)))
    (case d11 => (refine' Pp.dfK ?xa ?xl ?xc ?xk; (case xa => k_is); (case xl => k_is); (case xc => k_is); (case xk => k_is)))
    (case d12 => (refine' Pp.dfK ?xa ?xl ?xc ?xk; (case xa => k_is); (case xl => k_is); (case xc => k_is); (case xk => k_is)))
    (case d13 => (refine' Pp.dfK ?xa ?xl ?xc ?xk; (case xa => k_is); (case xl => k_is); (case xc => k_is); (case xk => k_is)))
    (case d14 => (refine' Pp.dfK ?xa ?xl ?xc ?xk; (case xa => k_is); (case xl => k_is); (case xc => k_is); (case xk => k_is)))
    (case d22 => (refine' Pp.dfK ?xa ?xl ?xc ?xk; (case xa => k_is); (case xl => k_is); (case xc => k_is); (case xk => k_is)))
    (case d23 => (refine' Pp.dfK ?xa ?xl ?xc ?xk; (case xa => k_is); (case xl => k_is); (case xc => k_is); (case xk => k_is)))
    (case d24 => (refine' Pp.dfK ?xa ?xl ?xc ?xk; (case xa => k_is); (case xl => k_is); (case xc => k_is); (case xk => k_is)))
    (case d25 => (refine' Pp.dfK ?xa ?xl ?xc ?xk; (case xa => k_is); (case xl => k_is); (case xc => k_is); (case xk => k_is)))
    (case d26 => (refine' Pp.dfK ?xa ?xl ?xc ?xk; (case xa => k_is); (case xl => k_is); (case xc => k_is); (case xk => k_is)))
    (case d31 => (refine' Pp.dfK ?xa ?xl ?xc ?xk; (case xa => k_is); (case xl => k_is); (case xc => k_is); (case xk => k_is)))
    (case d34 => (refine' Pp.dfK ?xa ?xl ?xc ?xk; (case xa => k_is); (case xl => k_is); (case xc => k_is); (case xk => k_is)))
    (case d35 => (refine' Pp.dfK ?xa ?xl ?xc ?xk; (case xa => k_is); (case xl => k_is); (case xc => k_is); (case xk => k_is)))
    (case d36 => (refine' Pp.dfK ?xa ?xl ?xc ?xk; (case xa => k_is); (case xl => k_is); (case xc => k_is); (case xk => k_is)))
    (case d37 => (refine' Pp.dfK ?xa ?xl ?xc ?xk; (case xa => k_is); (case xl => k_is); (case xc => k_is); (case xk => k_is)))
    (case d38 => (refine' Pp.dfK ?xa ?xl ?xc ?xk; (case xa => k_is); (case xl => k_is); (case xc => k_is); (case xk => k_is)))
    (case d39 => (refine' Pp.dfK ?xa ?xl ?xc ?xk; (case xa => k_is); (case xl => k_is); (case xc => k_is); (case xk => k_is)))
    (case d40 => (refine' Pp.dfK ?xa ?xl ?xc ?xk; (case xa => k_is); (case xl => k_is); (case xc => k_is); (case xk => k_is)))
    (case d41 => (refine' Pp.dfK ?xa ?xl ?xc ?xk; (case xa => k_is); (case xl => k_is); (case xc => k_is); (case xk => k_is)))
    (case d42 => (refine' Pp.dfK ?xa ?xl ?xc ?xk; (case xa => k_is); (case xl => k_is); (case xc => k_is); (case xk => k_is)))
    (case d43 => (refine' Pp.dfK ?xa ?xl ?xc ?xk; (case xa => k_is); (case xl => k_is); (case xc => k_is); (case xk => k_is)))
    (case d44 => (refine' Pp.dfK ?xa ?xl ?xc ?xk; (case xa => k_is); (case xl => k_is); (case xc => k_is); (case xk => k_is)))
    (case d45 => (refine' Pp.dfK ?xa ?xl ?xc ?xk; (case xa => k_is); (case xl => k_is); (case xc => k_is); (case xk => k_is)))
    (case d46 => (refine' Pp.dfK ?xa ?xl ?xc ?xk; (case xa => k_is); (case xl => k_is); (case xc => k_is); (case xk => k_is)))
    (case mS0 => (refine' Pp.mdK ?xa ?xi ?xl ?xc ?xk; (case xa => k_is); (case xi => k_is); (case xl => k_is); (case xc => k_is); (case xk => k_is)))
    (case mS3 => (refine' Pp.mdK ?xa ?xi ?xl ?xc ?xk; (case xa => k_is); (case xi => k_is); (case xl => k_is); (case xc => k_is); (case xk => k_is)))
    (case mS6 => (refine' Pp.mdK ?xa ?xi ?xl ?xc ?xk; (case xa => k_is); (case xi => k_is); (case xl => k_is); (case xc => k_is); (case xk => k_is)))
    (case mS9 => (refine' Pp.mdK ?xa ?xi ?xl ?xc ?xk; (case xa => k_is); (case xi => k_is); (case xl => k_is); (case xc => k_is); (case xk => k_is)))
    (case mS10 => (refine' Pp.mdK ?xa ?xi ?xl ?xc ?xk; (case xa => k_is); (case xi => k_is); (case xl => k_is); (case xc => k_is); (case xk => k_is)))
    (case mS11 => (refine' Pp.mdK ?xa ?xi ?xl ?xc ?xk; (case xa => k_is); (case xi => k_is); (case xl => k_is); (case xc => k_is); (case xk => k_is)))
    (case mL0 => (refine' Pp.mdK ?xa ?xi ?xl ?xc ?xk; (case xa => k_is); (case xi => k_is); (case xl => k_is); (case xc => k_is); (case xk => k_is)))
    (case mL1 => (refine' Pp.mdK ?xa ?xi ?xl ?xc ?xk; (case xa => k_is); (case xi => k_is); (case xl => k_is); (case xc => k_is); (case xk => k_is)))
    (case mL6 => (refine' Pp.mdK ?xa ?xi ?xl ?xc ?xk; (case xa => k_is); (case xi => k_is); (case xl => k_is); (case xc => k_is); (case xk => k_is)))
    (case mL12 => (refine' Pp.mdK ?xa ?xi ?xl ?xc ?xk; (case xa => k_is); (case xi => k_is); (case xl => k_is); (case xc => k_is); (case xk => k_is)))
    (case mL13 => (refine' Pp.mdK ?xa ?xi ?xl ?xc ?xk; (case xa => k_is); (case xi => k_is); (case xl => k_is); (case xc => k_is); (case xk => k_is)))
    (case mL14 => (refine' Pp.mdK ?xa ?xi ?xl ?xc ?xk; (case xa => k_is); (case xi => k_is); (case xl => k_is); (case xc => k_is); (case xk => k_is)))
    (case mL15 => (refine' Pp.mdK ?xa ?xi ?xl ?xc ?xk; (case xa => k_is); (case xi => k_is); (case xl => k_is); (case xc => k_is); (case xk => k_is)))
    (case pF => (refine' Pp.prK ?xa ?xg ?xt ?xr ?xl ?xc ?xk; (case xa => k_is); (case xg => k_is); (case xt => k_is); (case xr => k_is); (case xl => k_is); (case xc => k_is); (case xk => k_is)))
    (case z_len => k_is)
    (case z_isi => k_is)
    (case z_int => k_is)
    (case z_bool => k_is)
    (case z_tuple => k_is)
    (case z_list => k_is)
    (case z_str => k_is)
    (case z_abs => k_is)
    (case z_all => k_is)
    (case z_range => k_is)
    (case z_iter => k_is)
    (case z_enum => k_is)
    (case z_sorted => k_is)
    (case pgS => k_is)
    (case hdS => k_is)
    (case poS => k_is)
    (case saS => k_is)
    (case mkS => k_is)
    (case kpS => k_is)
    (case haS => k_is)
    (case hmS => k_is)
    (case pgL => k_is)
    (case hdL => k_is)
    (case poL => k_is)
    (case saL => k_is)
    (case mkL => k_is)
    (case kpL => k_is)
    (case haL => k_is)
    (case hmL => k_is)
    (case hn => k_is)
    (case htk => k_is)
    (case sW => k_is)
    (case sS => k_is)
    (case lW => k_is)
    (case lD => k_is)
    (case lS => k_is)
    (case first => k_is)
    (case isS => k_is)
    (case tyS => k_is)
    (case suS => k_is)
    (case neL => k_is)
    (case mo => k_is)
    (case aN => k_is)
    (case lN => k_is)
    (case aF => k_is)
    (case lF => k_is)
    (case kF => k_keys)
    (case oF => decide)
    (case aO => k_is)
    (case lO => k_is)
    (case kO => k_keys)
    (case oO => decide)
    (case f_all => k_is)
    (case f_up => k_is)
    (case f_swap => k_is)
    (case f_wheel => k_is)
    (case f_about => k_is)
    (case f_front => k_is)
    (case f_halve => k_is)
    (case f_pair => k_is)
    (case f_others => k_is)
    (case f_fill => k_is)
    (case o_all => k_is)
    (case o_up => k_is)
    (case o_swap => k_is)
    (case o_wheel => k_is)
    (case o_about => k_is)
    (case o_front => k_is)
    (case o_halve => k_is)
    (case o_pair => k_is)
    (case o_others => k_is)
    (case o_fill => k_is)
