/- What the listed package variables say of strconv.ErrSyntax: a pointer to an errors.errorString. -/
import Derived.RangeFuncBox
import Derived.RangeFuncLeaves
import Derived.RangeFuncNested
import Derived.Shelf.Abstract
import Derived.WalkKit
import Derived.OwnWalkIn
import Derived.TacticsInMore
import Derived.LoopNIn
import Derived.LoopIn
import Derived.Test.YtjhpgkjnkgknnaaGreatDoorProg
import Derived.KernelRfl
import Derived.Test.YtjhpgkjnkgknnaaGreatDoorKb
import Derived.Test.YtjhpgkjnkgknnaaGreatDoorHe
import Derived.Lib.LaidU8
import Derived.Test.YtjhpgkjnkgknnaaGreatDoorRows
set_option linter.unusedVariables false
namespace Go.Proofs.YtjhpgkjnkgknnaaGreatDoor.Av
open Go Go.RowKit Go.Shelf Go.Proofs
attribute [local go_sem] Oper.semAt_some

def upto {α : Type} (f : Nat → α) (k : Nat) : List α := (List.range k).map f
theorem upto_succ {α : Type} (f : Nat → α) (k : Nat) : upto f (k + 1) = upto f k ++ [f k] := by simp [upto, List.range_succ]
theorem upto_length {α : Type} (f : Nat → α) (k : Nat) : (upto f k).length = k := by simp [upto]

abbrev PX := Int × (List UInt8 × List UInt8)
def encP (x : PX) : Array Value := #[.int .i64 x.1, .agg #[.string ⟨⟨x.2.1⟩⟩, .string ⟨⟨x.2.2⟩⟩]]

set_option maxHeartbeats 1000000 in
theorem back_in (F : Fence) (n : Nat) (h5 : F.fn 174) (hro : F.round = none) (a : Option Addr) (len cap : Nat) (w : World) :
    CallsIn F n Tryz.prog 174 #[.slice a len cap] w fun e w' => e = .returned (.func (.func 179) #[] #[.pointer (some ⟨w.heap.size, 0, none⟩)]) ∧ w' = w.alloc (.cells #[.slice a len cap] 65) := by
  refine callsIn_of_wp Tryz.func174 rfl h5 ?_ hro
  simp only [Tryz.ntmps174, List.size_toArray, List.length_cons, List.length_nil, Nat.reduceAdd, Nat.reduceSub, Array.replicate_succ, Array.replicate_zero, List.push_toArray, List.append_toArray, List.nil_append, List.cons_append]
  gi_wp2
  go_ret
  exact ⟨rfl, rfl⟩

set_option maxRecDepth 100000 in
set_option maxHeartbeats 2000000 in
theorem bw1_in (F : Fence) (n : Nat) (h7 : F.fn 179) (hro : F.round = none) (hn : 1 ≤ n) (l Bs n₀ b off len cap : Nat) (f : Nat → List UInt8 × List UInt8) (hreach : len < 1000000) (hb : b < n₀) (hBn : Bs < n₀) (J Jx : List PX → World → Prop)
    (hY : ∀ pre x W, J pre W → pre.length < len → YieldAt F (n - 1) Tryz.prog l (encP x) W fun e W' =>
      (e = .returned (.bool true) ∧ J (pre ++ [x]) W' ∧ Below n₀ W W') ∨ (e = .returned (.bool false) ∧ Jx (pre ++ [x]) W'))
    (W : World) (hBs : W.cell? ⟨Bs, 0, none⟩ = some (.slice (some ⟨b, off, none⟩) len cap)) (hc0 : ∀ j, j < len → W.cell? ⟨b, off + j * 2, none⟩ = some (.string ⟨⟨(f j).1⟩⟩)) (hc1 : ∀ j, j < len → W.cell? ⟨b, off + j * 2 + 1, none⟩ = some (.string ⟨⟨(f j).2⟩⟩)) (h0 : J [] W) :
    CallsIn F n Tryz.prog 179 #[.func (.yield l) #[] #[], .pointer (some ⟨Bs, 0, none⟩)] W fun e W' => (∃ v, e = .returned v) ∧
      ((∃ ys, ys = upto (fun j => (((len - 1 - j : Nat) : Int), f (len - 1 - j))) len ∧ J ys W') ∨ (∃ pre, (∃ k, k ≤ len ∧ pre = upto (fun j => (((len - 1 - j : Nat) : Int), f (len - 1 - j))) k) ∧ Jx pre W')) := by
  refine callsIn_of_wp Tryz.func179 rfl h7 ?_ hro
  simp only [Tryz.ntmps179, List.size_toArray, List.length_cons, List.length_nil, Nat.reduceAdd, Nat.reduceSub, Array.replicate_succ, Array.replicate_zero, List.push_toArray, List.append_toArray, List.nil_append, List.cons_append]
  gi_wp2
  gi_loopw [3] (fun i wr => ∃ k : Nat, k ≤ len ∧ i = .int .i64 ((len : Int) - 1 - k) ∧ J (upto (fun j => (((len - 1 - j : Nat) : Int), f (len - 1 - j))) k) wr ∧ Below n₀ W wr)
    (fun i _ => (intOf i + 1).toNat)
  case atStart => exact ⟨0, Nat.zero_le _, by simp, h0, Below.refl _ _⟩
  case round =>
    obtain ⟨k, hk, rfl, hJs, hnx⟩ := hrel
    have hcx : k < len → wr.cell? ⟨b, off + (len - 1 - k) * 2, none⟩ = some (.string ⟨⟨(f (len - 1 - k)).1⟩⟩) ∧ wr.cell? ⟨b, off + (len - 1 - k) * 2 + 1, none⟩ = some (.string ⟨⟨(f (len - 1 - k)).2⟩⟩) := fun h =>
      ⟨(hnx.cell (p := ⟨b, off + (len - 1 - k) * 2, none⟩) hb).trans (hc0 _ (by omega)), (hnx.cell (p := ⟨b, off + (len - 1 - k) * 2 + 1, none⟩) hb).trans (hc1 _ (by omega))⟩
    have hcb : wr.cell? ⟨Bs, 0, none⟩ = some (.slice (some ⟨b, off, none⟩) len cap) := (hnx.cell (p := ⟨Bs, 0, none⟩) hBn).trans hBs
    by_cases hlt : k < len
    · obtain ⟨fn, tmps, assign, body, hy, hR⟩ := hY _ (((len - 1 - k : Nat) : Int), f (len - 1 - k)) wr hJs (by rw [upto_length]; exact hlt)
      dsimp only [encP] at hy
      obtain ⟨hcx0, hcx1⟩ := hcx hlt
      have hi : (len : Int) - 1 - k = ((len - 1 - k : Nat) : Int) := by omega
      rw [hi]
      gi_wp2
      refine hR.mono ?_
      rintro e W3 (⟨rfl, hJ3, hk3⟩ | ⟨rfl, hJx3⟩)
      · gi_wp2
        go_roundw
        case rel => exact ⟨k + 1, by omega, by first | (simp; done) | (simp; omega) | omega, by rw [upto_succ]; exact hJ3, hnx.trans hk3⟩
        case measure => first | (simp [intOf]; done) | (simp [intOf]; omega)
      · gi_wp2
        refine bodyPost_ret (results_none rfl _ _ _) rfl ?_
        exact ⟨⟨_, rfl⟩, .inr ⟨_, ⟨k + 1, by omega, (upto_succ _ _).symm⟩, hJx3⟩⟩
    · obtain rfl : k = len := by omega
      have hi : (k : Int) - 1 - k = -1 := by omega
      rw [hi]
      gi_wp2
      go_end0
      exact ⟨⟨_, rfl⟩, .inl ⟨_, rfl, hJs⟩⟩

set_option maxHeartbeats 1000000 in
theorem bw1_nil_in (F : Fence) (n : Nat) (h7 : F.fn 179) (hro : F.round = none) (l Bs : Nat) (a : Option Addr) (cap : Nat) (J : List PX → World → Prop) (W : World) (hBs : W.cell? ⟨Bs, 0, none⟩ = some (.slice a 0 cap)) (h0 : J [] W) :
    CallsIn F n Tryz.prog 179 #[.func (.yield l) #[] #[], .pointer (some ⟨Bs, 0, none⟩)] W fun e W' => (∃ v, e = .returned v) ∧ J [] W' := by
  refine callsIn_of_wp Tryz.func179 rfl h7 ?_ hro
  simp only [Tryz.ntmps179, List.size_toArray, List.length_cons, List.length_nil, Nat.reduceAdd, Nat.reduceSub, Array.replicate_succ, Array.replicate_zero, List.push_toArray, List.append_toArray, List.nil_append, List.cons_append]
  gi_wp2
  gi_loopw [3] (fun i wr => i = .int .i64 (-1) ∧ J [] wr) (fun _ _ => 0)
  case atStart => exact ⟨rfl, h0⟩
  case round =>
    obtain ⟨rfl, hJs⟩ := hrel
    gi_wp2
    go_end0
    exact ⟨⟨_, rfl⟩, hJs⟩

/-- The prefixes that a slice holds, in blocks below n₀. -/
def Prefs (n₀ : Nat) (W : World) (a : Option Addr) (len : Nat) (f : Nat → List UInt8 × List UInt8) : Prop :=
  len = 0 ∨ ∃ b off, a = some ⟨b, off, none⟩ ∧ b < n₀ ∧ (∀ j, j < len → W.cell? ⟨b, off + j * 2, none⟩ = some (.string ⟨⟨(f j).1⟩⟩)) ∧ (∀ j, j < len → W.cell? ⟨b, off + j * 2 + 1, none⟩ = some (.string ⟨⟨(f j).2⟩⟩))
theorem Prefs.below {n₀ : Nat} {A B : World} (h : Below n₀ A B) {a : Option Addr} {len : Nat} {f : Nat → List UInt8 × List UInt8} : Prefs n₀ A a len f → Prefs n₀ B a len f
  | .inl e => .inl e
  | .inr ⟨b, off, e, hb, h1, h2⟩ => .inr ⟨b, off, e, hb, fun j hj => (h.cell (p := ⟨b, off + j * 2, none⟩) hb).trans (h1 j hj), fun j hj => (h.cell (p := ⟨b, off + j * 2 + 1, none⟩) hb).trans (h2 j hj)⟩

theorem bw_stops (F : Fence) (n : Nat) (h7 : F.fn 179) (hro : F.round = none) (hn : 1 ≤ n) (Bs n₀ : Nat) (a : Option Addr) (len cap : Nat) (f : Nat → List UInt8 × List UInt8) (hreach : len < 1000000) (w : World) (hBs : Bs < n₀) (hn₀ : n₀ ≤ w.heap.size)
    (hc : w.cell? ⟨Bs, 0, none⟩ = some (.slice a len cap)) (hI : Prefs n₀ w a len f) :
    SeqStopsK F n Tryz.prog 179 #[.pointer (some ⟨Bs, 0, none⟩)] encP (Below n₀) (fun ys => ys = upto (fun j => (((len - 1 - j : Nat) : Int), f (len - 1 - j))) len)
      (fun pre => ∃ k, k ≤ len ∧ pre = upto (fun j => (((len - 1 - j : Nat) : Int), f (len - 1 - j))) k) len w := fun l J Jx W hW _ _ hY h0 => by
  have hc' := (hW.cell (p := ⟨Bs, 0, none⟩) (Nat.lt_of_lt_of_le hBs hn₀)).trans hc
  rcases hI.below (hW.mono hn₀) with rfl | ⟨b, off, rfl, hb, h1, h2⟩
  · exact (bw1_nil_in F n h7 hro l Bs a cap J W hc' h0).mono fun e W' ⟨he, hj⟩ => ⟨he, .inl ⟨_, rfl, hj⟩⟩
  · exact bw1_in F n h7 hro hn l Bs n₀ b off len cap f hreach hb hBs J Jx hY W hc' h1 h2 h0

set_option maxRecDepth 100000 in
set_option maxHeartbeats 2000000 in
theorem find_in (F : Fence) (n : Nat) (h3 : F.fn 163) (h6 : F.fn 174) (h8 : F.fn 179) (hro : F.round = none) (hn : 3 ≤ n) (rb ro : Nat) (nm : List UInt8) (a : Option Addr) (len cap : Nat) (f : Nat → List UInt8 × List UInt8) (hreach : len < 1000000) (w : World) (hrb : rb < w.heap.size)
    (hp : w.cell? ⟨rb, ro + 1, none⟩ = some (.slice a len cap)) (hI : Prefs w.heap.size w a len f) :
    CallsIn F n Tryz.prog 163 #[.pointer (some ⟨rb, ro, none⟩), .string ⟨⟨nm⟩⟩] w fun e W' =>
      ((e = .returned (.tuple #[.string ⟨⟨[]⟩⟩, .bool false]) ∧ ∀ j, j < len → (f j).1 ≠ nm) ∨ (∃ k : Nat, k < len ∧ e = .returned (.tuple #[.string ⟨⟨(f (len - 1 - k)).2⟩⟩, .bool true]) ∧ (f (len - 1 - k)).1 = nm ∧ ∀ j, j < k → (f (len - 1 - j)).1 ≠ nm)) ∧ Below w.heap.size w W' := by
  have h1 : 1 ≤ n := by omega
  refine callsIn_of_wp_marks Tryz.func163 rfl h3 ?_ hro
  simp only [Tryz.ntmps163, List.size_toArray, List.length_cons, List.length_nil, Nat.reduceAdd, Nat.reduceSub, Array.replicate_succ, Array.replicate_zero, List.push_toArray, List.append_toArray, List.nil_append, List.cons_append]
  have hB3 : Below w.heap.size w (((w.alloc (.cells #[.string ⟨⟨nm⟩⟩] 9)).alloc (.cells #[.string ⟨#[]⟩] 9)).alloc (.cells #[.bool false] 4)) := ((((Below.refl _ w).alloc (Nat.le_refl _) _).alloc (by simp) _).alloc (by simp; omega) _)
  have hp3 : (((w.alloc (.cells #[.string ⟨⟨nm⟩⟩] 9)).alloc (.cells #[.string ⟨#[]⟩] 9)).alloc (.cells #[.bool false] 4)).cell? ⟨rb, ro + 1, none⟩ = some (.slice a len cap) := (hB3.cell (p := ⟨rb, ro + 1, none⟩) hrb).trans hp
  gi_wp2_with (gi_at_call 174; refine (back_in F (n - 1) h6 hro _ _ _ _).mono ?_; rintro e w' ⟨rfl, rfl⟩)
  have bA := Boxed.new w 9 (.string ⟨⟨nm⟩⟩)
  have bB := Boxed.new (w.alloc (.cells #[.string ⟨⟨nm⟩⟩] 9)) 9 (.string ⟨#[]⟩)
  have bC := Boxed.new ((w.alloc (.cells #[.string ⟨⟨nm⟩⟩] 9)).alloc (.cells #[.string ⟨#[]⟩] 9)) 4 (.bool false)
  have bN := Boxed.new (((w.alloc (.cells #[.string ⟨⟨nm⟩⟩] 9)).alloc (.cells #[.string ⟨#[]⟩] 9)).alloc (.cells #[.bool false] 4)) 65 (.slice a len cap)
  simp only [World.size_alloc] at bB bC bN
  obtain ⟨w4, hw4⟩ : ∃ w4, (((w.alloc (.cells #[.string ⟨⟨nm⟩⟩] 9)).alloc (.cells #[.string ⟨#[]⟩] 9)).alloc (.cells #[.bool false] 4)).alloc (.cells #[.slice a len cap] 65) = w4 := ⟨_, rfl⟩
  have hB4 : Below w.heap.size w w4 := by rw [← hw4]; exact hB3.alloc (by simp; omega) _
  have hs4 : w4.heap.size = w.heap.size + 4 := by rw [← hw4]; simp
  have cA : w4.cell? ⟨w.heap.size, 0, none⟩ = some (.string ⟨⟨nm⟩⟩) := by rw [← hw4]; exact (((bA.alloc _).alloc _).alloc _).cell
  have cB : w4.cell? ⟨w.heap.size + 1, 0, none⟩ = some (.string ⟨#[]⟩) ∧ w4.frozen? ⟨w.heap.size + 1, 0, none⟩ = false := by rw [← hw4]; exact ⟨((bB.alloc _).alloc _).cell, ((bB.alloc _).alloc _).frozen⟩
  have cC : w4.cell? ⟨w.heap.size + 1 + 1, 0, none⟩ = some (.bool false) ∧ w4.frozen? ⟨w.heap.size + 1 + 1, 0, none⟩ = false := by rw [← hw4]; exact ⟨(bC.alloc _).cell, (bC.alloc _).frozen⟩
  have cN : w4.cell? ⟨w.heap.size + 1 + 1 + 1, 0, none⟩ = some (.slice a len cap) := by rw [← hw4]; exact bN.cell
  rw [hw4]
  clear bA bB bC bN hB3 hp3
  refine wpIn_rangeFunc_ownH hro h1 (gf := 179) (lb := #[.pointer (some ⟨w.heap.size + 1 + 1 + 1, 0, none⟩)]) rfl h8 (enters_of Tryz.func179 (by kernel_rfl) rfl)
    (bw_stops F (n - 1) h8 hro (by omega) (w.heap.size + 1 + 1 + 1) (w.heap.size + 4) a len cap f hreach w4 (by omega) (by omega) cN (by rcases hI.below hB4 with h | ⟨b, off, e, hb, g1, g2⟩; exact .inl h; exact .inr ⟨b, off, e, by omega, g1, g2⟩)) belowK_t (belowK_b (by omega)) (Below.refl _ _) (fun _ => rfl)
    (fun pre W => ((∀ p ∈ pre, p.2.1 ≠ nm) ∧ W.cell? ⟨w.heap.size, 0, none⟩ = some (.string ⟨⟨nm⟩⟩) ∧ (W.cell? ⟨w.heap.size + 1, 0, none⟩ = some (.string ⟨#[]⟩) ∧ W.frozen? ⟨w.heap.size + 1, 0, none⟩ = false) ∧ (W.cell? ⟨w.heap.size + 1 + 1, 0, none⟩ = some (.bool false) ∧ W.frozen? ⟨w.heap.size + 1 + 1, 0, none⟩ = false) ∧ w.heap.size + 4 ≤ W.heap.size) ∧ Below w.heap.size w W)
    (fun c pre W => (c = .ret ∧ ∃ ini last, pre = ini ++ [last] ∧ (∀ p ∈ ini, p.2.1 ≠ nm) ∧ last.2.1 = nm ∧ W.cell? ⟨w.heap.size + 1, 0, none⟩ = some (.string ⟨⟨last.2.2⟩⟩) ∧ W.cell? ⟨w.heap.size + 1 + 1, 0, none⟩ = some (.bool true)) ∧ Below w.heap.size w W)
    (OwnFrom.and (Own.from (fun s A B row hs hg hr => ⟨hs.1, cell_kept hs.2.1 hg hr, ⟨cell_kept hs.2.2.1.1 hg hr, (frozen_kept hs.2.2.1.1 hg hr).trans hs.2.2.1.2⟩, ⟨cell_kept hs.2.2.2.1.1 hg hr, (frozen_kept hs.2.2.2.1.1 hg hr).trans hs.2.2.2.1.2⟩, Nat.le_trans hs.2.2.2.2 hg.size⟩) _) (ownFrom_below (Nat.le_refl _) (by omega)))
    (fun c => OwnFrom.and (Own.from (fun s A B row hs hg hr => by obtain ⟨hc, ini, last, e1, e2, e3, e4, e5⟩ := hs; exact ⟨hc, ini, last, e1, e2, e3, cell_kept e4 hg hr, cell_kept e5 hg hr⟩) _) (ownFrom_below (Nat.le_refl _) (by omega)))
    ⟨⟨by simp, cA, cB, cC, by omega⟩, hB4⟩
    (fun x a' W => ∃ B, w4.heap.size ≤ B ∧ a' = { tmps := #[.pointer (some ⟨rb, ro, none⟩), .string ⟨⟨nm⟩⟩, undef, .pointer (some ⟨w.heap.size, 0, none⟩), .pointer (some ⟨w.heap.size + 1, 0, none⟩), .pointer (some ⟨w.heap.size + 1 + 1, 0, none⟩), undef, .pointer (some ⟨B, 0, none⟩),
      .pointer (some ⟨rb, ro, none⟩), .pointer (some ⟨rb, ro, none⟩), .pointer (some ⟨rb, ro + 1, none⟩), .slice a len cap, .func (.func 179) #[] #[.pointer (some ⟨w.heap.size + 1 + 1 + 1, 0, none⟩)], .int .i64 x.1, .agg #[.string ⟨⟨x.2.1⟩⟩, .string ⟨⟨x.2.2⟩⟩], undef, undef, undef, undef, undef, undef], defers := [] } ∧
      W.cell? ⟨B, 0, none⟩ = some (.string ⟨⟨x.2.1⟩⟩) ∧ W.cell? ⟨B, 1, none⟩ = some (.string ⟨⟨x.2.2⟩⟩))
    (fun x a' => Own.from (fun s A B row hs hg hr => by obtain ⟨B0, e0, e1, e2, e3⟩ := hs; exact ⟨B0, e0, e1, cell_kept e2 hg hr, cell_kept e3 hg hr⟩) _) ?assign ?body ?done ?stop
  case assign =>
    intro l pre x W K hi hK
    simp only [encP]
    gi_wp2
    obtain ⟨⟨hp, hA, ⟨hB1, hB2⟩, ⟨hC1, hC2⟩, hW4⟩, hBel⟩ := hi
    have hal := (Below.refl W.heap.size W).alloc (Nat.le_refl _) (Obj.cells #[Value.string ⟨⟨x.2.1⟩⟩, Value.string ⟨⟨x.2.2⟩⟩] 79)
    have hNW : w.heap.size + 4 ≤ W.heap.size := hW4
    have keep : ∀ {b : Nat}, b < w.heap.size + 4 → (W.alloc (Obj.cells #[Value.string ⟨⟨x.2.1⟩⟩, Value.string ⟨⟨x.2.2⟩⟩] 79)).heap[b]? = W.heap[b]? := fun hb => hal.block _ (by omega)
    refine hK _ _ ((KeepsOthers.alloc _ _).from _) ((Below.refl _ W).alloc (by omega) _) ⟨⟨hp, ?_, ⟨?_, ?_⟩, ⟨?_, ?_⟩, by simp; omega⟩, hBel.alloc (by omega) _⟩ ⟨W.heap.size, by omega, rfl, ?_, ?_⟩
    · exact (World.cell?_of_block (keep (b := w.heap.size) (by omega))).trans hA
    · exact (World.cell?_of_block (keep (b := w.heap.size + 1) (by omega))).trans hB1
    · exact (World.frozen?_of_block (keep (b := w.heap.size + 1) (by omega))).trans hB2
    · exact (World.cell?_of_block (keep (b := w.heap.size + 1 + 1) (by omega))).trans hC1
    · exact (World.frozen?_of_block (keep (b := w.heap.size + 1 + 1) (by omega))).trans hC2
    · have := World.alloc_heap_new W (Obj.cells #[Value.string ⟨⟨x.2.1⟩⟩, Value.string ⟨⟨x.2.2⟩⟩] 79)
      simp only [World.cell?, this]; rfl
    · have := World.alloc_heap_new W (Obj.cells #[Value.string ⟨⟨x.2.1⟩⟩, Value.string ⟨⟨x.2.2⟩⟩] 79)
      simp only [World.cell?, this]; rfl
  case body =>
    rintro l pre x a' W hl hr ⟨⟨hp, hA, ⟨hB1, hB2⟩, ⟨hC1, hC2⟩, hW4⟩, hBel⟩ ⟨B, hB, rfl, hx0, hx1⟩ _
    gi_wp2
    · rename_i hx
      have hx : x.2.1 = nm := by simpa using hx
      refine ⟨((KeepsOthers.setCell _ _ _).trans (KeepsOthers.setCell _ _ _)).from _, ⟨rfl, pre, x, rfl, hp, hx, ?_, ?_⟩, (hBel.setCell (p := ⟨w.heap.size + 1, 0, none⟩) (by simp) _).setCell (p := ⟨w.heap.size + 1 + 1, 0, none⟩) (by simp; omega) _⟩
      · exact (World.cell?_setCell_other _ ⟨w.heap.size + 1 + 1, 0, none⟩ ⟨w.heap.size + 1, 0, none⟩ _ (by simp)).trans (World.cell?_setCell_same _ _ _ hB1)
      · exact World.cell?_setCell_same _ _ _ ((World.cell?_setCell_other _ ⟨w.heap.size + 1, 0, none⟩ ⟨w.heap.size + 1 + 1, 0, none⟩ _ (by simp)).trans hC1)
    · rename_i hx
      have hx : x.2.1 ≠ nm := by simpa using hx
      exact ⟨KeepsFrom.refl _ _, Below.refl _ _, ⟨fun p hp' => (List.mem_append.1 hp').elim (hp p) (fun e => by simp at e; subst e; exact hx), hA, ⟨hB1, hB2⟩, ⟨hC1, hC2⟩, hW4⟩, hBel⟩
  case done =>
    rintro D ys W hD rfl ⟨⟨hne, hA, ⟨hB1, hB2⟩, ⟨hC1, hC2⟩, hW4⟩, hBel⟩ hK
    gi_wp2
    have hK' := ((KeepsOthers.setCell W ⟨w.heap.size + 1, 0, none⟩ (.string ⟨#[]⟩)).trans (KeepsOthers.setCell _ ⟨w.heap.size + 1 + 1, 0, none⟩ (.bool false))).same D _ hK rfl
    refine ⟨by simp, .inl ⟨_, _, rfl, run_takeDeferred hK', ?_⟩⟩
    have q1 : ((W.setCell ⟨w.heap.size + 1, 0, none⟩ (.string ⟨#[]⟩)).setCell ⟨w.heap.size + 1 + 1, 0, none⟩ (.bool false)).cell? ⟨w.heap.size + 1, 0, none⟩ = some (.string ⟨#[]⟩) := by
      exact (World.cell?_setCell_other _ ⟨w.heap.size + 1 + 1, 0, none⟩ ⟨w.heap.size + 1, 0, none⟩ _ (by simp)).trans (World.cell?_setCell_same _ _ _ hB1)
    have q2 : ((W.setCell ⟨w.heap.size + 1, 0, none⟩ (.string ⟨#[]⟩)).setCell ⟨w.heap.size + 1 + 1, 0, none⟩ (.bool false)).cell? ⟨w.heap.size + 1 + 1, 0, none⟩ = some (.bool false) :=
      World.cell?_setCell_same _ _ _ ((World.cell?_setCell_other _ ⟨w.heap.size + 1, 0, none⟩ ⟨w.heap.size + 1 + 1, 0, none⟩ _ (by simp)).trans hC1)
    have c5 := cell_kept q1 (grownBy_putObj' _ D (.deferred none)) (fun r e => by cases e; exact ⟨_, hK', rfl⟩)
    have c6 := cell_kept q2 (grownBy_putObj' _ D (.deferred none)) (fun r e => by cases e; exact ⟨_, hK', rfl⟩)
    refine ⟨.tuple #[.string ⟨#[]⟩, .bool false], ?_, .inl ⟨rfl, fun j hj => ?_⟩, ((hBel.setCell (p := ⟨w.heap.size + 1, 0, none⟩) (by simp) _).setCell (p := ⟨w.heap.size + 1 + 1, 0, none⟩) (by simp; omega) _).trans (belowK_b (w := w) (Nat.le_refl _) _ D _ _ (by omega) hK' rfl rfl)⟩
    · simp [results, Tryz.f163, go_sem, c5, c6]
    · have := hne (((len - 1 - (len - 1 - j) : Nat) : Int), f (len - 1 - (len - 1 - j))) (by simp only [upto, List.mem_map, List.mem_range]; exact ⟨len - 1 - j, by omega, rfl⟩)
      rw [show len - 1 - (len - 1 - j) = j by omega] at this
      exact this
  case stop =>
    rintro D c pre W hD ⟨k, hk, rfl⟩ ⟨⟨rfl, ini, last, e1, e2, e3, hcB, hcC⟩, hBel⟩ hK
    gi_wp2
    refine ⟨by simp, .inl ⟨_, _, rfl, run_takeDeferred hK, ?_⟩⟩
    have c5 := cell_kept hcB (grownBy_putObj' _ D (.deferred none)) (fun r e => by cases e; exact ⟨_, hK, rfl⟩)
    have c6 := cell_kept hcC (grownBy_putObj' _ D (.deferred none)) (fun r e => by cases e; exact ⟨_, hK, rfl⟩)
    obtain ⟨k', rfl⟩ : ∃ k', k = k' + 1 := by
      cases k with
      | zero => simp [upto] at e1
      | succ k' => exact ⟨k', rfl⟩
    rw [upto_succ] at e1
    obtain ⟨rfl, e5⟩ := List.append_inj' e1 rfl
    obtain rfl : (((len - 1 - k' : Nat) : Int), f (len - 1 - k')) = last := by simpa using e5
    refine ⟨.tuple #[.string ⟨⟨(f (len - 1 - k')).2⟩⟩, .bool true], ?_, .inr ⟨k', by omega, rfl, e3, fun j hj => e2 (((len - 1 - j : Nat) : Int), f (len - 1 - j)) (by simp only [upto, List.mem_map, List.mem_range]; exact ⟨j, hj, rfl⟩)⟩, hBel.trans (belowK_b (w := w) (Nat.le_refl _) W D _ _ (by omega) hK rfl rfl)⟩
    simp [results, Tryz.f163, go_sem, c5, c6]
end Go.Proofs.YtjhpgkjnkgknnaaGreatDoor.Av
set_option maxRecDepth 100000
set_option linter.unusedVariables false
namespace Go.Proofs.YtjhpgkjnkgknnaaGreatDoor.Av
open Go Go.Av Go.Proofs Go.RowKit

theorem fnAt163 : FnAt Tryz.prog 163 (match Tryz.f163.body with | some c => c | none => .skip) 21 Tryz.f163.results.toList := ⟨Tryz.f163, Tryz.func163, rfl, rfl, rfl, by kernel_rfl⟩

theorem find_con {f : FuncId} {args : List AV} {H H' : AHeap} {r : AV} {W : List Nat} (h : findHook f args H = some (r, H', W)) : Con Tryz.prog 163 args H r H' W := by
  refine ⟨⟨_, _, _, fnAt163⟩, ?_⟩
  unfold findHook at h
  split at h
  case h_2 => cases h
  rename_i id off nm
  split at h
  case h_2 => cases h
  rename_i cs hid
  split at h
  case h_2 => cases h
  rename_i xs tok hcs
  split at h
  case h_2 => cases h
  rename_i r' hfi
  injection h with h
  injection h with h1 h
  injection h with h2 h3
  subst h1; subst h2; subst h3
  refine ⟨Nat.le_refl _, fun _ _ ho _ => ho, fun B0 W0 g S w vs hA hI hv hfr => ?_⟩
  cases hv with
  | cons hv0 hv =>
  cases hv with
  | cons hv1 hv =>
  cases hv
  cases hv0 with
  | @vptr _ _ b hb =>
  cases hv1
  obtain ⟨hge, him, vs', e, hheap, hvs⟩ := hI.var hb (hA _ _ hid)
  have hlt : b < w.heap.size := hI.phi_lt hb
  obtain ⟨v, hv1, hv2⟩ := hvs.at hcs
  have hcell : w.cell? ⟨b, off + 1, none⟩ = some v := by simp [World.cell?, hheap, hv1]
  have done_ : ∀ {v : Value} {W' : World}, VR g r' v → Below w.heap.size w W' → ∃ v' g', Ending.returned v = .returned v' ∧ VR g' r' v' ∧ Ext g g' H.length H.length ∧ Inv Tryz.prog B0 W0 g' (S.over H) W' := by
    intro v W' hr hB
    refine ⟨v, g, rfl, hr, .refl _ _ _, ?_⟩
    rw [hA.over_self]
    exact hI.grow ⟨hB.os, hB.tape, hB.output, hB.size, fun k hk _ => hB.block k hk⟩
  unfold findIn at hfi
  split at hfi
  · injection hfi with hfi
    subst hfi
    cases hv2 with
    | @slice0 base cap _ ht =>
      refine Calls.mono ((callsIn_wide (n := 3)).1 (find_in Fence.wide 3 trivial trivial trivial rfl (by omega) b off nm base 0 cap (fun _ => ([], [])) (by omega) w hlt hcell (.inl rfl))) ?_
      rintro e W' ⟨⟨rfl, _⟩ | ⟨k, hk, _⟩, hB⟩
      · exact done_ (.tuple (.cons (.str _) (.cons (.bool _) .nil))) hB
      · omega
    | slice size hp hl hs hv hm ht =>
      simp only [List.length_nil] at hl
      subst hl
      refine Calls.mono ((callsIn_wide (n := 3)).1 (find_in Fence.wide 3 trivial trivial trivial rfl (by omega) b off nm _ 0 _ (fun _ => ([], [])) (by omega) w hlt hcell (.inl rfl))) ?_
      rintro e W' ⟨⟨rfl, _⟩ | ⟨k, hk, _⟩, hB⟩
      · exact done_ (.tuple (.cons (.str _) (.cons (.bool _) .nil))) hB
      · omega
  · rename_i a rf
    cases hv2 with
    | @slice _ ws b2 o2 l c2 _ size hp hl hs hv hm ht =>
    simp only [List.length_cons, List.length_nil, Nat.zero_add] at hl
    subst hl
    have hflat : flat [AV.agg [AV.str a, AV.str rf]] = [AV.str a, AV.str rf] := by simp [flat, AV.cells]
    rw [hflat] at hv
    cases hv with
    | cons q1 hv =>
    cases hv with
    | cons q2 hv =>
    cases hv
    cases q1
    cases q2
    have c0 := hI.im _ _ _ (hm 0 _ rfl)
    have c1 := hI.im _ _ _ (hm 1 _ rfl)
    have hlt2 := hI.im_lt (hm 0 _ rfl)
    refine Calls.mono ((callsIn_wide (n := 3)).1 (find_in Fence.wide 3 trivial trivial trivial rfl (by omega) b off nm _ 1 _ (fun _ => (a, rf)) (by omega) w hlt hcell (.inr ⟨b2, o2, rfl, hlt2, fun j hj => ?_, fun j hj => ?_⟩))) ?_
    · have : j = 0 := by omega
      subst this
      simpa using c0
    · have : j = 0 := by omega
      subst this
      simpa using c1
    · rintro e W' ⟨⟨rfl, hne⟩ | ⟨k, hk, rfl, hnm, _⟩, hB⟩
      · have hne := hne 0 (by omega)
        split at hfi
        · rename_i hb; exact absurd (bytesEq_iff.1 hb) hne
        · injection hfi with hfi
          subst hfi
          exact done_ (.tuple (.cons (.str _) (.cons (.bool _) .nil))) hB
      · split at hfi
        · injection hfi with hfi
          subst hfi
          exact done_ (.tuple (.cons (.str _) (.cons (.bool _) .nil))) hB
        · rename_i hb; exact absurd (bytesEq_iff.2 hnm) hb
  · cases hfi

theorem fnAt156 : FnAt Tryz.prog 156 (match Tryz.f156.body with | some c => c | none => .skip) 18 Tryz.f156.results.toList := ⟨Tryz.f156, Tryz.func156, rfl, rfl, rfl, by kernel_rfl⟩
theorem clone_con {f : FuncId} {args : List AV} {H H' : AHeap} {r : AV} {W : List Nat} (h : cloneHook f args H = some (r, H', W)) : Con Tryz.prog 156 args H r H' W := by
  unfold cloneHook at h
  split at h
  case h_2 => cases h
  rename_i s
  split at h
  case isFalse => cases h
  rename_i hl
  injection h with h
  injection h with h1 h
  injection h with h2 h3
  subst h1; subst h2; subst h3
  refine Con.of_calls fnAt156 fun B0 W0 g S w vs hA hI hv => ?_
  cases hv with
  | cons hv0 hv =>
  cases hv
  cases hv0
  refine Calls.mono (Tryz.stringslite_Clone ⟨⟨s⟩⟩ w (by show s.length ≤ _; omega)) ?_
  rintro e w' ⟨rfl, hB⟩
  exact ⟨_, rfl, .str _, hB⟩

theorem cfg2_ok : CfgOK Tryz.prog cfg2 := by
  refine ⟨env_ok, fnsOf_ok names_ok, fun f args H r H' W hf h => ?_, mixed_ok, regions_ok regs_ok⟩
  have h : hook2 f args H = some (r, H', W) := h
  have hf : (Nat.beq f 126 || Nat.beq f 163 || Nat.beq f 156) = true := hf
  unfold hook2 at h
  split at h
  · rename_i h3
    have h3 : f = 163 := Nat.eq_of_beq_eq_true h3
    subst h3
    exact find_con h
  · rename_i h3
    split at h
    · rename_i h4
      have h4 : f = 156 := Nat.eq_of_beq_eq_true h4
      subst h4
      exact clone_con h
    · rename_i h4
      simp only [Bool.or_eq_true] at hf
      rcases hf with (hf | hf) | hf
      · exact cfg_ok.hook f args H r H' W hf h
      · exact absurd hf h3
      · exact absurd hf h4
end Go.Proofs.YtjhpgkjnkgknnaaGreatDoor.Av
set_option maxRecDepth 1000000
set_option linter.unusedVariables false
namespace Go.Proofs.YtjhpgkjnkgknnaaGreatDoor.Av
open Go Go.Av Go.Proofs Go.Lib
theorem trod_iface {H : Type} {enc : TypeId × Value → H} {P : Program} {w : World} {base fuel t : Nat} {sp : Nat → Bool} {cs : List Value} {n : String} {d : DataW H} {p : List MemPlace}
    (h : DataW.trod enc P w base sp false fuel t cs = some (.iface n d, p)) : ∃ u v, cs = [.iface u v] ∧ P.typeName? 3 u = some n := by
  cases fuel with
  | zero => simp [DataW.trod] at h
  | succ fuel =>
    unfold DataW.trod at h
    split at h <;> (try cases h) <;> (try (split at h <;> cases h; done)) <;> (try (simp at h; done))
    all_goals (try dsimp only at h) <;> (repeat' split at h) <;> simp [Option.map_eq_some_iff, Option.bind_eq_some_iff] at h
    all_goals (obtain ⟨_, rfl⟩ := h; exact ⟨_, _, rfl, by assumption⟩)
theorem sentinel_type {u : Nat} (h : Tryz.prog.typeName? 3 u = some "*errors.errorString") : u = 225 := by
  have hb : (Tryz.prog.types.toList.all fun j => match j.desc with | .bool | .int _ | .float _ | .string => !decide (j.str = "errors.errorString") | _ => true) = true := by kernel_rfl
  have hs : u < Tryz.prog.types.size := typeName_table (n := "errors.errorString") h (fun s hs => by
      have := congrArg String.toList hs
      simp at this) fun e j hj hstr => by
    have hj := List.all_eq_true.1 hb j (Array.mem_def.1 (Array.mem_of_getElem? hj))
    revert hj
    cases j.desc <;> simp [hstr]
  have hall : ((List.range Tryz.prog.types.size).all fun u => Nat.beq u 225 || !decide (Tryz.prog.typeName? 3 u = some "*errors.errorString")) = true := by kernel_rfl
  have hu := List.all_eq_true.1 hall u (List.mem_range.2 hs)
  rw [h] at hu
  exact Nat.eq_of_beq_eq_true (by simpa using hu)
theorem ground_of_reads {w : World} (h : VarReads Tryz.prog w "strconv.ErrSyntax" Rows.laid_strconv_ErrSyntax) : GlobR (G.start w) := by
  intro n x hx
  have hx : (if Nat.beq n 6 then some (AV.cptr [.iface 225 .top]) else none) = some x := hx
  split at hx
  · rename_i hn
    have hn := Nat.eq_of_beq_eq_true hn
    subst hn
    cases hx
    obtain ⟨g, t, cs, fuel, p, hg, ht, hv, hr⟩ := h
    have hg6 : Tryz.prog.globalNamed "strconv.ErrSyntax" = some 6 := by kernel_rfl
    have he : g = 6 := Option.some.inj (hg.symm.trans hg6)
    subst he
    unfold World.var? at hv
    rw [hg6] at hv
    obtain ⟨u, v, hcs, hu⟩ := trod_iface hr
    have hu := sentinel_type hu
    subst hu
    have h0 : cs[0]? = some (.iface 225 v) := by rw [← Array.getElem?_toList, hcs]; rfl
    have hc : w.cell? ⟨6, 0, none⟩ = some (.iface 225 v) := by
      unfold World.cell?
      simp only [Option.bind_some] at hv
      cases ho : w.heap[6]? with
      | none => rw [ho] at hv; simp at hv
      | some ob =>
        rw [ho] at hv
        cases ob <;> simp at hv
        subst hv
        simpa [ho] using h0
    exact .cptr (vs := [.iface 225 v]) (.cons (.iface (.top v)) .nil) fun j u hj => by
      cases j with
      | zero => simp at hj; subst hj; exact hc
      | succ j => simp at hj
  · cases hx
end Go.Proofs.YtjhpgkjnkgknnaaGreatDoor.Av
