/- Texts that the claim's last file leans on: Go functions as Lean functions, and the proofs that the Go code answers as they do. -/
import Derived.Laws.EntriesVeiled
import Derived.Test.YtpmjjldocjopmaaCShort0
import Derived.Test.YtpmjjldocjopmaaCShort1
/- impl.length, and the two closures of ShortestTree: far (how long an edge is) and the comparison. -/
namespace Go.Proofs.Ytpmjjldocjopmaa.Pr
set_option linter.unusedVariables false
set_option linter.unusedSimpArgs false
open Go.RowKit Go.Proofs.YtpmjjldocjopmaaW.PrintWords Go.Proofs.YtpmjjldocjopmaaW.PrintLast Go.Proofs.YtpmjjldocjopmaaW.PrintMore
def lengthB (a b : S37) : Int := wrap64 (wrap64 (wrap64 (a.f0 - b.f0) * wrap64 (a.f0 - b.f0)) + wrap64 (wrap64 (a.f1 - b.f1) * wrap64 (a.f1 - b.f1)))
set_option maxHeartbeats 400000 in
set_option maxRecDepth 100000 in
theorem impl_length.callsB (a b : S37) (w : World) :
  Calls Try.prog 75 #[.agg #[.int .i64 a.f0, .int .i64 a.f1], .agg #[.int .i64 b.f0, .int .i64 b.f1]] w fun e w' => e = .returned (.int .i64 (lengthB a b)) ∧ Below w.heap.size w w' := by
 have hu := Try.underlying37
 go_enter Try.func75, Try.ntmps75
 go_wp2
 go_ret
 exact ⟨by simp [lengthB, i64_w], by repeat (first | exact Below.refl _ _ | apply pw_below_drewN | apply below_alloc)⟩
/-- How long edge k is. -/
def farF (l : List S37) (ed : List S77) (k : Int) : Option Int :=
 if 0 ≤ k ∧ k < (ed.length : Int) ∧ 0 ≤ (rd_T77 ed k).f0 ∧ (rd_T77 ed k).f0 < (l.length : Int) ∧ 0 ≤ (rd_T77 ed k).f1 ∧ (rd_T77 ed k).f1 < (l.length : Int) then some (lengthB (rd_T37 l (rd_T77 ed k).f0) (rd_T37 l (rd_T77 ed k).f1)) else none
set_option maxHeartbeats 4000000 in
set_option maxRecDepth 100000 in
theorem far_call (l : List S37) (ed : List S77) (A A2 : Option Addr) (c c2 : Nat) (L E : Addr) (k r : Int) (w : World) (hl : Kd.C k37 w A l.length l) (he : Kd.C k77 w A2 ed.length ed) (hL : w.cell? L = some (.slice A l.length c)) (hE : w.cell? E = some (.slice A2 ed.length c2)) (h : farF l ed k = some r) :
  Calls Try.prog 74 #[.int .i64 k, .pointer (some L), .pointer (some E)] w fun e w' => e = .returned (.int .i64 r) ∧ Below w.heap.size w w' := by
 unfold farF at h
 split at h
 case isFalse => exact absurd h (by simp)
 case isTrue hc =>
 obtain ⟨k0, k1, a0, a1, b0, b1⟩ := hc
 obtain rfl := Option.some.inj h
 clear h
 obtain ⟨ad2, rfl, hx0, hx1⟩ := at_T77 he k k0 k1
 obtain ⟨ad, rfl, ha0, ha1⟩ := at_T37 hl (rd_T77 ed k).f0 a0 a1
 obtain ⟨ad', hh, hb0, hb1⟩ := at_T37 hl (rd_T77 ed k).f1 b0 b1
 obtain rfl : ad = ad' := by injection hh
 clear hh he hl
 replace k0 := eq_true k0
 replace k1 := eq_true k1
 replace a0 := eq_true a0
 replace a1 := eq_true a1
 replace b0 := eq_true b0
 replace b1 := eq_true b1
 have hu := Try.underlying37
 go_enter Try.func74, Try.ntmps74
 go_wp2_with fail
 refine start_ (n := 18) (S := fun w' => World.cell? w' L = some (.slice (some ad) l.length c) ∧ World.cell? w' E = some (.slice (some ad2) ed.length c2) ∧ World.cell? w' (ad2.add (k.toNat * 2)) = some (.int .i64 (rd_T77 ed k).f0) ∧ World.cell? w' ⟨(ad2.add (k.toNat * 2)).block, (ad2.add (k.toNat * 2)).off + 1, none⟩ = some (.int .i64 (rd_T77 ed k).f1) ∧ World.cell? w' (ad.add ((rd_T77 ed k).f0.toNat * 2)) = some (.int .i64 (rd_T37 l (rd_T77 ed k).f0).f0) ∧ World.cell? w' ⟨(ad.add ((rd_T77 ed k).f0.toNat * 2)).block, (ad.add ((rd_T77 ed k).f0.toNat * 2)).off + 1, none⟩ = some (.int .i64 (rd_T37 l (rd_T77 ed k).f0).f1) ∧ World.cell? w' (ad.add ((rd_T77 ed k).f1.toNat * 2)) = some (.int .i64 (rd_T37 l (rd_T77 ed k).f1).f0) ∧ World.cell? w' ⟨(ad.add ((rd_T77 ed k).f1.toNat * 2)).block, (ad.add ((rd_T77 ed k).f1.toNat * 2)).off + 1, none⟩ = some (.int .i64 (rd_T37 l (rd_T77 ed k).f1).f1)) (ds := []) #[false, false, false, false, false, false, false, false, false, false, false, false, false, false, false, false, false, false] (by kernel_rfl) rfl rfl ⟨(by simpa [go_sem] using hL), (by simpa [go_sem] using hE), (by simpa [go_sem] using hx0), (by simpa [go_sem] using hx1), (by simpa [go_sem] using ha0), (by simpa [go_sem] using ha1), (by simpa [go_sem] using hb0), (by simpa [go_sem] using hb1)⟩ (fun hHeld => ?_)
 refine take_ (i := 0) (N := some 5) (v := ?_) (a' := ?_) #[true, false, false, false, false, false, false, false, false, false, false, false, false, false, false, false, false, false] rfl rfl (by kernel_rfl) (fun _ _ _ h => h) (Or.inl ⟨by rfl, ?_⟩) hHeld ?_ ?_
 rotate_left
 ·rintro w' ⟨s0, s1, s2, s3, s4, s5, s6, s7⟩
  go_simp
  with_reducible rfl
 rotate_left
 ·simp only [Act.put, List.setIfInBounds_toArray, List.set_cons_zero, List.set_cons_succ, i64_w, i32_w]
  rfl
 refine take_ (i := 1) (N := some 6) (v := ?_) (a' := ?_) #[true, true, false, false, false, false, false, false, false, false, false, false, false, false, false, false, false, false] rfl rfl (by kernel_rfl) (fun _ _ _ h => h) (Or.inl ⟨by rfl, ?_⟩) hHeld ?_ ?_
 rotate_left
 ·rintro w' ⟨s0, s1, s2, s3, s4, s5, s6, s7⟩
  go_simp
  with_reducible rfl
 rotate_left
 ·simp only [Act.put, List.setIfInBounds_toArray, List.set_cons_zero, List.set_cons_succ, i64_w, i32_w]
  rfl
 refine pure_ (i := 2) (N := some 7) (v := ?_) (a' := ?_) #[true, true, true, false, false, false, false, false, false, false, false, false, false, false, false, false, false, false] rfl rfl (by kernel_rfl) (fun _ _ _ h => h) (Or.inl ⟨by rfl, ?_⟩) ?_ ?_
 rotate_left
 ·intro w'
  go_simp
  with_reducible rfl
 rotate_left
 ·simp only [Act.put, List.setIfInBounds_toArray, List.set_cons_zero, List.set_cons_succ, i64_w, i32_w]
  rfl
 refine pure_ (i := 3) (N := some 8) (v := ?_) (a' := ?_) #[true, true, true, true, false, false, false, false, false, false, false, false, false, false, false, false, false, false] rfl rfl (by kernel_rfl) (fun _ _ _ h => h) (Or.inl ⟨by rfl, ?_⟩) ?_ ?_
 rotate_left
 ·intro w'
  go_simp
  with_reducible rfl
 rotate_left
 ·simp only [Act.put, List.setIfInBounds_toArray, List.set_cons_zero, List.set_cons_succ, i64_w, i32_w]
  rfl
 refine pure_ (i := 4) (N := some 9) (v := ?_) (a' := ?_) #[true, true, true, true, true, false, false, false, false, false, false, false, false, false, false, false, false, false] rfl rfl (by kernel_rfl) (fun _ _ _ h => h) (Or.inl ⟨by rfl, ?_⟩) ?_ ?_
 rotate_left
 ·intro w'
  go_simp
  with_reducible rfl
 rotate_left
 ·simp only [Act.put, List.setIfInBounds_toArray, List.set_cons_zero, List.set_cons_succ, i64_w, i32_w]
  rfl
 refine take_ (i := 5) (N := some 10) (v := ?_) (a' := ?_) #[true, true, true, true, true, true, false, false, false, false, false, false, false, false, false, false, false, false] rfl rfl (by kernel_rfl) (fun _ _ _ h => h) (Or.inl ⟨by rfl, ?_⟩) hHeld ?_ ?_
 rotate_left
 ·rintro w' ⟨s0, s1, s2, s3, s4, s5, s6, s7⟩
  go_simp
  with_reducible rfl
 rotate_left
 ·simp only [Act.put, List.setIfInBounds_toArray, List.set_cons_zero, List.set_cons_succ, i64_w, i32_w]
  rfl
 refine pure_ (i := 6) (N := some 11) (v := ?_) (a' := ?_) #[true, true, true, true, true, true, true, false, false, false, false, false, false, false, false, false, false, false] rfl rfl (by kernel_rfl) (fun _ _ _ h => h) (Or.inl ⟨by rfl, ?_⟩) ?_ ?_
 rotate_left
 ·intro w'
  go_simp
  with_reducible rfl
 rotate_left
 ·simp only [Act.put, List.setIfInBounds_toArray, List.set_cons_zero, List.set_cons_succ, i64_w, i32_w]
  rfl
 refine take_ (i := 7) (N := some 12) (v := ?_) (a' := ?_) #[true, true, true, true, true, true, true, true, false, false, false, false, false, false, false, false, false, false] rfl rfl (by kernel_rfl) (fun _ _ _ h => h) (Or.inl ⟨by rfl, ?_⟩) hHeld ?_ ?_
 rotate_left
 ·rintro w' ⟨s0, s1, s2, s3, s4, s5, s6, s7⟩
  go_simp
  with_reducible rfl
 rotate_left
 ·simp only [Act.put, List.setIfInBounds_toArray, List.set_cons_zero, List.set_cons_succ, i64_w, i32_w]
  rfl
 refine take_ (i := 8) (N := some 13) (v := ?_) (a' := ?_) #[true, true, true, true, true, true, true, true, true, false, false, false, false, false, false, false, false, false] rfl rfl (by kernel_rfl) (fun _ _ _ h => h) (Or.inl ⟨by rfl, ?_⟩) hHeld ?_ ?_
 rotate_left
 ·rintro w' ⟨s0, s1, s2, s3, s4, s5, s6, s7⟩
  go_simp
  with_reducible rfl
 rotate_left
 ·simp only [Act.put, List.setIfInBounds_toArray, List.set_cons_zero, List.set_cons_succ, i64_w, i32_w]
  rfl
 refine take_ (i := 9) (N := some 14) (v := ?_) (a' := ?_) #[true, true, true, true, true, true, true, true, true, true, false, false, false, false, false, false, false, false] rfl rfl (by kernel_rfl) (fun _ _ _ h => h) (Or.inl ⟨by rfl, ?_⟩) hHeld ?_ ?_
 rotate_left
 ·rintro w' ⟨s0, s1, s2, s3, s4, s5, s6, s7⟩
  go_simp
  with_reducible rfl
 rotate_left
 ·simp only [Act.put, List.setIfInBounds_toArray, List.set_cons_zero, List.set_cons_succ, i64_w, i32_w]
  rfl
 refine pure_ (i := 10) (N := some 15) (v := ?_) (a' := ?_) #[true, true, true, true, true, true, true, true, true, true, true, false, false, false, false, false, false, false] rfl rfl (by kernel_rfl) (fun _ _ _ h => h) (Or.inl ⟨by rfl, ?_⟩) ?_ ?_
 rotate_left
 ·intro w'
  go_simp
  with_reducible rfl
 rotate_left
 ·simp only [Act.put, List.setIfInBounds_toArray, List.set_cons_zero, List.set_cons_succ, i64_w, i32_w]
  rfl
 refine pure_ (i := 11) (N := some 16) (v := ?_) (a' := ?_) #[true, true, true, true, true, true, true, true, true, true, true, true, false, false, false, false, false, false] rfl rfl (by kernel_rfl) (fun _ _ _ h => h) (Or.inl ⟨by rfl, ?_⟩) ?_ ?_
 rotate_left
 ·intro w'
  go_simp
  with_reducible rfl
 rotate_left
 ·simp only [Act.put, List.setIfInBounds_toArray, List.set_cons_zero, List.set_cons_succ, i64_w, i32_w]
  rfl
 refine pure_ (i := 12) (N := some 17) (v := ?_) (a' := ?_) #[true, true, true, true, true, true, true, true, true, true, true, true, true, false, false, false, false, false] rfl rfl (by kernel_rfl) (fun _ _ _ h => h) (Or.inl ⟨by rfl, ?_⟩) ?_ ?_
 rotate_left
 ·intro w'
  go_simp
  with_reducible rfl
 rotate_left
 ·simp only [Act.put, List.setIfInBounds_toArray, List.set_cons_zero, List.set_cons_succ, i64_w, i32_w]
  rfl
 refine take_ (i := 13) (N := some 18) (v := ?_) (a' := ?_) #[true, true, true, true, true, true, true, true, true, true, true, true, true, true, false, false, false, false] rfl rfl (by kernel_rfl) (fun _ _ _ h => h) (Or.inl ⟨by rfl, ?_⟩) hHeld ?_ ?_
 rotate_left
 ·rintro w' ⟨s0, s1, s2, s3, s4, s5, s6, s7⟩
  go_simp
  with_reducible rfl
 rotate_left
 ·simp only [Act.put, List.setIfInBounds_toArray, List.set_cons_zero, List.set_cons_succ, i64_w, i32_w]
  rfl
 refine pure_ (i := 14) (N := some 19) (v := ?_) (a' := ?_) #[true, true, true, true, true, true, true, true, true, true, true, true, true, true, true, false, false, false] rfl rfl (by kernel_rfl) (fun _ _ _ h => h) (Or.inl ⟨by rfl, ?_⟩) ?_ ?_
 rotate_left
 ·intro w'
  go_simp
  with_reducible rfl
 rotate_left
 ·simp only [Act.put, List.setIfInBounds_toArray, List.set_cons_zero, List.set_cons_succ, i64_w, i32_w]
  rfl
 refine take_ (i := 15) (N := some 20) (v := ?_) (a' := ?_) #[true, true, true, true, true, true, true, true, true, true, true, true, true, true, true, true, false, false] rfl rfl (by kernel_rfl) (fun _ _ _ h => h) (Or.inl ⟨by rfl, ?_⟩) hHeld ?_ ?_
 rotate_left
 ·rintro w' ⟨s0, s1, s2, s3, s4, s5, s6, s7⟩
  go_simp
  with_reducible rfl
 rotate_left
 ·simp only [Act.put, List.setIfInBounds_toArray, List.set_cons_zero, List.set_cons_succ, i64_w, i32_w]
  rfl
 refine one_ (i := 16) (N := some 21) #[true, true, true, true, true, true, true, true, true, true, true, true, true, true, true, true, true, false] rfl rfl (by kernel_rfl) (by decide) (fun K hK => ?_)
 refine goes_ Try.func75 (by kernel_rfl) rfl #[.agg #[.int .i64 (rd_T37 l (rd_T77 ed k).f0).f0, .int .i64 (rd_T37 l (rd_T77 ed k).f0).f1], .agg #[.int .i64 (rd_T37 l (rd_T77 ed k).f1).f0, .int .i64 (rd_T37 l (rd_T77 ed k).f1).f1]] (by rfl) rfl rfl (by (try simp only [List.map_toArray, List.map_cons, List.map_nil]); first | done | rfl) ?_
 with_reducible refine (impl_length.callsB (rd_T37 l (rd_T77 ed k).f0) (rd_T37 l (rd_T77 ed k).f1) _).mono ?_
 rintro e w' ⟨rfl, hb⟩
 refine ⟨_, rfl, ?_⟩
 have HB : Aside0 _ := ⟨hb⟩
 obtain ⟨s0, s1, s2, s3, s4, s5, s6, s7⟩ := hHeld
 refine hK.out _ _ ⟨pw_cell_below hb s0, pw_cell_below hb s1, pw_cell_below hb s2, pw_cell_below hb s3, pw_cell_below hb s4, pw_cell_below hb s5, pw_cell_below hb s6, pw_cell_below hb s7⟩ (fun hHeld => ?_)
 clear hb
 clear hK K
 refine norm_ (a' := ?_) ?_ ?_
 rotate_left
 ·show Act.put _ (some 21) _ = _
  simp only [Act.put, List.setIfInBounds_toArray, List.set_cons_zero, List.set_cons_succ, i64_w, i32_w]
  rfl
 refine pure_ (i := 17) (N := some 4) (v := ?_) (a' := ?_) #[true, true, true, true, true, true, true, true, true, true, true, true, true, true, true, true, true, true] rfl rfl (by kernel_rfl) (fun _ _ _ h => h) (Or.inl ⟨by rfl, ?_⟩) ?_ ?_
 rotate_left
 ·intro w'
  go_simp
  with_reducible rfl
 rotate_left
 ·simp only [Act.put, List.setIfInBounds_toArray, List.set_cons_zero, List.set_cons_succ, i64_w, i32_w]
  rfl
 refine done_ (by kernel_rfl) ?_
 go_wp2
 go_ret
 exact ⟨rfl, below_then (below_drew (Below.refl _ _)) (by simp) HB.out⟩
/-- The comparison: which of two edges is longer. -/
def cmpF (l : List S37) (ed : List S77) (x y : Int) : Option Int := (farF l ed x).bind fun a => (farF l ed y).bind fun b => some (wrap64 (a - b))
set_option maxHeartbeats 4000000 in
set_option maxRecDepth 100000 in
theorem cmp_call (l : List S37) (ed : List S77) (A A2 : Option Addr) (c c2 : Nat) (L E D : Addr) (x y r : Int) (w : World) (hl : Kd.C k37 w A l.length l) (he : Kd.C k77 w A2 ed.length ed) (hL : w.cell? L = some (.slice A l.length c)) (hE : w.cell? E = some (.slice A2 ed.length c2))
  (hD : w.cell? D = some (.func (.func 74) #[] #[.pointer (some L), .pointer (some E)])) (h : cmpF l ed x y = some r) :
  Calls Try.prog 77 #[.int .i64 x, .int .i64 y, .pointer (some D)] w fun e w' => e = .returned (.int .i64 r) ∧ Below w.heap.size w w' := by
 unfold cmpF at h
 obtain ⟨fa, h1, h⟩ := Option.bind_eq_some_iff.mp h
 obtain ⟨fb, h2, h⟩ := Option.bind_eq_some_iff.mp h
 obtain rfl := Option.some.inj h
 clear h
 have H1 : Aside0 _ := ⟨h1⟩
 have H2 : Aside0 _ := ⟨h2⟩
 have HL : Aside0 _ := ⟨hl⟩
 have HE : Aside0 _ := ⟨he⟩
 have HcL : Aside0 _ := ⟨hL⟩
 have HcE : Aside0 _ := ⟨hE⟩
 clear h1 h2 hl he hL hE
 have hLE : ∀ (W : World), Below w.heap.size w W → ∀ k v, farF l ed k = some v → Calls Try.prog 74 (#[.int .i64 k] ++ #[.pointer (some L), .pointer (some E)]) W fun e w' => e = .returned (.int .i64 v) ∧ Below W.heap.size W w' := fun W hb k v hv =>
  far_call l ed A A2 c c2 L E k v W (Kd.C_below HL.out hb) (Kd.C_below HE.out hb) (pw_cell_below hb HcL.out) (pw_cell_below hb HcE.out) hv
 have HF : Aside0 _ := ⟨hLE⟩
 clear hLE
 go_enter Try.func77, Try.ntmps77
 go_wp2_with fail
 refine start_ (n := 8) (S := fun w' => w'.cell? D = some (.func (.func 74) #[] #[.pointer (some L), .pointer (some E)])) (ds := []) #[false, false, false, false, false, false, false, false] (by kernel_rfl) rfl rfl (by simpa [go_sem] using hD) (fun hHeld => ?_)
 refine take_ (i := 0) (N := some 6) (v := ?_) (a' := ?_) #[true, false, false, false, false, false, false, false] rfl rfl (by kernel_rfl) (fun _ _ _ h => h) (Or.inl ⟨by rfl, ?_⟩) hHeld ?_ ?_
 rotate_left
 ·rintro w' s0
  go_simp
  with_reducible rfl
 rotate_left
 ·simp only [Act.put, List.setIfInBounds_toArray, List.set_cons_zero, List.set_cons_succ, i64_w, i32_w]
  rfl
 refine pure_ (i := 1) (N := some 7) (v := ?_) (a' := ?_) #[true, true, false, false, false, false, false, false] rfl rfl (by kernel_rfl) (fun _ _ _ h => h) (Or.inl ⟨by rfl, ?_⟩) ?_ ?_
 rotate_left
 ·intro w'
  go_simp
  with_reducible rfl
 rotate_left
 ·simp only [Act.put, List.setIfInBounds_toArray, List.set_cons_zero, List.set_cons_succ, i64_w, i32_w]
  rfl
 refine take_ (i := 3) (N := some 9) (v := ?_) (a' := ?_) #[true, true, false, true, false, false, false, false] rfl rfl (by kernel_rfl) (fun _ _ _ h => h) (Or.inl ⟨by rfl, ?_⟩) hHeld ?_ ?_
 rotate_left
 ·rintro w' s0
  go_simp
  with_reducible rfl
 rotate_left
 ·simp only [Act.put, List.setIfInBounds_toArray, List.set_cons_zero, List.set_cons_succ, i64_w, i32_w]
  rfl
 refine pure_ (i := 4) (N := some 10) (v := ?_) (a' := ?_) #[true, true, false, true, true, false, false, false] rfl rfl (by kernel_rfl) (fun _ _ _ h => h) (Or.inl ⟨by rfl, ?_⟩) ?_ ?_
 rotate_left
 ·intro w'
  go_simp
  with_reducible rfl
 rotate_left
 ·simp only [Act.put, List.setIfInBounds_toArray, List.set_cons_zero, List.set_cons_succ, i64_w, i32_w]
  rfl
 refine one_ (i := 2) (N := some 8) #[true, true, true, true, true, false, false, false] rfl rfl (by kernel_rfl) (by decide) (fun K hK => ?_)
 refine goesV_ (g := 74) (caps := #[.pointer (some L), .pointer (some E)]) (fun _ _ => by kernel_rfl) #[.int .i64 x] (by rfl) rfl rfl rfl (by (try simp only [List.map_toArray, List.map_cons, List.map_nil]); first | done | rfl) ?_
 refine (HF.out _ (below_drew (Below.refl _ _)) _ _ H1.out).mono ?_
 rintro e w2 ⟨rfl, hb⟩
 refine ⟨_, rfl, ?_⟩
 have HB : Aside0 (Below w.heap.size w w2) := ⟨below_then (below_drew (Below.refl _ _)) (by simp) hb⟩
 refine hK.out _ _ (pw_cell_below hb hHeld) (fun hHeld => ?_)
 clear hb
 clear hK K
 refine norm_ (a' := ?_) ?_ ?_
 rotate_left
 ·show Act.put _ (some 8) _ = _
  simp only [Act.put, List.setIfInBounds_toArray, List.set_cons_zero, List.set_cons_succ, i64_w, i32_w]
  rfl
 refine one_ (i := 5) (N := some 11) #[true, true, true, true, true, true, false, false] rfl rfl (by kernel_rfl) (by decide) (fun K hK => ?_)
 refine goesV_ (g := 74) (caps := #[.pointer (some L), .pointer (some E)]) (fun _ _ => by kernel_rfl) #[.int .i64 y] (by rfl) rfl rfl rfl (by (try simp only [List.map_toArray, List.map_cons, List.map_nil]); first | done | rfl) ?_
 refine (HF.out _ (HB.out) _ _ H2.out).mono ?_
 rintro e w5 ⟨rfl, hb⟩
 refine ⟨_, rfl, ?_⟩
 have HB : Aside0 (Below w.heap.size w w5) := ⟨below_step HB.out hb⟩
 refine hK.out _ _ (pw_cell_below hb hHeld) (fun hHeld => ?_)
 clear hb
 clear hK K
 refine norm_ (a' := ?_) ?_ ?_
 rotate_left
 ·show Act.put _ (some 11) _ = _
  simp only [Act.put, List.setIfInBounds_toArray, List.set_cons_zero, List.set_cons_succ, i64_w, i32_w]
  rfl
 refine pure_ (i := 6) (N := some 12) (v := ?_) (a' := ?_) #[true, true, true, true, true, true, true, false] rfl rfl (by kernel_rfl) (fun _ _ _ h => h) (Or.inl ⟨by rfl, ?_⟩) ?_ ?_
 rotate_left
 ·intro w'
  go_simp
  with_reducible rfl
 rotate_left
 ·simp only [Act.put, List.setIfInBounds_toArray, List.set_cons_zero, List.set_cons_succ, i64_w, i32_w]
  rfl
 refine pure_ (i := 7) (N := some 5) (v := ?_) (a' := ?_) #[true, true, true, true, true, true, true, true] rfl rfl (by kernel_rfl) (fun _ _ _ h => h) (Or.inl ⟨by rfl, ?_⟩) ?_ ?_
 rotate_left
 ·intro w'
  go_simp
  with_reducible rfl
 rotate_left
 ·simp only [Act.put, List.setIfInBounds_toArray, List.set_cons_zero, List.set_cons_succ, i64_w, i32_w]
  rfl
 refine done_ (by kernel_rfl) ?_
 go_wp2
 go_ret
 exact ⟨by simp [i64_w], HB.out⟩
end Go.Proofs.Ytpmjjldocjopmaa.Pr
namespace Go.Proofs.Ytpmjjldocjopmaa.Pr
set_option linter.unusedVariables false
set_option linter.unusedSimpArgs false
open Go.RowKit Go.Proofs.YtpmjjldocjopmaaW.PrintWords Go.Proofs.YtpmjjldocjopmaaW.PrintLast Go.Proofs.YtpmjjldocjopmaaW.PrintMore
attribute [local go_sem] max2_int min2_int max_two min_two max_three min_three max_four min_four   -- for this text's walks alone
/-! ### impl_edgesOf: function 64 -/
mutual
def impl_edgesOf.l0 : Nat → Int → List (S77) → Int → Option ((List (S77)))
 | 0, _, _, _ => none
 | k + 1, x0, x3, x4 => if x4 < x0 then (impl_edgesOf.l1 k x0 x3 x4 (wrap64 (x4 + 1))) else (some x3)
def impl_edgesOf.l1 : Nat → Int → List (S77) → Int → Int → Option ((List (S77)))
 | 0, _, _, _, _ => none
 | k + 1, x0, x3, x4, x5 => if x5 < x0 then (if x3.length < 8796093022208 then (impl_edgesOf.l1 k x0 (x3 ++ [(⟨x4, x5⟩ : S77)]) x4 (wrap64 (x5 + 1))) else (none)) else (impl_edgesOf.l0 k x0 x3 (wrap64 (x4 + 1)))
end
def impl_edgesOf.f (k : Nat) (a0 : Int) : Option ((List (S77))) := impl_edgesOf.l0 k a0 ([] : List (S77)) 0
theorem impl_edgesOf.mono_l : ∀ k, (∀ y0 y1 y2, LeO (impl_edgesOf.l0 k y0 y1 y2) (impl_edgesOf.l0 (k + 1) y0 y1 y2)) ∧ (∀ y0 y1 y2 y3, LeO (impl_edgesOf.l1 k y0 y1 y2 y3) (impl_edgesOf.l1 (k + 1) y0 y1 y2 y3))
 | 0 => ⟨fun _ _ _ r h => by simp [impl_edgesOf.l0] at h, fun _ _ _ _ r h => by simp [impl_edgesOf.l1] at h⟩
 | k + 1 => by
  obtain ⟨ih0, ih1⟩ := impl_edgesOf.mono_l k
  refine ⟨?_, ?_⟩
  ·intro y0 y1 y2
   unfold impl_edgesOf.l0
   repeat' first
   | (with_reducible exact ih0 _ _ _)
   | (with_reducible exact ih1 _ _ _ _)
   | (with_reducible exact LeO.refl _)
   | (with_reducible exact LeO.none _)
   | (with_reducible refine LeO.ite ?_ ?_)
   | (with_reducible refine LeO.bind ?_ (fun _ => ?_))
   | exact ih0 _ _ _
   | exact ih1 _ _ _ _
   | exact LeO.none _
   | refine LeO.ite ?_ ?_
   | refine LeO.bind ?_ (fun _ => ?_)
  ·intro y0 y1 y2 y3
   unfold impl_edgesOf.l1
   repeat' first
   | (with_reducible exact ih0 _ _ _)
   | (with_reducible exact ih1 _ _ _ _)
   | (with_reducible exact LeO.refl _)
   | (with_reducible exact LeO.none _)
   | (with_reducible refine LeO.ite ?_ ?_)
   | (with_reducible refine LeO.bind ?_ (fun _ => ?_))
   | exact ih0 _ _ _
   | exact ih1 _ _ _ _
   | exact LeO.none _
   | refine LeO.ite ?_ ?_
   | refine LeO.bind ?_ (fun _ => ?_)
theorem impl_edgesOf.mono : ∀ a0 k, LeO (impl_edgesOf.f k a0) (impl_edgesOf.f (k + 1) a0) := by
 intro a0 k
 obtain ⟨ih0, ih1⟩ := impl_edgesOf.mono_l k
 unfold impl_edgesOf.f
 repeat' first
   | (with_reducible exact ih0 _ _ _)
   | (with_reducible exact ih1 _ _ _ _)
   | (with_reducible exact LeO.refl _)
   | (with_reducible exact LeO.none _)
   | (with_reducible refine LeO.ite ?_ ?_)
   | (with_reducible refine LeO.bind ?_ (fun _ => ?_))
   | exact ih0 _ _ _
   | exact ih1 _ _ _ _
   | exact LeO.none _
   | refine LeO.ite ?_ ?_
   | refine LeO.bind ?_ (fun _ => ?_)
set_option maxHeartbeats 8000000 in
set_option maxRecDepth 100000 in
theorem impl_edgesOf.calls (k : Nat) (a0 : Int) (r : List (S77)) (w : World) (h : impl_edgesOf.f k a0 = some r) :
  Calls Try.prog 64 #[.int .i64 a0] w fun e w' => ∃ v0_ : Value, e = .returned (v0_) ∧ Kd.R k77 77 w' w.heap.size (fun _ => True) v0_ r ∧ Below w.heap.size w w' := by
 have hu77 := Try.underlying77
 have HB := Aside0.mk (Below.refl w.heap.size w)
 have H : (impl_edgesOf.l0 k a0 ([] : List (S77)) 0) = some r := h
 clear h
 have H' := Aside0.mk H
 clear H
 go_enter Try.func64, Try.ntmps64
 go_wp2
 go_loopg [3, 4] k (fun kq v3 v4 w' => ∃ (x3_1 : List (S77)) (x4_1 : Int), v4 = .int .i64 x4_1 ∧ Aside0 (impl_edgesOf.l0 kq a0 x3_1 x4_1 = some r) ∧ Aside0 (kq ≤ k) ∧ Aside0 (Kd.R k77 77 w' w.heap.size (fun _ => True) v3 x3_1) ∧ Aside0 (Below w.heap.size w w'))
 case atStart => exact ⟨(([] : List (S77))), (0), (by first | rfl | (simp; done) | (simp [*]; done)), H', ⟨Nat.le_refl _⟩, ⟨by first | exact Kd.R_nil _ _ _ _ _ | exact Kd.N_nil _ _ _ _ _ | exact Kd.V_nil _ _ _ _ _ | exact Kd.Q_nil _ _ _ _ _ | exact Kd.S_nil _ _ _ _ _⟩, ⟨by repeat (first | (with_reducible first | exact HB.out | apply below_alloc | apply pw_below_drewN | apply below_drew1) | exact HB.out)⟩⟩
 case round =>
  clear H'
  obtain ⟨x3_1, x4_1, rfl, HA, HK1, HO_3, HB⟩ := hrel
  cases gk with
  | zero => exact absurd HA.out (by simp [impl_edgesOf.l0])
  | succ k1 =>
   have H := HA.out
   clear HA
   simp only [impl_edgesOf.l0] at H
   by_cases c2 : x4_1 < a0
   ·rw [if_pos c2] at H
    have c2b0 : decide (x4_1 < a0) = true := decide_eq_true c2
    clear c2
    have H' := Aside0.mk H
    clear H
    go_wp2
    go_loopg [3, 5] k1 (fun kq v3 v5 w' => ∃ (x3_2 : List (S77)) (x5_2 : Int), v5 = .int .i64 x5_2 ∧ Aside0 (impl_edgesOf.l1 kq a0 x3_2 x4_1 x5_2 = some r) ∧ Aside0 (kq ≤ k1) ∧ Aside0 (Kd.R k77 77 w' w.heap.size (fun _ => True) v3 x3_2) ∧ Aside0 (Below w.heap.size w w'))
    case atStart => exact ⟨(x3_1), (wrap64 (x4_1 + 1)), (by first | rfl | (simp; done) | (simp [*]; done)), H', ⟨Nat.le_refl _⟩, ⟨by (with_reducible repeat (first | apply Kd.R_alloc | apply Kd.R_drewN | apply Kd.R_drew)); exact HO_3.out⟩, ⟨by repeat (first | (with_reducible first | exact HB.out | apply below_alloc | apply pw_below_drewN | apply below_drew1) | exact HB.out)⟩⟩
    case round =>
     clear H'
     try clear c2
     try clear c2b0
     try clear p2
     obtain ⟨x3_2, x5_2, rfl, HA, HK2, HO_3, HB⟩ := hrel
     cases gk with
     | zero => exact absurd HA.out (by simp [impl_edgesOf.l1])
     | succ k2 =>
      have H := HA.out
      clear HA
      simp only [impl_edgesOf.l1] at H
      by_cases c3 : x5_2 < a0
      ·rw [if_pos c3] at H
       have c3b0 : decide (x5_2 < a0) = true := decide_eq_true c3
       clear c3
       by_cases c4 : x3_2.length < 8796093022208
       ·rw [if_pos c4] at H
        have LMc4 := Aside0.mk c4
        clear c4
        obtain ⟨y301, hy301⟩ : ∃ y_ : List (S77), y_ = (x3_2 ++ [(⟨x4_1, x5_2⟩ : S77)]) := ⟨_, rfl⟩
        replace H : (impl_edgesOf.l1 k2 a0 y301 x4_1 (wrap64 (x5_2 + 1))) = some r := by first | (rw [hy301]; with_reducible exact H) | (have H2_ := (Option.bind_some _ _).symm.trans H; rw [hy301]; with_reducible exact H2_) | (have H2_ := (Option.bind_some _ _).symm.trans H; with_reducible exact H2_) | with_reducible exact H | (rw [hy301]; exact H) | exact H
        have Ny301 := Aside0.mk hy301
        clear hy301
        have H' := Aside0.mk H
        clear H
        go_wp2_with (first | ((with_reducible refine gate_builtin (b := .append) (xs := #[.tmp 18, .tmp 22]) rfl ?_); at_builtin; refine Kd.R_append k77 (w0 := w) w.heap.size rfl (.tmp 18) (.tmp 22) 75 77 (.agg #[(.int .i64 0), (.int .i64 0)]) 16 rfl Try.underlying75 info77 rfl (by decide) (by omega) u3 x3_2 (⟨x4_1, x5_2⟩ : S77) [.int .i64 x4_1, .int .i64 x5_2] (fun _ => True) (fun _ => False) rfl rfl ?aP (fun _ hk => hk.elim) ?aF ?aO ?aB ?aS ?aL ?_; (case aP => exact k77_mkM _ _ _ (⟨x4_1, x5_2⟩ : S77)); (case aB => exact (by repeat (first | (with_reducible first | exact HB.out | apply below_alloc | apply pw_below_drewN | apply below_drew1) | exact HB.out))); (case aF => exact (fun _ _ => trivial)); (case aO => exact (by (with_reducible repeat (first | apply Kd.R_alloc | apply Kd.R_drewN | apply Kd.R_drew)); exact HO_3.out)); (case aS => exact (below_size (by repeat (first | (with_reducible first | exact HB.out | apply below_alloc | apply pw_below_drewN | apply below_drew1) | exact HB.out)))); (case aL => have := LMc4.out; omega); intro v302 w5 ho hb hg hat; rw [← Ny301.out] at ho; have n0_ := Aside0.mk (hb); have n1_ := Aside0.mk (ho); clear HB; clear HO_3; have HB := n0_; have HO303 := n1_; clear n0_ n1_; clear ho hb hg hat))
        go_roundg k2
        case measure => have := HK1.out; have := HK2.out; omega
        case rel => exact ⟨(y301), (wrap64 (x5_2 + 1)), (by first | rfl | (simp; done) | (simp [*]; done)), H', ⟨by have := HK1.out; have := HK2.out; omega⟩, ⟨by (with_reducible repeat (first | apply Kd.R_alloc | apply Kd.R_drewN | apply Kd.R_drew)); exact HO303.out⟩, ⟨by repeat (first | (with_reducible first | exact HB.out | apply below_alloc | apply pw_below_drewN | apply below_drew1) | exact HB.out)⟩⟩
       ·rw [if_neg c4] at H
        exact absurd H (by simp)
      ·rw [if_neg c3] at H
       have c3b0 : decide (x5_2 < a0) = false := decide_eq_false c3
       clear c3
       have H' := Aside0.mk H
       clear H
       go_wp2
       go_roundg k2
       case measure => have := HK1.out; have := HK2.out; omega
       case rel => exact ⟨(x3_2), (wrap64 (x4_1 + 1)), (by first | rfl | (simp; done) | (simp [*]; done)), H', ⟨by have := HK1.out; have := HK2.out; omega⟩, ⟨by (with_reducible repeat (first | apply Kd.R_alloc | apply Kd.R_drewN | apply Kd.R_drew)); exact HO_3.out⟩, ⟨by repeat (first | (with_reducible first | exact HB.out | apply below_alloc | apply pw_below_drewN | apply below_drew1) | exact HB.out)⟩⟩
   ·rw [if_neg c2] at H
    have c2b0 : decide (x4_1 < a0) = false := decide_eq_false c2
    clear c2
    obtain rfl := Option.some.inj H
    go_wp2
    go_ret
    exact ⟨_, by first | rfl | (simp [errW_none, errW_some] <;> rfl) | (simp [*, errW_none, errW_some] <;> rfl), by (with_reducible repeat (first | apply Kd.R_alloc | apply Kd.R_drewN | apply Kd.R_drew)); exact HO_3.out, by repeat (first | (with_reducible first | exact HB.out | apply below_alloc | apply pw_below_drewN | apply below_drew1) | exact HB.out)⟩
end Go.Proofs.Ytpmjjldocjopmaa.Pr
namespace Go.Proofs.Ytpmjjldocjopmaa.Pr
set_option linter.unusedVariables false
set_option linter.unusedSimpArgs false
open Go.RowKit Go.Proofs.YtpmjjldocjopmaaW.PrintWords Go.Proofs.YtpmjjldocjopmaaW.PrintLast Go.Proofs.YtpmjjldocjopmaaW.PrintMore
attribute [local go_sem] max2_int min2_int max_two min_two max_three min_three max_four min_four   -- for this text's walks alone
/-! ### impl_upTo: function 73 -/
def impl_upTo.l0 : Nat → Int → List Int → Int → Option (List Int)
 | 0, _, _, _ => none
 | k + 1, x0, x3, x4 => if x4 < x0 then (if x3.length < 17592186044416 then (impl_upTo.l0 k x0 (x3 ++ [x4]) (wrap64 (x4 + 1))) else (none)) else (some x3)
def impl_upTo.f (k : Nat) (a0 : Int) : Option (List Int) := impl_upTo.l0 k a0 ([] : List Int) 0
theorem impl_upTo.mono_l : ∀ k, (∀ y0 y1 y2, LeO (impl_upTo.l0 k y0 y1 y2) (impl_upTo.l0 (k + 1) y0 y1 y2))
 | 0 => fun _ _ _ r h => by simp [impl_upTo.l0] at h
 | k + 1 => by
  have ih0 := impl_upTo.mono_l k
  ·intro y0 y1 y2
   unfold impl_upTo.l0
   repeat' first
   | (with_reducible exact ih0 _ _ _)
   | (with_reducible exact LeO.refl _)
   | (with_reducible exact LeO.none _)
   | (with_reducible refine LeO.ite ?_ ?_)
   | (with_reducible refine LeO.bind ?_ (fun _ => ?_))
   | exact ih0 _ _ _
   | exact LeO.none _
   | refine LeO.ite ?_ ?_
   | refine LeO.bind ?_ (fun _ => ?_)
theorem impl_upTo.mono : ∀ a0 k, LeO (impl_upTo.f k a0) (impl_upTo.f (k + 1) a0) := by
 intro a0 k
 have ih0 := impl_upTo.mono_l k
 unfold impl_upTo.f
 repeat' first
   | (with_reducible exact ih0 _ _ _)
   | (with_reducible exact LeO.refl _)
   | (with_reducible exact LeO.none _)
   | (with_reducible refine LeO.ite ?_ ?_)
   | (with_reducible refine LeO.bind ?_ (fun _ => ?_))
   | exact ih0 _ _ _
   | exact LeO.none _
   | refine LeO.ite ?_ ?_
   | refine LeO.bind ?_ (fun _ => ?_)
set_option maxHeartbeats 8000000 in
set_option maxRecDepth 100000 in
theorem impl_upTo.calls (k : Nat) (a0 : Int) (r : List Int) (w : World) (h : impl_upTo.f k a0 = some r) :
  Calls Try.prog 73 #[.int .i64 a0] w fun e w' => ∃ v0_ : Value, e = .returned (v0_) ∧ Kd.R (Kd.int .i64) 3 w' w.heap.size (fun _ => True) v0_ r ∧ Below w.heap.size w w' := by
 have HB := Aside0.mk (Below.refl w.heap.size w)
 have H : (impl_upTo.l0 k a0 ([] : List Int) 0) = some r := h
 clear h
 have H' := Aside0.mk H
 clear H
 go_enter Try.func73, Try.ntmps73
 go_wp2
 go_loopg [3, 4] k (fun kq v3 v4 w' => ∃ (x3_1 : List Int) (x4_1 : Int), v4 = .int .i64 x4_1 ∧ Aside0 (impl_upTo.l0 kq a0 x3_1 x4_1 = some r) ∧ Aside0 (kq ≤ k) ∧ Aside0 (Kd.R (Kd.int .i64) 3 w' w.heap.size (fun _ => True) v3 x3_1) ∧ Aside0 (Below w.heap.size w w'))
 case atStart => exact ⟨(([] : List Int)), (0), (by first | rfl | (simp; done) | (simp [*]; done)), H', ⟨Nat.le_refl _⟩, ⟨by first | exact Kd.R_nil _ _ _ _ _ | exact Kd.N_nil _ _ _ _ _ | exact Kd.V_nil _ _ _ _ _ | exact Kd.Q_nil _ _ _ _ _ | exact Kd.S_nil _ _ _ _ _⟩, ⟨by repeat (first | (with_reducible first | exact HB.out | apply below_alloc | apply pw_below_drewN | apply below_drew1) | exact HB.out)⟩⟩
 case round =>
  clear H'
  obtain ⟨x3_1, x4_1, rfl, HA, HK1, HO_3, HB⟩ := hrel
  cases gk with
  | zero => exact absurd HA.out (by simp [impl_upTo.l0])
  | succ k1 =>
   have H := HA.out
   clear HA
   simp only [impl_upTo.l0] at H
   by_cases c2 : x4_1 < a0
   ·rw [if_pos c2] at H
    have c2b0 : decide (x4_1 < a0) = true := decide_eq_true c2
    clear c2
    by_cases c3 : x3_1.length < 17592186044416
    ·rw [if_pos c3] at H
     have LMc3 := Aside0.mk c3
     clear c3
     obtain ⟨y301, hy301⟩ : ∃ y_ : List Int, y_ = (x3_1 ++ [x4_1]) := ⟨_, rfl⟩
     replace H : (impl_upTo.l0 k1 a0 y301 (wrap64 (x4_1 + 1))) = some r := by first | (rw [hy301]; with_reducible exact H) | (have H2_ := (Option.bind_some _ _).symm.trans H; rw [hy301]; with_reducible exact H2_) | (have H2_ := (Option.bind_some _ _).symm.trans H; with_reducible exact H2_) | with_reducible exact H | (rw [hy301]; exact H) | exact H
     have Ny301 := Aside0.mk hy301
     clear hy301
     have H' := Aside0.mk H
     clear H
     go_wp2_with (first | ((with_reducible refine gate_builtin (b := .append) (xs := #[.tmp 10, .tmp 12]) rfl ?_); at_builtin; refine Kd.R_append (Kd.int .i64) (w0 := w) w.heap.size rfl (.tmp 10) (.tmp 12) 49 3 (.int .i64 0) 8 rfl Try.underlying49 info3 rfl (by decide) (by omega) u3 x3_1 x4_1 [.int .i64 x4_1] (fun _ => True) (fun _ => False) rfl rfl ?aP (fun _ hk => hk.elim) ?aF ?aO ?aB ?aS ?aL ?_; (case aP => exact rfl); (case aB => exact (by repeat (first | (with_reducible first | exact HB.out | apply below_alloc | apply pw_below_drewN | apply below_drew1) | exact HB.out))); (case aF => exact (fun _ _ => trivial)); (case aO => exact (by (with_reducible repeat (first | apply Kd.R_alloc | apply Kd.R_drewN | apply Kd.R_drew)); exact HO_3.out)); (case aS => exact (below_size (by repeat (first | (with_reducible first | exact HB.out | apply below_alloc | apply pw_below_drewN | apply below_drew1) | exact HB.out)))); (case aL => have := LMc3.out; omega); intro v302 w4 ho hb hg hat; rw [← Ny301.out] at ho; have n0_ := Aside0.mk (hb); have n1_ := Aside0.mk (ho); clear HB; clear HO_3; have HB := n0_; have HO303 := n1_; clear n0_ n1_; clear ho hb hg hat))
     go_roundg k1
     case measure => have := HK1.out; omega
     case rel => exact ⟨(y301), (wrap64 (x4_1 + 1)), (by first | rfl | (simp; done) | (simp [*]; done)), H', ⟨by have := HK1.out; omega⟩, ⟨by (with_reducible repeat (first | apply Kd.R_alloc | apply Kd.R_drewN | apply Kd.R_drew)); exact HO303.out⟩, ⟨by repeat (first | (with_reducible first | exact HB.out | apply below_alloc | apply pw_below_drewN | apply below_drew1) | exact HB.out)⟩⟩
    ·rw [if_neg c3] at H
     exact absurd H (by simp)
   ·rw [if_neg c2] at H
    have c2b0 : decide (x4_1 < a0) = false := decide_eq_false c2
    clear c2
    obtain rfl := Option.some.inj H
    go_wp2
    go_ret
    exact ⟨_, by first | rfl | (simp [errW_none, errW_some] <;> rfl) | (simp [*, errW_none, errW_some] <;> rfl), by (with_reducible repeat (first | apply Kd.R_alloc | apply Kd.R_drewN | apply Kd.R_drew)); exact HO_3.out, by repeat (first | (with_reducible first | exact HB.out | apply below_alloc | apply pw_below_drewN | apply below_drew1) | exact HB.out)⟩
end Go.Proofs.Ytpmjjldocjopmaa.Pr
/- impl.ShortestTree, in the printed functions' form. -/
namespace Go.Proofs.Ytpmjjldocjopmaa.Pr
set_option linter.unusedVariables false
set_option linter.unusedSimpArgs false
open Go.RowKit Go.Proofs.YtpmjjldocjopmaaW.PrintWords Go.Proofs.YtpmjjldocjopmaaW.PrintLast Go.Proofs.YtpmjjldocjopmaaW.PrintMore
theorem calls_named {P : Program} {f : FuncId} {args : Array Value} {w : World} {Q : Ending → World → Prop} (h : ∀ W, W = w → Calls P f args W Q) : Calls P f args w Q := h w rfl
/-- One edge after the other: where its ends lie in different parts it is taken, and the parts are joined. -/
def impl_ShortestTree.l0 : Nat → List S77 → List Int → List Int → Int → Int → Option Int
 | 0, _, _, _, _, _ => none
 | k + 1, ed, order, part, out, i => if i < (order.length : Int) then
   (if 0 ≤ rd order i ∧ rd order i < (ed.length : Int) ∧ 0 ≤ (rd_T77 ed (rd order i)).f0 ∧ (rd_T77 ed (rd order i)).f0 < (part.length : Int) ∧ 0 ≤ (rd_T77 ed (rd order i)).f1 ∧ (rd_T77 ed (rd order i)).f1 < (part.length : Int) then
    (if rd part (rd_T77 ed (rd order i)).f0 = rd part (rd_T77 ed (rd order i)).f1 then impl_ShortestTree.l0 k ed order part out (wrap64 (i + 1))
    else impl_ShortestTree.l0 k ed order (part.map fun x => if x = rd part (rd_T77 ed (rd order i)).f1 then rd part (rd_T77 ed (rd order i)).f0 else x) (Go.bits .or .i64 out (shl .i64 1 (rd order i))) (wrap64 (i + 1)))
   else none) else some out
def impl_ShortestTree.f (k : Nat) (l : List S37) : Option Int := (impl_ArePoints.f k l).bind fun t => if t = true then ((impl_edgesOf.f k (l.length : Int)).bind fun ed => (impl_upTo.f k (ed.length : Int)).bind fun ord =>
 (@slices_SortStableFunc_int_int.f ⟨cmpF l ed⟩ k ord 0).bind fun srt => (impl_upTo.f k (l.length : Int)).bind fun part => impl_ShortestTree.l0 k ed srt part 0 0) else some 0
theorem impl_ShortestTree.mono_l : ∀ k ed order part out i, LeO (impl_ShortestTree.l0 k ed order part out i) (impl_ShortestTree.l0 (k + 1) ed order part out i)
 | 0 => fun _ _ _ _ _ r h => by simp [impl_ShortestTree.l0] at h
 | k + 1 => by
  have ih := impl_ShortestTree.mono_l k
  intro ed order part out i
  unfold impl_ShortestTree.l0
  repeat' first
   | (with_reducible exact ih _ _ _ _ _)
   | (with_reducible exact LeO.refl _)
   | (with_reducible exact LeO.none _)
   | (with_reducible refine LeO.ite ?_ ?_)
theorem impl_ShortestTree.mono : ∀ a0 k, LeO (impl_ShortestTree.f k a0) (impl_ShortestTree.f (k + 1) a0) := by
 intro a0 k
 unfold impl_ShortestTree.f
 refine LeO.bind (impl_ArePoints.mono _ _) (fun t => LeO.ite ?_ (LeO.refl _))
 refine LeO.bind (impl_edgesOf.mono _ _) (fun ed => LeO.bind (impl_upTo.mono _ _) (fun ord => ?_))
 refine LeO.bind (@slices_SortStableFunc_int_int.mono ⟨cmpF a0 ed⟩ _ _ _) (fun srt => LeO.bind (impl_upTo.mono _ _) (fun part => ?_))
 exact impl_ShortestTree.mono_l _ _ _ _ _ _
theorem wrap64_in {n : Int} (h0 : 0 ≤ n) (h1 : n ≤ 9223372036854775807) : wrap64 n = n := by
 unfold wrap64
 omega
/-- The first j of a list turned by g. -/
def mapTo (g : Int → Int) (xs : List Int) (j : Nat) : List Int := (xs.take j).map g ++ xs.drop j
theorem intOf_int (k : IntKind) (n : Int) : intOf (.int k n) = n := rfl
theorem meas_ (L j : Nat) (x : Int) (h : x = ((j + 1 : Nat) : Int)) (hj : j < L) : L - (intOf (.int .i64 x)).toNat < L - (intOf (.int .i64 ((j : Nat) : Int))).toNat := by
 rw [intOf_int, intOf_int, h, Int.toNat_natCast, Int.toNat_natCast]
 omega
theorem mapTo_len (g : Int → Int) (xs : List Int) (j : Nat) : (mapTo g xs j).length = xs.length := by
 simp [mapTo]
 omega
theorem mapTo_zero (g : Int → Int) (xs : List Int) : mapTo g xs 0 = xs := by simp [mapTo]
theorem mapTo_all (g : Int → Int) (xs : List Int) : mapTo g xs xs.length = xs.map g := by simp [mapTo]
theorem mapTo_rd (g : Int → Int) (xs : List Int) (j : Nat) (h : j < xs.length) : rd (mapTo g xs j) (j : Int) = rd xs (j : Int) := by
 have h2 : ((xs.take j).map g).length = j := by simp; omega
 simp only [rd, mapTo, Int.toNat_natCast, List.getD_eq_getElem?_getD]
 rw [List.getElem?_append_right (by omega), h2]
 simp
theorem mapTo_step (g : Int → Int) (xs : List Int) (j : Nat) (h : j < xs.length) : (mapTo g xs j).set j (g (rd xs (j : Int))) = mapTo g xs (j + 1) := by
 have h2 : ((xs.take j).map g).length = j := by simp; omega
 have h3 : rd xs (j : Int) = xs[j] := by simp [rd, List.getD_eq_getElem?_getD, h]
 unfold mapTo
 rw [List.set_append_right _ _ (by omega), h2, List.drop_eq_getElem_cons h, h3]
 rw [List.take_succ_eq_append_getElem h]
 simp only [List.map_append, List.map_cons, List.map_nil, List.append_assoc, List.cons_append, List.nil_append, Nat.sub_self, List.set_cons_zero]
theorem mapTo_same (g : Int → Int) (xs : List Int) (j : Nat) (h : j < xs.length) (hg : g (rd xs (j : Int)) = rd xs (j : Int)) : mapTo g xs j = mapTo g xs (j + 1) := by
 rw [← mapTo_step g xs j h, hg, ← mapTo_rd g xs j h]
 have hl : j < (mapTo g xs j).length := by rw [mapTo_len]; exact h
 simp only [rd, Int.toNat_natCast, List.getD_eq_getElem?_getD, List.getElem?_eq_getElem hl, Option.getD_some]
 simp
theorem heapP : Kd.Heap k37 := Kd.heap_iso _ (Kd.heap_pair (Kd.heap_int _) (Kd.heap_int _))
theorem heapE : Kd.Heap k77 := Kd.heap_iso _ (Kd.heap_pair (Kd.heap_int _) (Kd.heap_int _))
set_option maxHeartbeats 400000 in
theorem sort_call (k : Nat) (l : List S37) (ed : List S77) (A A2 A3 : Option Addr) (c c2 c3 : Nat) (L E : Addr) (ord srt : List Int) (w4 w5 w6 : World) (hl : Kd.C k37 w4 A l.length l) (he : Kd.C k77 w4 A2 ed.length ed) (hL : w4.cell? L = some (.slice A l.length c)) (hE : w4.cell? E = some (.slice A2 ed.length c2))
  (hb : Below w4.heap.size w4 w5) (hR : Kd.R (Kd.int .i64) 3 w5 w4.heap.size (fun _ => True) (.slice A3 ord.length c3) ord) (h : @slices_SortStableFunc_int_int.f ⟨cmpF l ed⟩ k ord 0 = some srt) (o : Nat) (hw6 : w6 = w5.alloc (.cells #[.func (.func 74) #[] #[.pointer (some L), .pointer (some E)]] o)) :
  Calls Try.prog 76 #[.slice A3 ord.length c3, .func (.func 77) #[] #[.pointer (some ⟨w5.heap.size, 0, none⟩)]] w6 fun e w' => e = .returned (.tuple #[]) ∧ Kd.R (Kd.int .i64) 3 w' w4.heap.size (fun _ => True) (.slice A3 ord.length c3) srt ∧ Below w4.heap.size w4 w' := by
 have hPC : ∀ i, some i = (.slice A3 ord.length c3 : Value).ownBlock → w4.heap.size ≤ i ∧ i < w5.heap.size := fun i hi => ⟨Kd.R_base hR i hi.symm, Kd.R_lt hR i hi.symm⟩
 have hb6 : Below w4.heap.size w4 w6 := by rw [hw6]; exact below_alloc hb _
 have hD : w6.cell? ⟨w5.heap.size, 0, none⟩ = some (.func (.func 74) #[] #[.pointer (some L), .pointer (some E)]) := by rw [hw6]; simp [go_sem]
 have hR6 : Kd.R (Kd.int .i64) 3 w6 w4.heap.size (fun k_ => some k_ = (.slice A3 ord.length c3 : Value).ownBlock) (.slice A3 ord.length c3) ord := by rw [hw6]; exact Kd.R_alloc (Kd.R_tight rfl hR) _
 letI I1 : CmpF := ⟨cmpF l ed⟩
 letI I2 : CmpW := { g := 77, caps := #[.pointer (some ⟨w5.heap.size, 0, none⟩)], wC := w6, PC := fun k_ => some k_ = (.slice A3 ord.length c3 : Value).ownBlock, enters := fun _ _ => (by kernel_rfl), ok := fun W hk x y r hh => cmp_call l ed A A2 c c2 L E ⟨w5.heap.size, 0, none⟩ x y r W (Kd.C_kept_came heapP hl hb6 (fun i hi => (hPC i hi).1) W hk) (Kd.C_kept_came heapE he hb6 (fun i hi => (hPC i hi).1) W hk) (cell_kept (pw_cell_below hb6 hL) hk (fun hi => by have h1 := (hPC _ hi).1; have h2 := World.block_lt_of_cell? w4 L hL; omega)) (cell_kept (pw_cell_below hb6 hE) hk (fun hi => by have h1 := (hPC _ hi).1; have h2 := World.block_lt_of_cell? w4 E hE; omega)) (cell_kept hD hk (fun hi => by have h1 := (hPC _ hi).2; exact absurd h1 (Nat.lt_irrefl _))) hh }
 refine (slices_SortStableFunc_int_int.calls k (fun k_ => some k_ = (.slice A3 ord.length c3 : Value).ownBlock) (.slice A3 ord.length c3) ord 0 srt w4 w6 hb6 hR6 (Kept.refl _ _) (fun i hi => .inl hi) h).mono ?_
 rintro e w' ⟨rfl, hR', hB', _⟩
 exact ⟨rfl, Kd.R_mono hR' (fun _ _ => trivial), hB'⟩
set_option maxHeartbeats 4000000 in
set_option maxRecDepth 100000 in
theorem impl_ShortestTree.calls (k : Nat) (A0 : Option Addr) (c0 : Nat) (l0 : List (S37)) (r : Int) (w : World) (hr0 : Kd.C k37 w A0 l0.length l0) (hc0 : l0.length ≤ c0) (h : impl_ShortestTree.f k l0 = some r) :
  Calls Try.prog 31 #[.slice A0 l0.length c0] w fun e w' => e = .returned (.int .i64 r) ∧ Below w.heap.size w w' := by
 unfold impl_ShortestTree.f at h
 obtain ⟨t, hA, h⟩ := Option.bind_eq_some_iff.mp h
 have HA : Aside0 _ := ⟨hA⟩
 clear hA
 have HR : Aside0 _ := ⟨hr0⟩
 clear hr0
 cases t with
 | false =>
  obtain rfl : (0 : Int) = r := by simpa using h
  clear h
  go_enter Try.func31, Try.ntmps31
  go_wp2_with (go_at_call 72; (with_reducible refine (impl_ArePoints.calls k A0 c0 l0 false _ ?hr hc0 HA.out).mono ?_); (case hr => exact Kd.C_alloc HR.out _); rintro e w2 ⟨rfl, hb⟩; have HB : Aside0 (Below w.heap.size w w2) := ⟨below_then (below_alloc (Below.refl _ _) _) (by simp) hb⟩; clear hb)
  go_ret
  exact ⟨rfl, HB.out⟩
 | true =>
  simp only [if_true] at h
  obtain ⟨ed, hE, h⟩ := Option.bind_eq_some_iff.mp h
  obtain ⟨ord, hO, h⟩ := Option.bind_eq_some_iff.mp h
  obtain ⟨srt, hS, h⟩ := Option.bind_eq_some_iff.mp h
  obtain ⟨part, hP, h⟩ := Option.bind_eq_some_iff.mp h
  have HE : Aside0 _ := ⟨hE⟩
  have HO : Aside0 _ := ⟨hO⟩
  have HS : Aside0 _ := ⟨hS⟩
  have HP : Aside0 _ := ⟨hP⟩
  have H' : Aside0 _ := ⟨h⟩
  clear hE hO hS hP h
  have hu1 := Try.underlying115
  go_enter Try.func31, Try.ntmps31
  go_wp2_with (first
   | (go_at_call 72; (with_reducible refine (impl_ArePoints.calls k A0 c0 l0 true _ ?hr hc0 HA.out).mono ?_); (case hr => exact Kd.C_alloc HR.out _); rintro e w2 ⟨rfl, hb⟩; have HB2 : Aside0 (Below w.heap.size w w2) := ⟨below_then (below_alloc (Below.refl _ _) _) (by simp) hb⟩; have hL : w2.cell? ⟨w.heap.size, 0, none⟩ = some (.slice A0 l0.length c0) := pw_cell_below hb (by simp [go_sem]); clear hb)
   | (go_at_call 64; (with_reducible refine (impl_edgesOf.calls k (l0.length : Int) ed _ HE.out).mono ?_); rintro e w3 ⟨v3, rfl, hR3, hb3⟩; obtain ⟨A2, c2, rfl⟩ := Kd.R_slice hR3; have HR3 : Aside0 _ := ⟨hR3⟩; have HB3 : Aside0 _ := ⟨hb3⟩; have hL3 := pw_cell_below hb3 hL; have HL3 : Aside0 _ := ⟨hL3⟩; clear hR3 hb3 hL hL3)
   | (go_at_call 73; refine calls_named fun w4 hw4 => ?_; (with_reducible refine (impl_upTo.calls k (ed.length : Int) ord _ HO.out).mono ?_); rintro e w5 ⟨v5, rfl, hR5, hb5⟩; obtain ⟨A3, c3, rfl⟩ := Kd.R_slice hR5; have HR5 : Aside0 _ := ⟨hR5⟩; have HB5 : Aside0 _ := ⟨hb5⟩; clear hR5 hb5;
          have HB4 : Aside0 (Below w.heap.size w w4) := ⟨by rw [hw4]; exact below_alloc (below_step HB2.out HB3.out) _⟩;
          have HL4 : Aside0 (w4.cell? ⟨w.heap.size, 0, none⟩ = some (.slice A0 l0.length c0)) := ⟨by rw [hw4]; exact pw_cell_below (below_alloc (Below.refl _ _) _) HL3.out⟩;
          have HE4 : Aside0 (w4.cell? ⟨w3.heap.size, 0, none⟩ = some (.slice A2 ed.length c2)) := ⟨by rw [hw4]; simp [go_sem]⟩;
          have HC4 : Aside0 _ := ⟨Kd.C_below HR.out HB4.out⟩;
          have HD4 : Aside0 (Kd.C k77 w4 A2 ed.length ed) := ⟨by rw [hw4]; exact Kd.C_alloc (Kd.R_reads' HR3.out).2.2 _⟩;
          clear hw4)
   | (go_at_call 76; refine calls_named fun w6 hw6 => ?_; refine (sort_call k l0 ed A0 A2 A3 c0 c2 c3 _ _ ord srt w4 w5 w6 HC4.out HD4.out HL4.out HE4.out HB5.out HR5.out HS.out _ hw6).mono ?_; clear hw6; rintro e w7 ⟨rfl, hR7, hb7⟩;
          have HR7 : Aside0 _ := ⟨hR7⟩; have HB7 : Aside0 _ := ⟨hb7⟩; have HL7 : Aside0 _ := ⟨pw_cell_below hb7 HL4.out⟩; clear hR7 hb7; have hl7 := HL7.out)
   | (go_at_call 73; (with_reducible refine (impl_upTo.calls k (l0.length : Int) part _ HP.out).mono ?_); rintro e w8 ⟨v8, rfl, hR8, hb8⟩; obtain ⟨A8, c8, rfl⟩ := Kd.R_slice hR8; have HR8 : Aside0 _ := ⟨hR8⟩; have HB8 : Aside0 _ := ⟨hb8⟩; clear hR8 hb8 hl7))
  have HE7 : Aside0 _ := ⟨pw_cell_below HB7.out HE4.out⟩
  have HD7 : Aside0 _ := ⟨Kd.C_below HD4.out HB7.out⟩
  have hlen : ord.length = srt.length := (Kd.R_reads' HR7.out).1
  have HN : Aside0 _ := ⟨hlen⟩
  have HO7 : Aside0 _ := ⟨(Kd.R_reads' HR7.out).2.2⟩
  have HB47 : Aside0 (Below w.heap.size w w7) := ⟨below_then HB4.out HB4.out.size HB7.out⟩
  clear hlen
  go_loopg [7, 31] k (fun kq v7 v31 w' => ∃ (pt : List Int) (out i : Int), v7 = .int .i64 out ∧ v31 = .int .i64 i ∧ Aside0 (impl_ShortestTree.l0 kq ed srt pt out i = some r) ∧ Aside0 (0 ≤ i) ∧ Aside0 (Kd.R (Kd.int .i64) 3 w' w7.heap.size (fun _ => True) (.slice A8 part.length c8) pt) ∧ Aside0 (Below w7.heap.size w7 w'))
  case atStart => as_aux_lemma => exact ⟨part, 0, 0, rfl, rfl, H', ⟨Int.le_refl 0⟩, HR8, HB8⟩
  case round =>
   clear H'
   obtain ⟨pt, out, i, rfl, rfl, HA, HI, HR9, HB9⟩ := hrel
   cases gk with
   | zero => exact absurd HA.out (by simp [impl_ShortestTree.l0])
   | succ k1 =>
    have H := HA.out
    clear HA
    simp only [impl_ShortestTree.l0] at H
    by_cases c1 : i < (srt.length : Int)
    ·rw [if_pos c1] at H
     split at H
     case isFalse => exact absurd H (by simp)
     case isTrue hc =>
      obtain ⟨q0, q1, a0, a1, b0, b1⟩ := hc
      have HM : Aside0 _ := ⟨Kd.C_max HO7.out⟩
      have H' : Aside0 _ := ⟨H⟩
      clear H
      have hp9 : part.length = pt.length := (Kd.R_reads' HR9.out).1
      obtain ⟨ad3, e3, hx3⟩ := Kd.at_int (Kd.C_below HO7.out HB9.out) i HI.out c1
      cases e3
      obtain ⟨ad2, e2, hx2, hx2'⟩ := at_T77 (Kd.C_below HD7.out HB9.out) (rd srt i) q0 q1
      cases e2
      obtain ⟨ad8, e8, ha⟩ := Kd.at_int (Kd.R_reads' HR9.out).2.2 (rd_T77 ed (rd srt i)).f0 a0 a1
      cases e8
      obtain ⟨ad8', e8, hb⟩ := Kd.at_int (Kd.R_reads' HR9.out).2.2 (rd_T77 ed (rd srt i)).f1 b0 b1
      obtain rfl : ad8 = ad8' := by injection e8
      clear e8
      obtain ⟨gx, cx, ex, hgx, _, _, _⟩ := Kd.R_form HR9.out (by omega)
      injection ex with e1_ e2_ e3_
      injection e1_ with e1_
      subst e1_
      clear e2_ e3_
      have HGX : Aside0 _ := ⟨hgx⟩
      clear hgx
      simp only [add_plain] at ha hb
      have hE9 := pw_cell_below HB9.out HE7.out
      have c1b : decide (i < (ord.length : Int)) = true := decide_eq_true (by have := HN.out; omega)
      have p0 := eq_true HI.out
      have p1 : (i < (ord.length : Int)) = True := eq_true (by have := HN.out; omega)
      have HC1 : Aside0 _ := ⟨c1⟩
      have a1' : ((rd_T77 ed (rd srt i)).f0 < (part.length : Int)) = True := eq_true (by omega)
      have b1' : ((rd_T77 ed (rd srt i)).f1 < (part.length : Int)) = True := eq_true (by omega)
      have HP9 : Aside0 _ := ⟨hp9⟩
      clear c1 a1 b1 hp9
      replace q0 := eq_true q0
      replace q1 := eq_true q1
      replace a0 := eq_true a0
      replace b0 := eq_true b0
      go_wp2_with fail
      refine start_ (n := 18) (S := fun w' => World.cell? w' ⟨w3.heap.size, 0, none⟩ = some (.slice (some ad2) ed.length c2) ∧ World.cell? w' (ad2.add ((rd srt i).toNat * 2)) = some (.int .i64 (rd_T77 ed (rd srt i)).f0) ∧ World.cell? w' ⟨(ad2.add ((rd srt i).toNat * 2)).block, (ad2.add ((rd srt i).toNat * 2)).off + 1, none⟩ = some (.int .i64 (rd_T77 ed (rd srt i)).f1) ∧ World.cell? w' ⟨gx, (rd_T77 ed (rd srt i)).f0.toNat, none⟩ = some (.int .i64 (rd pt (rd_T77 ed (rd srt i)).f0)) ∧ World.cell? w' ⟨gx, (rd_T77 ed (rd srt i)).f1.toNat, none⟩ = some (.int .i64 (rd pt (rd_T77 ed (rd srt i)).f1))) (ds := []) #[false, false, false, false, false, false, false, false, false, false, false, false, false, false, false, false, false, false] (by kernel_rfl) rfl rfl ⟨(by simpa [go_sem] using hE9), (by simpa [go_sem] using hx2), (by simpa [go_sem] using hx2'), (by simpa [go_sem] using ha), (by simpa [go_sem] using hb)⟩ (fun hHeld => ?_)
      refine pure_ (i := 0) (N := some 35) (v := ?_) (a' := ?_) #[true, false, false, false, false, false, false, false, false, false, false, false, false, false, false, false, false, false] rfl rfl (by kernel_rfl) (fun _ _ _ h => h) (Or.inl ⟨by rfl, ?_⟩) ?_ ?_
      rotate_left
      ·intro w'
       go_simp
       with_reducible rfl
      rotate_left
      ·simp only [Act.put, List.setIfInBounds_toArray, List.set_cons_zero, List.set_cons_succ, i64_w, i32_w]
       rfl
      refine take_ (i := 1) (N := some 36) (v := ?_) (a' := ?_) #[true, true, false, false, false, false, false, false, false, false, false, false, false, false, false, false, false, false] rfl rfl (by kernel_rfl) (fun _ _ _ h => h) (Or.inl ⟨by rfl, ?_⟩) hHeld ?_ ?_
      rotate_left
      ·rintro w' ⟨s0, s1, s2, s3, s4⟩
       go_simp
       with_reducible rfl
      rotate_left
      ·simp only [Act.put, List.setIfInBounds_toArray, List.set_cons_zero, List.set_cons_succ, i64_w, i32_w]
       rfl
      refine pure_ (i := 2) (N := some 37) (v := ?_) (a' := ?_) #[true, true, true, false, false, false, false, false, false, false, false, false, false, false, false, false, false, false] rfl rfl (by kernel_rfl) (fun _ _ _ h => h) (Or.inl ⟨by rfl, ?_⟩) ?_ ?_
      rotate_left
      ·intro w'
       go_simp
       with_reducible rfl
      rotate_left
      ·simp only [Act.put, List.setIfInBounds_toArray, List.set_cons_zero, List.set_cons_succ, i64_w, i32_w]
       rfl
      refine pure_ (i := 3) (N := some 38) (v := ?_) (a' := ?_) #[true, true, true, true, false, false, false, false, false, false, false, false, false, false, false, false, false, false] rfl rfl (by kernel_rfl) (fun _ _ _ h => h) (Or.inl ⟨by rfl, ?_⟩) ?_ ?_
      rotate_left
      ·intro w'
       go_simp
       with_reducible rfl
      rotate_left
      ·simp only [Act.put, List.setIfInBounds_toArray, List.set_cons_zero, List.set_cons_succ, i64_w, i32_w]
       rfl
      refine pure_ (i := 4) (N := some 39) (v := ?_) (a' := ?_) #[true, true, true, true, true, false, false, false, false, false, false, false, false, false, false, false, false, false] rfl rfl (by kernel_rfl) (fun _ _ _ h => h) (Or.inl ⟨by rfl, ?_⟩) ?_ ?_
      rotate_left
      ·intro w'
       go_simp
       with_reducible rfl
      rotate_left
      ·simp only [Act.put, List.setIfInBounds_toArray, List.set_cons_zero, List.set_cons_succ, i64_w, i32_w]
       rfl
      refine take_ (i := 5) (N := some 40) (v := ?_) (a' := ?_) #[true, true, true, true, true, true, false, false, false, false, false, false, false, false, false, false, false, false] rfl rfl (by kernel_rfl) (fun _ _ _ h => h) (Or.inl ⟨by rfl, ?_⟩) hHeld ?_ ?_
      rotate_left
      ·rintro w' ⟨s0, s1, s2, s3, s4⟩
       go_simp
       with_reducible rfl
      rotate_left
      ·simp only [Act.put, List.setIfInBounds_toArray, List.set_cons_zero, List.set_cons_succ, i64_w, i32_w]
       rfl
      refine pure_ (i := 6) (N := some 41) (v := ?_) (a' := ?_) #[true, true, true, true, true, true, true, false, false, false, false, false, false, false, false, false, false, false] rfl rfl (by kernel_rfl) (fun _ _ _ h => h) (Or.inl ⟨by rfl, ?_⟩) ?_ ?_
      rotate_left
      ·intro w'
       go_simp
       with_reducible rfl
      rotate_left
      ·simp only [Act.put, List.setIfInBounds_toArray, List.set_cons_zero, List.set_cons_succ, i64_w, i32_w]
       rfl
      refine take_ (i := 7) (N := some 42) (v := ?_) (a' := ?_) #[true, true, true, true, true, true, true, true, false, false, false, false, false, false, false, false, false, false] rfl rfl (by kernel_rfl) (fun _ _ _ h => h) (Or.inl ⟨by rfl, ?_⟩) hHeld ?_ ?_
      rotate_left
      ·rintro w' ⟨s0, s1, s2, s3, s4⟩
       go_simp
       with_reducible rfl
      rotate_left
      ·simp only [Act.put, List.setIfInBounds_toArray, List.set_cons_zero, List.set_cons_succ, i64_w, i32_w]
       rfl
      refine pure_ (i := 8) (N := some 43) (v := ?_) (a' := ?_) #[true, true, true, true, true, true, true, true, true, false, false, false, false, false, false, false, false, false] rfl rfl (by kernel_rfl) (fun _ _ _ h => h) (Or.inl ⟨by rfl, ?_⟩) ?_ ?_
      rotate_left
      ·intro w'
       go_simp
       with_reducible rfl
      rotate_left
      ·simp only [Act.put, List.setIfInBounds_toArray, List.set_cons_zero, List.set_cons_succ, i64_w, i32_w]
       rfl
      refine take_ (i := 9) (N := some 44) (v := ?_) (a' := ?_) #[true, true, true, true, true, true, true, true, true, true, false, false, false, false, false, false, false, false] rfl rfl (by kernel_rfl) (fun _ _ _ h => h) (Or.inl ⟨by rfl, ?_⟩) hHeld ?_ ?_
      rotate_left
      ·rintro w' ⟨s0, s1, s2, s3, s4⟩
       go_simp
       with_reducible rfl
      rotate_left
      ·simp only [Act.put, List.setIfInBounds_toArray, List.set_cons_zero, List.set_cons_succ, i64_w, i32_w]
       rfl
      refine pure_ (i := 10) (N := some 45) (v := ?_) (a' := ?_) #[true, true, true, true, true, true, true, true, true, true, true, false, false, false, false, false, false, false] rfl rfl (by kernel_rfl) (fun _ _ _ h => h) (Or.inl ⟨by rfl, ?_⟩) ?_ ?_
      rotate_left
      ·intro w'
       go_simp
       with_reducible rfl
      rotate_left
      ·simp only [Act.put, List.setIfInBounds_toArray, List.set_cons_zero, List.set_cons_succ, i64_w, i32_w]
       rfl
      refine pure_ (i := 11) (N := some 46) (v := ?_) (a' := ?_) #[true, true, true, true, true, true, true, true, true, true, true, true, false, false, false, false, false, false] rfl rfl (by kernel_rfl) (fun _ _ _ h => h) (Or.inl ⟨by rfl, ?_⟩) ?_ ?_
      rotate_left
      ·intro w'
       go_simp
       with_reducible rfl
      rotate_left
      ·simp only [Act.put, List.setIfInBounds_toArray, List.set_cons_zero, List.set_cons_succ, i64_w, i32_w]
       rfl
      refine pure_ (i := 12) (N := some 47) (v := ?_) (a' := ?_) #[true, true, true, true, true, true, true, true, true, true, true, true, true, false, false, false, false, false] rfl rfl (by kernel_rfl) (fun _ _ _ h => h) (Or.inl ⟨by rfl, ?_⟩) ?_ ?_
      rotate_left
      ·intro w'
       go_simp
       with_reducible rfl
      rotate_left
      ·simp only [Act.put, List.setIfInBounds_toArray, List.set_cons_zero, List.set_cons_succ, i64_w, i32_w]
       rfl
      refine take_ (i := 13) (N := some 48) (v := ?_) (a' := ?_) #[true, true, true, true, true, true, true, true, true, true, true, true, true, true, false, false, false, false] rfl rfl (by kernel_rfl) (fun _ _ _ h => h) (Or.inl ⟨by rfl, ?_⟩) hHeld ?_ ?_
      rotate_left
      ·rintro w' ⟨s0, s1, s2, s3, s4⟩
       go_simp
       with_reducible rfl
      rotate_left
      ·simp only [Act.put, List.setIfInBounds_toArray, List.set_cons_zero, List.set_cons_succ, i64_w, i32_w]
       rfl
      refine pure_ (i := 14) (N := some 49) (v := ?_) (a' := ?_) #[true, true, true, true, true, true, true, true, true, true, true, true, true, true, true, false, false, false] rfl rfl (by kernel_rfl) (fun _ _ _ h => h) (Or.inl ⟨by rfl, ?_⟩) ?_ ?_
      rotate_left
      ·intro w'
       go_simp
       with_reducible rfl
      rotate_left
      ·simp only [Act.put, List.setIfInBounds_toArray, List.set_cons_zero, List.set_cons_succ, i64_w, i32_w]
       rfl
      refine take_ (i := 15) (N := some 50) (v := ?_) (a' := ?_) #[true, true, true, true, true, true, true, true, true, true, true, true, true, true, true, true, false, false] rfl rfl (by kernel_rfl) (fun _ _ _ h => h) (Or.inl ⟨by rfl, ?_⟩) hHeld ?_ ?_
      rotate_left
      ·rintro w' ⟨s0, s1, s2, s3, s4⟩
       go_simp
       with_reducible rfl
      rotate_left
      ·simp only [Act.put, List.setIfInBounds_toArray, List.set_cons_zero, List.set_cons_succ, i64_w, i32_w]
       rfl
      refine pure_ (i := 16) (N := some 10) (v := ?_) (a' := ?_) #[true, true, true, true, true, true, true, true, true, true, true, true, true, true, true, true, true, false] rfl rfl (by kernel_rfl) (fun _ _ _ h => h) (Or.inl ⟨by rfl, ?_⟩) ?_ ?_
      rotate_left
      ·intro w'
       go_simp
       with_reducible rfl
      rotate_left
      ·simp only [Act.put, List.setIfInBounds_toArray, List.set_cons_zero, List.set_cons_succ, i64_w, i32_w]
       rfl
      refine pure_ (i := 17) (N := some 11) (v := ?_) (a' := ?_) #[true, true, true, true, true, true, true, true, true, true, true, true, true, true, true, true, true, true] rfl rfl (by kernel_rfl) (fun _ _ _ h => h) (Or.inl ⟨by rfl, ?_⟩) ?_ ?_
      rotate_left
      ·intro w'
       go_simp
       with_reducible rfl
      rotate_left
      ·simp only [Act.put, List.setIfInBounds_toArray, List.set_cons_zero, List.set_cons_succ, i64_w, i32_w]
       rfl
      refine done_ (by kernel_rfl) ?_
      have HR10 : Aside0 _ := ⟨Kd.R_drew HR9.out⟩
      have HB10 : Aside0 _ := ⟨below_drew1 HB9.out⟩
      by_cases c2 : rd pt (rd_T77 ed (rd srt i)).f0 = rd pt (rd_T77 ed (rd srt i)).f1
      ·have H := H'.out
       clear H'
       rw [if_pos c2] at H
       have c2b : ((rd pt (rd_T77 ed (rd srt i)).f0) == (rd pt (rd_T77 ed (rd srt i)).f1)) = true := beq_iff_eq.mpr c2
       have H' : Aside0 _ := ⟨H⟩
       clear H c2
       go_wp2
       go_roundg k1
       case measure => omega
       case rel => as_aux_lemma => exact ⟨pt, out, wrap64 (i + 1), rfl, (by first | rfl | (simp; done) | (simp [i64_w]; done)), H', ⟨by have h1 := HC1.out; have h2 := HI.out; have h3 := HM.out; rw [wrap64_in (by omega) (by omega)]; omega⟩, HR10, HB10⟩
      ·have H := H'.out
       clear H'
       rw [if_neg c2] at H
       have c2b : ((rd pt (rd_T77 ed (rd srt i)).f0) == (rd pt (rd_T77 ed (rd srt i)).f1)) = false := beq_eq_false_iff_ne.mpr c2
       obtain ⟨g, hg⟩ : ∃ g : Int → Int, g = fun x => if x = rd pt (rd_T77 ed (rd srt i)).f1 then rd pt (rd_T77 ed (rd srt i)).f0 else x := ⟨_, rfl⟩
       rw [← hg] at H
       have HG : Aside0 _ := ⟨hg⟩
       have H' : Aside0 _ := ⟨H⟩
       clear H hg c2
       go_wp2
       go_loopw [60] (fun v60 w' => ∃ j : Nat, j ≤ part.length ∧ v60 = .int .i64 j ∧ Aside0 (Kd.R (Kd.int .i64) 3 w' w7.heap.size (fun _ => True) (.slice (some ⟨gx, 0, none⟩) part.length c8) (mapTo g pt j)) ∧ Aside0 (Below w7.heap.size w7 w')) (fun v60 _ => part.length - (intOf v60).toNat)
       case atStart => as_aux_lemma => exact ⟨0, Nat.zero_le _, rfl, ⟨by rw [mapTo_zero]; exact HR10.out⟩, HB10⟩
       case round =>
        obtain ⟨j, hj, rfl, HR11, HB11⟩ := hrel
        by_cases c3 : j < part.length
        ·have c3p : j < pt.length := by have := HP9.out; omega
         have hj9 := (Kd.R_celln 0 HR11.out (j : Int) (by omega) (by omega))
         have hjc : wr.cell? ⟨gx, j, none⟩ = some (.int .i64 (rd pt j)) := by
          have h1 := hj9.1
          rw [show rdOf 0 (mapTo g pt j) (j : Int) = rd (mapTo g pt j) j from rfl, mapTo_rd g pt j c3p] at h1
          simpa using h1
         have hjf : wr.frozen? ⟨gx, j, none⟩ = false := by simpa using hj9.2
         have HS11 : Aside0 _ := ⟨mapTo_step g pt j c3p⟩
         have HS12 : Aside0 _ := ⟨mapTo_same g pt j c3p⟩
         have HC3 : Aside0 _ := ⟨c3⟩
         have HW : Aside0 (wrap64 ((j : Int) + 1) = ((j + 1 : Nat) : Int)) := ⟨by have h1 := Kd.C_max (Kd.R_reads' HR9.out).2.2; rw [wrap64_in (by omega) (by omega)]; omega⟩
         clear hj9
         by_cases c4 : rd pt j = rd pt (rd_T77 ed (rd srt i)).f1
         ·have c4b : (rd pt j == rd pt (rd_T77 ed (rd srt i)).f1) = true := beq_iff_eq.mpr c4
          have HV : Aside0 (g (rd pt j) = rd pt (rd_T77 ed (rd srt i)).f0) := ⟨by rw [HG.out]; exact if_pos c4⟩
          clear c4 c3p
          go_wp2
          go_roundw
          case rel => as_aux_lemma => exact ⟨j + 1, by have := HC3.out; omega, by rw [HW.out], ⟨by rw [← HS11.out, HV.out]; have h1 := Kd.R_putn HR11.out (j : Int) (rd pt (rd_T77 ed (rd srt i)).f0); rw [Int.toNat_natCast] at h1; exact h1⟩, ⟨below_set HB11.out HGX.out⟩⟩
          case measure => exact meas_ _ j _ HW.out HC3.out
         ·have c4b : (rd pt j == rd pt (rd_T77 ed (rd srt i)).f1) = false := beq_eq_false_iff_ne.mpr c4
          have HV : Aside0 (g (rd pt j) = rd pt j) := ⟨by rw [HG.out]; exact if_neg c4⟩
          clear c4 c3p
          go_wp2
          go_roundw
          case rel => as_aux_lemma => exact ⟨j + 1, by have := HC3.out; omega, by rw [HW.out], ⟨by rw [← HS12.out HV.out]; exact HR11.out⟩, HB11⟩
          case measure => exact meas_ _ j _ HW.out HC3.out
        ·obtain rfl : j = part.length := by omega
         go_wp2
         go_roundg k1
         case measure => omega
         case rel => as_aux_lemma => exact ⟨pt.map g, _, wrap64 (i + 1), (by simp only [shl, i64_w, IntKind.bits, Int.one_mul]), (by first | rfl | (simp; done) | (simp [i64_w]; done)), H', ⟨by have h1 := HC1.out; have h2 := HI.out; have h3 := HM.out; rw [wrap64_in (by omega) (by omega)]; omega⟩, ⟨by rw [← mapTo_all, ← HP9.out]; exact HR11.out⟩, HB11⟩
    ·rw [if_neg c1] at H
     have c1b : decide (i < (ord.length : Int)) = false := decide_eq_false (by have := HN.out; omega)
     clear c1
     obtain rfl := Option.some.inj H
     go_wp2
     go_ret
     exact ⟨rfl, below_then HB47.out HB47.out.size HB9.out⟩
end Go.Proofs.Ytpmjjldocjopmaa.Pr
namespace Go.Proofs.Ytpmjjldocjopmaa.Pr
set_option linter.unusedVariables false
set_option linter.unusedSimpArgs false
open Go.RowKit Go.Proofs.YtpmjjldocjopmaaW.PrintWords Go.Proofs.YtpmjjldocjopmaaW.PrintLast Go.Proofs.YtpmjjldocjopmaaW.PrintMore
attribute [local go_sem] max2_int min2_int max_two min_two max_three min_three max_four min_four   -- for this text's walks alone
/-! ### spec_l12Start: function 69 -/
def spec_l12Start.l0 : Nat → Int → List Int → Int → Option (List Int)
 | 0, _, _, _ => none
 | k + 1, x0, x3, x4 => if x4 < x0 then (if x3.length < 17592186044416 then (spec_l12Start.l0 k x0 (x3 ++ [x4]) (wrap64 (x4 + 1))) else (none)) else (some x3)
def spec_l12Start.f (k : Nat) (a0 : Int) : Option (List Int) := spec_l12Start.l0 k a0 (([] : List Int)) 0
theorem spec_l12Start.mono_l : ∀ k, (∀ y0 y1 y2, LeO (spec_l12Start.l0 k y0 y1 y2) (spec_l12Start.l0 (k + 1) y0 y1 y2))
 | 0 => fun _ _ _ r h => by simp [spec_l12Start.l0] at h
 | k + 1 => by
  have ih0 := spec_l12Start.mono_l k
  ·intro y0 y1 y2
   unfold spec_l12Start.l0
   repeat' first
   | (with_reducible exact ih0 _ _ _)
   | (with_reducible exact LeO.refl _)
   | (with_reducible exact LeO.none _)
   | (with_reducible refine LeO.ite ?_ ?_)
   | (with_reducible refine LeO.bind ?_ (fun _ => ?_))
   | exact ih0 _ _ _
   | exact LeO.none _
   | refine LeO.ite ?_ ?_
   | refine LeO.bind ?_ (fun _ => ?_)
theorem spec_l12Start.mono : ∀ a0 k, LeO (spec_l12Start.f k a0) (spec_l12Start.f (k + 1) a0) := by
 intro a0 k
 have ih0 := spec_l12Start.mono_l k
 unfold spec_l12Start.f
 repeat' first
   | (with_reducible exact ih0 _ _ _)
   | (with_reducible exact LeO.refl _)
   | (with_reducible exact LeO.none _)
   | (with_reducible refine LeO.ite ?_ ?_)
   | (with_reducible refine LeO.bind ?_ (fun _ => ?_))
   | exact ih0 _ _ _
   | exact LeO.none _
   | refine LeO.ite ?_ ?_
   | refine LeO.bind ?_ (fun _ => ?_)
set_option maxHeartbeats 8000000 in
set_option maxRecDepth 100000 in
theorem spec_l12Start.calls (k : Nat) (a0 : Int) (r : List Int) (w : World) (h : spec_l12Start.f k a0 = some r) :
  Calls Try.prog 69 #[.int .i64 a0] w fun e w' => ∃ v0_ : Value, e = .returned (v0_) ∧ Kd.R (Kd.int .i64) 3 w' w.heap.size (fun _ => True) v0_ r ∧ Below w.heap.size w w' := by
 have HB := Aside0.mk (Below.refl w.heap.size w)
 have H : (spec_l12Start.l0 k a0 (([] : List Int)) 0) = some r := h
 clear h
 obtain ⟨y301, hy301⟩ : ∃ y_ : List Int, y_ = (([] : List Int)) := ⟨_, rfl⟩
 replace H : (spec_l12Start.l0 k a0 y301 0) = some r := by first | (rw [hy301]; with_reducible exact H) | (have H2_ := (Option.bind_some _ _).symm.trans H; rw [hy301]; with_reducible exact H2_) | (have H2_ := (Option.bind_some _ _).symm.trans H; with_reducible exact H2_) | with_reducible exact H | (rw [hy301]; exact H) | exact H
 have Ny301 := Aside0.mk hy301
 clear hy301
 have H' := Aside0.mk H
 clear H
 go_enter Try.func69, Try.ntmps69
 go_wp2_with (first | ((with_reducible refine gate_dst (N := 5) rfl ?_); refine Kd.R_lit (Kd.int .i64) _ 3 ?hg (N := 5) ?hd (xs := ([] : List Int)) (inner := []) (ok := fun _ => True) (okp := fun _ => True) ?hr ?hp (fun _ hk => hk) trivial (Below.refl _ _) (Nat.le_refl _) (by simp) ?_; (case hd => rfl); (case hg => rfl); (case hr => first | (go_simp; done) | (go_simp; rfl)); (case hp => exact (Reps.none _ _)); intro v302 w2 ho3 hb hg_ hnew_; clear hg_ hnew_; (first | rw [← Ny301.out] at ho3 | (simp only [Int.reduceToNat] at ho3; rw [← Ny301.out] at ho3)); have n0_ := Aside0.mk (Kd.R_lower ho3 (below_size (by repeat (first | (with_reducible first | exact HB.out | apply below_alloc | apply pw_below_drewN | apply below_drew1) | exact HB.out)))); have n1_ := Aside0.mk (below_step (by repeat (first | (with_reducible first | exact HB.out | apply below_alloc | apply pw_below_drewN | apply below_drew1) | exact HB.out)) hb); clear HB; have HO303 := n0_; have HB := n1_; clear n0_ n1_; clear hb ho3))
 go_loopg [3, 4] k (fun kq v3 v4 w' => ∃ (x3_1 : List Int) (x4_1 : Int), v4 = .int .i64 x4_1 ∧ Aside0 (spec_l12Start.l0 kq a0 x3_1 x4_1 = some r) ∧ Aside0 (kq ≤ k) ∧ Aside0 (Kd.R (Kd.int .i64) 3 w' w.heap.size (fun _ => True) v3 x3_1) ∧ Aside0 (Below w.heap.size w w'))
 case atStart => exact ⟨(y301), (0), (by first | rfl | (simp; done) | (simp [*]; done)), H', ⟨Nat.le_refl _⟩, ⟨by (with_reducible repeat (first | apply Kd.R_alloc | apply Kd.R_drewN | apply Kd.R_drew)); exact HO303.out⟩, ⟨by repeat (first | (with_reducible first | exact HB.out | apply below_alloc | apply pw_below_drewN | apply below_drew1) | exact HB.out)⟩⟩
 case round =>
  clear H'
  try clear p2
  obtain ⟨x3_1, x4_1, rfl, HA, HK1, HO_3, HB⟩ := hrel
  cases gk with
  | zero => exact absurd HA.out (by simp [spec_l12Start.l0])
  | succ k1 =>
   have H := HA.out
   clear HA
   simp only [spec_l12Start.l0] at H
   by_cases c4 : x4_1 < a0
   ·rw [if_pos c4] at H
    have c4b0 : decide (x4_1 < a0) = true := decide_eq_true c4
    clear c4
    by_cases c5 : x3_1.length < 17592186044416
    ·rw [if_pos c5] at H
     have LMc5 := Aside0.mk c5
     clear c5
     obtain ⟨y304, hy304⟩ : ∃ y_ : List Int, y_ = (x3_1 ++ [x4_1]) := ⟨_, rfl⟩
     replace H : (spec_l12Start.l0 k1 a0 y304 (wrap64 (x4_1 + 1))) = some r := by first | (rw [hy304]; with_reducible exact H) | (have H2_ := (Option.bind_some _ _).symm.trans H; rw [hy304]; with_reducible exact H2_) | (have H2_ := (Option.bind_some _ _).symm.trans H; with_reducible exact H2_) | with_reducible exact H | (rw [hy304]; exact H) | exact H
     have Ny304 := Aside0.mk hy304
     clear hy304
     have H' := Aside0.mk H
     clear H
     go_wp2_with (first | ((with_reducible refine gate_builtin (b := .append) (xs := #[.tmp 11, .tmp 13]) rfl ?_); at_builtin; refine Kd.R_append (Kd.int .i64) (w0 := w) w.heap.size rfl (.tmp 11) (.tmp 13) 49 3 (.int .i64 0) 8 rfl Try.underlying49 info3 rfl (by decide) (by omega) u3 x3_1 x4_1 [.int .i64 x4_1] (fun _ => True) (fun _ => False) rfl rfl ?aP (fun _ hk => hk.elim) ?aF ?aO ?aB ?aS ?aL ?_; (case aP => exact rfl); (case aB => exact (by repeat (first | (with_reducible first | exact HB.out | apply below_alloc | apply pw_below_drewN | apply below_drew1) | exact HB.out))); (case aF => exact (fun _ _ => trivial)); (case aO => exact (by (with_reducible repeat (first | apply Kd.R_alloc | apply Kd.R_drewN | apply Kd.R_drew)); exact HO_3.out)); (case aS => exact (below_size (by repeat (first | (with_reducible first | exact HB.out | apply below_alloc | apply pw_below_drewN | apply below_drew1) | exact HB.out)))); (case aL => have := LMc5.out; omega); intro v305 w6 ho hb hg hat; rw [← Ny304.out] at ho; have n0_ := Aside0.mk (hb); have n1_ := Aside0.mk (ho); clear HB; clear HO_3; have HB := n0_; have HO306 := n1_; clear n0_ n1_; clear ho hb hg hat))
     go_roundg k1
     case measure => have := HK1.out; omega
     case rel => exact ⟨(y304), (wrap64 (x4_1 + 1)), (by first | rfl | (simp; done) | (simp [*]; done)), H', ⟨by have := HK1.out; omega⟩, ⟨by (with_reducible repeat (first | apply Kd.R_alloc | apply Kd.R_drewN | apply Kd.R_drew)); exact HO306.out⟩, ⟨by repeat (first | (with_reducible first | exact HB.out | apply below_alloc | apply pw_below_drewN | apply below_drew1) | exact HB.out)⟩⟩
    ·rw [if_neg c5] at H
     exact absurd H (by simp)
   ·rw [if_neg c4] at H
    have c4b0 : decide (x4_1 < a0) = false := decide_eq_false c4
    clear c4
    obtain rfl := Option.some.inj H
    go_wp2
    go_ret
    exact ⟨_, by first | rfl | (simp [errW_none, errW_some] <;> rfl) | (simp [*, errW_none, errW_some] <;> rfl), by (with_reducible repeat (first | apply Kd.R_alloc | apply Kd.R_drewN | apply Kd.R_drew)); exact HO_3.out, by repeat (first | (with_reducible first | exact HB.out | apply below_alloc | apply pw_below_drewN | apply below_drew1) | exact HB.out)⟩
end Go.Proofs.Ytpmjjldocjopmaa.Pr
namespace Go.Proofs.Ytpmjjldocjopmaa.Pr
set_option linter.unusedVariables false
set_option linter.unusedSimpArgs false
open Go.RowKit Go.Proofs.YtpmjjldocjopmaaW.PrintWords Go.Proofs.YtpmjjldocjopmaaW.PrintLast Go.Proofs.YtpmjjldocjopmaaW.PrintMore
attribute [local go_sem] max2_int min2_int max_two min_two max_three min_three max_four min_four   -- for this text's walks alone
/-! ### spec_l9Index: function 107 -/
mutual
def spec_l9Index.j0 : Nat → Int → Int → Int → Option (Int)
 | 0, _, _, _ => none
 | k + 1, x0, x1, x2 => spec_l9Index.l0 k x0 x1 x2 0 0
def spec_l9Index.l0 : Nat → Int → Int → Int → Int → Int → Option (Int)
 | 0, _, _, _, _, _ => none
 | k + 1, x0, x1, x2, x8, x9 => if x9 < x1 then (spec_l9Index.l0 k x0 x1 x2 (wrap64 ((wrap64 ((wrap64 (x8 + x0)) - 1)) - x9)) (wrap64 (x9 + 1))) else (some (wrap64 ((wrap64 ((wrap64 (x8 + x2)) - x1)) - 1)))
end
def spec_l9Index.f (k : Nat) (a0 : Int) (a1 : Int) (a2 : Int) : Option (Int) := if a1 > a2 then (spec_l9Index.j0 k a0 a2 a1) else (spec_l9Index.j0 k a0 a1 a2)
theorem spec_l9Index.mono_l : ∀ k, (∀ y0 y1 y2, LeO (spec_l9Index.j0 k y0 y1 y2) (spec_l9Index.j0 (k + 1) y0 y1 y2)) ∧ (∀ y0 y1 y2 y3 y4, LeO (spec_l9Index.l0 k y0 y1 y2 y3 y4) (spec_l9Index.l0 (k + 1) y0 y1 y2 y3 y4))
 | 0 => ⟨fun _ _ _ r h => by simp [spec_l9Index.j0] at h, fun _ _ _ _ _ r h => by simp [spec_l9Index.l0] at h⟩
 | k + 1 => by
  obtain ⟨ih0, ih1⟩ := spec_l9Index.mono_l k
  refine ⟨?_, ?_⟩
  ·intro y0 y1 y2
   unfold spec_l9Index.j0
   repeat' first
   | (with_reducible exact ih0 _ _ _)
   | (with_reducible exact ih1 _ _ _ _ _)
   | (with_reducible exact LeO.refl _)
   | (with_reducible exact LeO.none _)
   | (with_reducible refine LeO.ite ?_ ?_)
   | (with_reducible refine LeO.bind ?_ (fun _ => ?_))
   | exact ih0 _ _ _
   | exact ih1 _ _ _ _ _
   | exact LeO.none _
   | refine LeO.ite ?_ ?_
   | refine LeO.bind ?_ (fun _ => ?_)
  ·intro y0 y1 y2 y3 y4
   unfold spec_l9Index.l0
   repeat' first
   | (with_reducible exact ih0 _ _ _)
   | (with_reducible exact ih1 _ _ _ _ _)
   | (with_reducible exact LeO.refl _)
   | (with_reducible exact LeO.none _)
   | (with_reducible refine LeO.ite ?_ ?_)
   | (with_reducible refine LeO.bind ?_ (fun _ => ?_))
   | exact ih0 _ _ _
   | exact ih1 _ _ _ _ _
   | exact LeO.none _
   | refine LeO.ite ?_ ?_
   | refine LeO.bind ?_ (fun _ => ?_)
theorem spec_l9Index.mono : ∀ a0 a1 a2 k, LeO (spec_l9Index.f k a0 a1 a2) (spec_l9Index.f (k + 1) a0 a1 a2) := by
 intro a0 a1 a2 k
 obtain ⟨ih0, ih1⟩ := spec_l9Index.mono_l k
 unfold spec_l9Index.f
 repeat' first
   | (with_reducible exact ih0 _ _ _)
   | (with_reducible exact ih1 _ _ _ _ _)
   | (with_reducible exact LeO.refl _)
   | (with_reducible exact LeO.none _)
   | (with_reducible refine LeO.ite ?_ ?_)
   | (with_reducible refine LeO.bind ?_ (fun _ => ?_))
   | exact ih0 _ _ _
   | exact ih1 _ _ _ _ _
   | exact LeO.none _
   | refine LeO.ite ?_ ?_
   | refine LeO.bind ?_ (fun _ => ?_)
set_option maxHeartbeats 8000000 in
set_option maxRecDepth 100000 in
theorem spec_l9Index.calls (k : Nat) (a0 : Int) (a1 : Int) (a2 : Int) (r : Int) (w : World) (h : spec_l9Index.f k a0 a1 a2 = some r) :
  Calls Try.prog 107 #[.int .i64 a0, .int .i64 a1, .int .i64 a2] w fun e w' => e = .returned (.int .i64 r) ∧ Drawn0 w w' := by
 have H : (if a1 > a2 then (spec_l9Index.j0 k a0 a2 a1) else (spec_l9Index.j0 k a0 a1 a2)) = some r := h
 clear h
 have HC4 := Aside0.mk H
 clear H
 go_enter Try.func107, Try.ntmps107
 go_upto_if 12 with (fail)
 go_cut [1, 2] (fun v1 v2 wc => ∃ (kq : Nat) (x1_3 : Int) (x2_3 : Int), v1 = .int .i64 x1_3 ∧ v2 = .int .i64 x2_3 ∧ Aside0 (spec_l9Index.j0 kq a0 x1_3 x2_3 = some r) ∧ Aside0 (kq ≤ k) ∧ Drawn0 w wc)
 case first =>
  have H := HC4.out
  clear HC4
  by_cases c5 : a1 > a2
  ·rw [if_pos c5] at H
   have c5b0 : decide (a2 < a1) = true := decide_eq_true c5
   clear c5
   (first | rw [c5b0] | (simp only [i64_w, i32_w]; rw [c5b0]) | skip)
   have H' := Aside0.mk H
   clear H
   go_wp2
   go_meet
   case rel => exact ⟨_, (a2), (a1), (by first | rfl | (simp; done) | (simp [*]; done)), (by first | rfl | (simp; done) | (simp [*]; done)), H', ⟨by first | omega | exact Nat.le_refl _⟩, by repeat (first | exact Drawn0.refl _ | apply Drawn0.step)⟩
  ·rw [if_neg c5] at H
   have c5b0 : decide (a2 < a1) = false := decide_eq_false c5
   clear c5
   (first | rw [c5b0] | (simp only [i64_w, i32_w]; rw [c5b0]) | skip)
   have H' := Aside0.mk H
   clear H
   go_wp2
   go_meet
   case rel => exact ⟨_, (a1), (a2), (by first | rfl | (simp; done) | (simp [*]; done)), (by first | rfl | (simp; done) | (simp [*]; done)), H', ⟨by first | omega | exact Nat.le_refl _⟩, by repeat (first | exact Drawn0.refl _ | apply Drawn0.step)⟩
 case rest =>
  clear HC4
  try clear c1
  try clear p2
  try clear c5
  try clear c5b0
  obtain ⟨kq, x1_3, x2_3, rfl, rfl, HA, HJ3, ⟨mc3, rfl⟩⟩ := hcut
  cases kq with
  | zero => exact absurd HA.out (by simp [spec_l9Index.j0])
  | succ kj3 =>
   have H := HA.out
   clear HA
   simp only [spec_l9Index.j0] at H
   have H' := Aside0.mk H
   clear H
   go_wp2
   go_loopg [8, 9] kj3 (fun kq v8 v9 w' => ∃ (x8_2 : Int) (x9_2 : Int), v8 = .int .i64 x8_2 ∧ v9 = .int .i64 x9_2 ∧ Aside0 (spec_l9Index.l0 kq a0 x1_3 x2_3 x8_2 x9_2 = some r) ∧ Aside0 (kq ≤ kj3) ∧ Drawn0 w w')
   case atStart => exact ⟨(0), (0), (by first | rfl | (simp; done) | (simp [*]; done)), (by first | rfl | (simp; done) | (simp [*]; done)), H', ⟨Nat.le_refl _⟩, by repeat (first | exact Drawn0.refl _ | apply Drawn0.step)⟩
   case round =>
    clear H'
    try clear c1
    try clear p2
    try clear c3
    try clear c5
    try clear c5b0
    try clear p2
    obtain ⟨x8_2, x9_2, rfl, rfl, HA, HK2, ⟨m2, rfl⟩⟩ := hrel
    cases gk with
    | zero => exact absurd HA.out (by simp [spec_l9Index.l0])
    | succ k2 =>
     have H := HA.out
     clear HA
     simp only [spec_l9Index.l0] at H
     by_cases c6 : x9_2 < x1_3
     ·rw [if_pos c6] at H
      have c6b0 : decide (x9_2 < x1_3) = true := decide_eq_true c6
      clear c6
      have H' := Aside0.mk H
      clear H
      go_wp2
      go_roundg k2
      case measure => have := HJ3.out; have := HK2.out; omega
      case rel => exact ⟨(wrap64 ((wrap64 ((wrap64 (x8_2 + a0)) - 1)) - x9_2)), (wrap64 (x9_2 + 1)), (by first | rfl | (simp; done) | (simp [*]; done)), (by first | rfl | (simp; done) | (simp [*]; done)), H', ⟨by have := HJ3.out; have := HK2.out; omega⟩, by repeat (first | exact Drawn0.refl _ | apply Drawn0.step)⟩
     ·rw [if_neg c6] at H
      have c6b0 : decide (x9_2 < x1_3) = false := decide_eq_false c6
      clear c6
      obtain rfl := Option.some.inj H
      go_wp2
      go_ret
      exact ⟨by first | rfl | (simp; done) | (simp [*]; done), by repeat (first | exact Drawn0.refl _ | apply Drawn0.step)⟩
end Go.Proofs.Ytpmjjldocjopmaa.Pr
namespace Go.Proofs.Ytpmjjldocjopmaa.Pr
set_option linter.unusedVariables false
set_option linter.unusedSimpArgs false
open Go.RowKit Go.Proofs.YtpmjjldocjopmaaW.PrintWords Go.Proofs.YtpmjjldocjopmaaW.PrintLast Go.Proofs.YtpmjjldocjopmaaW.PrintMore
attribute [local go_sem] max2_int min2_int max_two min_two max_three min_three max_four min_four   -- for this text's walks alone
/-! ### spec_EdgeAt: function 70 -/
mutual
def spec_EdgeAt.l0 : Nat → Int → Int → Int → Option (Int × Int)
 | 0, _, _, _ => none
 | k + 1, x0, x1, x6 => if x6 < x0 then (spec_EdgeAt.l1 k x0 x1 x6 (wrap64 (x6 + 1))) else (some ((-1), (-1)))
def spec_EdgeAt.l1 : Nat → Int → Int → Int → Int → Option (Int × Int)
 | 0, _, _, _, _ => none
 | k + 1, x0, x1, x6, x7 => if x7 < x0 then ((spec_l9Index.f k x0 x6 x7).bind fun t302 => (if t302 = x1 then (some (x6, x7)) else (spec_EdgeAt.l1 k x0 x1 x6 (wrap64 (x7 + 1))))) else (spec_EdgeAt.l0 k x0 x1 (wrap64 (x6 + 1)))
end
def spec_EdgeAt.f (k : Nat) (a0 : Int) (a1 : Int) : Option (Int × Int) := (spec_l1In.f a0 3 7).bind fun t301 => (if t301 = true then (spec_EdgeAt.l0 k a0 a1 0) else (some ((-1), (-1))))
theorem spec_EdgeAt.mono_l : ∀ k, (∀ y0 y1 y2, LeO (spec_EdgeAt.l0 k y0 y1 y2) (spec_EdgeAt.l0 (k + 1) y0 y1 y2)) ∧ (∀ y0 y1 y2 y3, LeO (spec_EdgeAt.l1 k y0 y1 y2 y3) (spec_EdgeAt.l1 (k + 1) y0 y1 y2 y3))
 | 0 => ⟨fun _ _ _ r h => by simp [spec_EdgeAt.l0] at h, fun _ _ _ _ r h => by simp [spec_EdgeAt.l1] at h⟩
 | k + 1 => by
  obtain ⟨ih0, ih1⟩ := spec_EdgeAt.mono_l k
  refine ⟨?_, ?_⟩
  ·intro y0 y1 y2
   unfold spec_EdgeAt.l0
   repeat' first
   | (with_reducible exact ih0 _ _ _)
   | (with_reducible exact ih1 _ _ _ _)
   | (with_reducible exact spec_l9Index.mono _ _ _ _)
   | (with_reducible exact LeO.refl _)
   | (with_reducible exact LeO.none _)
   | (with_reducible refine LeO.ite ?_ ?_)
   | (with_reducible refine LeO.bind ?_ (fun _ => ?_))
   | exact ih0 _ _ _
   | exact ih1 _ _ _ _
   | exact spec_l9Index.mono _ _ _ _
   | exact LeO.none _
   | refine LeO.ite ?_ ?_
   | refine LeO.bind ?_ (fun _ => ?_)
  ·intro y0 y1 y2 y3
   unfold spec_EdgeAt.l1
   repeat' first
   | (with_reducible exact ih0 _ _ _)
   | (with_reducible exact ih1 _ _ _ _)
   | (with_reducible exact spec_l9Index.mono _ _ _ _)
   | (with_reducible exact LeO.refl _)
   | (with_reducible exact LeO.none _)
   | (with_reducible refine LeO.ite ?_ ?_)
   | (with_reducible refine LeO.bind ?_ (fun _ => ?_))
   | exact ih0 _ _ _
   | exact ih1 _ _ _ _
   | exact spec_l9Index.mono _ _ _ _
   | exact LeO.none _
   | refine LeO.ite ?_ ?_
   | refine LeO.bind ?_ (fun _ => ?_)
theorem spec_EdgeAt.mono : ∀ a0 a1 k, LeO (spec_EdgeAt.f k a0 a1) (spec_EdgeAt.f (k + 1) a0 a1) := by
 intro a0 a1 k
 obtain ⟨ih0, ih1⟩ := spec_EdgeAt.mono_l k
 unfold spec_EdgeAt.f
 repeat' first
   | (with_reducible exact ih0 _ _ _)
   | (with_reducible exact ih1 _ _ _ _)
   | (with_reducible exact spec_l9Index.mono _ _ _ _)
   | (with_reducible exact LeO.refl _)
   | (with_reducible exact LeO.none _)
   | (with_reducible refine LeO.ite ?_ ?_)
   | (with_reducible refine LeO.bind ?_ (fun _ => ?_))
   | exact ih0 _ _ _
   | exact ih1 _ _ _ _
   | exact spec_l9Index.mono _ _ _ _
   | exact LeO.none _
   | refine LeO.ite ?_ ?_
   | refine LeO.bind ?_ (fun _ => ?_)
set_option maxHeartbeats 8000000 in
set_option maxRecDepth 100000 in
theorem spec_EdgeAt.calls (k : Nat) (a0 : Int) (a1 : Int) (r1 : Int) (r2 : Int) (w : World) (h : spec_EdgeAt.f k a0 a1 = some (r1, r2)) :
  Calls Try.prog 70 #[.int .i64 a0, .int .i64 a1] w fun e w' => e = .returned (.tuple #[.int .i64 r1, .int .i64 r2]) ∧ Drawn0 w w' := by
 have H : ((spec_l1In.f a0 3 7).bind fun t301 => (if t301 = true then (spec_EdgeAt.l0 k a0 a1 0) else (some ((-1), (-1))))) = some (r1, r2) := h
 clear h
 replace H := Option.bind_eq_some_iff.mp H
 obtain ⟨t301, A30, H⟩ := H
 replace H : (if t301 = true then (spec_EdgeAt.l0 k a0 a1 0) else (some ((-1), (-1)))) = some (r1, r2) := H
 have A3 := Aside0.mk A30
 clear A30
 by_cases c4 : t301 = true
 ·subst c4
  have H1 : (spec_EdgeAt.l0 k a0 a1 0) = some (r1, r2) := by rw [if_pos rfl] at H; exact H
  clear H
  have H := H1
  clear H1
  have H' := Aside0.mk H
  clear H
  go_enter Try.func70, Try.ntmps70
  go_wp2_with (first | ((with_reducible refine gate_callee (f := 105) rfl ?_); refine goesL_ (some 9) rfl rfl Try.func105 (by kernel_rfl) rfl #[.int .i64 a0, .int .i64 3, .int .i64 7] rfl (by (try simp only [List.map_toArray, List.map_cons, List.map_nil]); first | done | rfl | (simp only [List.length_drop, List.length_take]; rfl)) ?_; (with_reducible refine (spec_l1In.calls a0 3 7 true _ A3.out).mono ?_); rintro e w' ⟨rfl, ⟨nd, rfl⟩⟩; refine ⟨_, rfl, ?_⟩))
  go_loopg [6] k (fun kq v6 w' => ∃ (x6_1 : Int), v6 = .int .i64 x6_1 ∧ Aside0 (spec_EdgeAt.l0 kq a0 a1 x6_1 = some (r1, r2)) ∧ Aside0 (kq ≤ k) ∧ Drawn0 w w')
  case atStart => exact ⟨(0), (by first | rfl | (simp; done) | (simp [*]; done)), H', ⟨Nat.le_refl _⟩, by repeat (first | exact Drawn0.refl _ | apply Drawn0.step)⟩
  case round =>
   clear H'
   try clear c1
   try clear p2
   try clear c4
   obtain ⟨x6_1, rfl, HA, HK1, ⟨m1, rfl⟩⟩ := hrel
   cases gk with
   | zero => exact absurd HA.out (by simp [spec_EdgeAt.l0])
   | succ k1 =>
    have H := HA.out
    clear HA
    simp only [spec_EdgeAt.l0] at H
    by_cases c5 : x6_1 < a0
    ·rw [if_pos c5] at H
     have c5b0 : decide (x6_1 < a0) = true := decide_eq_true c5
     clear c5
     have H' := Aside0.mk H
     clear H
     go_wp2
     go_loopg [7] k1 (fun kq v7 w' => ∃ (x7_2 : Int), v7 = .int .i64 x7_2 ∧ Aside0 (spec_EdgeAt.l1 kq a0 a1 x6_1 x7_2 = some (r1, r2)) ∧ Aside0 (kq ≤ k1) ∧ Drawn0 w w')
     case atStart => exact ⟨(wrap64 (x6_1 + 1)), (by first | rfl | (simp; done) | (simp [*]; done)), H', ⟨Nat.le_refl _⟩, by repeat (first | exact Drawn0.refl _ | apply Drawn0.step)⟩
     case round =>
      clear H'
      try clear c1
      try clear p2
      try clear c4
      try clear c5
      try clear c5b0
      try clear p2
      obtain ⟨x7_2, rfl, HA, HK2, ⟨m2, rfl⟩⟩ := hrel
      cases gk with
      | zero => exact absurd HA.out (by simp [spec_EdgeAt.l1])
      | succ k2 =>
       have H := HA.out
       clear HA
       simp only [spec_EdgeAt.l1] at H
       by_cases c6 : x7_2 < a0
       ·rw [if_pos c6] at H
        have c6b0 : decide (x7_2 < a0) = true := decide_eq_true c6
        clear c6
        replace H := Option.bind_eq_some_iff.mp H
        obtain ⟨t302, A70, H⟩ := H
        replace H : (if t302 = a1 then (some (x6_1, x7_2)) else (spec_EdgeAt.l1 k2 a0 a1 x6_1 (wrap64 (x7_2 + 1)))) = some (r1, r2) := H
        have A7 := Aside0.mk A70
        clear A70
        by_cases c8 : t302 = a1
        ·rw [if_pos c8] at H
         have c8b0 : (t302 == a1) = true := beq_iff_eq.mpr c8
         have c8b1 : (t302 != a1) = false := bne_eq_false_iff_eq.mpr c8
         clear c8
         simp only [Option.some.injEq, Prod.mk.injEq] at H
         obtain ⟨rfl, rfl⟩ := H
         go_wp2_with (first | ((with_reducible refine gate_callee (f := 107) rfl ?_); refine goesL_ (some 26) rfl rfl Try.func107 (by kernel_rfl) rfl #[.int .i64 a0, .int .i64 x6_1, .int .i64 x7_2] rfl (by (try simp only [List.map_toArray, List.map_cons, List.map_nil]); first | done | rfl | (simp only [List.length_drop, List.length_take]; rfl)) ?_; (with_reducible refine (spec_l9Index.calls k2 a0 x6_1 x7_2 t302 _ A7.out).mono ?_); rintro e w' ⟨rfl, ⟨nd, rfl⟩⟩; refine ⟨_, rfl, ?_⟩))
         go_ret2
         exact ⟨by first | rfl | (simp; done) | (simp [*]; done), by repeat (first | exact Drawn0.refl _ | apply Drawn0.step)⟩
        ·rw [if_neg c8] at H
         have c8b0 : (t302 == a1) = false := beq_eq_false_iff_ne.mpr c8
         have c8b1 : (t302 != a1) = true := bne_iff_ne.mpr c8
         have H' := Aside0.mk H
         clear H
         go_wp2_with (first | ((with_reducible refine gate_callee (f := 107) rfl ?_); refine goesL_ (some 26) rfl rfl Try.func107 (by kernel_rfl) rfl #[.int .i64 a0, .int .i64 x6_1, .int .i64 x7_2] rfl (by (try simp only [List.map_toArray, List.map_cons, List.map_nil]); first | done | rfl | (simp only [List.length_drop, List.length_take]; rfl)) ?_; (with_reducible refine (spec_l9Index.calls k2 a0 x6_1 x7_2 t302 _ A7.out).mono ?_); rintro e w' ⟨rfl, ⟨nd, rfl⟩⟩; refine ⟨_, rfl, ?_⟩))
         go_roundg k2
         case measure => have := HK1.out; have := HK2.out; omega
         case rel => exact ⟨(wrap64 (x7_2 + 1)), (by first | rfl | (simp; done) | (simp [*]; done)), H', ⟨by have := HK1.out; have := HK2.out; omega⟩, by repeat (first | exact Drawn0.refl _ | apply Drawn0.step)⟩
       ·rw [if_neg c6] at H
        have c6b0 : decide (x7_2 < a0) = false := decide_eq_false c6
        clear c6
        have H' := Aside0.mk H
        clear H
        go_wp2
        go_roundg k2
        case measure => have := HK1.out; have := HK2.out; omega
        case rel => exact ⟨(wrap64 (x6_1 + 1)), (by first | rfl | (simp; done) | (simp [*]; done)), H', ⟨by have := HK1.out; have := HK2.out; omega⟩, by repeat (first | exact Drawn0.refl _ | apply Drawn0.step)⟩
    ·rw [if_neg c5] at H
     have c5b0 : decide (x6_1 < a0) = false := decide_eq_false c5
     clear c5
     simp only [Option.some.injEq, Prod.mk.injEq] at H
     obtain ⟨rfl, rfl⟩ := H
     go_wp2
     go_ret2
     exact ⟨by first | rfl | (simp; done) | (simp [*]; done), by repeat (first | exact Drawn0.refl _ | apply Drawn0.step)⟩
 ·replace c4 := Bool.eq_false_iff.mpr c4
  subst c4
  have H1 : (some ((-1), (-1))) = some (r1, r2) := by rw [if_neg (show ¬ (false = true) by decide)] at H; exact H
  clear H
  have H := H1
  clear H1
  simp only [Option.some.injEq, Prod.mk.injEq] at H
  obtain ⟨rfl, rfl⟩ := H
  go_enter Try.func70, Try.ntmps70
  go_wp2_with (first | ((with_reducible refine gate_callee (f := 105) rfl ?_); refine goesL_ (some 9) rfl rfl Try.func105 (by kernel_rfl) rfl #[.int .i64 a0, .int .i64 3, .int .i64 7] rfl (by (try simp only [List.map_toArray, List.map_cons, List.map_nil]); first | done | rfl | (simp only [List.length_drop, List.length_take]; rfl)) ?_; (with_reducible refine (spec_l1In.calls a0 3 7 false _ A3.out).mono ?_); rintro e w' ⟨rfl, ⟨nd, rfl⟩⟩; refine ⟨_, rfl, ?_⟩))
  go_ret2
  exact ⟨by first | rfl | (simp; done) | (simp [*]; done), by repeat (first | exact Drawn0.refl _ | apply Drawn0.step)⟩
end Go.Proofs.Ytpmjjldocjopmaa.Pr
namespace Go.Proofs.Ytpmjjldocjopmaa.Pr
set_option linter.unusedVariables false
set_option linter.unusedSimpArgs false
open Go.RowKit Go.Proofs.YtpmjjldocjopmaaW.PrintWords Go.Proofs.YtpmjjldocjopmaaW.PrintLast Go.Proofs.YtpmjjldocjopmaaW.PrintMore
attribute [local go_sem] max2_int min2_int max_two min_two max_three min_three max_four min_four   -- for this text's walks alone
/-! ### spec_LengthOf: function 71 -/
def spec_LengthOf.f (a0_0 : Int) (a0_1 : Int) (a1_0 : Int) (a1_1 : Int) : Option (Int) := (spec_l2Fits.f a0_0 a0_1 1000).bind fun t303 => (if t303 = true then ((spec_l2Fits.f a1_0 a1_1 1000).bind fun t304 => (if t304 = true then (some (wrap64 ((wrap64 ((wrap64 (a0_0 - a1_0)) * (wrap64 (a0_0 - a1_0)))) + (wrap64 ((wrap64 (a0_1 - a1_1)) * (wrap64 (a0_1 - a1_1))))))) else (some (-1)))) else (some (-1)))
set_option maxHeartbeats 8000000 in
set_option maxRecDepth 100000 in
theorem spec_LengthOf.calls (a0_0 : Int) (a0_1 : Int) (a1_0 : Int) (a1_1 : Int) (r : Int) (w : World) (h : spec_LengthOf.f a0_0 a0_1 a1_0 a1_1 = some r) :
  Calls Try.prog 71 #[.agg #[.int .i64 a0_0, .int .i64 a0_1], .agg #[.int .i64 a1_0, .int .i64 a1_1]] w fun e w' => e = .returned (.int .i64 r) ∧ Below w.heap.size w w' := by
 have hu37 := Try.underlying37
 have HB := Aside0.mk (Below.refl w.heap.size w)
 have H : ((spec_l2Fits.f a0_0 a0_1 1000).bind fun t303 => (if t303 = true then ((spec_l2Fits.f a1_0 a1_1 1000).bind fun t304 => (if t304 = true then (some (wrap64 ((wrap64 ((wrap64 (a0_0 - a1_0)) * (wrap64 (a0_0 - a1_0)))) + (wrap64 ((wrap64 (a0_1 - a1_1)) * (wrap64 (a0_1 - a1_1))))))) else (some (-1)))) else (some (-1)))) = some r := h
 clear h
 replace H := Option.bind_eq_some_iff.mp H
 obtain ⟨t303, A30, H⟩ := H
 replace H : (if t303 = true then ((spec_l2Fits.f a1_0 a1_1 1000).bind fun t304 => (if t304 = true then (some (wrap64 ((wrap64 ((wrap64 (a0_0 - a1_0)) * (wrap64 (a0_0 - a1_0)))) + (wrap64 ((wrap64 (a0_1 - a1_1)) * (wrap64 (a0_1 - a1_1))))))) else (some (-1)))) else (some (-1))) = some r := H
 have A3 := Aside0.mk A30
 clear A30
 by_cases c4 : t303 = true
 ·subst c4
  have H1 : ((spec_l2Fits.f a1_0 a1_1 1000).bind fun t304 => (if t304 = true then (some (wrap64 ((wrap64 ((wrap64 (a0_0 - a1_0)) * (wrap64 (a0_0 - a1_0)))) + (wrap64 ((wrap64 (a0_1 - a1_1)) * (wrap64 (a0_1 - a1_1))))))) else (some (-1)))) = some r := by rw [if_pos rfl] at H; exact H
  clear H
  have H := H1
  clear H1
  replace H := Option.bind_eq_some_iff.mp H
  obtain ⟨t304, A50, H⟩ := H
  replace H : (if t304 = true then (some (wrap64 ((wrap64 ((wrap64 (a0_0 - a1_0)) * (wrap64 (a0_0 - a1_0)))) + (wrap64 ((wrap64 (a0_1 - a1_1)) * (wrap64 (a0_1 - a1_1))))))) else (some (-1))) = some r := H
  have A5 := Aside0.mk A50
  clear A50
  by_cases c6 : t304 = true
  ·subst c6
   have H1 : (some (wrap64 ((wrap64 ((wrap64 (a0_0 - a1_0)) * (wrap64 (a0_0 - a1_0)))) + (wrap64 ((wrap64 (a0_1 - a1_1)) * (wrap64 (a0_1 - a1_1))))))) = some r := by rw [if_pos rfl] at H; exact H
   clear H
   have H := H1
   clear H1
   obtain rfl := Option.some.inj H
   go_enter Try.func71, Try.ntmps71
   go_wp2_with (first | ((with_reducible refine gate_dst (N := 2) rfl ?_); refine box_event ?hg (N := 2) ?hd (cs := #[.int .i64 a0_0, .int .i64 a0_1]) (t := 37) ?hr ?_; (case hd => rfl); (case hg => rfl); (case hr => first | (go_simp; done) | (go_simp; rfl)); intro gb301 hg w7 hbox hb; have n0_ := Aside0.mk (below_step (by repeat (first | (with_reducible first | exact HB.out | apply below_alloc | apply pw_below_drewN | apply below_drew1) | exact HB.out)) hb); have n1_ := Aside0.mk (hbox); have n2_ := Aside0.mk ((by rw [hg]; exact (below_size (by repeat (first | (with_reducible first | exact HB.out | apply below_alloc | apply pw_below_drewN | apply below_drew1) | exact HB.out))) : w.heap.size ≤ gb301)); have n3_ := Aside0.mk ((by rw [hg]; exact (below_size (by repeat (first | (with_reducible first | exact HB.out | apply below_alloc | apply pw_below_drewN | apply below_drew1) | exact HB.out))) : w.heap.size ≤ gb301)); clear HB; have HB := n0_; have BK301 := n1_; have GW301 := n2_; have GE301 := n3_; clear n0_ n1_ n2_ n3_; clear hb hbox hg) | ((with_reducible refine gate_dst (N := 3) rfl ?_); refine box_event ?hg (N := 3) ?hd (cs := #[.int .i64 a1_0, .int .i64 a1_1]) (t := 37) ?hr ?_; (case hd => rfl); (case hg => rfl); (case hr => first | (go_simp; done) | (go_simp; rfl)); intro gb302 hg w8 hbox hb; have n0_ := Aside0.mk (blk_below (g := gb301) (o := .cells #[.int .i64 a0_0, .int .i64 a0_1] 37 (0, 0)) (by (with_reducible repeat (first | refine blk_drewN ?_ _ | refine blk_drew ?_ | refine blk_alloc ?_ _)); exact BK301.out) hb); have n1_ := Aside0.mk (below_step (by repeat (first | (with_reducible first | exact HB.out | apply below_alloc | apply pw_below_drewN | apply below_drew1 | refine below_set ?_ GE301.out) | exact HB.out)) hb); have n2_ := Aside0.mk (hbox); have n3_ := Aside0.mk ((by rw [hg]; exact (below_size (by repeat (first | (with_reducible first | exact HB.out | apply below_alloc | apply pw_below_drewN | apply below_drew1 | refine below_set ?_ GE301.out) | exact HB.out))) : w.heap.size ≤ gb302)); have n4_ := Aside0.mk ((by rw [hg]; exact (below_size (by repeat (first | (with_reducible first | exact HB.out | apply below_alloc | apply pw_below_drewN | apply below_drew1 | refine below_set ?_ GE301.out) | exact HB.out))) : w.heap.size ≤ gb302)); have n5_ := Aside0.mk ((by rw [hg]; exact Nat.ne_of_lt (blk_lt (g := gb301) (o := .cells #[.int .i64 a0_0, .int .i64 a0_1] 37 (0, 0)) (by (with_reducible repeat (first | refine blk_drewN ?_ _ | refine blk_drew ?_ | refine blk_alloc ?_ _)); exact BK301.out)) : gb301 ≠ gb302)); have n6_ := Aside0.mk ((by rw [hg]; exact Nat.ne_of_gt (blk_lt (g := gb301) (o := .cells #[.int .i64 a0_0, .int .i64 a0_1] 37 (0, 0)) (by (with_reducible repeat (first | refine blk_drewN ?_ _ | refine blk_drew ?_ | refine blk_alloc ?_ _)); exact BK301.out)) : gb302 ≠ gb301)); clear BK301; clear HB; have BK301 := n0_; have HB := n1_; have BK302 := n2_; have GW302 := n3_; have GE302 := n4_; have NB301_302 := n5_; have NB302_301 := n6_; clear n0_ n1_ n2_ n3_ n4_ n5_ n6_; clear hb hbox hg; have hnb9 := NB301_302.out; have hnc9 := NB302_301.out; have hcz10_0 : w8.cell? ⟨gb301, 0, none⟩ = some (.int .i64 a0_0) := (blk_cell BK301.out 0).trans rfl; have hcz10_1 : w8.cell? ⟨gb301, 1, none⟩ = some (.int .i64 a0_1) := (blk_cell BK301.out 1).trans rfl; have hfz10_0 := blk_frozen BK301.out 0; have hfz10_1 := blk_frozen BK301.out 1) | ((with_reducible refine gate_callee (f := 86) rfl ?_); refine goesL_ (some 6) rfl rfl Try.func86 (by kernel_rfl) rfl #[.agg #[.int .i64 a0_0, .int .i64 a0_1], .int .i64 1000] rfl (by (try simp only [List.map_toArray, List.map_cons, List.map_nil]); first | done | rfl | (simp only [List.length_drop, List.length_take]; rfl)) ?_; (with_reducible refine (spec_l2Fits.calls a0_0 a0_1 1000 true _ A3.out).mono ?_); rintro e w11 ⟨rfl, hb⟩; refine ⟨_, rfl, ?_⟩; have n0_ := Aside0.mk (blk_below (g := gb301) (o := .cells #[.int .i64 a0_0, .int .i64 a0_1] 37 (0, 0)) (by (with_reducible repeat (first | refine blk_drewN ?_ _ | refine blk_drew ?_ | refine blk_alloc ?_ _)); exact BK301.out) hb); have n1_ := Aside0.mk (blk_below (g := gb302) (o := .cells #[.int .i64 a1_0, .int .i64 a1_1] 37 (0, 0)) (by (with_reducible repeat (first | refine blk_drewN ?_ _ | refine blk_drew ?_ | refine blk_alloc ?_ _)); exact BK302.out) hb); have n2_ := Aside0.mk (below_step (by repeat (first | (with_reducible first | exact HB.out | apply below_alloc | apply pw_below_drewN | apply below_drew1 | refine below_set ?_ GE301.out | refine below_set ?_ GE302.out) | exact HB.out)) hb); clear BK301; clear BK302; clear HB; have BK301 := n0_; have BK302 := n1_; have HB := n2_; clear n0_ n1_ n2_; (try clear hb); (try clear hb2); (try clear hk); (try clear hi); have hcz12_0 : w11.cell? ⟨gb302, 0, none⟩ = some (.int .i64 a1_0) := (blk_cell BK302.out 0).trans rfl; have hcz12_1 : w11.cell? ⟨gb302, 1, none⟩ = some (.int .i64 a1_1) := (blk_cell BK302.out 1).trans rfl; have hfz12_0 := blk_frozen BK302.out 0; have hfz12_1 := blk_frozen BK302.out 1) | (go_at_call 86; (with_reducible refine (spec_l2Fits.calls a1_0 a1_1 1000 true _ A5.out).mono ?_); rintro e w13 ⟨rfl, hb⟩; have n0_ := Aside0.mk (blk_below (g := gb301) (o := .cells #[.int .i64 a0_0, .int .i64 a0_1] 37 (0, 0)) (by (with_reducible repeat (first | refine blk_drewN ?_ _ | refine blk_drew ?_ | refine blk_alloc ?_ _)); exact BK301.out) hb); have n1_ := Aside0.mk (blk_below (g := gb302) (o := .cells #[.int .i64 a1_0, .int .i64 a1_1] 37 (0, 0)) (by (with_reducible repeat (first | refine blk_drewN ?_ _ | refine blk_drew ?_ | refine blk_alloc ?_ _)); exact BK302.out) hb); have n2_ := Aside0.mk (below_step (by repeat (first | (with_reducible first | exact HB.out | apply below_alloc | apply pw_below_drewN | apply below_drew1 | refine below_set ?_ GE301.out | refine below_set ?_ GE302.out) | exact HB.out)) hb); clear BK301; clear BK302; clear HB; have BK301 := n0_; have BK302 := n1_; have HB := n2_; clear n0_ n1_ n2_; (try clear hb); (try clear hb2); (try clear hk); (try clear hi); have hcz14_0 : w13.cell? ⟨gb301, 0, none⟩ = some (.int .i64 a0_0) := (blk_cell BK301.out 0).trans rfl; have hcz14_1 : w13.cell? ⟨gb301, 1, none⟩ = some (.int .i64 a0_1) := (blk_cell BK301.out 1).trans rfl; have hfz14_0 := blk_frozen BK301.out 0; have hfz14_1 := blk_frozen BK301.out 1; have hcz15_0 : w13.cell? ⟨gb302, 0, none⟩ = some (.int .i64 a1_0) := (blk_cell BK302.out 0).trans rfl; have hcz15_1 : w13.cell? ⟨gb302, 1, none⟩ = some (.int .i64 a1_1) := (blk_cell BK302.out 1).trans rfl; have hfz15_0 := blk_frozen BK302.out 0; have hfz15_1 := blk_frozen BK302.out 1))
   go_ret
   exact ⟨by first | rfl | (simp [errW_none, errW_some] <;> rfl) | (simp [*, errW_none, errW_some] <;> rfl), by repeat (first | (with_reducible first | exact HB.out | apply below_alloc | apply pw_below_drewN | apply below_drew1 | refine below_set ?_ GE301.out | refine below_set ?_ GE302.out) | exact HB.out)⟩
  ·replace c6 := Bool.eq_false_iff.mpr c6
   subst c6
   have H1 : (some (-1)) = some r := by rw [if_neg (show ¬ (false = true) by decide)] at H; exact H
   clear H
   have H := H1
   clear H1
   obtain rfl := Option.some.inj H
   go_enter Try.func71, Try.ntmps71
   go_wp2_with (first | ((with_reducible refine gate_dst (N := 2) rfl ?_); refine box_event ?hg (N := 2) ?hd (cs := #[.int .i64 a0_0, .int .i64 a0_1]) (t := 37) ?hr ?_; (case hd => rfl); (case hg => rfl); (case hr => first | (go_simp; done) | (go_simp; rfl)); intro gb301 hg w16 hbox hb; have n0_ := Aside0.mk (below_step (by repeat (first | (with_reducible first | exact HB.out | apply below_alloc | apply pw_below_drewN | apply below_drew1) | exact HB.out)) hb); have n1_ := Aside0.mk (hbox); have n2_ := Aside0.mk ((by rw [hg]; exact (below_size (by repeat (first | (with_reducible first | exact HB.out | apply below_alloc | apply pw_below_drewN | apply below_drew1) | exact HB.out))) : w.heap.size ≤ gb301)); have n3_ := Aside0.mk ((by rw [hg]; exact (below_size (by repeat (first | (with_reducible first | exact HB.out | apply below_alloc | apply pw_below_drewN | apply below_drew1) | exact HB.out))) : w.heap.size ≤ gb301)); clear HB; have HB := n0_; have BK301 := n1_; have GW301 := n2_; have GE301 := n3_; clear n0_ n1_ n2_ n3_; clear hb hbox hg) | ((with_reducible refine gate_dst (N := 3) rfl ?_); refine box_event ?hg (N := 3) ?hd (cs := #[.int .i64 a1_0, .int .i64 a1_1]) (t := 37) ?hr ?_; (case hd => rfl); (case hg => rfl); (case hr => first | (go_simp; done) | (go_simp; rfl)); intro gb302 hg w17 hbox hb; have n0_ := Aside0.mk (blk_below (g := gb301) (o := .cells #[.int .i64 a0_0, .int .i64 a0_1] 37 (0, 0)) (by (with_reducible repeat (first | refine blk_drewN ?_ _ | refine blk_drew ?_ | refine blk_alloc ?_ _)); exact BK301.out) hb); have n1_ := Aside0.mk (below_step (by repeat (first | (with_reducible first | exact HB.out | apply below_alloc | apply pw_below_drewN | apply below_drew1 | refine below_set ?_ GE301.out) | exact HB.out)) hb); have n2_ := Aside0.mk (hbox); have n3_ := Aside0.mk ((by rw [hg]; exact (below_size (by repeat (first | (with_reducible first | exact HB.out | apply below_alloc | apply pw_below_drewN | apply below_drew1 | refine below_set ?_ GE301.out) | exact HB.out))) : w.heap.size ≤ gb302)); have n4_ := Aside0.mk ((by rw [hg]; exact (below_size (by repeat (first | (with_reducible first | exact HB.out | apply below_alloc | apply pw_below_drewN | apply below_drew1 | refine below_set ?_ GE301.out) | exact HB.out))) : w.heap.size ≤ gb302)); have n5_ := Aside0.mk ((by rw [hg]; exact Nat.ne_of_lt (blk_lt (g := gb301) (o := .cells #[.int .i64 a0_0, .int .i64 a0_1] 37 (0, 0)) (by (with_reducible repeat (first | refine blk_drewN ?_ _ | refine blk_drew ?_ | refine blk_alloc ?_ _)); exact BK301.out)) : gb301 ≠ gb302)); have n6_ := Aside0.mk ((by rw [hg]; exact Nat.ne_of_gt (blk_lt (g := gb301) (o := .cells #[.int .i64 a0_0, .int .i64 a0_1] 37 (0, 0)) (by (with_reducible repeat (first | refine blk_drewN ?_ _ | refine blk_drew ?_ | refine blk_alloc ?_ _)); exact BK301.out)) : gb302 ≠ gb301)); clear BK301; clear HB; have BK301 := n0_; have HB := n1_; have BK302 := n2_; have GW302 := n3_; have GE302 := n4_; have NB301_302 := n5_; have NB302_301 := n6_; clear n0_ n1_ n2_ n3_ n4_ n5_ n6_; clear hb hbox hg; have hnb18 := NB301_302.out; have hnc18 := NB302_301.out; have hcz19_0 : w17.cell? ⟨gb301, 0, none⟩ = some (.int .i64 a0_0) := (blk_cell BK301.out 0).trans rfl; have hcz19_1 : w17.cell? ⟨gb301, 1, none⟩ = some (.int .i64 a0_1) := (blk_cell BK301.out 1).trans rfl; have hfz19_0 := blk_frozen BK301.out 0; have hfz19_1 := blk_frozen BK301.out 1) | ((with_reducible refine gate_callee (f := 86) rfl ?_); refine goesL_ (some 6) rfl rfl Try.func86 (by kernel_rfl) rfl #[.agg #[.int .i64 a0_0, .int .i64 a0_1], .int .i64 1000] rfl (by (try simp only [List.map_toArray, List.map_cons, List.map_nil]); first | done | rfl | (simp only [List.length_drop, List.length_take]; rfl)) ?_; (with_reducible refine (spec_l2Fits.calls a0_0 a0_1 1000 true _ A3.out).mono ?_); rintro e w20 ⟨rfl, hb⟩; refine ⟨_, rfl, ?_⟩; have n0_ := Aside0.mk (blk_below (g := gb301) (o := .cells #[.int .i64 a0_0, .int .i64 a0_1] 37 (0, 0)) (by (with_reducible repeat (first | refine blk_drewN ?_ _ | refine blk_drew ?_ | refine blk_alloc ?_ _)); exact BK301.out) hb); have n1_ := Aside0.mk (blk_below (g := gb302) (o := .cells #[.int .i64 a1_0, .int .i64 a1_1] 37 (0, 0)) (by (with_reducible repeat (first | refine blk_drewN ?_ _ | refine blk_drew ?_ | refine blk_alloc ?_ _)); exact BK302.out) hb); have n2_ := Aside0.mk (below_step (by repeat (first | (with_reducible first | exact HB.out | apply below_alloc | apply pw_below_drewN | apply below_drew1 | refine below_set ?_ GE301.out | refine below_set ?_ GE302.out) | exact HB.out)) hb); clear BK301; clear BK302; clear HB; have BK301 := n0_; have BK302 := n1_; have HB := n2_; clear n0_ n1_ n2_; (try clear hb); (try clear hb2); (try clear hk); (try clear hi); have hcz21_0 : w20.cell? ⟨gb302, 0, none⟩ = some (.int .i64 a1_0) := (blk_cell BK302.out 0).trans rfl; have hcz21_1 : w20.cell? ⟨gb302, 1, none⟩ = some (.int .i64 a1_1) := (blk_cell BK302.out 1).trans rfl; have hfz21_0 := blk_frozen BK302.out 0; have hfz21_1 := blk_frozen BK302.out 1) | (go_at_call 86; (with_reducible refine (spec_l2Fits.calls a1_0 a1_1 1000 false _ A5.out).mono ?_); rintro e w22 ⟨rfl, hb⟩; have n0_ := Aside0.mk (blk_below (g := gb301) (o := .cells #[.int .i64 a0_0, .int .i64 a0_1] 37 (0, 0)) (by (with_reducible repeat (first | refine blk_drewN ?_ _ | refine blk_drew ?_ | refine blk_alloc ?_ _)); exact BK301.out) hb); have n1_ := Aside0.mk (blk_below (g := gb302) (o := .cells #[.int .i64 a1_0, .int .i64 a1_1] 37 (0, 0)) (by (with_reducible repeat (first | refine blk_drewN ?_ _ | refine blk_drew ?_ | refine blk_alloc ?_ _)); exact BK302.out) hb); have n2_ := Aside0.mk (below_step (by repeat (first | (with_reducible first | exact HB.out | apply below_alloc | apply pw_below_drewN | apply below_drew1 | refine below_set ?_ GE301.out | refine below_set ?_ GE302.out) | exact HB.out)) hb); clear BK301; clear BK302; clear HB; have BK301 := n0_; have BK302 := n1_; have HB := n2_; clear n0_ n1_ n2_; (try clear hb); (try clear hb2); (try clear hk); (try clear hi)))
   go_ret
   exact ⟨by first | rfl | (simp [errW_none, errW_some] <;> rfl) | (simp [*, errW_none, errW_some] <;> rfl), by repeat (first | (with_reducible first | exact HB.out | apply below_alloc | apply pw_below_drewN | apply below_drew1 | refine below_set ?_ GE301.out | refine below_set ?_ GE302.out) | exact HB.out)⟩
 ·replace c4 := Bool.eq_false_iff.mpr c4
  subst c4
  have H1 : (some (-1)) = some r := by rw [if_neg (show ¬ (false = true) by decide)] at H; exact H
  clear H
  have H := H1
  clear H1
  obtain rfl := Option.some.inj H
  go_enter Try.func71, Try.ntmps71
  go_wp2_with (first | ((with_reducible refine gate_dst (N := 2) rfl ?_); refine box_event ?hg (N := 2) ?hd (cs := #[.int .i64 a0_0, .int .i64 a0_1]) (t := 37) ?hr ?_; (case hd => rfl); (case hg => rfl); (case hr => first | (go_simp; done) | (go_simp; rfl)); intro gb301 hg w23 hbox hb; have n0_ := Aside0.mk (below_step (by repeat (first | (with_reducible first | exact HB.out | apply below_alloc | apply pw_below_drewN | apply below_drew1) | exact HB.out)) hb); have n1_ := Aside0.mk (hbox); have n2_ := Aside0.mk ((by rw [hg]; exact (below_size (by repeat (first | (with_reducible first | exact HB.out | apply below_alloc | apply pw_below_drewN | apply below_drew1) | exact HB.out))) : w.heap.size ≤ gb301)); have n3_ := Aside0.mk ((by rw [hg]; exact (below_size (by repeat (first | (with_reducible first | exact HB.out | apply below_alloc | apply pw_below_drewN | apply below_drew1) | exact HB.out))) : w.heap.size ≤ gb301)); clear HB; have HB := n0_; have BK301 := n1_; have GW301 := n2_; have GE301 := n3_; clear n0_ n1_ n2_ n3_; clear hb hbox hg) | ((with_reducible refine gate_dst (N := 3) rfl ?_); refine box_event ?hg (N := 3) ?hd (cs := #[.int .i64 a1_0, .int .i64 a1_1]) (t := 37) ?hr ?_; (case hd => rfl); (case hg => rfl); (case hr => first | (go_simp; done) | (go_simp; rfl)); intro gb302 hg w24 hbox hb; have n0_ := Aside0.mk (blk_below (g := gb301) (o := .cells #[.int .i64 a0_0, .int .i64 a0_1] 37 (0, 0)) (by (with_reducible repeat (first | refine blk_drewN ?_ _ | refine blk_drew ?_ | refine blk_alloc ?_ _)); exact BK301.out) hb); have n1_ := Aside0.mk (below_step (by repeat (first | (with_reducible first | exact HB.out | apply below_alloc | apply pw_below_drewN | apply below_drew1 | refine below_set ?_ GE301.out) | exact HB.out)) hb); have n2_ := Aside0.mk (hbox); have n3_ := Aside0.mk ((by rw [hg]; exact (below_size (by repeat (first | (with_reducible first | exact HB.out | apply below_alloc | apply pw_below_drewN | apply below_drew1 | refine below_set ?_ GE301.out) | exact HB.out))) : w.heap.size ≤ gb302)); have n4_ := Aside0.mk ((by rw [hg]; exact (below_size (by repeat (first | (with_reducible first | exact HB.out | apply below_alloc | apply pw_below_drewN | apply below_drew1 | refine below_set ?_ GE301.out) | exact HB.out))) : w.heap.size ≤ gb302)); have n5_ := Aside0.mk ((by rw [hg]; exact Nat.ne_of_lt (blk_lt (g := gb301) (o := .cells #[.int .i64 a0_0, .int .i64 a0_1] 37 (0, 0)) (by (with_reducible repeat (first | refine blk_drewN ?_ _ | refine blk_drew ?_ | refine blk_alloc ?_ _)); exact BK301.out)) : gb301 ≠ gb302)); have n6_ := Aside0.mk ((by rw [hg]; exact Nat.ne_of_gt (blk_lt (g := gb301) (o := .cells #[.int .i64 a0_0, .int .i64 a0_1] 37 (0, 0)) (by (with_reducible repeat (first | refine blk_drewN ?_ _ | refine blk_drew ?_ | refine blk_alloc ?_ _)); exact BK301.out)) : gb302 ≠ gb301)); clear BK301; clear HB; have BK301 := n0_; have HB := n1_; have BK302 := n2_; have GW302 := n3_; have GE302 := n4_; have NB301_302 := n5_; have NB302_301 := n6_; clear n0_ n1_ n2_ n3_ n4_ n5_ n6_; clear hb hbox hg; have hnb25 := NB301_302.out; have hnc25 := NB302_301.out; have hcz26_0 : w24.cell? ⟨gb301, 0, none⟩ = some (.int .i64 a0_0) := (blk_cell BK301.out 0).trans rfl; have hcz26_1 : w24.cell? ⟨gb301, 1, none⟩ = some (.int .i64 a0_1) := (blk_cell BK301.out 1).trans rfl; have hfz26_0 := blk_frozen BK301.out 0; have hfz26_1 := blk_frozen BK301.out 1) | ((with_reducible refine gate_callee (f := 86) rfl ?_); refine goesL_ (some 6) rfl rfl Try.func86 (by kernel_rfl) rfl #[.agg #[.int .i64 a0_0, .int .i64 a0_1], .int .i64 1000] rfl (by (try simp only [List.map_toArray, List.map_cons, List.map_nil]); first | done | rfl | (simp only [List.length_drop, List.length_take]; rfl)) ?_; (with_reducible refine (spec_l2Fits.calls a0_0 a0_1 1000 false _ A3.out).mono ?_); rintro e w27 ⟨rfl, hb⟩; refine ⟨_, rfl, ?_⟩; have n0_ := Aside0.mk (blk_below (g := gb301) (o := .cells #[.int .i64 a0_0, .int .i64 a0_1] 37 (0, 0)) (by (with_reducible repeat (first | refine blk_drewN ?_ _ | refine blk_drew ?_ | refine blk_alloc ?_ _)); exact BK301.out) hb); have n1_ := Aside0.mk (blk_below (g := gb302) (o := .cells #[.int .i64 a1_0, .int .i64 a1_1] 37 (0, 0)) (by (with_reducible repeat (first | refine blk_drewN ?_ _ | refine blk_drew ?_ | refine blk_alloc ?_ _)); exact BK302.out) hb); have n2_ := Aside0.mk (below_step (by repeat (first | (with_reducible first | exact HB.out | apply below_alloc | apply pw_below_drewN | apply below_drew1 | refine below_set ?_ GE301.out | refine below_set ?_ GE302.out) | exact HB.out)) hb); clear BK301; clear BK302; clear HB; have BK301 := n0_; have BK302 := n1_; have HB := n2_; clear n0_ n1_ n2_; (try clear hb); (try clear hb2); (try clear hk); (try clear hi)))
  go_ret
  exact ⟨by first | rfl | (simp [errW_none, errW_some] <;> rfl) | (simp [*, errW_none, errW_some] <;> rfl), by repeat (first | (with_reducible first | exact HB.out | apply below_alloc | apply pw_below_drewN | apply below_drew1 | refine below_set ?_ GE301.out | refine below_set ?_ GE302.out) | exact HB.out)⟩
end Go.Proofs.Ytpmjjldocjopmaa.Pr
namespace Go.Proofs.Ytpmjjldocjopmaa.Pr
set_option linter.unusedVariables false
set_option linter.unusedSimpArgs false
open Go.RowKit Go.Proofs.YtpmjjldocjopmaaW.PrintWords Go.Proofs.YtpmjjldocjopmaaW.PrintLast Go.Proofs.YtpmjjldocjopmaaW.PrintMore
attribute [local go_sem] max2_int min2_int max_two min_two max_three min_three max_four min_four   -- for this text's walks alone
/-! ### spec_ShortestTree: function 29 -/
mutual
def spec_ShortestTree.l0 : Nat → List (S37) → Int → List Int → Int → Int → Option (Int)
 | 0, _, _, _, _, _ => none
 | k + 1, x0, x3, x4, x5, x6 => if x6 < x3 then (spec_ShortestTree.l1 k x0 x3 x4 x5 x6 (-1) 0) else (some x5)
def spec_ShortestTree.l1 : Nat → List (S37) → Int → List Int → Int → Int → Int → Int → Option (Int)
 | 0, _, _, _, _, _, _, _ => none
 | k + 1, x0, x3, x4, x5, x6, x7, x8 => if x8 < (wrap64 (Int.tdiv (wrap64 (x3 * (wrap64 (x3 - 1)))) 2)) then ((spec_EdgeAt.f k x3 x8).bind fun bt305 => (if 0 ≤ bt305.1 then (if bt305.1 < (x4.length : Int) then (if 0 ≤ bt305.2 then (if bt305.2 < (x4.length : Int) then (if (rd x4 bt305.1) = (rd x4 bt305.2) then (spec_ShortestTree.l1 k x0 x3 x4 x5 x6 x7 (wrap64 (x8 + 1))) else (if x7 ≥ 0 then ((spec_EdgeAt.f k x3 x7).bind fun bt309 => (if bt305.1 < (x0.length : Int) then (if bt305.2 < (x0.length : Int) then ((spec_LengthOf.f ((rd_T37 x0 bt305.1).f0) ((rd_T37 x0 bt305.1).f1) ((rd_T37 x0 bt305.2).f0) ((rd_T37 x0 bt305.2).f1)).bind fun t313 => (if 0 ≤ bt309.1 then (if bt309.1 < (x0.length : Int) then (if 0 ≤ bt309.2 then (if bt309.2 < (x0.length : Int) then ((spec_LengthOf.f ((rd_T37 x0 bt309.1).f0) ((rd_T37 x0 bt309.1).f1) ((rd_T37 x0 bt309.2).f0) ((rd_T37 x0 bt309.2).f1)).bind fun t316 => (if t313 ≥ t316 then (spec_ShortestTree.l1 k x0 x3 x4 x5 x6 x7 (wrap64 (x8 + 1))) else (spec_ShortestTree.l1 k x0 x3 x4 x5 x6 x8 (wrap64 (x8 + 1))))) else (none)) else (none)) else (none)) else (none))) else (none)) else (none))) else (spec_ShortestTree.l1 k x0 x3 x4 x5 x6 x8 (wrap64 (x8 + 1))))) else (none)) else (none)) else (none)) else (none))) else ((spec_EdgeAt.f k x3 x7).bind fun bt317 => (if 0 ≤ bt317.2 then (if bt317.2 < (x4.length : Int) then (spec_ShortestTree.l2 k x0 x3 x4 x5 x6 x7 bt317.1 (rd x4 bt317.2) 0) else (none)) else (none)))
def spec_ShortestTree.l2 : Nat → List (S37) → Int → List Int → Int → Int → Int → Int → Int → Int → Option (Int)
 | 0, _, _, _, _, _, _, _, _, _ => none
 | k + 1, x0, x3, x4, x5, x6, x7, x13, x15, x16 => if x16 < x3 then (if 0 ≤ x16 then (if x16 < (x4.length : Int) then (if (rd x4 x16) = x15 then (if 0 ≤ x13 then (if x13 < (x4.length : Int) then (spec_ShortestTree.l2 k x0 x3 (x4.set (x16 : Int).toNat (rd x4 x13)) x5 x6 x7 x13 x15 (wrap64 (x16 + 1))) else (none)) else (none)) else (spec_ShortestTree.l2 k x0 x3 x4 x5 x6 x7 x13 x15 (wrap64 (x16 + 1)))) else (none)) else (none)) else (if 0 ≤ (IntKind.u64.wrap (x7)) then (spec_ShortestTree.l0 k x0 x3 x4 (wrap64 (x5 + (shl .i64 1 (IntKind.u64.wrap (x7))))) (wrap64 (x6 + 1))) else (none))
end
def spec_ShortestTree.f (k : Nat) (l0 : List (S37)) : Option (Int) := (spec_ArePoints.f k l0).bind fun t301 => (if t301 = true then ((spec_l12Start.f k (l0.length : Int)).bind fun t302 => (spec_ShortestTree.l0 k l0 (l0.length : Int) t302 0 1)) else (some 0))
theorem spec_ShortestTree.mono_l : ∀ k, (∀ y0 y1 y2 y3 y4, LeO (spec_ShortestTree.l0 k y0 y1 y2 y3 y4) (spec_ShortestTree.l0 (k + 1) y0 y1 y2 y3 y4)) ∧ (∀ y0 y1 y2 y3 y4 y5 y6, LeO (spec_ShortestTree.l1 k y0 y1 y2 y3 y4 y5 y6) (spec_ShortestTree.l1 (k + 1) y0 y1 y2 y3 y4 y5 y6)) ∧ (∀ y0 y1 y2 y3 y4 y5 y6 y7 y8, LeO (spec_ShortestTree.l2 k y0 y1 y2 y3 y4 y5 y6 y7 y8) (spec_ShortestTree.l2 (k + 1) y0 y1 y2 y3 y4 y5 y6 y7 y8))
 | 0 => ⟨fun _ _ _ _ _ r h => by simp [spec_ShortestTree.l0] at h, fun _ _ _ _ _ _ _ r h => by simp [spec_ShortestTree.l1] at h, fun _ _ _ _ _ _ _ _ _ r h => by simp [spec_ShortestTree.l2] at h⟩
 | k + 1 => by
  obtain ⟨ih0, ih1, ih2⟩ := spec_ShortestTree.mono_l k
  refine ⟨?_, ?_, ?_⟩
  ·intro y0 y1 y2 y3 y4
   unfold spec_ShortestTree.l0
   repeat' first
   | (with_reducible exact ih0 _ _ _ _ _)
   | (with_reducible exact ih1 _ _ _ _ _ _ _)
   | (with_reducible exact ih2 _ _ _ _ _ _ _ _ _)
   | (with_reducible exact spec_ArePoints.mono _ _)
   | (with_reducible exact spec_EdgeAt.mono _ _ _)
   | (with_reducible exact spec_l12Start.mono _ _)
   | (with_reducible exact LeO.refl _)
   | (with_reducible exact LeO.none _)
   | (with_reducible refine LeO.ite ?_ ?_)
   | (with_reducible refine LeO.bind ?_ (fun _ => ?_))
   | exact ih0 _ _ _ _ _
   | exact ih1 _ _ _ _ _ _ _
   | exact ih2 _ _ _ _ _ _ _ _ _
   | exact spec_ArePoints.mono _ _
   | exact spec_EdgeAt.mono _ _ _
   | exact spec_l12Start.mono _ _
   | exact LeO.none _
   | refine LeO.ite ?_ ?_
   | refine LeO.bind ?_ (fun _ => ?_)
  ·intro y0 y1 y2 y3 y4 y5 y6
   unfold spec_ShortestTree.l1
   repeat' first
   | (with_reducible exact ih0 _ _ _ _ _)
   | (with_reducible exact ih1 _ _ _ _ _ _ _)
   | (with_reducible exact ih2 _ _ _ _ _ _ _ _ _)
   | (with_reducible exact spec_ArePoints.mono _ _)
   | (with_reducible exact spec_EdgeAt.mono _ _ _)
   | (with_reducible exact spec_l12Start.mono _ _)
   | (with_reducible exact LeO.refl _)
   | (with_reducible exact LeO.none _)
   | (with_reducible refine LeO.ite ?_ ?_)
   | (with_reducible refine LeO.bind ?_ (fun _ => ?_))
   | exact ih0 _ _ _ _ _
   | exact ih1 _ _ _ _ _ _ _
   | exact ih2 _ _ _ _ _ _ _ _ _
   | exact spec_ArePoints.mono _ _
   | exact spec_EdgeAt.mono _ _ _
   | exact spec_l12Start.mono _ _
   | exact LeO.none _
   | refine LeO.ite ?_ ?_
   | refine LeO.bind ?_ (fun _ => ?_)
  ·intro y0 y1 y2 y3 y4 y5 y6 y7 y8
   unfold spec_ShortestTree.l2
   repeat' first
   | (with_reducible exact ih0 _ _ _ _ _)
   | (with_reducible exact ih1 _ _ _ _ _ _ _)
   | (with_reducible exact ih2 _ _ _ _ _ _ _ _ _)
   | (with_reducible exact spec_ArePoints.mono _ _)
   | (with_reducible exact spec_EdgeAt.mono _ _ _)
   | (with_reducible exact spec_l12Start.mono _ _)
   | (with_reducible exact LeO.refl _)
   | (with_reducible exact LeO.none _)
   | (with_reducible refine LeO.ite ?_ ?_)
   | (with_reducible refine LeO.bind ?_ (fun _ => ?_))
   | exact ih0 _ _ _ _ _
   | exact ih1 _ _ _ _ _ _ _
   | exact ih2 _ _ _ _ _ _ _ _ _
   | exact spec_ArePoints.mono _ _
   | exact spec_EdgeAt.mono _ _ _
   | exact spec_l12Start.mono _ _
   | exact LeO.none _
   | refine LeO.ite ?_ ?_
   | refine LeO.bind ?_ (fun _ => ?_)
theorem spec_ShortestTree.mono : ∀ a0 k, LeO (spec_ShortestTree.f k a0) (spec_ShortestTree.f (k + 1) a0) := by
 intro a0 k
 obtain ⟨ih0, ih1, ih2⟩ := spec_ShortestTree.mono_l k
 unfold spec_ShortestTree.f
 repeat' first
   | (with_reducible exact ih0 _ _ _ _ _)
   | (with_reducible exact ih1 _ _ _ _ _ _ _)
   | (with_reducible exact ih2 _ _ _ _ _ _ _ _ _)
   | (with_reducible exact spec_ArePoints.mono _ _)
   | (with_reducible exact spec_EdgeAt.mono _ _ _)
   | (with_reducible exact spec_l12Start.mono _ _)
   | (with_reducible exact LeO.refl _)
   | (with_reducible exact LeO.none _)
   | (with_reducible refine LeO.ite ?_ ?_)
   | (with_reducible refine LeO.bind ?_ (fun _ => ?_))
   | exact ih0 _ _ _ _ _
   | exact ih1 _ _ _ _ _ _ _
   | exact ih2 _ _ _ _ _ _ _ _ _
   | exact spec_ArePoints.mono _ _
   | exact spec_EdgeAt.mono _ _ _
   | exact spec_l12Start.mono _ _
   | exact LeO.none _
   | refine LeO.ite ?_ ?_
   | refine LeO.bind ?_ (fun _ => ?_)
def spec_ShortestTree.T14 : Bool × List (List Nat × List Nat) := (true, [([], []), ([], []), ([0, 1], [0, 1]), ([2], [2]), ([], []), ([], []), ([4, 5], [4, 5]), ([6], [6]), ([3, 7], [3, 7])])
def spec_ShortestTree.B14 : List Nat := [0, 0, 3, 7, 0, 0, 48, 112, 255]
theorem spec_ShortestTree.tab14 : rtab .any (opsOf Try.f29 14) = spec_ShortestTree.T14 := by kernel_rfl
theorem spec_ShortestTree.bits14 : waitsOk spec_ShortestTree.T14.2 spec_ShortestTree.B14 = true := by kernel_rfl
def spec_ShortestTree.T17 : Bool × List (List Nat × List Nat) := (true, [([], []), ([], []), ([0, 1], [0, 1]), ([2], [2]), ([], []), ([], []), ([4, 5], [4, 5]), ([6], [6]), ([3, 7], [3, 7]), ([], []), ([], []), ([9, 10], [9, 10]), ([11], [11]), ([], []), ([], []), ([13, 14], [13, 14]), ([15], [15]), ([12, 16, 8], [12, 16]), ([8, 17], [8, 17])])
def spec_ShortestTree.B17 : List Nat := [0, 0, 3, 7, 0, 0, 48, 112, 255, 0, 0, 1536, 3584, 0, 0, 24576, 57344, 131071, 262143]
theorem spec_ShortestTree.tab17 : rtab .any (opsOf Try.f29 17) = spec_ShortestTree.T17 := by kernel_rfl
theorem spec_ShortestTree.bits17 : waitsOk spec_ShortestTree.T17.2 spec_ShortestTree.B17 = true := by kernel_rfl
set_option maxHeartbeats 8000000 in
set_option maxRecDepth 100000 in
theorem spec_ShortestTree.calls (k : Nat) (A0 : Option Addr) (c0 : Nat) (l0 : List (S37)) (r : Int) (w : World) (hr0 : Kd.C k37 w A0 l0.length l0) (hc0 : l0.length ≤ c0) (h : spec_ShortestTree.f k l0 = some r) :
  Calls Try.prog 29 #[.slice A0 l0.length c0] w fun e w' => e = .returned (.int .i64 r) ∧ Below w.heap.size w w' := by
 have hu37 := Try.underlying37
 have HR0 := Aside0.mk hr0
 have HC0 := Aside0.mk hc0
 clear hr0 hc0
 have HB := Aside0.mk (Below.refl w.heap.size w)
 have H : ((spec_ArePoints.f k l0).bind fun t301 => (if t301 = true then ((spec_l12Start.f k (l0.length : Int)).bind fun t302 => (spec_ShortestTree.l0 k l0 (l0.length : Int) t302 0 1)) else (some 0))) = some r := h
 clear h
 replace H := Option.bind_eq_some_iff.mp H
 obtain ⟨t301, A20, H⟩ := H
 replace H : (if t301 = true then ((spec_l12Start.f k (l0.length : Int)).bind fun t302 => (spec_ShortestTree.l0 k l0 (l0.length : Int) t302 0 1)) else (some 0)) = some r := H
 have A2 := Aside0.mk A20
 clear A20
 by_cases c3 : t301 = true
 ·subst c3
  have H1 : ((spec_l12Start.f k (l0.length : Int)).bind fun t302 => (spec_ShortestTree.l0 k l0 (l0.length : Int) t302 0 1)) = some r := by rw [if_pos rfl] at H; exact H
  clear H
  have H := H1
  clear H1
  replace H := Option.bind_eq_some_iff.mp H
  obtain ⟨t302, A40, H⟩ := H
  replace H : (spec_ShortestTree.l0 k l0 (l0.length : Int) t302 0 1) = some r := H
  have A4 := Aside0.mk A40
  clear A40
  have H' := Aside0.mk H
  clear H
  go_enter Try.func29, Try.ntmps29
  go_wp2_with (first | ((with_reducible refine gate_callee (f := 68) rfl ?_); refine goesL_ (some 18) rfl rfl Try.func68 (by kernel_rfl) rfl #[.slice A0 l0.length c0] rfl (by (try simp only [List.map_toArray, List.map_cons, List.map_nil]); first | done | rfl | (simp only [List.length_drop, List.length_take]; rfl)) ?_; (with_reducible refine (spec_ArePoints.calls k _ _ l0 true _ ?side1 ?side2 A2.out).mono ?_); (case side1 => repeat (first | exact HR0.out | (with_reducible refine Kd.C_alloc ?_ _) | (with_reducible refine Kd.C_drewN ?_ _) | (with_reducible refine Kd.C_drew ?_))); (case side2 => exact HC0.out); rintro e w5 ⟨rfl, hb⟩; refine ⟨_, rfl, ?_⟩; have n0_ := Aside0.mk (below_step (by repeat (first | (with_reducible first | exact HB.out | apply below_alloc | apply pw_below_drewN | apply below_drew1) | exact HB.out)) hb); clear HB; have HB := n0_; clear n0_; (try clear hb); (try clear hb2); (try clear hk); (try clear hi)) | ((with_reducible refine gate_callee (f := 69) rfl ?_); refine goesL_ (some 23) rfl rfl Try.func69 (by kernel_rfl) rfl #[.int .i64 (l0.length : Int)] rfl (by (try simp only [List.map_toArray, List.map_cons, List.map_nil]); first | done | rfl | (simp only [List.length_drop, List.length_take]; rfl)) ?_; (with_reducible refine (spec_l12Start.calls k (l0.length : Int) t302 _ A4.out).mono ?_); rintro e w6 ⟨v303, rfl, ho0, hb⟩; refine ⟨_, rfl, ?_⟩; have n0_ := Aside0.mk (Kd.R_lower ho0 (below_size (by repeat (first | (with_reducible first | exact HB.out | apply below_alloc | apply pw_below_drewN | apply below_drew1) | exact HB.out)))); have n1_ := Aside0.mk (below_step (by repeat (first | (with_reducible first | exact HB.out | apply below_alloc | apply pw_below_drewN | apply below_drew1) | exact HB.out)) hb); clear HB; have HO304 := n0_; have HB := n1_; clear n0_ n1_; (try clear hb); (try clear hb2); (try clear hk); (try clear hi); (try clear ho0)))
  go_loopg [5, 6] k (fun kq v5 v6 w' => ∃ (x4_1 : List Int) (x5_1 : Int) (x6_1 : Int), v5 = .int .i64 x5_1 ∧ v6 = .int .i64 x6_1 ∧ Aside0 (spec_ShortestTree.l0 kq l0 (l0.length : Int) x4_1 x5_1 x6_1 = some r) ∧ Aside0 (kq ≤ k) ∧ Aside0 (Kd.R (Kd.int .i64) 3 w' w.heap.size (fun _ => True) v303 x4_1) ∧ Aside0 (Below w.heap.size w w'))
  case atStart => exact ⟨(t302), (0), (1), (by first | rfl | (simp; done) | (simp [*]; done)), (by first | rfl | (simp; done) | (simp [*]; done)), H', ⟨Nat.le_refl _⟩, ⟨by (with_reducible repeat (first | apply Kd.R_alloc | apply Kd.R_drewN | apply Kd.R_drew)); exact HO304.out⟩, ⟨by repeat (first | (with_reducible first | exact HB.out | apply below_alloc | apply pw_below_drewN | apply below_drew1) | exact HB.out)⟩⟩
  case round =>
   clear H'
   try clear c2
   try clear p2
   try clear c3
   try clear c6
   obtain ⟨x4_1, x5_1, x6_1, rfl, rfl, HA, HK1, HO_4, HB⟩ := hrel
   cases gk with
   | zero => exact absurd HA.out (by simp [spec_ShortestTree.l0])
   | succ k1 =>
    have H := HA.out
    clear HA
    simp only [spec_ShortestTree.l0] at H
    by_cases c7 : x6_1 < (l0.length : Int)
    ·rw [if_pos c7] at H
     have c7b0 : decide (x6_1 < (l0.length : Int)) = true := decide_eq_true c7
     clear c7
     have H' := Aside0.mk H
     clear H
     go_wp2
     go_loopg [7, 8] k1 (fun kq v7 v8 w' => ∃ (x7_2 : Int) (x8_2 : Int), v7 = .int .i64 x7_2 ∧ v8 = .int .i64 x8_2 ∧ Aside0 (spec_ShortestTree.l1 kq l0 (l0.length : Int) x4_1 x5_1 x6_1 x7_2 x8_2 = some r) ∧ Aside0 (kq ≤ k1) ∧ Aside0 (Kd.R (Kd.int .i64) 3 w' w.heap.size (fun _ => True) v303 x4_1) ∧ Aside0 (Below w.heap.size w w'))
     case atStart => exact ⟨((-1)), (0), (by first | rfl | (simp; done) | (simp [*]; done)), (by first | rfl | (simp; done) | (simp [*]; done)), H', ⟨Nat.le_refl _⟩, ⟨by (with_reducible repeat (first | apply Kd.R_alloc | apply Kd.R_drewN | apply Kd.R_drew)); exact HO_4.out⟩, ⟨by repeat (first | (with_reducible first | exact HB.out | apply below_alloc | apply pw_below_drewN | apply below_drew1) | exact HB.out)⟩⟩
     case round =>
      clear H'
      try clear c2
      try clear p2
      try clear c3
      try clear c6
      try clear c7
      try clear c7b0
      try clear p2
      obtain ⟨x7_2, x8_2, rfl, rfl, HA, HK2, HO_4, HB⟩ := hrel
      cases gk with
      | zero => exact absurd HA.out (by simp [spec_ShortestTree.l1])
      | succ k2 =>
       have H := HA.out
       clear HA
       simp only [spec_ShortestTree.l1] at H
       by_cases c8 : x8_2 < (wrap64 (Int.tdiv (wrap64 ((l0.length : Int) * (wrap64 ((l0.length : Int) - 1)))) 2))
       ·rw [if_pos c8] at H
        have c8b0 : decide (x8_2 < (wrap64 (Int.tdiv (wrap64 ((l0.length : Int) * (wrap64 ((l0.length : Int) - 1)))) 2))) = true := decide_eq_true c8
        clear c8
        replace H := Option.bind_eq_some_iff.mp H
        obtain ⟨⟨t305, t306⟩, A90, H⟩ := H
        replace H : (if 0 ≤ t305 then (if t305 < (x4_1.length : Int) then (if 0 ≤ t306 then (if t306 < (x4_1.length : Int) then (if (rd x4_1 t305) = (rd x4_1 t306) then (spec_ShortestTree.l1 k2 l0 (l0.length : Int) x4_1 x5_1 x6_1 x7_2 (wrap64 (x8_2 + 1))) else (if x7_2 ≥ 0 then ((spec_EdgeAt.f k2 (l0.length : Int) x7_2).bind fun bt309 => (if t305 < (l0.length : Int) then (if t306 < (l0.length : Int) then ((spec_LengthOf.f ((rd_T37 l0 t305).f0) ((rd_T37 l0 t305).f1) ((rd_T37 l0 t306).f0) ((rd_T37 l0 t306).f1)).bind fun t313 => (if 0 ≤ bt309.1 then (if bt309.1 < (l0.length : Int) then (if 0 ≤ bt309.2 then (if bt309.2 < (l0.length : Int) then ((spec_LengthOf.f ((rd_T37 l0 bt309.1).f0) ((rd_T37 l0 bt309.1).f1) ((rd_T37 l0 bt309.2).f0) ((rd_T37 l0 bt309.2).f1)).bind fun t316 => (if t313 ≥ t316 then (spec_ShortestTree.l1 k2 l0 (l0.length : Int) x4_1 x5_1 x6_1 x7_2 (wrap64 (x8_2 + 1))) else (spec_ShortestTree.l1 k2 l0 (l0.length : Int) x4_1 x5_1 x6_1 x8_2 (wrap64 (x8_2 + 1))))) else (none)) else (none)) else (none)) else (none))) else (none)) else (none))) else (spec_ShortestTree.l1 k2 l0 (l0.length : Int) x4_1 x5_1 x6_1 x8_2 (wrap64 (x8_2 + 1))))) else (none)) else (none)) else (none)) else (none)) = some r := H
        have A9 := Aside0.mk A90
        clear A90
        by_cases c10 : 0 ≤ t305
        ·rw [if_pos c10] at H
         have c10b0 : decide (0 ≤ t305) = true := decide_eq_true c10
         clear c10
         by_cases c11 : t305 < (x4_1.length : Int)
         ·rw [if_pos c11] at H
          have c11b0 : decide (t305 < (x4_1.length : Int)) = true := decide_eq_true c11
          clear c11
          by_cases c12 : 0 ≤ t306
          ·rw [if_pos c12] at H
           have c12b0 : decide (0 ≤ t306) = true := decide_eq_true c12
           clear c12
           by_cases c13 : t306 < (x4_1.length : Int)
           ·rw [if_pos c13] at H
            have c13b0 : decide (t306 < (x4_1.length : Int)) = true := decide_eq_true c13
            clear c13
            by_cases c14 : (rd x4_1 t305) = (rd x4_1 t306)
            ·rw [if_pos c14] at H
             have c14b0 : ((rd x4_1 t305) == (rd x4_1 t306)) = true := beq_iff_eq.mpr c14
             have c14b1 : ((rd x4_1 t305) != (rd x4_1 t306)) = false := bne_eq_false_iff_eq.mpr c14
             clear c14
             have H' := Aside0.mk H
             clear H
             try go_wp2_with (first | ((with_reducible refine gate_callee (f := 70) rfl ?_); refine goesL_ (some 41) rfl rfl Try.func70 (by kernel_rfl) rfl #[.int .i64 (l0.length : Int), .int .i64 x8_2] rfl (by (try simp only [List.map_toArray, List.map_cons, List.map_nil]); first | done | rfl | (simp only [List.length_drop, List.length_take]; rfl)) ?_; (with_reducible refine (spec_EdgeAt.calls k2 (l0.length : Int) x8_2 t305 t306 _ A9.out).mono ?_); rintro e w' ⟨rfl, ⟨nd, rfl⟩⟩; refine ⟨_, rfl, ?_⟩))
             (try (rw [drewN_self wr]; generalize hq_ : World.drewN wr _ = wr; have n0_ : Aside0 (Kd.R (Kd.int .i64) 3 wr w.heap.size (fun _ => True) v303 x4_1) := ⟨by rw [← hq_]; exact (by (with_reducible repeat (first | apply Kd.R_alloc | apply Kd.R_drewN | apply Kd.R_drew)); exact HO_4.out)⟩; have n1_ : Aside0 (Below w.heap.size w wr) := ⟨by rw [← hq_]; exact (by repeat (first | (with_reducible first | exact HB.out | apply below_alloc | apply pw_below_drewN | apply below_drew1) | exact HB.out))⟩; clear HO_4 HB hq_; have HO_4 := n0_; have HB := n1_; clear n0_ n1_))
             have n0_ := Aside0.mk (Kd.R_drew HO_4.out)
             have n1_ := Aside0.mk (below_drew1 HB.out)
             clear HO_4
             clear HB
             have HO_4 := n0_
             have HB := n1_
             clear n0_ n1_
             obtain ⟨Ao16, co16, eo16⟩ := Kd.R_slice HO_4.out
             (first | subst eo16 | (injection eo16 with f1_ f2_ f3_; have f4_ := f1_.symm; have f5_ := f3_.symm; clear f1_ f2_ f3_; subst f4_; subst f5_))
             have p307 : 0 ≤ (t305 : Int) := of_decide_eq_true (by first | (with_reducible assumption) | assumption)
             have q307 : t305 < (x4_1.length : Int) := of_decide_eq_true (by first | (with_reducible assumption) | assumption)
             obtain ⟨ad307, e307, hx307_0⟩ := Kd.at_int (Kd.R_reads' HO_4.out).2.2 t305 p307 q307
             cases e307
             replace p307 := eq_true p307
             replace q307 := eq_true q307
             have p308 : 0 ≤ (t306 : Int) := of_decide_eq_true (by first | (with_reducible assumption) | assumption)
             have q308 : t306 < (x4_1.length : Int) := of_decide_eq_true (by first | (with_reducible assumption) | assumption)
             obtain ⟨ad308, e308, hx308_0⟩ := Kd.at_int (Kd.R_reads' HO_4.out).2.2 t306 p308 q308
             obtain rfl : ad307 = ad308 := (by injection e308)
             replace p308 := eq_true p308
             replace q308 := eq_true q308
             refine start_ (n := 9) (S := fun w' => w'.cell? (ad307.add (t305).toNat) = some (.int .i64 (rd x4_1 t305)) ∧ w'.cell? (ad307.add (t306).toNat) = some (.int .i64 (rd x4_1 t306))) (ds := []) #[false, false, false, false, false, false, false, false, false] (by kernel_rfl) rfl rfl ⟨hx307_0, hx308_0⟩ (fun hHeld => ?_); refine with_tabW spec_ShortestTree.tab14 spec_ShortestTree.bits14 (fun HT_ HW_ => ?_)
             generalize wr.drew = w15 at HO_4 HB hx307_0 hx308_0 hHeld ⊢
             refine pure_ (i := 0) (N := some 44) (v := ?_) (a' := ?_) #[true, false, false, false, false, false, false, false, false] rfl rfl (any_of HT_.out (by kernel_rfl)) (fun _ _ _ h => h) (Or.inl ⟨by rfl, ?_⟩) ?_ ?_
             rotate_left
             ·intro w'
              go_simp
              with_reducible rfl
             rotate_left
             ·simp only [Act.put, List.setIfInBounds_toArray, List.set_cons_zero, List.set_cons_succ, i64_w, i32_w]
              rfl
             refine pure_ (i := 1) (N := some 45) (v := ?_) (a' := ?_) #[true, true, false, false, false, false, false, false, false] rfl rfl (any_of HT_.out (by kernel_rfl)) (fun _ _ _ h => h) (Or.inl ⟨by rfl, ?_⟩) ?_ ?_
             rotate_left
             ·intro w'
              go_simp
              with_reducible rfl
             rotate_left
             ·simp only [Act.put, List.setIfInBounds_toArray, List.set_cons_zero, List.set_cons_succ, i64_w, i32_w]
              rfl
             refine pure_ (i := 2) (N := some 46) (v := ?_) (a' := ?_) #[true, true, true, false, false, false, false, false, false] rfl rfl (any_of HT_.out (by kernel_rfl)) (fun _ _ _ h => h) (Or.inl ⟨by rfl, ?_⟩) ?_ ?_
             rotate_left
             ·intro w'
              go_simp
              with_reducible rfl
             rotate_left
             ·simp only [Act.put, List.setIfInBounds_toArray, List.set_cons_zero, List.set_cons_succ, i64_w, i32_w]
              rfl
             refine pure_ (i := 4) (N := some 48) (v := ?_) (a' := ?_) #[true, true, true, false, true, false, false, false, false] rfl rfl (any_of HT_.out (by kernel_rfl)) (fun _ _ _ h => h) (Or.inl ⟨by rfl, ?_⟩) ?_ ?_
             rotate_left
             ·intro w'
              go_simp
              with_reducible rfl
             rotate_left
             ·simp only [Act.put, List.setIfInBounds_toArray, List.set_cons_zero, List.set_cons_succ, i64_w, i32_w]
              rfl
             refine pure_ (i := 5) (N := some 49) (v := ?_) (a' := ?_) #[true, true, true, false, true, true, false, false, false] rfl rfl (any_of HT_.out (by kernel_rfl)) (fun _ _ _ h => h) (Or.inl ⟨by rfl, ?_⟩) ?_ ?_
             rotate_left
             ·intro w'
              go_simp
              with_reducible rfl
             rotate_left
             ·simp only [Act.put, List.setIfInBounds_toArray, List.set_cons_zero, List.set_cons_succ, i64_w, i32_w]
              rfl
             refine pure_ (i := 6) (N := some 50) (v := ?_) (a' := ?_) #[true, true, true, false, true, true, true, false, false] rfl rfl (any_of HT_.out (by kernel_rfl)) (fun _ _ _ h => h) (Or.inl ⟨by rfl, ?_⟩) ?_ ?_
             rotate_left
             ·intro w'
              go_simp
              with_reducible rfl
             rotate_left
             ·simp only [Act.put, List.setIfInBounds_toArray, List.set_cons_zero, List.set_cons_succ, i64_w, i32_w]
              rfl
             refine take_ (i := 3) (N := some 47) (v := ?_) (a' := ?_) #[true, true, true, true, true, true, true, false, false] rfl rfl (take_ofW HT_.out HW_.out (by kernel_rfl)) (fun _ _ _ h => h) (Or.inl ⟨by rfl, ?_⟩) hHeld ?_ ?_
             rotate_left
             ·rintro w' ⟨s0, s1⟩
              go_simp
              with_reducible rfl
             rotate_left
             ·simp only [Act.put, List.setIfInBounds_toArray, List.set_cons_zero, List.set_cons_succ, i64_w, i32_w]
              rfl
             refine take_ (i := 7) (N := some 51) (v := ?_) (a' := ?_) #[true, true, true, true, true, true, true, true, false] rfl rfl (take_ofW HT_.out HW_.out (by kernel_rfl)) (fun _ _ _ h => h) (Or.inl ⟨by rfl, ?_⟩) hHeld ?_ ?_
             rotate_left
             ·rintro w' ⟨s0, s1⟩
              go_simp
              with_reducible rfl
             rotate_left
             ·simp only [Act.put, List.setIfInBounds_toArray, List.set_cons_zero, List.set_cons_succ, i64_w, i32_w]
              rfl
             refine pure_ (i := 8) (N := some 52) (v := ?_) (a' := ?_) #[true, true, true, true, true, true, true, true, true] rfl rfl (any_of HT_.out (by kernel_rfl)) (fun _ _ _ h => h) (Or.inl ⟨by rfl, ?_⟩) ?_ ?_
             rotate_left
             ·intro w'
              go_simp
              with_reducible rfl
             rotate_left
             ·simp only [Act.put, List.setIfInBounds_toArray, List.set_cons_zero, List.set_cons_succ, i64_w, i32_w]
              rfl
             refine done_ (done_of HT_.out (by kernel_rfl)) ?_
             try go_wp2
             go_roundg k2
             case measure => have := HK1.out; have := HK2.out; omega
             case rel => exact ⟨(x7_2), (wrap64 (x8_2 + 1)), (by first | rfl | (simp; done) | (simp [*]; done)), (by first | rfl | (simp; done) | (simp [*]; done)), H', ⟨by have := HK1.out; have := HK2.out; omega⟩, ⟨by (with_reducible repeat (first | apply Kd.R_alloc | apply Kd.R_drewN | apply Kd.R_drew)); exact HO_4.out⟩, ⟨by repeat (first | (with_reducible first | exact HB.out | apply below_alloc | apply pw_below_drewN | apply below_drew1) | exact HB.out)⟩⟩
            ·rw [if_neg c14] at H
             have c14b0 : ((rd x4_1 t305) == (rd x4_1 t306)) = false := beq_eq_false_iff_ne.mpr c14
             have c14b1 : ((rd x4_1 t305) != (rd x4_1 t306)) = true := bne_iff_ne.mpr c14
             by_cases c17 : x7_2 ≥ 0
             ·rw [if_pos c17] at H
              have c17b0 : decide (0 ≤ x7_2) = true := decide_eq_true c17
              clear c17
              replace H := Option.bind_eq_some_iff.mp H
              obtain ⟨⟨t309, t310⟩, A180, H⟩ := H
              replace H : (if t305 < (l0.length : Int) then (if t306 < (l0.length : Int) then ((spec_LengthOf.f ((rd_T37 l0 t305).f0) ((rd_T37 l0 t305).f1) ((rd_T37 l0 t306).f0) ((rd_T37 l0 t306).f1)).bind fun t313 => (if 0 ≤ t309 then (if t309 < (l0.length : Int) then (if 0 ≤ t310 then (if t310 < (l0.length : Int) then ((spec_LengthOf.f ((rd_T37 l0 t309).f0) ((rd_T37 l0 t309).f1) ((rd_T37 l0 t310).f0) ((rd_T37 l0 t310).f1)).bind fun t316 => (if t313 ≥ t316 then (spec_ShortestTree.l1 k2 l0 (l0.length : Int) x4_1 x5_1 x6_1 x7_2 (wrap64 (x8_2 + 1))) else (spec_ShortestTree.l1 k2 l0 (l0.length : Int) x4_1 x5_1 x6_1 x8_2 (wrap64 (x8_2 + 1))))) else (none)) else (none)) else (none)) else (none))) else (none)) else (none)) = some r := H
              have A18 := Aside0.mk A180
              clear A180
              by_cases c19 : t305 < (l0.length : Int)
              ·rw [if_pos c19] at H
               have c19b0 : decide (t305 < (l0.length : Int)) = true := decide_eq_true c19
               clear c19
               by_cases c20 : t306 < (l0.length : Int)
               ·rw [if_pos c20] at H
                have c20b0 : decide (t306 < (l0.length : Int)) = true := decide_eq_true c20
                clear c20
                replace H := Option.bind_eq_some_iff.mp H
                obtain ⟨t313, A210, H⟩ := H
                replace H : (if 0 ≤ t309 then (if t309 < (l0.length : Int) then (if 0 ≤ t310 then (if t310 < (l0.length : Int) then ((spec_LengthOf.f ((rd_T37 l0 t309).f0) ((rd_T37 l0 t309).f1) ((rd_T37 l0 t310).f0) ((rd_T37 l0 t310).f1)).bind fun t316 => (if t313 ≥ t316 then (spec_ShortestTree.l1 k2 l0 (l0.length : Int) x4_1 x5_1 x6_1 x7_2 (wrap64 (x8_2 + 1))) else (spec_ShortestTree.l1 k2 l0 (l0.length : Int) x4_1 x5_1 x6_1 x8_2 (wrap64 (x8_2 + 1))))) else (none)) else (none)) else (none)) else (none)) = some r := H
                have A21 := Aside0.mk A210
                clear A210
                by_cases c22 : 0 ≤ t309
                ·rw [if_pos c22] at H
                 have c22b0 : decide (0 ≤ t309) = true := decide_eq_true c22
                 clear c22
                 by_cases c23 : t309 < (l0.length : Int)
                 ·rw [if_pos c23] at H
                  have c23b0 : decide (t309 < (l0.length : Int)) = true := decide_eq_true c23
                  clear c23
                  by_cases c24 : 0 ≤ t310
                  ·rw [if_pos c24] at H
                   have c24b0 : decide (0 ≤ t310) = true := decide_eq_true c24
                   clear c24
                   by_cases c25 : t310 < (l0.length : Int)
                   ·rw [if_pos c25] at H
                    have c25b0 : decide (t310 < (l0.length : Int)) = true := decide_eq_true c25
                    clear c25
                    replace H := Option.bind_eq_some_iff.mp H
                    obtain ⟨t316, A260, H⟩ := H
                    replace H : (if t313 ≥ t316 then (spec_ShortestTree.l1 k2 l0 (l0.length : Int) x4_1 x5_1 x6_1 x7_2 (wrap64 (x8_2 + 1))) else (spec_ShortestTree.l1 k2 l0 (l0.length : Int) x4_1 x5_1 x6_1 x8_2 (wrap64 (x8_2 + 1)))) = some r := H
                    have A26 := Aside0.mk A260
                    clear A260
                    by_cases c27 : t313 ≥ t316
                    ·rw [if_pos c27] at H
                     have c27b0 : decide (t316 ≤ t313) = true := decide_eq_true c27
                     clear c27
                     have H' := Aside0.mk H
                     clear H
                     try go_wp2_with (first | ((with_reducible refine gate_callee (f := 70) rfl ?_); refine goesL_ (some 41) rfl rfl Try.func70 (by kernel_rfl) rfl #[.int .i64 (l0.length : Int), .int .i64 x8_2] rfl (by (try simp only [List.map_toArray, List.map_cons, List.map_nil]); first | done | rfl | (simp only [List.length_drop, List.length_take]; rfl)) ?_; (with_reducible refine (spec_EdgeAt.calls k2 (l0.length : Int) x8_2 t305 t306 _ A9.out).mono ?_); rintro e w' ⟨rfl, ⟨nd, rfl⟩⟩; refine ⟨_, rfl, ?_⟩))
                     (try (rw [drewN_self wr]; generalize hq_ : World.drewN wr _ = wr; have n0_ : Aside0 (Kd.R (Kd.int .i64) 3 wr w.heap.size (fun _ => True) v303 x4_1) := ⟨by rw [← hq_]; exact (by (with_reducible repeat (first | apply Kd.R_alloc | apply Kd.R_drewN | apply Kd.R_drew)); exact HO_4.out)⟩; have n1_ : Aside0 (Below w.heap.size w wr) := ⟨by rw [← hq_]; exact (by repeat (first | (with_reducible first | exact HB.out | apply below_alloc | apply pw_below_drewN | apply below_drew1) | exact HB.out))⟩; clear HO_4 HB hq_; have HO_4 := n0_; have HB := n1_; clear n0_ n1_))
                     have n0_ := Aside0.mk (Kd.R_drew HO_4.out)
                     have n1_ := Aside0.mk (below_drew1 HB.out)
                     clear HO_4
                     clear HB
                     have HO_4 := n0_
                     have HB := n1_
                     clear n0_ n1_
                     obtain ⟨Ao29, co29, eo29⟩ := Kd.R_slice HO_4.out
                     (first | subst eo29 | (injection eo29 with f1_ f2_ f3_; have f4_ := f1_.symm; have f5_ := f3_.symm; clear f1_ f2_ f3_; subst f4_; subst f5_))
                     have p307 : 0 ≤ (t305 : Int) := of_decide_eq_true (by first | (with_reducible assumption) | assumption)
                     have q307 : t305 < (x4_1.length : Int) := of_decide_eq_true (by first | (with_reducible assumption) | assumption)
                     obtain ⟨ad307, e307, hx307_0⟩ := Kd.at_int (Kd.R_reads' HO_4.out).2.2 t305 p307 q307
                     cases e307
                     replace p307 := eq_true p307
                     replace q307 := eq_true q307
                     have p308 : 0 ≤ (t306 : Int) := of_decide_eq_true (by first | (with_reducible assumption) | assumption)
                     have q308 : t306 < (x4_1.length : Int) := of_decide_eq_true (by first | (with_reducible assumption) | assumption)
                     obtain ⟨ad308, e308, hx308_0⟩ := Kd.at_int (Kd.R_reads' HO_4.out).2.2 t306 p308 q308
                     obtain rfl : ad307 = ad308 := (by injection e308)
                     replace p308 := eq_true p308
                     replace q308 := eq_true q308
                     refine start_ (n := 9) (S := fun w' => w'.cell? (ad307.add (t305).toNat) = some (.int .i64 (rd x4_1 t305)) ∧ w'.cell? (ad307.add (t306).toNat) = some (.int .i64 (rd x4_1 t306))) (ds := []) #[false, false, false, false, false, false, false, false, false] (by kernel_rfl) rfl rfl ⟨hx307_0, hx308_0⟩ (fun hHeld => ?_); refine with_tabW spec_ShortestTree.tab14 spec_ShortestTree.bits14 (fun HT_ HW_ => ?_)
                     generalize wr.drew = w28 at HO_4 HB hx307_0 hx308_0 hHeld ⊢
                     refine pure_ (i := 0) (N := some 44) (v := ?_) (a' := ?_) #[true, false, false, false, false, false, false, false, false] rfl rfl (any_of HT_.out (by kernel_rfl)) (fun _ _ _ h => h) (Or.inl ⟨by rfl, ?_⟩) ?_ ?_
                     rotate_left
                     ·intro w'
                      go_simp
                      with_reducible rfl
                     rotate_left
                     ·simp only [Act.put, List.setIfInBounds_toArray, List.set_cons_zero, List.set_cons_succ, i64_w, i32_w]
                      rfl
                     refine pure_ (i := 1) (N := some 45) (v := ?_) (a' := ?_) #[true, true, false, false, false, false, false, false, false] rfl rfl (any_of HT_.out (by kernel_rfl)) (fun _ _ _ h => h) (Or.inl ⟨by rfl, ?_⟩) ?_ ?_
                     rotate_left
                     ·intro w'
                      go_simp
                      with_reducible rfl
                     rotate_left
                     ·simp only [Act.put, List.setIfInBounds_toArray, List.set_cons_zero, List.set_cons_succ, i64_w, i32_w]
                      rfl
                     refine pure_ (i := 2) (N := some 46) (v := ?_) (a' := ?_) #[true, true, true, false, false, false, false, false, false] rfl rfl (any_of HT_.out (by kernel_rfl)) (fun _ _ _ h => h) (Or.inl ⟨by rfl, ?_⟩) ?_ ?_
                     rotate_left
                     ·intro w'
                      go_simp
                      with_reducible rfl
                     rotate_left
                     ·simp only [Act.put, List.setIfInBounds_toArray, List.set_cons_zero, List.set_cons_succ, i64_w, i32_w]
                      rfl
                     refine pure_ (i := 4) (N := some 48) (v := ?_) (a' := ?_) #[true, true, true, false, true, false, false, false, false] rfl rfl (any_of HT_.out (by kernel_rfl)) (fun _ _ _ h => h) (Or.inl ⟨by rfl, ?_⟩) ?_ ?_
                     rotate_left
                     ·intro w'
                      go_simp
                      with_reducible rfl
                     rotate_left
                     ·simp only [Act.put, List.setIfInBounds_toArray, List.set_cons_zero, List.set_cons_succ, i64_w, i32_w]
                      rfl
                     refine pure_ (i := 5) (N := some 49) (v := ?_) (a' := ?_) #[true, true, true, false, true, true, false, false, false] rfl rfl (any_of HT_.out (by kernel_rfl)) (fun _ _ _ h => h) (Or.inl ⟨by rfl, ?_⟩) ?_ ?_
                     rotate_left
                     ·intro w'
                      go_simp
                      with_reducible rfl
                     rotate_left
                     ·simp only [Act.put, List.setIfInBounds_toArray, List.set_cons_zero, List.set_cons_succ, i64_w, i32_w]
                      rfl
                     refine pure_ (i := 6) (N := some 50) (v := ?_) (a' := ?_) #[true, true, true, false, true, true, true, false, false] rfl rfl (any_of HT_.out (by kernel_rfl)) (fun _ _ _ h => h) (Or.inl ⟨by rfl, ?_⟩) ?_ ?_
                     rotate_left
                     ·intro w'
                      go_simp
                      with_reducible rfl
                     rotate_left
                     ·simp only [Act.put, List.setIfInBounds_toArray, List.set_cons_zero, List.set_cons_succ, i64_w, i32_w]
                      rfl
                     refine take_ (i := 3) (N := some 47) (v := ?_) (a' := ?_) #[true, true, true, true, true, true, true, false, false] rfl rfl (take_ofW HT_.out HW_.out (by kernel_rfl)) (fun _ _ _ h => h) (Or.inl ⟨by rfl, ?_⟩) hHeld ?_ ?_
                     rotate_left
                     ·rintro w' ⟨s0, s1⟩
                      go_simp
                      with_reducible rfl
                     rotate_left
                     ·simp only [Act.put, List.setIfInBounds_toArray, List.set_cons_zero, List.set_cons_succ, i64_w, i32_w]
                      rfl
                     refine take_ (i := 7) (N := some 51) (v := ?_) (a' := ?_) #[true, true, true, true, true, true, true, true, false] rfl rfl (take_ofW HT_.out HW_.out (by kernel_rfl)) (fun _ _ _ h => h) (Or.inl ⟨by rfl, ?_⟩) hHeld ?_ ?_
                     rotate_left
                     ·rintro w' ⟨s0, s1⟩
                      go_simp
                      with_reducible rfl
                     rotate_left
                     ·simp only [Act.put, List.setIfInBounds_toArray, List.set_cons_zero, List.set_cons_succ, i64_w, i32_w]
                      rfl
                     refine pure_ (i := 8) (N := some 52) (v := ?_) (a' := ?_) #[true, true, true, true, true, true, true, true, true] rfl rfl (any_of HT_.out (by kernel_rfl)) (fun _ _ _ h => h) (Or.inl ⟨by rfl, ?_⟩) ?_ ?_
                     rotate_left
                     ·intro w'
                      go_simp
                      with_reducible rfl
                     rotate_left
                     ·simp only [Act.put, List.setIfInBounds_toArray, List.set_cons_zero, List.set_cons_succ, i64_w, i32_w]
                      rfl
                     refine done_ (done_of HT_.out (by kernel_rfl)) ?_
                     try go_wp2_with (first | ((with_reducible refine gate_callee (f := 70) rfl ?_); refine goesL_ (some 58) rfl rfl Try.func70 (by kernel_rfl) rfl #[.int .i64 (l0.length : Int), .int .i64 x7_2] rfl (by (try simp only [List.map_toArray, List.map_cons, List.map_nil]); first | done | rfl | (simp only [List.length_drop, List.length_take]; rfl)) ?_; (with_reducible refine (spec_EdgeAt.calls k2 (l0.length : Int) x7_2 t309 t310 _ A18.out).mono ?_); rintro e w' ⟨rfl, ⟨nd, rfl⟩⟩; refine ⟨_, rfl, ?_⟩))
                     (try (rw [drewN_self w28]; generalize hq_ : World.drewN w28 _ = w28; have n0_ : Aside0 (Kd.R (Kd.int .i64) 3 w28 w.heap.size (fun _ => True) (.slice (some ad307) x4_1.length co29) x4_1) := ⟨by rw [← hq_]; exact (by (with_reducible repeat (first | apply Kd.R_alloc | apply Kd.R_drewN | apply Kd.R_drew)); exact HO_4.out)⟩; have n1_ : Aside0 (Below w.heap.size w w28) := ⟨by rw [← hq_]; exact (by repeat (first | (with_reducible first | exact HB.out | apply below_alloc | apply pw_below_drewN | apply below_drew1) | exact HB.out))⟩; clear HO_4 HB hq_; have HO_4 := n0_; have HB := n1_; clear n0_ n1_))
                     have n0_ := Aside0.mk (Kd.R_drew HO_4.out)
                     have n1_ := Aside0.mk (below_drew1 HB.out)
                     clear HO_4
                     clear HB
                     have HO_4 := n0_
                     have HB := n1_
                     clear n0_ n1_
                     have p311 : 0 ≤ (t305 : Int) := of_decide_eq_true (by first | (with_reducible assumption) | assumption)
                     have q311 : t305 < (l0.length : Int) := of_decide_eq_true (by first | (with_reducible assumption) | assumption)
                     obtain ⟨ad311, e311, hx311_0, hx311_1⟩ := at_T37 HR0.out t305 p311 q311
                     have hw311_1 := hx311_1
                     have hw311_0 := hx311_0
                     cases e311
                     replace hx311_0 := (HB.out.cell (World.block_lt_of_cell? w _ hx311_0)).trans hx311_0
                     replace hx311_1 := (HB.out.cell (World.block_lt_of_cell? w _ hx311_1)).trans hx311_1
                     replace p311 := eq_true p311
                     replace q311 := eq_true q311
                     have p312 : 0 ≤ (t306 : Int) := of_decide_eq_true (by first | (with_reducible assumption) | assumption)
                     have q312 : t306 < (l0.length : Int) := of_decide_eq_true (by first | (with_reducible assumption) | assumption)
                     obtain ⟨ad312, e312, hx312_0, hx312_1⟩ := at_T37 HR0.out t306 p312 q312
                     have hw312_1 := hx312_1
                     have hw312_0 := hx312_0
                     obtain rfl : ad311 = ad312 := (by injection e312)
                     replace hx312_0 := (HB.out.cell (World.block_lt_of_cell? w _ hx312_0)).trans hx312_0
                     replace hx312_1 := (HB.out.cell (World.block_lt_of_cell? w _ hx312_1)).trans hx312_1
                     replace p312 := eq_true p312
                     replace q312 := eq_true q312
                     have p314 : 0 ≤ (t309 : Int) := of_decide_eq_true (by first | (with_reducible assumption) | assumption)
                     have q314 : t309 < (l0.length : Int) := of_decide_eq_true (by first | (with_reducible assumption) | assumption)
                     obtain ⟨ad314, e314, hx314_0, hx314_1⟩ := at_T37 HR0.out t309 p314 q314
                     have hw314_1 := hx314_1
                     have hw314_0 := hx314_0
                     obtain rfl : ad311 = ad314 := (by injection e314)
                     replace hx314_0 := (HB.out.cell (World.block_lt_of_cell? w _ hx314_0)).trans hx314_0
                     replace hx314_1 := (HB.out.cell (World.block_lt_of_cell? w _ hx314_1)).trans hx314_1
                     replace p314 := eq_true p314
                     replace q314 := eq_true q314
                     have p315 : 0 ≤ (t310 : Int) := of_decide_eq_true (by first | (with_reducible assumption) | assumption)
                     have q315 : t310 < (l0.length : Int) := of_decide_eq_true (by first | (with_reducible assumption) | assumption)
                     obtain ⟨ad315, e315, hx315_0, hx315_1⟩ := at_T37 HR0.out t310 p315 q315
                     have hw315_1 := hx315_1
                     have hw315_0 := hx315_0
                     obtain rfl : ad311 = ad315 := (by injection e315)
                     replace hx315_0 := (HB.out.cell (World.block_lt_of_cell? w _ hx315_0)).trans hx315_0
                     replace hx315_1 := (HB.out.cell (World.block_lt_of_cell? w _ hx315_1)).trans hx315_1
                     replace p315 := eq_true p315
                     replace q315 := eq_true q315
                     refine start_ (n := 19) (S := fun w' => w'.cell? (ad311.add ((t305).toNat * 2)) = some (.int .i64 ((rd_T37 l0 t305).f0)) ∧ w'.cell? ⟨(ad311.add ((t305).toNat * 2)).block, (ad311.add ((t305).toNat * 2)).off + 1, none⟩ = some (.int .i64 ((rd_T37 l0 t305).f1)) ∧ w'.cell? (ad311.add ((t306).toNat * 2)) = some (.int .i64 ((rd_T37 l0 t306).f0)) ∧ w'.cell? ⟨(ad311.add ((t306).toNat * 2)).block, (ad311.add ((t306).toNat * 2)).off + 1, none⟩ = some (.int .i64 ((rd_T37 l0 t306).f1)) ∧ w'.cell? (ad311.add ((t309).toNat * 2)) = some (.int .i64 ((rd_T37 l0 t309).f0)) ∧ w'.cell? ⟨(ad311.add ((t309).toNat * 2)).block, (ad311.add ((t309).toNat * 2)).off + 1, none⟩ = some (.int .i64 ((rd_T37 l0 t309).f1)) ∧ w'.cell? (ad311.add ((t310).toNat * 2)) = some (.int .i64 ((rd_T37 l0 t310).f0)) ∧ w'.cell? ⟨(ad311.add ((t310).toNat * 2)).block, (ad311.add ((t310).toNat * 2)).off + 1, none⟩ = some (.int .i64 ((rd_T37 l0 t310).f1))) (ds := []) #[false, false, false, false, false, false, false, false, false, false, false, false, false, false, false, false, false, false, false] (by kernel_rfl) rfl rfl ⟨((HB.out.cell (World.block_lt_of_cell? w _ hw311_0)).trans hw311_0), ((HB.out.cell (World.block_lt_of_cell? w _ hw311_1)).trans hw311_1), ((HB.out.cell (World.block_lt_of_cell? w _ hw312_0)).trans hw312_0), ((HB.out.cell (World.block_lt_of_cell? w _ hw312_1)).trans hw312_1), ((HB.out.cell (World.block_lt_of_cell? w _ hw314_0)).trans hw314_0), ((HB.out.cell (World.block_lt_of_cell? w _ hw314_1)).trans hw314_1), ((HB.out.cell (World.block_lt_of_cell? w _ hw315_0)).trans hw315_0), ((HB.out.cell (World.block_lt_of_cell? w _ hw315_1)).trans hw315_1)⟩ (fun hHeld => ?_); refine with_tabW spec_ShortestTree.tab17 spec_ShortestTree.bits17 (fun HT_ HW_ => ?_)
                     generalize w28.drew = w30 at HO_4 HB hx311_0 hx311_1 hx312_0 hx312_1 hx314_0 hx314_1 hx315_0 hx315_1 hHeld ⊢
                     refine pure_ (i := 0) (N := some 61) (v := ?_) (a' := ?_) #[true, false, false, false, false, false, false, false, false, false, false, false, false, false, false, false, false, false, false] rfl rfl (any_of HT_.out (by kernel_rfl)) (fun _ _ _ h => h) (Or.inl ⟨by rfl, ?_⟩) ?_ ?_
                     rotate_left
                     ·intro w'
                      go_simp
                      with_reducible rfl
                     rotate_left
                     ·simp only [Act.put, List.setIfInBounds_toArray, List.set_cons_zero, List.set_cons_succ, i64_w, i32_w]
                      rfl
                     refine pure_ (i := 1) (N := some 62) (v := ?_) (a' := ?_) #[true, true, false, false, false, false, false, false, false, false, false, false, false, false, false, false, false, false, false] rfl rfl (any_of HT_.out (by kernel_rfl)) (fun _ _ _ h => h) (Or.inl ⟨by rfl, ?_⟩) ?_ ?_
                     rotate_left
                     ·intro w'
                      go_simp
                      with_reducible rfl
                     rotate_left
                     ·simp only [Act.put, List.setIfInBounds_toArray, List.set_cons_zero, List.set_cons_succ, i64_w, i32_w]
                      rfl
                     refine pure_ (i := 2) (N := some 63) (v := ?_) (a' := ?_) #[true, true, true, false, false, false, false, false, false, false, false, false, false, false, false, false, false, false, false] rfl rfl (any_of HT_.out (by kernel_rfl)) (fun _ _ _ h => h) (Or.inl ⟨by rfl, ?_⟩) ?_ ?_
                     rotate_left
                     ·intro w'
                      go_simp
                      with_reducible rfl
                     rotate_left
                     ·simp only [Act.put, List.setIfInBounds_toArray, List.set_cons_zero, List.set_cons_succ, i64_w, i32_w]
                      rfl
                     refine pure_ (i := 4) (N := some 65) (v := ?_) (a' := ?_) #[true, true, true, false, true, false, false, false, false, false, false, false, false, false, false, false, false, false, false] rfl rfl (any_of HT_.out (by kernel_rfl)) (fun _ _ _ h => h) (Or.inl ⟨by rfl, ?_⟩) ?_ ?_
                     rotate_left
                     ·intro w'
                      go_simp
                      with_reducible rfl
                     rotate_left
                     ·simp only [Act.put, List.setIfInBounds_toArray, List.set_cons_zero, List.set_cons_succ, i64_w, i32_w]
                      rfl
                     refine pure_ (i := 5) (N := some 66) (v := ?_) (a' := ?_) #[true, true, true, false, true, true, false, false, false, false, false, false, false, false, false, false, false, false, false] rfl rfl (any_of HT_.out (by kernel_rfl)) (fun _ _ _ h => h) (Or.inl ⟨by rfl, ?_⟩) ?_ ?_
                     rotate_left
                     ·intro w'
                      go_simp
                      with_reducible rfl
                     rotate_left
                     ·simp only [Act.put, List.setIfInBounds_toArray, List.set_cons_zero, List.set_cons_succ, i64_w, i32_w]
                      rfl
                     refine pure_ (i := 6) (N := some 67) (v := ?_) (a' := ?_) #[true, true, true, false, true, true, true, false, false, false, false, false, false, false, false, false, false, false, false] rfl rfl (any_of HT_.out (by kernel_rfl)) (fun _ _ _ h => h) (Or.inl ⟨by rfl, ?_⟩) ?_ ?_
                     rotate_left
                     ·intro w'
                      go_simp
                      with_reducible rfl
                     rotate_left
                     ·simp only [Act.put, List.setIfInBounds_toArray, List.set_cons_zero, List.set_cons_succ, i64_w, i32_w]
                      rfl
                     refine pure_ (i := 9) (N := some 70) (v := ?_) (a' := ?_) #[true, true, true, false, true, true, true, false, false, true, false, false, false, false, false, false, false, false, false] rfl rfl (any_of HT_.out (by kernel_rfl)) (fun _ _ _ h => h) (Or.inl ⟨by rfl, ?_⟩) ?_ ?_
                     rotate_left
                     ·intro w'
                      go_simp
                      with_reducible rfl
                     rotate_left
                     ·simp only [Act.put, List.setIfInBounds_toArray, List.set_cons_zero, List.set_cons_succ, i64_w, i32_w]
                      rfl
                     refine pure_ (i := 10) (N := some 71) (v := ?_) (a' := ?_) #[true, true, true, false, true, true, true, false, false, true, true, false, false, false, false, false, false, false, false] rfl rfl (any_of HT_.out (by kernel_rfl)) (fun _ _ _ h => h) (Or.inl ⟨by rfl, ?_⟩) ?_ ?_
                     rotate_left
                     ·intro w'
                      go_simp
                      with_reducible rfl
                     rotate_left
                     ·simp only [Act.put, List.setIfInBounds_toArray, List.set_cons_zero, List.set_cons_succ, i64_w, i32_w]
                      rfl
                     refine pure_ (i := 11) (N := some 72) (v := ?_) (a' := ?_) #[true, true, true, false, true, true, true, false, false, true, true, true, false, false, false, false, false, false, false] rfl rfl (any_of HT_.out (by kernel_rfl)) (fun _ _ _ h => h) (Or.inl ⟨by rfl, ?_⟩) ?_ ?_
                     rotate_left
                     ·intro w'
                      go_simp
                      with_reducible rfl
                     rotate_left
                     ·simp only [Act.put, List.setIfInBounds_toArray, List.set_cons_zero, List.set_cons_succ, i64_w, i32_w]
                      rfl
                     refine pure_ (i := 13) (N := some 74) (v := ?_) (a' := ?_) #[true, true, true, false, true, true, true, false, false, true, true, true, false, true, false, false, false, false, false] rfl rfl (any_of HT_.out (by kernel_rfl)) (fun _ _ _ h => h) (Or.inl ⟨by rfl, ?_⟩) ?_ ?_
                     rotate_left
                     ·intro w'
                      go_simp
                      with_reducible rfl
                     rotate_left
                     ·simp only [Act.put, List.setIfInBounds_toArray, List.set_cons_zero, List.set_cons_succ, i64_w, i32_w]
                      rfl
                     refine pure_ (i := 14) (N := some 75) (v := ?_) (a' := ?_) #[true, true, true, false, true, true, true, false, false, true, true, true, false, true, true, false, false, false, false] rfl rfl (any_of HT_.out (by kernel_rfl)) (fun _ _ _ h => h) (Or.inl ⟨by rfl, ?_⟩) ?_ ?_
                     rotate_left
                     ·intro w'
                      go_simp
                      with_reducible rfl
                     rotate_left
                     ·simp only [Act.put, List.setIfInBounds_toArray, List.set_cons_zero, List.set_cons_succ, i64_w, i32_w]
                      rfl
                     refine pure_ (i := 15) (N := some 76) (v := ?_) (a' := ?_) #[true, true, true, false, true, true, true, false, false, true, true, true, false, true, true, true, false, false, false] rfl rfl (any_of HT_.out (by kernel_rfl)) (fun _ _ _ h => h) (Or.inl ⟨by rfl, ?_⟩) ?_ ?_
                     rotate_left
                     ·intro w'
                      go_simp
                      with_reducible rfl
                     rotate_left
                     ·simp only [Act.put, List.setIfInBounds_toArray, List.set_cons_zero, List.set_cons_succ, i64_w, i32_w]
                      rfl
                     refine take_ (i := 3) (N := some 64) (v := ?_) (a' := ?_) #[true, true, true, true, true, true, true, false, false, true, true, true, false, true, true, true, false, false, false] rfl rfl (take_ofW HT_.out HW_.out (by kernel_rfl)) (fun _ _ _ h => h) (Or.inl ⟨by rfl, ?_⟩) hHeld ?_ ?_
                     rotate_left
                     ·rintro w' ⟨s0, s1, s2, s3, s4, s5, s6, s7⟩
                      go_simp
                      with_reducible rfl
                     rotate_left
                     ·simp only [Act.put, List.setIfInBounds_toArray, List.set_cons_zero, List.set_cons_succ, i64_w, i32_w]
                      rfl
                     refine take_ (i := 7) (N := some 68) (v := ?_) (a' := ?_) #[true, true, true, true, true, true, true, true, false, true, true, true, false, true, true, true, false, false, false] rfl rfl (take_ofW HT_.out HW_.out (by kernel_rfl)) (fun _ _ _ h => h) (Or.inl ⟨by rfl, ?_⟩) hHeld ?_ ?_
                     rotate_left
                     ·rintro w' ⟨s0, s1, s2, s3, s4, s5, s6, s7⟩
                      go_simp
                      with_reducible rfl
                     rotate_left
                     ·simp only [Act.put, List.setIfInBounds_toArray, List.set_cons_zero, List.set_cons_succ, i64_w, i32_w]
                      rfl
                     refine take_ (i := 12) (N := some 73) (v := ?_) (a' := ?_) #[true, true, true, true, true, true, true, true, false, true, true, true, true, true, true, true, false, false, false] rfl rfl (take_ofW HT_.out HW_.out (by kernel_rfl)) (fun _ _ _ h => h) (Or.inl ⟨by rfl, ?_⟩) hHeld ?_ ?_
                     rotate_left
                     ·rintro w' ⟨s0, s1, s2, s3, s4, s5, s6, s7⟩
                      go_simp
                      with_reducible rfl
                     rotate_left
                     ·simp only [Act.put, List.setIfInBounds_toArray, List.set_cons_zero, List.set_cons_succ, i64_w, i32_w]
                      rfl
                     refine take_ (i := 16) (N := some 77) (v := ?_) (a' := ?_) #[true, true, true, true, true, true, true, true, false, true, true, true, true, true, true, true, true, false, false] rfl rfl (take_ofW HT_.out HW_.out (by kernel_rfl)) (fun _ _ _ h => h) (Or.inl ⟨by rfl, ?_⟩) hHeld ?_ ?_
                     rotate_left
                     ·rintro w' ⟨s0, s1, s2, s3, s4, s5, s6, s7⟩
                      go_simp
                      with_reducible rfl
                     rotate_left
                     ·simp only [Act.put, List.setIfInBounds_toArray, List.set_cons_zero, List.set_cons_succ, i64_w, i32_w]
                      rfl
                     refine one_ (i := 8) (N := some 69) #[true, true, true, true, true, true, true, true, true, true, true, true, true, true, true, true, true, false, false] rfl rfl (one_of HT_.out (by kernel_rfl)) (by decide) (fun K hK => ?_)
                     refine goes_ Try.func71 (by kernel_rfl) rfl #[.agg #[.int .i64 ((rd_T37 l0 t305).f0), .int .i64 ((rd_T37 l0 t305).f1)], .agg #[.int .i64 ((rd_T37 l0 t306).f0), .int .i64 ((rd_T37 l0 t306).f1)]] (by rfl) rfl rfl (by (try simp only [List.map_toArray, List.map_cons, List.map_nil]); first | done | rfl | (simp only [List.length_drop, List.length_take]; rfl)) ?_
                     with_reducible refine (spec_LengthOf.calls ((rd_T37 l0 t305).f0) ((rd_T37 l0 t305).f1) ((rd_T37 l0 t306).f0) ((rd_T37 l0 t306).f1) t313 _ A21.out).mono ?_
                     rintro e w31 ⟨rfl, hb⟩
                     refine ⟨_, rfl, ?_⟩
                     have n0_ := Aside0.mk (Kd.R_below (by (with_reducible repeat (first | apply Kd.R_alloc | apply Kd.R_drewN | apply Kd.R_drew)); exact HO_4.out) hb)
                     have n1_ := Aside0.mk (below_step (by repeat (first | (with_reducible first | exact HB.out | apply below_alloc | apply pw_below_drewN | apply below_drew1) | exact HB.out)) hb)
                     clear HO_4
                     clear HB
                     have HO_4 := n0_
                     have HB := n1_
                     clear n0_ n1_
                     (try clear hb)
                     (try clear hb2)
                     (try clear hk)
                     (try clear hi)
                     refine hK.out _ _ ⟨((HB.out.cell (World.block_lt_of_cell? w _ hw311_0)).trans hw311_0), ((HB.out.cell (World.block_lt_of_cell? w _ hw311_1)).trans hw311_1), ((HB.out.cell (World.block_lt_of_cell? w _ hw312_0)).trans hw312_0), ((HB.out.cell (World.block_lt_of_cell? w _ hw312_1)).trans hw312_1), ((HB.out.cell (World.block_lt_of_cell? w _ hw314_0)).trans hw314_0), ((HB.out.cell (World.block_lt_of_cell? w _ hw314_1)).trans hw314_1), ((HB.out.cell (World.block_lt_of_cell? w _ hw315_0)).trans hw315_0), ((HB.out.cell (World.block_lt_of_cell? w _ hw315_1)).trans hw315_1)⟩ (fun hHeld => ?_)
                     clear hK K
                     refine norm_ (a' := ?_) ?_ ?_
                     rotate_left
                     ·show Act.put _ (some 69) _ = _
                      simp only [Act.put, List.setIfInBounds_toArray, List.set_cons_zero, List.set_cons_succ, i64_w, i32_w]
                      rfl
                     refine one_ (i := 17) (N := some 78) #[true, true, true, true, true, true, true, true, true, true, true, true, true, true, true, true, true, true, false] rfl rfl (one_of HT_.out (by kernel_rfl)) (by decide) (fun K hK => ?_)
                     refine goes_ Try.func71 (by kernel_rfl) rfl #[.agg #[.int .i64 ((rd_T37 l0 t309).f0), .int .i64 ((rd_T37 l0 t309).f1)], .agg #[.int .i64 ((rd_T37 l0 t310).f0), .int .i64 ((rd_T37 l0 t310).f1)]] (by rfl) rfl rfl (by (try simp only [List.map_toArray, List.map_cons, List.map_nil]); first | done | rfl | (simp only [List.length_drop, List.length_take]; rfl)) ?_
                     with_reducible refine (spec_LengthOf.calls ((rd_T37 l0 t309).f0) ((rd_T37 l0 t309).f1) ((rd_T37 l0 t310).f0) ((rd_T37 l0 t310).f1) t316 _ A26.out).mono ?_
                     rintro e w32 ⟨rfl, hb⟩
                     refine ⟨_, rfl, ?_⟩
                     have n0_ := Aside0.mk (Kd.R_below (by (with_reducible repeat (first | apply Kd.R_alloc | apply Kd.R_drewN | apply Kd.R_drew)); exact HO_4.out) hb)
                     have n1_ := Aside0.mk (below_step (by repeat (first | (with_reducible first | exact HB.out | apply below_alloc | apply pw_below_drewN | apply below_drew1) | exact HB.out)) hb)
                     clear HO_4
                     clear HB
                     have HO_4 := n0_
                     have HB := n1_
                     clear n0_ n1_
                     (try clear hb)
                     (try clear hb2)
                     (try clear hk)
                     (try clear hi)
                     refine hK.out _ _ ⟨((HB.out.cell (World.block_lt_of_cell? w _ hw311_0)).trans hw311_0), ((HB.out.cell (World.block_lt_of_cell? w _ hw311_1)).trans hw311_1), ((HB.out.cell (World.block_lt_of_cell? w _ hw312_0)).trans hw312_0), ((HB.out.cell (World.block_lt_of_cell? w _ hw312_1)).trans hw312_1), ((HB.out.cell (World.block_lt_of_cell? w _ hw314_0)).trans hw314_0), ((HB.out.cell (World.block_lt_of_cell? w _ hw314_1)).trans hw314_1), ((HB.out.cell (World.block_lt_of_cell? w _ hw315_0)).trans hw315_0), ((HB.out.cell (World.block_lt_of_cell? w _ hw315_1)).trans hw315_1)⟩ (fun hHeld => ?_)
                     clear hK K
                     refine norm_ (a' := ?_) ?_ ?_
                     rotate_left
                     ·show Act.put _ (some 78) _ = _
                      simp only [Act.put, List.setIfInBounds_toArray, List.set_cons_zero, List.set_cons_succ, i64_w, i32_w]
                      rfl
                     refine pure_ (i := 18) (N := some 79) (v := ?_) (a' := ?_) #[true, true, true, true, true, true, true, true, true, true, true, true, true, true, true, true, true, true, true] rfl rfl (any_of HT_.out (by kernel_rfl)) (fun _ _ _ h => h) (Or.inl ⟨by rfl, ?_⟩) ?_ ?_
                     rotate_left
                     ·intro w'
                      go_simp
                      with_reducible rfl
                     rotate_left
                     ·simp only [Act.put, List.setIfInBounds_toArray, List.set_cons_zero, List.set_cons_succ, i64_w, i32_w]
                      rfl
                     refine done_ (done_of HT_.out (by kernel_rfl)) ?_
                     try go_wp2
                     go_roundg k2
                     case measure => have := HK1.out; have := HK2.out; omega
                     case rel => exact ⟨(x7_2), (wrap64 (x8_2 + 1)), (by first | rfl | (simp; done) | (simp [*]; done)), (by first | rfl | (simp; done) | (simp [*]; done)), H', ⟨by have := HK1.out; have := HK2.out; omega⟩, ⟨by (with_reducible repeat (first | apply Kd.R_alloc | apply Kd.R_drewN | apply Kd.R_drew)); exact HO_4.out⟩, ⟨by repeat (first | (with_reducible first | exact HB.out | apply below_alloc | apply pw_below_drewN | apply below_drew1) | exact HB.out)⟩⟩
                    ·rw [if_neg c27] at H
                     have c27b0 : decide (t316 ≤ t313) = false := decide_eq_false c27
                     clear c27
                     have H' := Aside0.mk H
                     clear H
                     try go_wp2_with (first | ((with_reducible refine gate_callee (f := 70) rfl ?_); refine goesL_ (some 41) rfl rfl Try.func70 (by kernel_rfl) rfl #[.int .i64 (l0.length : Int), .int .i64 x8_2] rfl (by (try simp only [List.map_toArray, List.map_cons, List.map_nil]); first | done | rfl | (simp only [List.length_drop, List.length_take]; rfl)) ?_; (with_reducible refine (spec_EdgeAt.calls k2 (l0.length : Int) x8_2 t305 t306 _ A9.out).mono ?_); rintro e w' ⟨rfl, ⟨nd, rfl⟩⟩; refine ⟨_, rfl, ?_⟩))
                     (try (rw [drewN_self wr]; generalize hq_ : World.drewN wr _ = wr; have n0_ : Aside0 (Kd.R (Kd.int .i64) 3 wr w.heap.size (fun _ => True) v303 x4_1) := ⟨by rw [← hq_]; exact (by (with_reducible repeat (first | apply Kd.R_alloc | apply Kd.R_drewN | apply Kd.R_drew)); exact HO_4.out)⟩; have n1_ : Aside0 (Below w.heap.size w wr) := ⟨by rw [← hq_]; exact (by repeat (first | (with_reducible first | exact HB.out | apply below_alloc | apply pw_below_drewN | apply below_drew1) | exact HB.out))⟩; clear HO_4 HB hq_; have HO_4 := n0_; have HB := n1_; clear n0_ n1_))
                     have n0_ := Aside0.mk (Kd.R_drew HO_4.out)
                     have n1_ := Aside0.mk (below_drew1 HB.out)
                     clear HO_4
                     clear HB
                     have HO_4 := n0_
                     have HB := n1_
                     clear n0_ n1_
                     obtain ⟨Ao34, co34, eo34⟩ := Kd.R_slice HO_4.out
                     (first | subst eo34 | (injection eo34 with f1_ f2_ f3_; have f4_ := f1_.symm; have f5_ := f3_.symm; clear f1_ f2_ f3_; subst f4_; subst f5_))
                     have p307 : 0 ≤ (t305 : Int) := of_decide_eq_true (by first | (with_reducible assumption) | assumption)
                     have q307 : t305 < (x4_1.length : Int) := of_decide_eq_true (by first | (with_reducible assumption) | assumption)
                     obtain ⟨ad307, e307, hx307_0⟩ := Kd.at_int (Kd.R_reads' HO_4.out).2.2 t305 p307 q307
                     cases e307
                     replace p307 := eq_true p307
                     replace q307 := eq_true q307
                     have p308 : 0 ≤ (t306 : Int) := of_decide_eq_true (by first | (with_reducible assumption) | assumption)
                     have q308 : t306 < (x4_1.length : Int) := of_decide_eq_true (by first | (with_reducible assumption) | assumption)
                     obtain ⟨ad308, e308, hx308_0⟩ := Kd.at_int (Kd.R_reads' HO_4.out).2.2 t306 p308 q308
                     obtain rfl : ad307 = ad308 := (by injection e308)
                     replace p308 := eq_true p308
                     replace q308 := eq_true q308
                     refine start_ (n := 9) (S := fun w' => w'.cell? (ad307.add (t305).toNat) = some (.int .i64 (rd x4_1 t305)) ∧ w'.cell? (ad307.add (t306).toNat) = some (.int .i64 (rd x4_1 t306))) (ds := []) #[false, false, false, false, false, false, false, false, false] (by kernel_rfl) rfl rfl ⟨hx307_0, hx308_0⟩ (fun hHeld => ?_); refine with_tabW spec_ShortestTree.tab14 spec_ShortestTree.bits14 (fun HT_ HW_ => ?_)
                     generalize wr.drew = w33 at HO_4 HB hx307_0 hx308_0 hHeld ⊢
                     refine pure_ (i := 0) (N := some 44) (v := ?_) (a' := ?_) #[true, false, false, false, false, false, false, false, false] rfl rfl (any_of HT_.out (by kernel_rfl)) (fun _ _ _ h => h) (Or.inl ⟨by rfl, ?_⟩) ?_ ?_
                     rotate_left
                     ·intro w'
                      go_simp
                      with_reducible rfl
                     rotate_left
                     ·simp only [Act.put, List.setIfInBounds_toArray, List.set_cons_zero, List.set_cons_succ, i64_w, i32_w]
                      rfl
                     refine pure_ (i := 1) (N := some 45) (v := ?_) (a' := ?_) #[true, true, false, false, false, false, false, false, false] rfl rfl (any_of HT_.out (by kernel_rfl)) (fun _ _ _ h => h) (Or.inl ⟨by rfl, ?_⟩) ?_ ?_
                     rotate_left
                     ·intro w'
                      go_simp
                      with_reducible rfl
                     rotate_left
                     ·simp only [Act.put, List.setIfInBounds_toArray, List.set_cons_zero, List.set_cons_succ, i64_w, i32_w]
                      rfl
                     refine pure_ (i := 2) (N := some 46) (v := ?_) (a' := ?_) #[true, true, true, false, false, false, false, false, false] rfl rfl (any_of HT_.out (by kernel_rfl)) (fun _ _ _ h => h) (Or.inl ⟨by rfl, ?_⟩) ?_ ?_
                     rotate_left
                     ·intro w'
                      go_simp
                      with_reducible rfl
                     rotate_left
                     ·simp only [Act.put, List.setIfInBounds_toArray, List.set_cons_zero, List.set_cons_succ, i64_w, i32_w]
                      rfl
                     refine pure_ (i := 4) (N := some 48) (v := ?_) (a' := ?_) #[true, true, true, false, true, false, false, false, false] rfl rfl (any_of HT_.out (by kernel_rfl)) (fun _ _ _ h => h) (Or.inl ⟨by rfl, ?_⟩) ?_ ?_
                     rotate_left
                     ·intro w'
                      go_simp
                      with_reducible rfl
                     rotate_left
                     ·simp only [Act.put, List.setIfInBounds_toArray, List.set_cons_zero, List.set_cons_succ, i64_w, i32_w]
                      rfl
                     refine pure_ (i := 5) (N := some 49) (v := ?_) (a' := ?_) #[true, true, true, false, true, true, false, false, false] rfl rfl (any_of HT_.out (by kernel_rfl)) (fun _ _ _ h => h) (Or.inl ⟨by rfl, ?_⟩) ?_ ?_
                     rotate_left
                     ·intro w'
                      go_simp
                      with_reducible rfl
                     rotate_left
                     ·simp only [Act.put, List.setIfInBounds_toArray, List.set_cons_zero, List.set_cons_succ, i64_w, i32_w]
                      rfl
                     refine pure_ (i := 6) (N := some 50) (v := ?_) (a' := ?_) #[true, true, true, false, true, true, true, false, false] rfl rfl (any_of HT_.out (by kernel_rfl)) (fun _ _ _ h => h) (Or.inl ⟨by rfl, ?_⟩) ?_ ?_
                     rotate_left
                     ·intro w'
                      go_simp
                      with_reducible rfl
                     rotate_left
                     ·simp only [Act.put, List.setIfInBounds_toArray, List.set_cons_zero, List.set_cons_succ, i64_w, i32_w]
                      rfl
                     refine take_ (i := 3) (N := some 47) (v := ?_) (a' := ?_) #[true, true, true, true, true, true, true, false, false] rfl rfl (take_ofW HT_.out HW_.out (by kernel_rfl)) (fun _ _ _ h => h) (Or.inl ⟨by rfl, ?_⟩) hHeld ?_ ?_
                     rotate_left
                     ·rintro w' ⟨s0, s1⟩
                      go_simp
                      with_reducible rfl
                     rotate_left
                     ·simp only [Act.put, List.setIfInBounds_toArray, List.set_cons_zero, List.set_cons_succ, i64_w, i32_w]
                      rfl
                     refine take_ (i := 7) (N := some 51) (v := ?_) (a' := ?_) #[true, true, true, true, true, true, true, true, false] rfl rfl (take_ofW HT_.out HW_.out (by kernel_rfl)) (fun _ _ _ h => h) (Or.inl ⟨by rfl, ?_⟩) hHeld ?_ ?_
                     rotate_left
                     ·rintro w' ⟨s0, s1⟩
                      go_simp
                      with_reducible rfl
                     rotate_left
                     ·simp only [Act.put, List.setIfInBounds_toArray, List.set_cons_zero, List.set_cons_succ, i64_w, i32_w]
                      rfl
                     refine pure_ (i := 8) (N := some 52) (v := ?_) (a' := ?_) #[true, true, true, true, true, true, true, true, true] rfl rfl (any_of HT_.out (by kernel_rfl)) (fun _ _ _ h => h) (Or.inl ⟨by rfl, ?_⟩) ?_ ?_
                     rotate_left
                     ·intro w'
                      go_simp
                      with_reducible rfl
                     rotate_left
                     ·simp only [Act.put, List.setIfInBounds_toArray, List.set_cons_zero, List.set_cons_succ, i64_w, i32_w]
                      rfl
                     refine done_ (done_of HT_.out (by kernel_rfl)) ?_
                     try go_wp2_with (first | ((with_reducible refine gate_callee (f := 70) rfl ?_); refine goesL_ (some 58) rfl rfl Try.func70 (by kernel_rfl) rfl #[.int .i64 (l0.length : Int), .int .i64 x7_2] rfl (by (try simp only [List.map_toArray, List.map_cons, List.map_nil]); first | done | rfl | (simp only [List.length_drop, List.length_take]; rfl)) ?_; (with_reducible refine (spec_EdgeAt.calls k2 (l0.length : Int) x7_2 t309 t310 _ A18.out).mono ?_); rintro e w' ⟨rfl, ⟨nd, rfl⟩⟩; refine ⟨_, rfl, ?_⟩))
                     (try (rw [drewN_self w33]; generalize hq_ : World.drewN w33 _ = w33; have n0_ : Aside0 (Kd.R (Kd.int .i64) 3 w33 w.heap.size (fun _ => True) (.slice (some ad307) x4_1.length co34) x4_1) := ⟨by rw [← hq_]; exact (by (with_reducible repeat (first | apply Kd.R_alloc | apply Kd.R_drewN | apply Kd.R_drew)); exact HO_4.out)⟩; have n1_ : Aside0 (Below w.heap.size w w33) := ⟨by rw [← hq_]; exact (by repeat (first | (with_reducible first | exact HB.out | apply below_alloc | apply pw_below_drewN | apply below_drew1) | exact HB.out))⟩; clear HO_4 HB hq_; have HO_4 := n0_; have HB := n1_; clear n0_ n1_))
                     have n0_ := Aside0.mk (Kd.R_drew HO_4.out)
                     have n1_ := Aside0.mk (below_drew1 HB.out)
                     clear HO_4
                     clear HB
                     have HO_4 := n0_
                     have HB := n1_
                     clear n0_ n1_
                     have p311 : 0 ≤ (t305 : Int) := of_decide_eq_true (by first | (with_reducible assumption) | assumption)
                     have q311 : t305 < (l0.length : Int) := of_decide_eq_true (by first | (with_reducible assumption) | assumption)
                     obtain ⟨ad311, e311, hx311_0, hx311_1⟩ := at_T37 HR0.out t305 p311 q311
                     have hw311_1 := hx311_1
                     have hw311_0 := hx311_0
                     cases e311
                     replace hx311_0 := (HB.out.cell (World.block_lt_of_cell? w _ hx311_0)).trans hx311_0
                     replace hx311_1 := (HB.out.cell (World.block_lt_of_cell? w _ hx311_1)).trans hx311_1
                     replace p311 := eq_true p311
                     replace q311 := eq_true q311
                     have p312 : 0 ≤ (t306 : Int) := of_decide_eq_true (by first | (with_reducible assumption) | assumption)
                     have q312 : t306 < (l0.length : Int) := of_decide_eq_true (by first | (with_reducible assumption) | assumption)
                     obtain ⟨ad312, e312, hx312_0, hx312_1⟩ := at_T37 HR0.out t306 p312 q312
                     have hw312_1 := hx312_1
                     have hw312_0 := hx312_0
                     obtain rfl : ad311 = ad312 := (by injection e312)
                     replace hx312_0 := (HB.out.cell (World.block_lt_of_cell? w _ hx312_0)).trans hx312_0
                     replace hx312_1 := (HB.out.cell (World.block_lt_of_cell? w _ hx312_1)).trans hx312_1
                     replace p312 := eq_true p312
                     replace q312 := eq_true q312
                     have p314 : 0 ≤ (t309 : Int) := of_decide_eq_true (by first | (with_reducible assumption) | assumption)
                     have q314 : t309 < (l0.length : Int) := of_decide_eq_true (by first | (with_reducible assumption) | assumption)
                     obtain ⟨ad314, e314, hx314_0, hx314_1⟩ := at_T37 HR0.out t309 p314 q314
                     have hw314_1 := hx314_1
                     have hw314_0 := hx314_0
                     obtain rfl : ad311 = ad314 := (by injection e314)
                     replace hx314_0 := (HB.out.cell (World.block_lt_of_cell? w _ hx314_0)).trans hx314_0
                     replace hx314_1 := (HB.out.cell (World.block_lt_of_cell? w _ hx314_1)).trans hx314_1
                     replace p314 := eq_true p314
                     replace q314 := eq_true q314
                     have p315 : 0 ≤ (t310 : Int) := of_decide_eq_true (by first | (with_reducible assumption) | assumption)
                     have q315 : t310 < (l0.length : Int) := of_decide_eq_true (by first | (with_reducible assumption) | assumption)
                     obtain ⟨ad315, e315, hx315_0, hx315_1⟩ := at_T37 HR0.out t310 p315 q315
                     have hw315_1 := hx315_1
                     have hw315_0 := hx315_0
                     obtain rfl : ad311 = ad315 := (by injection e315)
                     replace hx315_0 := (HB.out.cell (World.block_lt_of_cell? w _ hx315_0)).trans hx315_0
                     replace hx315_1 := (HB.out.cell (World.block_lt_of_cell? w _ hx315_1)).trans hx315_1
                     replace p315 := eq_true p315
                     replace q315 := eq_true q315
                     refine start_ (n := 19) (S := fun w' => w'.cell? (ad311.add ((t305).toNat * 2)) = some (.int .i64 ((rd_T37 l0 t305).f0)) ∧ w'.cell? ⟨(ad311.add ((t305).toNat * 2)).block, (ad311.add ((t305).toNat * 2)).off + 1, none⟩ = some (.int .i64 ((rd_T37 l0 t305).f1)) ∧ w'.cell? (ad311.add ((t306).toNat * 2)) = some (.int .i64 ((rd_T37 l0 t306).f0)) ∧ w'.cell? ⟨(ad311.add ((t306).toNat * 2)).block, (ad311.add ((t306).toNat * 2)).off + 1, none⟩ = some (.int .i64 ((rd_T37 l0 t306).f1)) ∧ w'.cell? (ad311.add ((t309).toNat * 2)) = some (.int .i64 ((rd_T37 l0 t309).f0)) ∧ w'.cell? ⟨(ad311.add ((t309).toNat * 2)).block, (ad311.add ((t309).toNat * 2)).off + 1, none⟩ = some (.int .i64 ((rd_T37 l0 t309).f1)) ∧ w'.cell? (ad311.add ((t310).toNat * 2)) = some (.int .i64 ((rd_T37 l0 t310).f0)) ∧ w'.cell? ⟨(ad311.add ((t310).toNat * 2)).block, (ad311.add ((t310).toNat * 2)).off + 1, none⟩ = some (.int .i64 ((rd_T37 l0 t310).f1))) (ds := []) #[false, false, false, false, false, false, false, false, false, false, false, false, false, false, false, false, false, false, false] (by kernel_rfl) rfl rfl ⟨((HB.out.cell (World.block_lt_of_cell? w _ hw311_0)).trans hw311_0), ((HB.out.cell (World.block_lt_of_cell? w _ hw311_1)).trans hw311_1), ((HB.out.cell (World.block_lt_of_cell? w _ hw312_0)).trans hw312_0), ((HB.out.cell (World.block_lt_of_cell? w _ hw312_1)).trans hw312_1), ((HB.out.cell (World.block_lt_of_cell? w _ hw314_0)).trans hw314_0), ((HB.out.cell (World.block_lt_of_cell? w _ hw314_1)).trans hw314_1), ((HB.out.cell (World.block_lt_of_cell? w _ hw315_0)).trans hw315_0), ((HB.out.cell (World.block_lt_of_cell? w _ hw315_1)).trans hw315_1)⟩ (fun hHeld => ?_); refine with_tabW spec_ShortestTree.tab17 spec_ShortestTree.bits17 (fun HT_ HW_ => ?_)
                     generalize w33.drew = w35 at HO_4 HB hx311_0 hx311_1 hx312_0 hx312_1 hx314_0 hx314_1 hx315_0 hx315_1 hHeld ⊢
                     refine pure_ (i := 0) (N := some 61) (v := ?_) (a' := ?_) #[true, false, false, false, false, false, false, false, false, false, false, false, false, false, false, false, false, false, false] rfl rfl (any_of HT_.out (by kernel_rfl)) (fun _ _ _ h => h) (Or.inl ⟨by rfl, ?_⟩) ?_ ?_
                     rotate_left
                     ·intro w'
                      go_simp
                      with_reducible rfl
                     rotate_left
                     ·simp only [Act.put, List.setIfInBounds_toArray, List.set_cons_zero, List.set_cons_succ, i64_w, i32_w]
                      rfl
                     refine pure_ (i := 1) (N := some 62) (v := ?_) (a' := ?_) #[true, true, false, false, false, false, false, false, false, false, false, false, false, false, false, false, false, false, false] rfl rfl (any_of HT_.out (by kernel_rfl)) (fun _ _ _ h => h) (Or.inl ⟨by rfl, ?_⟩) ?_ ?_
                     rotate_left
                     ·intro w'
                      go_simp
                      with_reducible rfl
                     rotate_left
                     ·simp only [Act.put, List.setIfInBounds_toArray, List.set_cons_zero, List.set_cons_succ, i64_w, i32_w]
                      rfl
                     refine pure_ (i := 2) (N := some 63) (v := ?_) (a' := ?_) #[true, true, true, false, false, false, false, false, false, false, false, false, false, false, false, false, false, false, false] rfl rfl (any_of HT_.out (by kernel_rfl)) (fun _ _ _ h => h) (Or.inl ⟨by rfl, ?_⟩) ?_ ?_
                     rotate_left
                     ·intro w'
                      go_simp
                      with_reducible rfl
                     rotate_left
                     ·simp only [Act.put, List.setIfInBounds_toArray, List.set_cons_zero, List.set_cons_succ, i64_w, i32_w]
                      rfl
                     refine pure_ (i := 4) (N := some 65) (v := ?_) (a' := ?_) #[true, true, true, false, true, false, false, false, false, false, false, false, false, false, false, false, false, false, false] rfl rfl (any_of HT_.out (by kernel_rfl)) (fun _ _ _ h => h) (Or.inl ⟨by rfl, ?_⟩) ?_ ?_
                     rotate_left
                     ·intro w'
                      go_simp
                      with_reducible rfl
                     rotate_left
                     ·simp only [Act.put, List.setIfInBounds_toArray, List.set_cons_zero, List.set_cons_succ, i64_w, i32_w]
                      rfl
                     refine pure_ (i := 5) (N := some 66) (v := ?_) (a' := ?_) #[true, true, true, false, true, true, false, false, false, false, false, false, false, false, false, false, false, false, false] rfl rfl (any_of HT_.out (by kernel_rfl)) (fun _ _ _ h => h) (Or.inl ⟨by rfl, ?_⟩) ?_ ?_
                     rotate_left
                     ·intro w'
                      go_simp
                      with_reducible rfl
                     rotate_left
                     ·simp only [Act.put, List.setIfInBounds_toArray, List.set_cons_zero, List.set_cons_succ, i64_w, i32_w]
                      rfl
                     refine pure_ (i := 6) (N := some 67) (v := ?_) (a' := ?_) #[true, true, true, false, true, true, true, false, false, false, false, false, false, false, false, false, false, false, false] rfl rfl (any_of HT_.out (by kernel_rfl)) (fun _ _ _ h => h) (Or.inl ⟨by rfl, ?_⟩) ?_ ?_
                     rotate_left
                     ·intro w'
                      go_simp
                      with_reducible rfl
                     rotate_left
                     ·simp only [Act.put, List.setIfInBounds_toArray, List.set_cons_zero, List.set_cons_succ, i64_w, i32_w]
                      rfl
                     refine pure_ (i := 9) (N := some 70) (v := ?_) (a' := ?_) #[true, true, true, false, true, true, true, false, false, true, false, false, false, false, false, false, false, false, false] rfl rfl (any_of HT_.out (by kernel_rfl)) (fun _ _ _ h => h) (Or.inl ⟨by rfl, ?_⟩) ?_ ?_
                     rotate_left
                     ·intro w'
                      go_simp
                      with_reducible rfl
                     rotate_left
                     ·simp only [Act.put, List.setIfInBounds_toArray, List.set_cons_zero, List.set_cons_succ, i64_w, i32_w]
                      rfl
                     refine pure_ (i := 10) (N := some 71) (v := ?_) (a' := ?_) #[true, true, true, false, true, true, true, false, false, true, true, false, false, false, false, false, false, false, false] rfl rfl (any_of HT_.out (by kernel_rfl)) (fun _ _ _ h => h) (Or.inl ⟨by rfl, ?_⟩) ?_ ?_
                     rotate_left
                     ·intro w'
                      go_simp
                      with_reducible rfl
                     rotate_left
                     ·simp only [Act.put, List.setIfInBounds_toArray, List.set_cons_zero, List.set_cons_succ, i64_w, i32_w]
                      rfl
                     refine pure_ (i := 11) (N := some 72) (v := ?_) (a' := ?_) #[true, true, true, false, true, true, true, false, false, true, true, true, false, false, false, false, false, false, false] rfl rfl (any_of HT_.out (by kernel_rfl)) (fun _ _ _ h => h) (Or.inl ⟨by rfl, ?_⟩) ?_ ?_
                     rotate_left
                     ·intro w'
                      go_simp
                      with_reducible rfl
                     rotate_left
                     ·simp only [Act.put, List.setIfInBounds_toArray, List.set_cons_zero, List.set_cons_succ, i64_w, i32_w]
                      rfl
                     refine pure_ (i := 13) (N := some 74) (v := ?_) (a' := ?_) #[true, true, true, false, true, true, true, false, false, true, true, true, false, true, false, false, false, false, false] rfl rfl (any_of HT_.out (by kernel_rfl)) (fun _ _ _ h => h) (Or.inl ⟨by rfl, ?_⟩) ?_ ?_
                     rotate_left
                     ·intro w'
                      go_simp
                      with_reducible rfl
                     rotate_left
                     ·simp only [Act.put, List.setIfInBounds_toArray, List.set_cons_zero, List.set_cons_succ, i64_w, i32_w]
                      rfl
                     refine pure_ (i := 14) (N := some 75) (v := ?_) (a' := ?_) #[true, true, true, false, true, true, true, false, false, true, true, true, false, true, true, false, false, false, false] rfl rfl (any_of HT_.out (by kernel_rfl)) (fun _ _ _ h => h) (Or.inl ⟨by rfl, ?_⟩) ?_ ?_
                     rotate_left
                     ·intro w'
                      go_simp
                      with_reducible rfl
                     rotate_left
                     ·simp only [Act.put, List.setIfInBounds_toArray, List.set_cons_zero, List.set_cons_succ, i64_w, i32_w]
                      rfl
                     refine pure_ (i := 15) (N := some 76) (v := ?_) (a' := ?_) #[true, true, true, false, true, true, true, false, false, true, true, true, false, true, true, true, false, false, false] rfl rfl (any_of HT_.out (by kernel_rfl)) (fun _ _ _ h => h) (Or.inl ⟨by rfl, ?_⟩) ?_ ?_
                     rotate_left
                     ·intro w'
                      go_simp
                      with_reducible rfl
                     rotate_left
                     ·simp only [Act.put, List.setIfInBounds_toArray, List.set_cons_zero, List.set_cons_succ, i64_w, i32_w]
                      rfl
                     refine take_ (i := 3) (N := some 64) (v := ?_) (a' := ?_) #[true, true, true, true, true, true, true, false, false, true, true, true, false, true, true, true, false, false, false] rfl rfl (take_ofW HT_.out HW_.out (by kernel_rfl)) (fun _ _ _ h => h) (Or.inl ⟨by rfl, ?_⟩) hHeld ?_ ?_
                     rotate_left
                     ·rintro w' ⟨s0, s1, s2, s3, s4, s5, s6, s7⟩
                      go_simp
                      with_reducible rfl
                     rotate_left
                     ·simp only [Act.put, List.setIfInBounds_toArray, List.set_cons_zero, List.set_cons_succ, i64_w, i32_w]
                      rfl
                     refine take_ (i := 7) (N := some 68) (v := ?_) (a' := ?_) #[true, true, true, true, true, true, true, true, false, true, true, true, false, true, true, true, false, false, false] rfl rfl (take_ofW HT_.out HW_.out (by kernel_rfl)) (fun _ _ _ h => h) (Or.inl ⟨by rfl, ?_⟩) hHeld ?_ ?_
                     rotate_left
                     ·rintro w' ⟨s0, s1, s2, s3, s4, s5, s6, s7⟩
                      go_simp
                      with_reducible rfl
                     rotate_left
                     ·simp only [Act.put, List.setIfInBounds_toArray, List.set_cons_zero, List.set_cons_succ, i64_w, i32_w]
                      rfl
                     refine take_ (i := 12) (N := some 73) (v := ?_) (a' := ?_) #[true, true, true, true, true, true, true, true, false, true, true, true, true, true, true, true, false, false, false] rfl rfl (take_ofW HT_.out HW_.out (by kernel_rfl)) (fun _ _ _ h => h) (Or.inl ⟨by rfl, ?_⟩) hHeld ?_ ?_
                     rotate_left
                     ·rintro w' ⟨s0, s1, s2, s3, s4, s5, s6, s7⟩
                      go_simp
                      with_reducible rfl
                     rotate_left
                     ·simp only [Act.put, List.setIfInBounds_toArray, List.set_cons_zero, List.set_cons_succ, i64_w, i32_w]
                      rfl
                     refine take_ (i := 16) (N := some 77) (v := ?_) (a' := ?_) #[true, true, true, true, true, true, true, true, false, true, true, true, true, true, true, true, true, false, false] rfl rfl (take_ofW HT_.out HW_.out (by kernel_rfl)) (fun _ _ _ h => h) (Or.inl ⟨by rfl, ?_⟩) hHeld ?_ ?_
                     rotate_left
                     ·rintro w' ⟨s0, s1, s2, s3, s4, s5, s6, s7⟩
                      go_simp
                      with_reducible rfl
                     rotate_left
                     ·simp only [Act.put, List.setIfInBounds_toArray, List.set_cons_zero, List.set_cons_succ, i64_w, i32_w]
                      rfl
                     refine one_ (i := 8) (N := some 69) #[true, true, true, true, true, true, true, true, true, true, true, true, true, true, true, true, true, false, false] rfl rfl (one_of HT_.out (by kernel_rfl)) (by decide) (fun K hK => ?_)
                     refine goes_ Try.func71 (by kernel_rfl) rfl #[.agg #[.int .i64 ((rd_T37 l0 t305).f0), .int .i64 ((rd_T37 l0 t305).f1)], .agg #[.int .i64 ((rd_T37 l0 t306).f0), .int .i64 ((rd_T37 l0 t306).f1)]] (by rfl) rfl rfl (by (try simp only [List.map_toArray, List.map_cons, List.map_nil]); first | done | rfl | (simp only [List.length_drop, List.length_take]; rfl)) ?_
                     with_reducible refine (spec_LengthOf.calls ((rd_T37 l0 t305).f0) ((rd_T37 l0 t305).f1) ((rd_T37 l0 t306).f0) ((rd_T37 l0 t306).f1) t313 _ A21.out).mono ?_
                     rintro e w36 ⟨rfl, hb⟩
                     refine ⟨_, rfl, ?_⟩
                     have n0_ := Aside0.mk (Kd.R_below (by (with_reducible repeat (first | apply Kd.R_alloc | apply Kd.R_drewN | apply Kd.R_drew)); exact HO_4.out) hb)
                     have n1_ := Aside0.mk (below_step (by repeat (first | (with_reducible first | exact HB.out | apply below_alloc | apply pw_below_drewN | apply below_drew1) | exact HB.out)) hb)
                     clear HO_4
                     clear HB
                     have HO_4 := n0_
                     have HB := n1_
                     clear n0_ n1_
                     (try clear hb)
                     (try clear hb2)
                     (try clear hk)
                     (try clear hi)
                     refine hK.out _ _ ⟨((HB.out.cell (World.block_lt_of_cell? w _ hw311_0)).trans hw311_0), ((HB.out.cell (World.block_lt_of_cell? w _ hw311_1)).trans hw311_1), ((HB.out.cell (World.block_lt_of_cell? w _ hw312_0)).trans hw312_0), ((HB.out.cell (World.block_lt_of_cell? w _ hw312_1)).trans hw312_1), ((HB.out.cell (World.block_lt_of_cell? w _ hw314_0)).trans hw314_0), ((HB.out.cell (World.block_lt_of_cell? w _ hw314_1)).trans hw314_1), ((HB.out.cell (World.block_lt_of_cell? w _ hw315_0)).trans hw315_0), ((HB.out.cell (World.block_lt_of_cell? w _ hw315_1)).trans hw315_1)⟩ (fun hHeld => ?_)
                     clear hK K
                     refine norm_ (a' := ?_) ?_ ?_
                     rotate_left
                     ·show Act.put _ (some 69) _ = _
                      simp only [Act.put, List.setIfInBounds_toArray, List.set_cons_zero, List.set_cons_succ, i64_w, i32_w]
                      rfl
                     refine one_ (i := 17) (N := some 78) #[true, true, true, true, true, true, true, true, true, true, true, true, true, true, true, true, true, true, false] rfl rfl (one_of HT_.out (by kernel_rfl)) (by decide) (fun K hK => ?_)
                     refine goes_ Try.func71 (by kernel_rfl) rfl #[.agg #[.int .i64 ((rd_T37 l0 t309).f0), .int .i64 ((rd_T37 l0 t309).f1)], .agg #[.int .i64 ((rd_T37 l0 t310).f0), .int .i64 ((rd_T37 l0 t310).f1)]] (by rfl) rfl rfl (by (try simp only [List.map_toArray, List.map_cons, List.map_nil]); first | done | rfl | (simp only [List.length_drop, List.length_take]; rfl)) ?_
                     with_reducible refine (spec_LengthOf.calls ((rd_T37 l0 t309).f0) ((rd_T37 l0 t309).f1) ((rd_T37 l0 t310).f0) ((rd_T37 l0 t310).f1) t316 _ A26.out).mono ?_
                     rintro e w37 ⟨rfl, hb⟩
                     refine ⟨_, rfl, ?_⟩
                     have n0_ := Aside0.mk (Kd.R_below (by (with_reducible repeat (first | apply Kd.R_alloc | apply Kd.R_drewN | apply Kd.R_drew)); exact HO_4.out) hb)
                     have n1_ := Aside0.mk (below_step (by repeat (first | (with_reducible first | exact HB.out | apply below_alloc | apply pw_below_drewN | apply below_drew1) | exact HB.out)) hb)
                     clear HO_4
                     clear HB
                     have HO_4 := n0_
                     have HB := n1_
                     clear n0_ n1_
                     (try clear hb)
                     (try clear hb2)
                     (try clear hk)
                     (try clear hi)
                     refine hK.out _ _ ⟨((HB.out.cell (World.block_lt_of_cell? w _ hw311_0)).trans hw311_0), ((HB.out.cell (World.block_lt_of_cell? w _ hw311_1)).trans hw311_1), ((HB.out.cell (World.block_lt_of_cell? w _ hw312_0)).trans hw312_0), ((HB.out.cell (World.block_lt_of_cell? w _ hw312_1)).trans hw312_1), ((HB.out.cell (World.block_lt_of_cell? w _ hw314_0)).trans hw314_0), ((HB.out.cell (World.block_lt_of_cell? w _ hw314_1)).trans hw314_1), ((HB.out.cell (World.block_lt_of_cell? w _ hw315_0)).trans hw315_0), ((HB.out.cell (World.block_lt_of_cell? w _ hw315_1)).trans hw315_1)⟩ (fun hHeld => ?_)
                     clear hK K
                     refine norm_ (a' := ?_) ?_ ?_
                     rotate_left
                     ·show Act.put _ (some 78) _ = _
                      simp only [Act.put, List.setIfInBounds_toArray, List.set_cons_zero, List.set_cons_succ, i64_w, i32_w]
                      rfl
                     refine pure_ (i := 18) (N := some 79) (v := ?_) (a' := ?_) #[true, true, true, true, true, true, true, true, true, true, true, true, true, true, true, true, true, true, true] rfl rfl (any_of HT_.out (by kernel_rfl)) (fun _ _ _ h => h) (Or.inl ⟨by rfl, ?_⟩) ?_ ?_
                     rotate_left
                     ·intro w'
                      go_simp
                      with_reducible rfl
                     rotate_left
                     ·simp only [Act.put, List.setIfInBounds_toArray, List.set_cons_zero, List.set_cons_succ, i64_w, i32_w]
                      rfl
                     refine done_ (done_of HT_.out (by kernel_rfl)) ?_
                     try go_wp2
                     go_roundg k2
                     case measure => have := HK1.out; have := HK2.out; omega
                     case rel => exact ⟨(x8_2), (wrap64 (x8_2 + 1)), (by first | rfl | (simp; done) | (simp [*]; done)), (by first | rfl | (simp; done) | (simp [*]; done)), H', ⟨by have := HK1.out; have := HK2.out; omega⟩, ⟨by (with_reducible repeat (first | apply Kd.R_alloc | apply Kd.R_drewN | apply Kd.R_drew)); exact HO_4.out⟩, ⟨by repeat (first | (with_reducible first | exact HB.out | apply below_alloc | apply pw_below_drewN | apply below_drew1) | exact HB.out)⟩⟩
                   ·rw [if_neg c25] at H
                    exact absurd H (by simp)
                  ·rw [if_neg c24] at H
                   exact absurd H (by simp)
                 ·rw [if_neg c23] at H
                  exact absurd H (by simp)
                ·rw [if_neg c22] at H
                 exact absurd H (by simp)
               ·rw [if_neg c20] at H
                exact absurd H (by simp)
              ·rw [if_neg c19] at H
               exact absurd H (by simp)
             ·rw [if_neg c17] at H
              have c17b0 : decide (0 ≤ x7_2) = false := decide_eq_false c17
              clear c17
              have H' := Aside0.mk H
              clear H
              try go_wp2_with (first | ((with_reducible refine gate_callee (f := 70) rfl ?_); refine goesL_ (some 41) rfl rfl Try.func70 (by kernel_rfl) rfl #[.int .i64 (l0.length : Int), .int .i64 x8_2] rfl (by (try simp only [List.map_toArray, List.map_cons, List.map_nil]); first | done | rfl | (simp only [List.length_drop, List.length_take]; rfl)) ?_; (with_reducible refine (spec_EdgeAt.calls k2 (l0.length : Int) x8_2 t305 t306 _ A9.out).mono ?_); rintro e w' ⟨rfl, ⟨nd, rfl⟩⟩; refine ⟨_, rfl, ?_⟩))
              (try (rw [drewN_self wr]; generalize hq_ : World.drewN wr _ = wr; have n0_ : Aside0 (Kd.R (Kd.int .i64) 3 wr w.heap.size (fun _ => True) v303 x4_1) := ⟨by rw [← hq_]; exact (by (with_reducible repeat (first | apply Kd.R_alloc | apply Kd.R_drewN | apply Kd.R_drew)); exact HO_4.out)⟩; have n1_ : Aside0 (Below w.heap.size w wr) := ⟨by rw [← hq_]; exact (by repeat (first | (with_reducible first | exact HB.out | apply below_alloc | apply pw_below_drewN | apply below_drew1) | exact HB.out))⟩; clear HO_4 HB hq_; have HO_4 := n0_; have HB := n1_; clear n0_ n1_))
              have n0_ := Aside0.mk (Kd.R_drew HO_4.out)
              have n1_ := Aside0.mk (below_drew1 HB.out)
              clear HO_4
              clear HB
              have HO_4 := n0_
              have HB := n1_
              clear n0_ n1_
              obtain ⟨Ao39, co39, eo39⟩ := Kd.R_slice HO_4.out
              (first | subst eo39 | (injection eo39 with f1_ f2_ f3_; have f4_ := f1_.symm; have f5_ := f3_.symm; clear f1_ f2_ f3_; subst f4_; subst f5_))
              have p307 : 0 ≤ (t305 : Int) := of_decide_eq_true (by first | (with_reducible assumption) | assumption)
              have q307 : t305 < (x4_1.length : Int) := of_decide_eq_true (by first | (with_reducible assumption) | assumption)
              obtain ⟨ad307, e307, hx307_0⟩ := Kd.at_int (Kd.R_reads' HO_4.out).2.2 t305 p307 q307
              cases e307
              replace p307 := eq_true p307
              replace q307 := eq_true q307
              have p308 : 0 ≤ (t306 : Int) := of_decide_eq_true (by first | (with_reducible assumption) | assumption)
              have q308 : t306 < (x4_1.length : Int) := of_decide_eq_true (by first | (with_reducible assumption) | assumption)
              obtain ⟨ad308, e308, hx308_0⟩ := Kd.at_int (Kd.R_reads' HO_4.out).2.2 t306 p308 q308
              obtain rfl : ad307 = ad308 := (by injection e308)
              replace p308 := eq_true p308
              replace q308 := eq_true q308
              refine start_ (n := 9) (S := fun w' => w'.cell? (ad307.add (t305).toNat) = some (.int .i64 (rd x4_1 t305)) ∧ w'.cell? (ad307.add (t306).toNat) = some (.int .i64 (rd x4_1 t306))) (ds := []) #[false, false, false, false, false, false, false, false, false] (by kernel_rfl) rfl rfl ⟨hx307_0, hx308_0⟩ (fun hHeld => ?_); refine with_tabW spec_ShortestTree.tab14 spec_ShortestTree.bits14 (fun HT_ HW_ => ?_)
              generalize wr.drew = w38 at HO_4 HB hx307_0 hx308_0 hHeld ⊢
              refine pure_ (i := 0) (N := some 44) (v := ?_) (a' := ?_) #[true, false, false, false, false, false, false, false, false] rfl rfl (any_of HT_.out (by kernel_rfl)) (fun _ _ _ h => h) (Or.inl ⟨by rfl, ?_⟩) ?_ ?_
              rotate_left
              ·intro w'
               go_simp
               with_reducible rfl
              rotate_left
              ·simp only [Act.put, List.setIfInBounds_toArray, List.set_cons_zero, List.set_cons_succ, i64_w, i32_w]
               rfl
              refine pure_ (i := 1) (N := some 45) (v := ?_) (a' := ?_) #[true, true, false, false, false, false, false, false, false] rfl rfl (any_of HT_.out (by kernel_rfl)) (fun _ _ _ h => h) (Or.inl ⟨by rfl, ?_⟩) ?_ ?_
              rotate_left
              ·intro w'
               go_simp
               with_reducible rfl
              rotate_left
              ·simp only [Act.put, List.setIfInBounds_toArray, List.set_cons_zero, List.set_cons_succ, i64_w, i32_w]
               rfl
              refine pure_ (i := 2) (N := some 46) (v := ?_) (a' := ?_) #[true, true, true, false, false, false, false, false, false] rfl rfl (any_of HT_.out (by kernel_rfl)) (fun _ _ _ h => h) (Or.inl ⟨by rfl, ?_⟩) ?_ ?_
              rotate_left
              ·intro w'
               go_simp
               with_reducible rfl
              rotate_left
              ·simp only [Act.put, List.setIfInBounds_toArray, List.set_cons_zero, List.set_cons_succ, i64_w, i32_w]
               rfl
              refine pure_ (i := 4) (N := some 48) (v := ?_) (a' := ?_) #[true, true, true, false, true, false, false, false, false] rfl rfl (any_of HT_.out (by kernel_rfl)) (fun _ _ _ h => h) (Or.inl ⟨by rfl, ?_⟩) ?_ ?_
              rotate_left
              ·intro w'
               go_simp
               with_reducible rfl
              rotate_left
              ·simp only [Act.put, List.setIfInBounds_toArray, List.set_cons_zero, List.set_cons_succ, i64_w, i32_w]
               rfl
              refine pure_ (i := 5) (N := some 49) (v := ?_) (a' := ?_) #[true, true, true, false, true, true, false, false, false] rfl rfl (any_of HT_.out (by kernel_rfl)) (fun _ _ _ h => h) (Or.inl ⟨by rfl, ?_⟩) ?_ ?_
              rotate_left
              ·intro w'
               go_simp
               with_reducible rfl
              rotate_left
              ·simp only [Act.put, List.setIfInBounds_toArray, List.set_cons_zero, List.set_cons_succ, i64_w, i32_w]
               rfl
              refine pure_ (i := 6) (N := some 50) (v := ?_) (a' := ?_) #[true, true, true, false, true, true, true, false, false] rfl rfl (any_of HT_.out (by kernel_rfl)) (fun _ _ _ h => h) (Or.inl ⟨by rfl, ?_⟩) ?_ ?_
              rotate_left
              ·intro w'
               go_simp
               with_reducible rfl
              rotate_left
              ·simp only [Act.put, List.setIfInBounds_toArray, List.set_cons_zero, List.set_cons_succ, i64_w, i32_w]
               rfl
              refine take_ (i := 3) (N := some 47) (v := ?_) (a' := ?_) #[true, true, true, true, true, true, true, false, false] rfl rfl (take_ofW HT_.out HW_.out (by kernel_rfl)) (fun _ _ _ h => h) (Or.inl ⟨by rfl, ?_⟩) hHeld ?_ ?_
              rotate_left
              ·rintro w' ⟨s0, s1⟩
               go_simp
               with_reducible rfl
              rotate_left
              ·simp only [Act.put, List.setIfInBounds_toArray, List.set_cons_zero, List.set_cons_succ, i64_w, i32_w]
               rfl
              refine take_ (i := 7) (N := some 51) (v := ?_) (a' := ?_) #[true, true, true, true, true, true, true, true, false] rfl rfl (take_ofW HT_.out HW_.out (by kernel_rfl)) (fun _ _ _ h => h) (Or.inl ⟨by rfl, ?_⟩) hHeld ?_ ?_
              rotate_left
              ·rintro w' ⟨s0, s1⟩
               go_simp
               with_reducible rfl
              rotate_left
              ·simp only [Act.put, List.setIfInBounds_toArray, List.set_cons_zero, List.set_cons_succ, i64_w, i32_w]
               rfl
              refine pure_ (i := 8) (N := some 52) (v := ?_) (a' := ?_) #[true, true, true, true, true, true, true, true, true] rfl rfl (any_of HT_.out (by kernel_rfl)) (fun _ _ _ h => h) (Or.inl ⟨by rfl, ?_⟩) ?_ ?_
              rotate_left
              ·intro w'
               go_simp
               with_reducible rfl
              rotate_left
              ·simp only [Act.put, List.setIfInBounds_toArray, List.set_cons_zero, List.set_cons_succ, i64_w, i32_w]
               rfl
              refine done_ (done_of HT_.out (by kernel_rfl)) ?_
              try go_wp2
              go_roundg k2
              case measure => have := HK1.out; have := HK2.out; omega
              case rel => exact ⟨(x8_2), (wrap64 (x8_2 + 1)), (by first | rfl | (simp; done) | (simp [*]; done)), (by first | rfl | (simp; done) | (simp [*]; done)), H', ⟨by have := HK1.out; have := HK2.out; omega⟩, ⟨by (with_reducible repeat (first | apply Kd.R_alloc | apply Kd.R_drewN | apply Kd.R_drew)); exact HO_4.out⟩, ⟨by repeat (first | (with_reducible first | exact HB.out | apply below_alloc | apply pw_below_drewN | apply below_drew1) | exact HB.out)⟩⟩
           ·rw [if_neg c13] at H
            exact absurd H (by simp)
          ·rw [if_neg c12] at H
           exact absurd H (by simp)
         ·rw [if_neg c11] at H
          exact absurd H (by simp)
        ·rw [if_neg c10] at H
         exact absurd H (by simp)
       ·rw [if_neg c8] at H
        have c8b0 : decide (x8_2 < (wrap64 (Int.tdiv (wrap64 ((l0.length : Int) * (wrap64 ((l0.length : Int) - 1)))) 2))) = false := decide_eq_false c8
        clear c8
        replace H := Option.bind_eq_some_iff.mp H
        obtain ⟨⟨t317, t318⟩, A400, H⟩ := H
        replace H : (if 0 ≤ t318 then (if t318 < (x4_1.length : Int) then (spec_ShortestTree.l2 k2 l0 (l0.length : Int) x4_1 x5_1 x6_1 x7_2 t317 (rd x4_1 t318) 0) else (none)) else (none)) = some r := H
        have A40 := Aside0.mk A400
        clear A400
        by_cases c41 : 0 ≤ t318
        ·rw [if_pos c41] at H
         have c41b0 : decide (0 ≤ t318) = true := decide_eq_true c41
         clear c41
         by_cases c42 : t318 < (x4_1.length : Int)
         ·rw [if_pos c42] at H
          have c42b0 : decide (t318 < (x4_1.length : Int)) = true := decide_eq_true c42
          clear c42
          have H' := Aside0.mk H
          clear H
          go_wp2_with (first | ((with_reducible refine gate_callee (f := 70) rfl ?_); refine goesL_ (some 84) rfl rfl Try.func70 (by kernel_rfl) rfl #[.int .i64 (l0.length : Int), .int .i64 x7_2] rfl (by (try simp only [List.map_toArray, List.map_cons, List.map_nil]); first | done | rfl | (simp only [List.length_drop, List.length_take]; rfl)) ?_; (with_reducible refine (spec_EdgeAt.calls k2 (l0.length : Int) x7_2 t317 t318 _ A40.out).mono ?_); rintro e w' ⟨rfl, ⟨nd, rfl⟩⟩; refine ⟨_, rfl, ?_⟩; obtain ⟨Ao43, co43, eo43⟩ := Kd.R_slice HO_4.out; subst eo43; have p319 : 0 ≤ (t318 : Int) := of_decide_eq_true (by first | (with_reducible assumption) | assumption); have q319 : t318 < (x4_1.length : Int) := of_decide_eq_true (by first | (with_reducible assumption) | assumption); obtain ⟨ad319, e319, hx319_0⟩ := Kd.at_int (Kd.R_reads' HO_4.out).2.2 t318 p319 q319; cases e319; obtain ⟨gx, cx, ex, _, _, _, _⟩ := Kd.R_form HO_4.out (by omega); cases ex; simp only [add_plain] at hx319_0; replace p319 := eq_true p319; replace q319 := eq_true q319))
          go_loopg [16] k2 (fun kq v16 w' => ∃ (x4_3 : List Int) (x16_3 : Int), v16 = .int .i64 x16_3 ∧ Aside0 (spec_ShortestTree.l2 kq l0 (l0.length : Int) x4_3 x5_1 x6_1 x7_2 t317 (rd x4_1 t318) x16_3 = some r) ∧ Aside0 (kq ≤ k2) ∧ Aside0 (Kd.R (Kd.int .i64) 3 w' w.heap.size (fun _ => True) (.slice (some ⟨gx, 0, none⟩) x4_1.length co43) x4_3) ∧ Aside0 (Below w.heap.size w w'))
          case atStart => exact ⟨(x4_1), (0), (by first | rfl | (simp; done) | (simp [*]; done)), H', ⟨Nat.le_refl _⟩, ⟨by (with_reducible repeat (first | apply Kd.R_alloc | apply Kd.R_drewN | apply Kd.R_drew)); exact HO_4.out⟩, ⟨by repeat (first | (with_reducible first | exact HB.out | apply below_alloc | apply pw_below_drewN | apply below_drew1) | exact HB.out)⟩⟩
          case round =>
           clear H'
           try clear c1
           try clear c2
           try clear p2
           try clear p3
           try clear q3
           try clear hx3
           try clear c4
           try clear p6
           try clear c7
           try clear c8
           try clear c8b0
           try clear c10
           try clear c11
           try clear c12
           try clear c13
           try clear c17
           try clear c17b0
           try clear c19
           try clear c20
           try clear c22
           try clear c23
           try clear c24
           try clear c25
           try clear c27
           try clear c27b0
           try clear p30
           try clear q30
           try clear hx30
           try clear p31
           try clear q31
           try clear hx31
           try clear c41
           try clear c41b0
           try clear c42
           try clear c42b0
           try clear hx307_0
           try clear hx308_0
           try clear hx311_0
           try clear hx311_1
           try clear hx312_0
           try clear hx312_1
           try clear hx314_0
           try clear hx314_1
           try clear hx315_0
           try clear hx315_1
           try clear hx319_0
           try clear p307
           try clear p308
           try clear p311
           try clear p312
           try clear p314
           try clear p315
           try clear p319
           try clear q307
           try clear q308
           try clear q311
           try clear q312
           try clear q314
           try clear q315
           try clear q319
           obtain ⟨x4_3, x16_3, rfl, HA, HK3, HO_4, HB⟩ := hrel
           have hl4_3 := (Kd.R_reads' HO_4.out).1
           rw [hl4_3] at HO_4
           (try simp only [hl4_3])
           cases gk with
           | zero => exact absurd HA.out (by simp [spec_ShortestTree.l2])
           | succ k3 =>
            have H := HA.out
            clear HA
            simp only [spec_ShortestTree.l2] at H
            by_cases c44 : x16_3 < (l0.length : Int)
            ·rw [if_pos c44] at H
             have c44b0 : decide (x16_3 < (l0.length : Int)) = true := decide_eq_true c44
             clear c44
             by_cases c45 : 0 ≤ x16_3
             ·rw [if_pos c45] at H
              have c45b0 : decide (0 ≤ x16_3) = true := decide_eq_true c45
              clear c45
              by_cases c46 : x16_3 < (x4_3.length : Int)
              ·rw [if_pos c46] at H
               have c46b0 : decide (x16_3 < (x4_3.length : Int)) = true := decide_eq_true c46
               clear c46
               by_cases c47 : (rd x4_3 x16_3) = (rd x4_1 t318)
               ·rw [if_pos c47] at H
                have c47b0 : ((rd x4_3 x16_3) == (rd x4_1 t318)) = true := beq_iff_eq.mpr c47
                have c47b1 : ((rd x4_3 x16_3) != (rd x4_1 t318)) = false := bne_eq_false_iff_eq.mpr c47
                clear c47
                by_cases c48 : 0 ≤ t317
                ·rw [if_pos c48] at H
                 have c48b0 : decide (0 ≤ t317) = true := decide_eq_true c48
                 clear c48
                 by_cases c49 : t317 < (x4_3.length : Int)
                 ·rw [if_pos c49] at H
                  have c49b0 : decide (t317 < (x4_3.length : Int)) = true := decide_eq_true c49
                  clear c49
                  obtain ⟨y322, hy322⟩ : ∃ y_ : List Int, y_ = (x4_3.set (x16_3 : Int).toNat (rd x4_3 t317)) := ⟨_, rfl⟩
                  replace H : (spec_ShortestTree.l2 k3 l0 (l0.length : Int) y322 x5_1 x6_1 x7_2 t317 (rd x4_1 t318) (wrap64 (x16_3 + 1))) = some r := by first | (rw [hy322]; with_reducible exact H) | (have H2_ := (Option.bind_some _ _).symm.trans H; rw [hy322]; with_reducible exact H2_) | (have H2_ := (Option.bind_some _ _).symm.trans H; with_reducible exact H2_) | with_reducible exact H | (rw [hy322]; exact H) | exact H
                  have Ny322 := Aside0.mk hy322
                  clear hy322
                  have H' := Aside0.mk H
                  clear H
                  have p320 : 0 ≤ (x16_3 : Int) := of_decide_eq_true (by first | (with_reducible assumption) | assumption)
                  have q320 : x16_3 < (x4_3.length : Int) := of_decide_eq_true (by first | (with_reducible assumption) | assumption)
                  obtain ⟨ad320, e320, hx320_0⟩ := Kd.at_int (Kd.R_reads' HO_4.out).2.2 x16_3 p320 q320
                  obtain rfl : (⟨gx, 0, none⟩ : Addr) = ad320 := (by injection e320)
                  (try simp only [add_plain] at hx320_0)
                  replace p320 := eq_true p320
                  replace q320 := eq_true q320
                  have p321 : 0 ≤ (t317 : Int) := of_decide_eq_true (by first | (with_reducible assumption) | assumption)
                  have q321 : t317 < (x4_3.length : Int) := of_decide_eq_true (by first | (with_reducible assumption) | assumption)
                  obtain ⟨ad321, e321, hx321_0⟩ := Kd.at_int (Kd.R_reads' HO_4.out).2.2 t317 p321 q321
                  obtain rfl : (⟨gx, 0, none⟩ : Addr) = ad321 := (by injection e321)
                  (try simp only [add_plain] at hx321_0)
                  replace p321 := eq_true p321
                  replace q321 := eq_true q321
                  have p50 : 0 ≤ (x16_3 : Int) := of_decide_eq_true (by first | (with_reducible assumption) | assumption)
                  have q50 : (x16_3 : Int) < ((x4_3.length : Int) : Int) := of_decide_eq_true (by first | (with_reducible assumption) | assumption)
                  obtain ⟨go50, co50, eo50, gb50, gl50, cl50, HG50⟩ := Kd.R_form HO_4.out (by omega)
                  (first | cases eo50 | (injection eo50 with ea_ en_ ec_; (first | subst ea_ | (injection ea_ with ea_; subst ea_)); subst ec_; clear en_))
                  have GB50 := Aside0.mk gb50
                  have GG50 := Aside0.mk HG50
                  clear gb50 gl50 HG50
                  (first | simp only [add_plain] at hx319_0 | skip)
                  (first | simp only [add_plain] at hx320_0 | skip)
                  (first | simp only [add_plain] at hx321_0 | skip)
                  obtain ⟨hx50_0, hf50_0⟩ := Kd.R_celln 0 HO_4.out (x16_3 : Int) p50 q50
                  replace p50 := eq_true p50
                  replace q50 := eq_true q50
                  have HP51 := Kd.R_putg HO_4.out (x16_3 : Int) (rd x4_3 t317)
                  go_wp2_with (first | ((with_reducible refine gate_store (t := 3) (p := 108) rfl ?_); refine store_event (t := 3) (p := 108) (v := ?vo_w52) (w1 := (wr.setCell ⟨gx, (x16_3 : Int).toNat, none⟩ (.int .i64 (rd x4_3 t317)))) ?hg ?ho ?hn ?hr ?_; (case ho => rfl); (case hg => rfl); (case hn => rfl); (case hr => first | (go_simp; done) | (go_simp; rfl)); intro w52 hw; have hg : wr.grownBy w52 (some gx) := (by rw [hw]; exact HP51.2); have hp_ : Kd.R (Kd.int .i64) 3 w52 w.heap.size (fun _ => True) (.slice (some ⟨gx, 0, none⟩) x4_3.length co43) y322 := (by rw [hw, Ny322.out]; exact HP51.1); clear HP51; have n0_ := Aside0.mk (hp_); have n1_ := Aside0.mk ((by rw [hw]; exact below_set (HB.out) GB50.out : Below w.heap.size w w52)); clear HO_4; clear HB; have HO_4 := n0_; have HB := n1_; clear n0_ n1_; clear hg hw hp_))
                  (try simp only [← hl4_3])
                  go_roundg k3
                  case measure => have := HK1.out; have := HK2.out; have := HK3.out; omega
                  case rel => exact ⟨(y322), (wrap64 (x16_3 + 1)), (by first | rfl | (simp; done) | (simp [*]; done)), H', ⟨by have := HK1.out; have := HK2.out; have := HK3.out; omega⟩, ⟨by (try simp only [hl4_3]); (with_reducible repeat (first | apply Kd.R_alloc | apply Kd.R_drewN | apply Kd.R_drew)); exact HO_4.out⟩, ⟨by repeat (first | (with_reducible first | exact HB.out | apply below_alloc | apply pw_below_drewN | apply below_drew1) | exact HB.out)⟩⟩
                 ·rw [if_neg c49] at H
                  exact absurd H (by simp)
                ·rw [if_neg c48] at H
                 exact absurd H (by simp)
               ·rw [if_neg c47] at H
                have c47b0 : ((rd x4_3 x16_3) == (rd x4_1 t318)) = false := beq_eq_false_iff_ne.mpr c47
                have c47b1 : ((rd x4_3 x16_3) != (rd x4_1 t318)) = true := bne_iff_ne.mpr c47
                have H' := Aside0.mk H
                clear H
                have p320 : 0 ≤ (x16_3 : Int) := of_decide_eq_true (by first | (with_reducible assumption) | assumption)
                have q320 : x16_3 < (x4_3.length : Int) := of_decide_eq_true (by first | (with_reducible assumption) | assumption)
                obtain ⟨ad320, e320, hx320_0⟩ := Kd.at_int (Kd.R_reads' HO_4.out).2.2 x16_3 p320 q320
                obtain rfl : (⟨gx, 0, none⟩ : Addr) = ad320 := (by injection e320)
                (try simp only [add_plain] at hx320_0)
                replace p320 := eq_true p320
                replace q320 := eq_true q320
                go_wp2
                (try simp only [← hl4_3])
                go_roundg k3
                case measure => have := HK1.out; have := HK2.out; have := HK3.out; omega
                case rel => exact ⟨(x4_3), (wrap64 (x16_3 + 1)), (by first | rfl | (simp; done) | (simp [*]; done)), H', ⟨by have := HK1.out; have := HK2.out; have := HK3.out; omega⟩, ⟨by (try simp only [hl4_3]); (with_reducible repeat (first | apply Kd.R_alloc | apply Kd.R_drewN | apply Kd.R_drew)); exact HO_4.out⟩, ⟨by repeat (first | (with_reducible first | exact HB.out | apply below_alloc | apply pw_below_drewN | apply below_drew1) | exact HB.out)⟩⟩
              ·rw [if_neg c46] at H
               exact absurd H (by simp)
             ·rw [if_neg c45] at H
              exact absurd H (by simp)
            ·rw [if_neg c44] at H
             have c44b0 : decide (x16_3 < (l0.length : Int)) = false := decide_eq_false c44
             clear c44
             obtain ⟨ji53, hji53⟩ : ∃ j_ : Int, (IntKind.u64.wrap (x7_2)) = j_ := ⟨_, rfl⟩
             replace H : (if 0 ≤ (ji53) then (spec_ShortestTree.l0 k3 l0 (l0.length : Int) x4_3 (wrap64 (x5_1 + (shl .i64 1 (ji53)))) (wrap64 (x6_1 + 1))) else (none)) = some r := by first | (rw [hji53] at H; exact H) | (simp only [hji53] at H ⊢; exact H)
             by_cases c54 : 0 ≤ (ji53)
             ·rw [if_pos c54] at H
              have c54b0 := eq_true c54
              have c54b1 : decide (0 ≤ (ji53)) = true := decide_eq_true c54
              clear c54
              obtain ⟨ji55, hji55⟩ : ∃ j_ : Int, (shl .i64 1 (ji53)) = j_ := ⟨_, rfl⟩
              replace H : (spec_ShortestTree.l0 k3 l0 (l0.length : Int) x4_3 (wrap64 (x5_1 + (ji55))) (wrap64 (x6_1 + 1))) = some r := by first | (rw [hji55] at H; exact H) | (simp only [hji55] at H ⊢; exact H)
              have hji55_ : (IntKind.i64.wrap (1 * 2 ^ min (ji53).toNat 64)) = ji55 := hji55
              have hji55z : (ji53) ≤ 64 → (IntKind.i64.wrap (1 * 2 ^ (ji53).toNat)) = ji55 := shl_small hji55
              have hji55u : (IntKind.i64.wrap (2 ^ min (ji53).toNat 64)) = ji55 := by have h_ := hji55_; rw [Int.one_mul] at h_; exact h_
              have hji55v : (ji53) ≤ 64 → (IntKind.i64.wrap (2 ^ (ji53).toNat)) = ji55 := fun hle_ => by have h_ := hji55z hle_; rw [Int.one_mul] at h_; exact h_
              have hji55y : (wrap64 (1 * 2 ^ min (ji53).toNat 64)) = ji55 := (i64_w _).symm.trans hji55_
              have hji55x : (ji53) ≤ 64 → (wrap64 (1 * 2 ^ (ji53).toNat)) = ji55 := fun h_ => (i64_w _).symm.trans (hji55z h_)
              have H' := Aside0.mk H
              clear H
              go_wp2
              (try simp only [← hl4_3])
              go_roundg k3
              case measure => have := HK1.out; have := HK2.out; have := HK3.out; omega
              case rel => exact ⟨(x4_3), (wrap64 (x5_1 + (ji55))), (wrap64 (x6_1 + 1)), (by first | rfl | (simp; done) | (simp only [← hji55] <;> (first | rfl | simp)) | (simp [*]; done)), (by first | rfl | (simp; done) | (simp [*]; done)), H', ⟨by have := HK1.out; have := HK2.out; have := HK3.out; omega⟩, ⟨by (try simp only [hl4_3]); (with_reducible repeat (first | apply Kd.R_alloc | apply Kd.R_drewN | apply Kd.R_drew)); exact HO_4.out⟩, ⟨by repeat (first | (with_reducible first | exact HB.out | apply below_alloc | apply pw_below_drewN | apply below_drew1) | exact HB.out)⟩⟩
             ·rw [if_neg c54] at H
              exact absurd H (by simp)
         ·rw [if_neg c42] at H
          exact absurd H (by simp)
        ·rw [if_neg c41] at H
         exact absurd H (by simp)
    ·rw [if_neg c7] at H
     have c7b0 : decide (x6_1 < (l0.length : Int)) = false := decide_eq_false c7
     clear c7
     obtain rfl := Option.some.inj H
     go_wp2
     go_ret
     exact ⟨by first | rfl | (simp [errW_none, errW_some] <;> rfl) | (simp [*, errW_none, errW_some] <;> rfl), by repeat (first | (with_reducible first | exact HB.out | apply below_alloc | apply pw_below_drewN | apply below_drew1) | exact HB.out)⟩
 ·replace c3 := Bool.eq_false_iff.mpr c3
  subst c3
  have H1 : (some 0) = some r := by rw [if_neg (show ¬ (false = true) by decide)] at H; exact H
  clear H
  have H := H1
  clear H1
  obtain rfl := Option.some.inj H
  go_enter Try.func29, Try.ntmps29
  go_wp2_with (first | ((with_reducible refine gate_callee (f := 68) rfl ?_); refine goesL_ (some 18) rfl rfl Try.func68 (by kernel_rfl) rfl #[.slice A0 l0.length c0] rfl (by (try simp only [List.map_toArray, List.map_cons, List.map_nil]); first | done | rfl | (simp only [List.length_drop, List.length_take]; rfl)) ?_; (with_reducible refine (spec_ArePoints.calls k _ _ l0 false _ ?side1 ?side2 A2.out).mono ?_); (case side1 => repeat (first | exact HR0.out | (with_reducible refine Kd.C_alloc ?_ _) | (with_reducible refine Kd.C_drewN ?_ _) | (with_reducible refine Kd.C_drew ?_))); (case side2 => exact HC0.out); rintro e w56 ⟨rfl, hb⟩; refine ⟨_, rfl, ?_⟩; have n0_ := Aside0.mk (below_step (by repeat (first | (with_reducible first | exact HB.out | apply below_alloc | apply pw_below_drewN | apply below_drew1) | exact HB.out)) hb); clear HB; have HB := n0_; clear n0_; (try clear hb); (try clear hb2); (try clear hk); (try clear hi)))
  go_ret
  exact ⟨by first | rfl | (simp [errW_none, errW_some] <;> rfl) | (simp [*, errW_none, errW_some] <;> rfl), by repeat (first | (with_reducible first | exact HB.out | apply below_alloc | apply pw_below_drewN | apply below_drew1) | exact HB.out)⟩
end Go.Proofs.Ytpmjjldocjopmaa.Pr
/- The program's shortest tree is the reference's. -/
namespace Go.Proofs.Ytpmjjldocjopmaa.Pr
set_option linter.unusedVariables false
set_option linter.unusedSimpArgs false
open Go.RowKit Go.Proofs.YtpmjjldocjopmaaW.PrintWords Go.Proofs.YtpmjjldocjopmaaW.PrintLast Go.Proofs.YtpmjjldocjopmaaW.PrintMore Go.Proofs.Ytpmjjldocjopmaa
/-- The pairs of n elements. -/
def EL (n : Nat) : List S77 := (impl_edgesOf.f 200 n).getD []
def em (n : Nat) : Nat := n * (n - 1) / 2
def ed (n : Nat) (x : Nat) : S77 := rd_T77 (EL n) (x : Int)
def e0 (n x : Nat) : Nat := (ed n x).f0.toNat
def e1 (n x : Nat) : Nat := (ed n x).f1.toNat
def ELok (n : Nat) : Bool := decide ((EL n).length = em n) && (impl_edgesOf.f 200 n).isSome && (List.range (em n)).all (fun x => decide (0 ≤ (ed n x).f0 ∧ (ed n x).f0 < (ed n x).f1 ∧ (ed n x).f1 < n) && decide (spec_EdgeAt.f 300 n x = some ((ed n x).f0, (ed n x).f1))) &&
 (List.range n).all (fun j => (List.range j).all fun i => (List.range (em n)).any fun x => decide (e0 n x = i ∧ e1 n x = j)) && decide (impl_upTo.f 100 n = some (up 0 n)) && decide (spec_l12Start.f 100 n = some (up 0 n)) && decide (impl_upTo.f 100 (em n : Nat) = some (up 0 (em n))) && (decide (em n < 20) || decide (em n = 21)) && decide (1 ≤ em n)
theorem EL_ok (n : Nat) (h0 : 3 ≤ n) (h1 : n ≤ 7) : ELok n = true := by
 obtain rfl | rfl | rfl | rfl | rfl : n = 3 ∨ n = 4 ∨ n = 5 ∨ n = 6 ∨ n = 7 := by omega
 all_goals decide +kernel
theorem sq_bd (x : Int) (h0 : -100 ≤ x) (h1 : x ≤ 100) : 0 ≤ x * x ∧ x * x ≤ 10000 := by
 have a := Int.mul_nonneg (a := 100 - x) (b := 100 + x) (by omega) (by omega)
 have e : (100 - x) * (100 + x) = 10000 - x * x := by grind
 rw [e] at a
 refine ⟨?_, by omega⟩
 rcases Int.le_total 0 x with h | h
 ·exact Int.mul_nonneg h h
 ·have := Int.mul_nonneg (a := -x) (b := -x) (by omega) (by omega)
  rw [Int.neg_mul_neg] at this
  exact this
theorem len_bd {a b : Pt} (ha : fit 50 a = true) (hb : fit 50 b = true) : 0 ≤ lengthB a b ∧ lengthB a b ≤ 20000 := by
 unfold fit at ha hb
 simp only [Bool.and_eq_true, decide_eq_true_eq] at ha hb
 have s0 := sq_bd (a.f0 - b.f0) (by omega) (by omega)
 have s1 := sq_bd (a.f1 - b.f1) (by omega) (by omega)
 unfold lengthB
 rw [w_fit (n := a.f0 - b.f0) (by omega) (by omega), w_fit (n := a.f1 - b.f1) (by omega) (by omega)]
 rw [w_fit (n := (a.f0 - b.f0) * (a.f0 - b.f0)) (by omega) (by omega), w_fit (n := (a.f1 - b.f1) * (a.f1 - b.f1)) (by omega) (by omega)]
 rw [w_fit (by omega) (by omega)]
 omega
theorem lengthOf_f {a b : Pt} (ha : fit 50 a = true) (hb : fit 50 b = true) : spec_LengthOf.f a.f0 a.f1 b.f0 b.f1 = some (lengthB a b) := by
 unfold spec_LengthOf.f
 rw [l2Fits_f 1000 (by omega) (by omega) a, l2Fits_f 1000 (by omega) (by omega) b, fit_mono (by omega) ha, fit_mono (by omega) hb]
 rfl
theorem or_bit (o y : Nat) (h : o.testBit y = false) : o + 2 ^ y = o ||| 2 ^ y := by
 have hr : o % 2 ^ (y + 1) < 2 ^ y := by
  rw [Nat.testBit_eq_decide_div_mod_eq] at h
  simp only [decide_eq_false_iff_not] at h
  rw [Nat.mod_pow_succ]
  have : o / 2 ^ y % 2 = 0 := by omega
  rw [this, Nat.mul_zero, Nat.add_zero]
  exact Nat.mod_lt _ (Nat.two_pow_pos y)
 have hd := Nat.div_add_mod o (2 ^ (y + 1))
 have hp : 2 ^ (y + 1) = 2 ^ y * 2 := Nat.pow_succ 2 y
 generalize hq : o / 2 ^ (y + 1) = q at hd
 generalize hr' : o % 2 ^ (y + 1) = r at hd hr
 have k1 : 2 ^ (y + 1) * q + (r + 2 ^ y) = 2 ^ (y + 1) * q ||| (r + 2 ^ y) := Nat.two_pow_add_eq_or_of_lt (by omega) q
 have k2 : 2 ^ (y + 1) * q + r = 2 ^ (y + 1) * q ||| r := Nat.two_pow_add_eq_or_of_lt (by omega) q
 have k3 : 2 ^ y * 1 + r = 2 ^ y * 1 ||| r := Nat.two_pow_add_eq_or_of_lt hr 1
 rw [Nat.mul_one] at k3
 rw [← hd, Nat.add_assoc, k1, k2, Nat.or_assoc, Nat.add_comm r, k3, Nat.or_comm r]
theorem bit_keep (o y x : Nat) (h : o.testBit y = false) (hx : o.testBit x = false) (hne : y ≠ x) : (o + 2 ^ y).testBit x = false := by
 rw [or_bit o y h, Nat.testBit_or, hx, Nat.testBit_two_pow]
 simp [hne]
theorem shl_one (x : Nat) (hx : x ≤ 40) : shl .i64 1 (x : Int) = ((2 ^ x : Nat) : Int) := by
 have hp : 2 ^ x ≤ 2 ^ 40 := Nat.pow_le_pow_right (by omega) hx
 unfold shl
 rw [i64_w, Int.one_mul, Int.toNat_natCast, show min x IntKind.i64.bits = x from Nat.min_eq_left (by show x ≤ 64; omega)]
 have e : ((2 : Int) ^ x) = ((2 ^ x : Nat) : Int) := by simp
 rw [e]
 generalize 2 ^ x = q at hp
 exact w_fit (by omega) (by omega)
theorem bits_or (o x : Nat) (ho : o ≤ 2000000000000) (hx : x ≤ 40) (h : o.testBit x = false) : Go.bits .or .i64 (o : Int) (shl .i64 1 (x : Int)) = ((o + 2 ^ x : Nat) : Int) := by
 have hp : 2 ^ x ≤ 2 ^ 40 := Nat.pow_le_pow_right (by omega) hx
 rw [shl_one x hx, or_bit o x h]
 have ho' : o + 2 ^ x < 2 ^ 62 := by omega
 rw [or_bit o x h] at ho'
 show IntKind.i64.wrap (((BitVec.ofInt 64 (o : Int) ||| BitVec.ofInt 64 ((2 ^ x : Nat) : Int)).toNat : Nat) : Int) = _
 rw [i64_w, BitVec.ofInt_natCast, BitVec.ofInt_natCast, BitVec.toNat_or, BitVec.toNat_ofNat, BitVec.toNat_ofNat]
 rw [Nat.mod_eq_of_lt (a := o) (by omega), Nat.mod_eq_of_lt (a := 2 ^ x) (by omega)]
 generalize o ||| 2 ^ x = q at ho'
 exact w_fit (by omega) (by omega)
/-- The parts, as a function and as a list. -/
def Agree (n : Nat) (p : Nat → Int) (pt : List Int) : Prop := pt.length = n ∧ ∀ i, i < n → rd pt (i : Int) = p i
section
variable (l : List Pt) (n : Nat) (hn : l.length = n) (h0 : 3 ≤ n) (h1 : n ≤ 7) (hf : ∀ k, k < n → fit 50 (G l k) = true)
def LL (x : Nat) : Int := lengthB (G l (e0 l.length x)) (G l (e1 l.length x))
include h0 h1
theorem ed_ok (x : Nat) (hx : x < em n) : 0 ≤ (ed n x).f0 ∧ (ed n x).f0 < (ed n x).f1 ∧ (ed n x).f1 < n ∧ spec_EdgeAt.f 300 n x = some ((ed n x).f0, (ed n x).f1) := by
 have h := EL_ok n h0 h1
 unfold ELok at h
 simp only [Bool.and_eq_true, decide_eq_true_eq, List.all_eq_true, List.mem_range] at h
 obtain ⟨⟨⟨⟨⟨⟨⟨⟨_, _⟩, h⟩, _⟩, _⟩, _⟩, _⟩, _⟩, _⟩ := h
 have := h x hx
 exact ⟨this.1.1, this.1.2.1, this.1.2.2, this.2⟩
theorem ed_e (x : Nat) (hx : x < em n) : (ed n x).f0 = (e0 n x : Nat) ∧ (ed n x).f1 = (e1 n x : Nat) ∧ e0 n x < n ∧ e1 n x < n := by
 obtain ⟨a, b, c, _⟩ := ed_ok n h0 h1 x hx
 unfold e0 e1
 omega
theorem ed_pairs (i j : Nat) (hij : i < j) (hj : j < n) : ∃ x, x < em n ∧ e0 n x = i ∧ e1 n x = j := by
 have h := EL_ok n h0 h1
 unfold ELok at h
 simp only [Bool.and_eq_true, decide_eq_true_eq, List.all_eq_true, List.any_eq_true, List.mem_range] at h
 obtain ⟨⟨⟨⟨⟨⟨_, h⟩, _⟩, _⟩, _⟩, _⟩, _⟩ := h
 obtain ⟨x, hx, hh⟩ := h j hj i hij
 exact ⟨x, hx, hh.1, hh.2⟩
theorem EL_len : (EL n).length = em n := by
 have h := EL_ok n h0 h1
 unfold ELok at h
 simp only [Bool.and_eq_true, decide_eq_true_eq] at h
 exact h.1.1.1.1.1.1.1.1
theorem EL_evs : Ev (fun k => impl_edgesOf.f k (n : Int)) (EL n) ∧ Ev (fun k => impl_upTo.f k (n : Int)) (up 0 n) ∧ Ev (fun k => spec_l12Start.f k (n : Int)) (up 0 n) ∧ Ev (fun k => impl_upTo.f k ((em n : Nat) : Int)) (up 0 (em n)) ∧ (em n < 20 ∨ em n = 21) ∧ 1 ≤ em n := by
 have h := EL_ok n h0 h1
 unfold ELok at h
 simp only [Bool.and_eq_true, Bool.or_eq_true, decide_eq_true_eq] at h
 obtain ⟨⟨⟨⟨⟨⟨⟨⟨_, a⟩, _⟩, _⟩, b⟩, c⟩, d⟩, e⟩, f⟩ := h
 exact ⟨Ev.of_some (impl_edgesOf.mono _) 200 [] a, Ev.of (impl_upTo.mono _) b, Ev.of (spec_l12Start.mono _) c, Ev.of (impl_upTo.mono _) d, e, f⟩
theorem em_le : em n ≤ 21 := by
 have := (EL_evs n h0 h1).2.2.2.2.1
 omega
theorem EdgeAt_ev (x : Nat) (hx : x < em n) : Ev (fun k => spec_EdgeAt.f k (n : Int) (x : Int)) (((e0 n x : Nat) : Int), ((e1 n x : Nat) : Int)) := by
 obtain ⟨a, b, c, d⟩ := ed_e n h0 h1 x hx
 refine Ev.of (spec_EdgeAt.mono _ _) (k := 300) ?_
 rw [(ed_ok n h0 h1 x hx).2.2.2, a, b]
theorem EdgeAt_K (x : Nat) (hx : x < em n) : ∃ K, ∀ k, K ≤ k → spec_EdgeAt.f k (n : Int) (x : Int) = some (((e0 n x : Nat) : Int), ((e1 n x : Nat) : Int)) := EdgeAt_ev n h0 h1 x hx
end
theorem rd_up (n i : Nat) (h : i < n) : rd (up 0 n) (i : Int) = (i : Int) := by
 simp [rd, up, h]
theorem agree_start (n : Nat) : Agree n (fun i => (i : Int)) (up 0 n) := ⟨by simp [up_len], fun i hi => rd_up n i hi⟩
section
variable (l : List Pt) (n : Nat) (hn : l.length = n) (h0 : 3 ≤ n) (h1 : n ≤ 7) (hf : ∀ k, k < n → fit 50 (G l k) = true)
/-- How long an edge is. -/
def Lx (x : Nat) : Int := lengthB (G l (e0 n x)) (G l (e1 n x))
def keyZ (z : Int) : Int := lengthB (rd_T37 l (rd_T77 (EL n) z).f0) (rd_T37 l (rd_T77 (EL n) z).f1)
include hn h0 h1 hf
omit hn in
theorem Lx_bd (x : Nat) (hx : x < em n) : 0 ≤ Lx l n x ∧ Lx l n x ≤ 20000 := by
 obtain ⟨_, _, a, b⟩ := ed_e n h0 h1 x hx
 exact len_bd (hf _ a) (hf _ b)
omit hn hf in
theorem keyZ_Lx (x : Nat) (hx : x < em n) : keyZ l n (x : Int) = Lx l n x := by
 obtain ⟨a, b, _, _⟩ := ed_e n h0 h1 x hx
 unfold keyZ Lx G
 rw [show rd_T77 (EL n) (x : Int) = ed n x from rfl, a, b]
theorem cf_key (x y : Int) (hx0 : 0 ≤ x) (hx1 : x < em n) (hy0 : 0 ≤ y) (hy1 : y < em n) : cmpF l (EL n) x y = some (keyZ l n x - keyZ l n y) := by
 have far : ∀ z : Nat, z < em n → farF l (EL n) (z : Int) = some (keyZ l n (z : Int)) := by
  intro z hz
  obtain ⟨a, b, c, d⟩ := ed_e n h0 h1 z hz
  have hl := EL_len n h0 h1
  unfold farF
  have e : rd_T77 (EL n) (z : Int) = ed n z := rfl
  rw [if_pos (by rw [e, a, b, hl, hn]; omega)]
  rfl
 obtain ⟨x, rfl⟩ := Int.eq_ofNat_of_zero_le hx0
 obtain ⟨y, rfl⟩ := Int.eq_ofNat_of_zero_le hy0
 have bx := Lx_bd l n h0 h1 hf x (by omega)
 have bY := Lx_bd l n h0 h1 hf y (by omega)
 rw [← keyZ_Lx l n h0 h1 x (by omega)] at bx
 rw [← keyZ_Lx l n h0 h1 y (by omega)] at bY
 unfold cmpF
 rw [far x (by omega), far y (by omega)]
 simp only [Option.bind_some]
 rw [w_fit (by omega) (by omega)]
/-- The edges in ascending order. -/
theorem sorted : ∃ r : List Nat, r.length = em n ∧ (∀ x, x ∈ r ↔ x < em n) ∧ r.Pairwise (Tree.lt (Lx l n)) ∧ Ev (fun k => @slices_SortStableFunc_int_int.f ⟨cmpF l (EL n)⟩ k (up 0 (em n)) 0) (r.map Int.ofNat) := by
 obtain ⟨_, _, _, _, hm2, hm1⟩ := EL_evs n h0 h1
 obtain ⟨P, p1, p2, p3, p4⟩ := @stable (keyZ l n) ⟨cmpF l (EL n)⟩ (em n) (em_le n h0 h1) (cf_key l n hn h0 h1 hf) hm1 hm2
 have hback : (P.map Int.toNat).map Int.ofNat = P := by
  rw [List.map_map]
  refine (List.map_congr_left (g := id) (fun z hz => ?_)).trans (List.map_id P)
  have := (p3 z).mp hz
  simp only [Function.comp, id]
  exact Int.toNat_of_nonneg this.1
 refine ⟨P.map Int.toNat, by rw [List.length_map]; exact p1, fun x => ?_, ?_, by rw [hback]; exact p4⟩
 ·rw [List.mem_map]
  constructor
  ·rintro ⟨z, hz, rfl⟩
   have := (p3 z).mp hz
   omega
  ·intro hx
   exact ⟨(x : Int), (p3 _).mpr (by omega), Int.toNat_natCast x⟩
 ·rw [List.pairwise_map]
  refine List.Pairwise.imp_of_mem (R := klt (keyZ l n)) (fun {a b} ha hb hab => ?_) p2
  have ha := (p3 a).mp ha
  have hb := (p3 b).mp hb
  obtain ⟨a, rfl⟩ := Int.eq_ofNat_of_zero_le ha.1
  obtain ⟨b, rfl⟩ := Int.eq_ofNat_of_zero_le hb.1
  unfold klt at hab
  rw [keyZ_Lx l n h0 h1 a (by omega), keyZ_Lx l n h0 h1 b (by omega)] at hab
  unfold Tree.lt
  rw [Int.toNat_natCast, Int.toNat_natCast]
  omega
omit hn hf
theorem agree_mg {p : Nat → Int} {pt : List Int} (ha : Agree n p pt) (x : Nat) (hx : x < em n) : Agree n (Tree.mg (e0 n) (e1 n) p x) (pt.map fun y => if y = rd pt (ed n x).f1 then rd pt (ed n x).f0 else y) := by
 obtain ⟨a, b, c, d⟩ := ed_e n h0 h1 x hx
 refine ⟨by rw [List.length_map]; exact ha.1, fun i hi => ?_⟩
 have hi' : i < pt.length := by rw [ha.1]; exact hi
 have e : rd pt (i : Int) = pt[i] := by simp [rd, hi']
 have e2 : rd (pt.map fun y => if y = rd pt (ed n x).f1 then rd pt (ed n x).f0 else y) (i : Int) = if rd pt (i : Int) = rd pt (ed n x).f1 then rd pt (ed n x).f0 else rd pt (i : Int) := by
  rw [e]
  simp [rd, hi']
 rw [e2]
 unfold Tree.mg
 rw [a, b, ha.2 i hi, ha.2 _ c, ha.2 _ d]
theorem implK (σ : List Int) (hσ : σ.length ≤ 1000) : ∀ (r : List Nat) (i : Nat) (p : Nat → Int) (pt : List Int) (o : Nat), σ.drop i = r.map Int.ofNat → (∀ x ∈ r, x < em n) → r.Nodup → Agree n p pt → (∀ x ∈ r, o.testBit x = false) → o + r.length * 2097152 ≤ 1099511627776 → Ev (fun k => impl_ShortestTree.l0 k (EL n) σ pt (o : Int) (i : Int)) ((Tree.KR (e0 n) (e1 n) r p o : Nat) : Int) := by
 intro r
 induction r with
 | nil =>
  intro i p pt o hd _ _ _ _ _
  have : σ.length ≤ i := by simpa using hd
  refine Ev.fin (fun k => ?_)
  rw [impl_ShortestTree.l0, if_neg (by omega)]
  rfl
 | cons x r ih =>
  intro i p pt o hd hm hnd ha hb ho
  have hx := hm x (by simp)
  have hx21 := em_le n h0 h1
  have hil : i < σ.length := by
   rcases Nat.lt_or_ge i σ.length with h | h
   ·exact h
   ·rw [List.drop_of_length_le h] at hd
    simp at hd
  rw [List.drop_eq_getElem_cons hil, List.map_cons] at hd
  injection hd with hd1 hd2
  have hrd : rd σ (i : Int) = (x : Int) := by
   simp only [rd, Int.toNat_natCast, List.getD_eq_getElem?_getD, List.getElem?_eq_getElem hil, Option.getD_some]
   exact hd1
  obtain ⟨a, b, c, d⟩ := ed_e n h0 h1 x hx
  have hl := EL_len n h0 h1
  have e : rd_T77 (EL n) (x : Int) = ed n x := rfl
  have hp : 2 ^ x ≤ 2097152 := Nat.pow_le_pow_right (n := 2) (by omega) (show x ≤ 21 by omega)
  rw [List.length_cons] at ho
  have ho2 : o + r.length * 2097152 ≤ 1099511627776 := by
   have hq : (r.length + 1) * 2097152 = r.length * 2097152 + 2097152 := Nat.succ_mul _ _
   rw [hq] at ho
   generalize r.length * 2097152 = q at ho ⊢
   clear hp hq
   omega
  rw [List.nodup_cons] at hnd
  have hbo := bits_or o x (by omega) (by omega) (hb x (by simp))
  have hs : ∀ k, impl_ShortestTree.l0 (k + 1) (EL n) σ pt (o : Int) (i : Int) = if p (e0 n x) = p (e1 n x) then impl_ShortestTree.l0 k (EL n) σ pt (o : Int) ((i + 1 : Nat) : Int) else impl_ShortestTree.l0 k (EL n) σ (pt.map fun y => if y = rd pt (ed n x).f1 then rd pt (ed n x).f0 else y) ((o + 2 ^ x : Nat) : Int) ((i + 1 : Nat) : Int) := by
   intro k
   have hal := ha.1
   rw [impl_ShortestTree.l0, if_pos (by omega), hrd, e]
   rw [if_pos (by rw [a, b, hl, hal]; omega), w_succ i (by omega), hbo]
   have q0 : rd pt (ed n x).f0 = p (e0 n x) := by rw [a]; exact ha.2 _ c
   have q1 : rd pt (ed n x).f1 = p (e1 n x) := by rw [b]; exact ha.2 _ d
   by_cases h : p (e0 n x) = p (e1 n x)
   ·rw [if_pos h, if_pos (by rw [q0, q1, h])]
   ·rw [if_neg h, if_neg (by rw [q0, q1]; exact h)]
  have ho3 : o + 2 ^ x + r.length * 2097152 ≤ 1099511627776 := by
   generalize 2 ^ x = q at hp
   omega
  by_cases h : p (e0 n x) = p (e1 n x)
  ·rw [Tree.KR, if_pos h]
   refine Ev.step1 (ih (i + 1) p pt o hd2 (fun y hy => hm y (by simp [hy])) hnd.2 ha (fun y hy => hb y (by simp [hy])) ho2) (fun k => by rw [hs, if_pos h])
  ·rw [Tree.KR, if_neg h]
   refine Ev.step1 (ih (i + 1) _ _ _ hd2 (fun y hy => hm y (by simp [hy])) hnd.2 (agree_mg n h0 h1 ha x hx) (fun y hy => ?_) ho3) (fun k => by rw [hs, if_neg h])
   exact bit_keep o x y (hb x (by simp)) (hb y (by simp [hy])) (fun e => hnd.1 (e ▸ hy))
end
section
variable (l : List Pt) (n : Nat) (hn : l.length = n) (h0 : 3 ≤ n) (h1 : n ≤ 7) (hf : ∀ k, k < n → fit 50 (G l k) = true)
include h0 h1
/-- A list whose first j elements were told anew. -/
theorem mapTo_agree {p : Nat → Int} {pt : List Int} (ha : Agree n p pt) (x : Nat) (hx : x < em n) : ∀ d j : Nat, j + d = n → ∀ (o step : Int) (pt' : List Int), pt' = mapTo (fun y => if y = p (e1 n x) then p (e0 n x) else y) pt j → Tree.Dif (e0 n) (e1 n) p x → ∀ r : Int, Ev (fun k => spec_ShortestTree.l2 k l n (mapTo (fun y => if y = p (e1 n x) then p (e0 n x) else y) pt n) o step x ((e0 n x : Nat) : Int) (p (e1 n x)) (n : Int)) r → Ev (fun k => spec_ShortestTree.l2 k l n pt' o step x ((e0 n x : Nat) : Int) (p (e1 n x)) (j : Int)) r := by
 obtain ⟨a, b, c, d'⟩ := ed_e n h0 h1 x hx
 intro d
 induction d with
 | zero =>
  intro j hj o step pt' hpt _ r hr
  obtain rfl : j = n := by omega
  rw [hpt]
  exact hr
 | succ d ih =>
  intro j hj o step pt' hpt hd r hr
  have hjl : j < pt.length := by rw [ha.1]; omega
  have hl : pt'.length = n := by rw [hpt, mapTo_len, ha.1]
  have hrj : rd pt' (j : Int) = p j := by rw [hpt, mapTo_rd _ _ _ hjl]; exact ha.2 j (by omega)
  have hre : rd pt' ((e0 n x : Nat) : Int) = p (e0 n x) := by
   have hc : e0 n x < pt.length := by rw [ha.1]; exact c
   have hg : (fun y => if y = p (e1 n x) then p (e0 n x) else y) (p (e0 n x)) = p (e0 n x) := by
    show (if p (e0 n x) = p (e1 n x) then p (e0 n x) else p (e0 n x)) = p (e0 n x)
    split <;> rfl
   rw [hpt]
   rcases Nat.lt_or_ge (e0 n x) j with h | h
   ·have e2 : rd (mapTo (fun y => if y = p (e1 n x) then p (e0 n x) else y) pt j) ((e0 n x : Nat) : Int) = (fun y => if y = p (e1 n x) then p (e0 n x) else y) (rd pt ((e0 n x : Nat) : Int)) := by
     simp only [rd, mapTo, Int.toNat_natCast, List.getD_eq_getElem?_getD]
     rw [List.getElem?_append_left (by simp; omega), List.getElem?_map, List.getElem?_take_of_lt h, List.getElem?_eq_getElem hc]
     rfl
    rw [e2, ha.2 _ c]
    exact hg
   ·have e2 : rd (mapTo (fun y => if y = p (e1 n x) then p (e0 n x) else y) pt j) ((e0 n x : Nat) : Int) = rd pt ((e0 n x : Nat) : Int) := by
     simp only [rd, mapTo, Int.toNat_natCast, List.getD_eq_getElem?_getD]
     rw [List.getElem?_append_right (by simp; omega)]
     simp only [List.length_map, List.length_take]
     rw [List.getElem?_drop, show j + (e0 n x - min j pt.length) = e0 n x by omega]
    rw [e2, ha.2 _ c]
  have hstep := mapTo_step (fun y => if y = p (e1 n x) then p (e0 n x) else y) pt j hjl
  have hsame := mapTo_same (fun y => if y = p (e1 n x) then p (e0 n x) else y) pt j hjl
  rw [ha.2 j (by omega)] at hstep hsame
  by_cases h : p j = p (e1 n x)
  ·refine Ev.step1 (ih (j + 1) (by omega) o step _ ?_ hd r hr) (fun k => ?_) (f := fun k => spec_ShortestTree.l2 k l n (pt'.set j (p (e0 n x))) o step x ((e0 n x : Nat) : Int) (p (e1 n x)) ((j + 1 : Nat) : Int))
   ·rw [← hstep, hpt, if_pos h]
   ·rw [spec_ShortestTree.l2, if_pos (by omega), if_pos (by omega), if_pos (by omega), hrj, if_pos h, if_pos (by omega), if_pos (by omega), hre, w_succ j (by omega), Int.toNat_natCast]
  ·refine Ev.step1 (ih (j + 1) (by omega) o step pt' ?_ hd r hr) (fun k => ?_)
   ·rw [hpt]
    exact hsame (if_neg h)
   ·rw [spec_ShortestTree.l2, if_pos (by omega), if_pos (by omega), if_pos (by omega), hrj, if_neg h, w_succ j (by omega)]
include hn hf
theorem scan {p : Nat → Int} {pt : List Int} (ha : Agree n p pt) (b : Nat) (hb : Tree.IsBest (em n) (e0 n) (e1 n) (Lx l n) p b) (o step : Int) (r : Int) (hr : Ev (fun k => spec_ShortestTree.l1 k l n pt o step (b : Int) ((em n : Nat) : Int)) r) :
  ∀ d x, x + d = em n → ∀ best : Int, ((best = -1 ∧ ∀ y, y < x → ¬ Tree.Dif (e0 n) (e1 n) p y) ∨ ∃ c : Nat, best = c ∧ c < x ∧ Tree.Dif (e0 n) (e1 n) p c ∧ ∀ y, y < x → Tree.Dif (e0 n) (e1 n) p y → ¬ Tree.lt (Lx l n) y c) → Ev (fun k => spec_ShortestTree.l1 k l n pt o step best (x : Int)) r := by
 have hem := em_le n h0 h1
 intro d
 induction d with
 | zero =>
  intro x hx best hbest
  obtain rfl : x = em n := by omega
  rcases hbest with ⟨_, h⟩ | ⟨c, rfl, hc, hcd, h⟩
  ·exact absurd hb.2.1 (h b hb.1)
  ·have : c = b := Tree.best_unique (em n) (e0 n) (e1 n) (Lx l n) ⟨hc, hcd, h⟩ hb
   subst this
   exact hr
 | succ d ih =>
  intro x hx best hbest
  obtain ⟨a, b', c0, d0⟩ := ed_e n h0 h1 x (by omega)
  have hal := ha.1
  have hcount : wrap64 (Int.tdiv (wrap64 ((n : Int) * wrap64 ((n : Int) - 1))) 2) = ((em n : Nat) : Int) := by
   unfold em
   obtain rfl | rfl | rfl | rfl | rfl : n = 3 ∨ n = 4 ∨ n = 5 ∨ n = 6 ∨ n = 7 := by omega
   all_goals decide +kernel
  have hat := EdgeAt_K n h0 h1 x (by omega)
  have q0 := ha.2 _ c0
  have q1 := ha.2 _ d0
  by_cases hd : p (e0 n x) = p (e1 n x)
  ·-- the same part
   have hbest' : ((best = -1 ∧ ∀ y, y < x + 1 → ¬ Tree.Dif (e0 n) (e1 n) p y) ∨ ∃ c : Nat, best = c ∧ c < x + 1 ∧ Tree.Dif (e0 n) (e1 n) p c ∧ ∀ y, y < x + 1 → Tree.Dif (e0 n) (e1 n) p y → ¬ Tree.lt (Lx l n) y c) := by
    rcases hbest with ⟨h, h'⟩ | ⟨c, hc, hc', hcd, h⟩
    ·refine .inl ⟨h, fun y hy hyd => ?_⟩
     rcases Nat.lt_or_ge y x with hh | hh
     ·exact h' y hh hyd
     ·obtain rfl : y = x := by omega
      exact hyd hd
    ·refine .inr ⟨c, hc, by omega, hcd, fun y hy hyd => ?_⟩
     rcases Nat.lt_or_ge y x with hh | hh
     ·exact h y hh hyd
     ·obtain rfl : y = x := by omega
      exact absurd hd hyd
   obtain ⟨K1, k1⟩ := hat
   obtain ⟨K2, k2⟩ := ih (x + 1) (by omega) best hbest'
   refine ⟨max K1 K2 + 1, fun k hk => ?_⟩
   obtain ⟨k, rfl⟩ : ∃ m, k = m + 1 := ⟨k - 1, by omega⟩
   show spec_ShortestTree.l1 (k + 1) l n pt o step best x = some r
   rw [spec_ShortestTree.l1, hcount, if_pos (by omega), k1 k (by omega)]
   simp only [Option.bind_some]
   rw [if_pos (by omega), if_pos (by omega), if_pos (by omega), if_pos (by omega), q0, q1, if_pos hd, w_succ x (by omega)]
   exact k2 k (by omega)
  ·have newbest : (∀ y, y < x → Tree.Dif (e0 n) (e1 n) p y → ¬ Tree.lt (Lx l n) y x) → Ev (fun k => spec_ShortestTree.l1 k l n pt o step (x : Int) ((x + 1 : Nat) : Int)) r := by
    intro h
    refine ih (x + 1) (by omega) _ (.inr ⟨x, rfl, by omega, hd, fun y hy hyd => ?_⟩)
    rcases Nat.lt_or_ge y x with hh | hh
    ·exact h y hh hyd
    ·obtain rfl : y = x := by omega
     unfold Tree.lt
     omega
   rcases hbest with ⟨rfl, h⟩ | ⟨c, rfl, hc', hcd, h⟩
   ·obtain ⟨K1, k1⟩ := hat
    obtain ⟨K2, k2⟩ := newbest (fun y hy hyd => absurd hyd (h y hy))
    refine ⟨max K1 K2 + 1, fun k hk => ?_⟩
    obtain ⟨k, rfl⟩ : ∃ m, k = m + 1 := ⟨k - 1, by omega⟩
    show spec_ShortestTree.l1 (k + 1) l n pt o step (-1) x = some r
    rw [spec_ShortestTree.l1, hcount, if_pos (by omega), k1 k (by omega)]
    simp only [Option.bind_some]
    rw [if_pos (by omega), if_pos (by omega), if_pos (by omega), if_pos (by omega), q0, q1, if_neg hd, if_neg (by omega), w_succ x (by omega)]
    exact k2 k (by omega)
   ·obtain ⟨K1, k1⟩ := hat
    obtain ⟨K3, k3⟩ := EdgeAt_K n h0 h1 c (by omega)
    obtain ⟨_, _, c1, d1⟩ := ed_e n h0 h1 c (by omega)
    have len1 : spec_LengthOf.f ((rd_T37 l ((e0 n x : Nat) : Int)).f0) ((rd_T37 l ((e0 n x : Nat) : Int)).f1) ((rd_T37 l ((e1 n x : Nat) : Int)).f0) ((rd_T37 l ((e1 n x : Nat) : Int)).f1) = some (Lx l n x) := lengthOf_f (hf _ c0) (hf _ d0)
    have len2 : spec_LengthOf.f ((rd_T37 l ((e0 n c : Nat) : Int)).f0) ((rd_T37 l ((e0 n c : Nat) : Int)).f1) ((rd_T37 l ((e1 n c : Nat) : Int)).f0) ((rd_T37 l ((e1 n c : Nat) : Int)).f1) = some (Lx l n c) := lengthOf_f (hf _ c1) (hf _ d1)
    by_cases hlen : Lx l n x ≥ Lx l n c
    ·obtain ⟨K2, k2⟩ := ih (x + 1) (by omega) (c : Int) (.inr ⟨c, rfl, by omega, hcd, fun y hy hyd => by
      rcases Nat.lt_or_ge y x with hh | hh
      ·exact h y hh hyd
      ·obtain rfl : y = x := by omega
       unfold Tree.lt
       omega⟩)
     refine ⟨max K1 (max K2 K3) + 1, fun k hk => ?_⟩
     obtain ⟨k, rfl⟩ : ∃ m, k = m + 1 := ⟨k - 1, by omega⟩
     show spec_ShortestTree.l1 (k + 1) l n pt o step c x = some r
     rw [spec_ShortestTree.l1, hcount, if_pos (by omega), k1 k (by omega)]
     simp only [Option.bind_some]
     rw [if_pos (by omega), if_pos (by omega), if_pos (by omega), if_pos (by omega), q0, q1, if_neg hd, if_pos (by omega), k3 k (by omega)]
     simp only [Option.bind_some]
     rw [if_pos (by omega), if_pos (by omega), len1]
     simp only [Option.bind_some]
     rw [if_pos (by omega), if_pos (by omega), if_pos (by omega), if_pos (by omega), len2]
     simp only [Option.bind_some]
     rw [if_pos hlen, w_succ x (by omega)]
     exact k2 k (by omega)
    ·obtain ⟨K2, k2⟩ := newbest (fun y hy hyd => by
      have := h y hy hyd
      unfold Tree.lt at this ⊢
      omega)
     refine ⟨max K1 (max K2 K3) + 1, fun k hk => ?_⟩
     obtain ⟨k, rfl⟩ : ∃ m, k = m + 1 := ⟨k - 1, by omega⟩
     show spec_ShortestTree.l1 (k + 1) l n pt o step c x = some r
     rw [spec_ShortestTree.l1, hcount, if_pos (by omega), k1 k (by omega)]
     simp only [Option.bind_some]
     rw [if_pos (by omega), if_pos (by omega), if_pos (by omega), if_pos (by omega), q0, q1, if_neg hd, if_pos (by omega), k3 k (by omega)]
     simp only [Option.bind_some]
     rw [if_pos (by omega), if_pos (by omega), len1]
     simp only [Option.bind_some]
     rw [if_pos (by omega), if_pos (by omega), if_pos (by omega), if_pos (by omega), len2]
     simp only [Option.bind_some]
     rw [if_neg hlen, w_succ x (by omega)]
     exact k2 k (by omega)
/-- The reference's rounds. -/
theorem specS : ∀ (s : Nat) (p : Nat → Int) (o o' : Nat), Tree.Steps (em n) (e0 n) (e1 n) (Lx l n) s p o o' → ∀ pt, Agree n p pt → s < n → o + s * 2097152 ≤ 1099511627776 → Ev (fun k => spec_ShortestTree.l0 k l n pt (o : Int) ((n - s : Nat) : Int)) (o' : Int) := by
 intro s
 induction s with
 | zero =>
  intro p o o' hst pt ha hs ho
  cases hst
  refine Ev.fin (fun k => ?_)
  rw [spec_ShortestTree.l0, if_neg (by omega)]
 | succ s ih =>
  intro p o o' hst pt ha hs ho
  cases hst with
  | step _ _ _ _ b hb hst =>
  have hem := em_le n h0 h1
  obtain ⟨a, b', c, d⟩ := ed_e n h0 h1 b hb.1
  have hp : 2 ^ b ≤ 2097152 := Nat.pow_le_pow_right (n := 2) (by omega) (show b ≤ 21 by have := hb.1; omega)
  have hmg := agree_mg n h0 h1 ha b hb.1
  rw [a, b', ha.2 _ c, ha.2 _ d] at hmg
  have ho3 : o + 2 ^ b + s * 2097152 ≤ 1099511627776 := by
   generalize 2 ^ b = q at hp
   omega
  have hnext := ih _ _ o' hst _ hmg (by omega) ho3
  have hlp : pt.length = n := ha.1
  have hall : mapTo (fun y => if y = p (e1 n b) then p (e0 n b) else y) pt n = pt.map fun y => if y = p (e1 n b) then p (e0 n b) else y := by
   rw [← hlp]
   exact mapTo_all _ _
  have hb21 : b ≤ 21 := by have := hb.1; omega
  have hu : IntKind.u64.wrap (b : Int) = (b : Int) := by
   show (b : Int) % (2 ^ 64 : Int) = _
   exact Int.emod_eq_of_lt (by omega) (by omega)
  have hadd : wrap64 ((o : Int) + shl .i64 1 (b : Int)) = ((o + 2 ^ b : Nat) : Int) := by
   rw [shl_one b (by omega)]
   generalize 2 ^ b = q at hp
   rw [w_fit (by omega) (by omega)]
   omega
  have hstep : wrap64 (((n - (s + 1) : Nat) : Int) + 1) = ((n - s : Nat) : Int) := by
   rw [w_fit (by omega) (by omega)]
   omega
  have hl2 : Ev (fun k => spec_ShortestTree.l2 k l n (mapTo (fun y => if y = p (e1 n b) then p (e0 n b) else y) pt n) (o : Int) ((n - (s + 1) : Nat) : Int) (b : Int) ((e0 n b : Nat) : Int) (p (e1 n b)) (n : Int)) (o' : Int) := by
   refine Ev.step1 hnext (fun k => ?_)
   rw [spec_ShortestTree.l2, if_neg (by omega), hu, if_pos (by omega), hadd, hstep, hall]
  have hl1 := mapTo_agree l n h0 h1 ha b hb.1 n 0 (by omega) (o : Int) ((n - (s + 1) : Nat) : Int) pt (mapTo_zero _ _).symm hb.2.1 _ hl2
  have hcount : wrap64 (Int.tdiv (wrap64 ((n : Int) * wrap64 ((n : Int) - 1))) 2) = ((em n : Nat) : Int) := by
   unfold em
   obtain rfl | rfl | rfl | rfl | rfl : n = 3 ∨ n = 4 ∨ n = 5 ∨ n = 6 ∨ n = 7 := by omega
   all_goals decide +kernel
  have hend : Ev (fun k => spec_ShortestTree.l1 k l n pt (o : Int) ((n - (s + 1) : Nat) : Int) (b : Int) ((em n : Nat) : Int)) (o' : Int) := by
   obtain ⟨K1, k1⟩ := EdgeAt_K n h0 h1 b hb.1
   obtain ⟨K2, k2⟩ := hl1
   refine ⟨max K1 K2 + 1, fun k hk => ?_⟩
   obtain ⟨k, rfl⟩ : ∃ m, k = m + 1 := ⟨k - 1, by omega⟩
   show spec_ShortestTree.l1 (k + 1) l n pt (o : Int) _ (b : Int) ((em n : Nat) : Int) = some (o' : Int)
   rw [spec_ShortestTree.l1, hcount, if_neg (by omega), k1 k (by omega)]
   simp only [Option.bind_some]
   rw [if_pos (by omega), if_pos (by omega), ha.2 _ d]
   exact k2 k (by omega)
  have hsc := scan l n hn h0 h1 hf ha b hb _ _ _ hend (em n) 0 (by omega) (-1) (.inl ⟨rfl, fun y hy => by omega⟩)
  refine Ev.step1 hsc (fun k => ?_)
  rw [spec_ShortestTree.l0, if_pos (by omega)]
  rfl
end
/-- The two trees. -/
theorem same_tree (l : List Pt) : ∃ v : Int, Ev (fun k => spec_ShortestTree.f k l) v ∧ Ev (fun k => impl_ShortestTree.f k l) v := by
 unfold spec_ShortestTree.f impl_ShortestTree.f
 cases h : apB l
 ·exact ⟨0, Ev.bind (h ▸ spec_AP l) (Ev.all fun _ => by simp), Ev.bind (h ▸ impl_AP l) (Ev.all fun _ => by simp)⟩
 ·have hap := h
  unfold apB at hap
  simp only [Bool.and_eq_true, decide_eq_true_eq] at hap
  obtain ⟨⟨h0, h1⟩, hs⟩ := hap
  rw [apS_iff] at hs
  obtain ⟨n, hn⟩ : ∃ n, l.length = n := ⟨_, rfl⟩
  have n0 : 3 ≤ n := by omega
  have n1 : n ≤ 7 := by omega
  have hf : ∀ k, k < n → fit 50 (G l k) = true := fun k hk => hs.1 k (by omega)
  obtain ⟨r, r0, r1, r2, r3⟩ := sorted l n hn n0 n1 hf
  obtain ⟨u1, u2, u3, u4, _, _⟩ := EL_evs n n0 n1
  have hin : ∀ i, i < n → 0 ≤ ((fun i : Nat => (i : Int)) i) ∧ ((fun i : Nat => (i : Int)) i) < (n : Int) := fun i hi => by
   show 0 ≤ (i : Int) ∧ (i : Int) < n
   omega
  have hcnt : Tree.cnt n (fun i => (i : Int)) = (n - 1) + 1 := by
   obtain rfl | rfl | rfl | rfl | rfl : n = 3 ∨ n = 4 ∨ n = 5 ∨ n = 6 ∨ n = 7 := by omega
   all_goals decide +kernel
  have main := Tree.main n (em n) (e0 n) (e1 n) (Lx l n) (fun x hx => (ed_e n n0 n1 x hx).2.2) (fun i j hij hj => ed_pairs n n0 n1 i j hij hj) r (n - 1) (fun i => (i : Int)) 0 (fun x hx => (r1 x).mp hx) (fun x hx _ => (r1 x).mpr hx) r2 hin hcnt
  have hnd : r.Nodup := List.Pairwise.imp (fun {a b} hab => by rintro rfl; unfold Tree.lt at hab; omega) r2
  have hrl : r.length ≤ 21 := by
   have hem := em_le n n0 n1
   omega
  refine ⟨((Tree.KR (e0 n) (e1 n) r (fun i => (i : Int)) 0 : Nat) : Int), Ev.bind (h ▸ spec_AP l) ?_, Ev.bind (h ▸ impl_AP l) ?_⟩
  ·simp only [if_true]
   rw [hn]
   refine Ev.bind u3 ?_
   have := specS l n hn n0 n1 hf (n - 1) _ 0 _ main (up 0 n) (agree_start n) (by omega) (by omega)
   rw [show n - (n - 1) = 1 by omega] at this
   exact this
  ·simp only [if_true]
   rw [hn]
   refine Ev.bind u1 ?_
   rw [EL_len n n0 n1]
   refine Ev.bind u4 (Ev.bind r3 (Ev.bind u2 ?_))
   exact implK n n0 n1 (r.map Int.ofNat) (by simp; omega) r 0 _ _ 0 (by simp) (fun x hx => (r1 x).mp hx) hnd (agree_start n) (fun x _ => Nat.zero_testBit x) (by omega)
end Go.Proofs.Ytpmjjldocjopmaa.Pr
namespace Go.Proofs.Ytpmjjldocjopmaa.Pr
set_option linter.unusedVariables false
set_option linter.unusedSimpArgs false
open Go.RowKit Go.Proofs.YtpmjjldocjopmaaW.PrintWords Go.Proofs.YtpmjjldocjopmaaW.PrintLast Go.Proofs.YtpmjjldocjopmaaW.PrintMore
attribute [local go_sem] max2_int min2_int max_two min_two max_three min_three max_four min_four   -- for this text's walks alone
/-! ### laws_szPointS: function 28 -/
def laws_szPointS.f (l0 : List (S55)) (a1 : Int) : Option (Int) := if (wrap64 (a1 - (l0.length : Int))) < 0 then (some (-1)) else (some (wrap64 (a1 - (l0.length : Int))))
set_option maxHeartbeats 8000000 in
set_option maxRecDepth 100000 in
theorem laws_szPointS.calls (A0 : Option Addr) (c0 : Nat) (l0 : List (S55)) (a1 : Int) (r : Int) (w : World) (hr0 : Kd.C k55 w A0 l0.length l0) (hc0 : l0.length ≤ c0) (h : laws_szPointS.f l0 a1 = some r) :
  Calls Try.prog 28 #[.slice A0 l0.length c0, .int .i64 a1] w fun e w' => e = .returned (.int .i64 r) ∧ Drawn0 w w' := by
 have HR0 := Aside0.mk hr0
 have HC0 := Aside0.mk hc0
 clear hr0 hc0
 have H : (if (wrap64 (a1 - (l0.length : Int))) < 0 then (some (-1)) else (some (wrap64 (a1 - (l0.length : Int))))) = some r := h
 clear h
 by_cases c3 : (wrap64 (a1 - (l0.length : Int))) < 0
 ·rw [if_pos c3] at H
  have c3b0 : decide ((wrap64 (a1 - (l0.length : Int))) < 0) = true := decide_eq_true c3
  clear c3
  obtain rfl := Option.some.inj H
  go_enter Try.func28, Try.ntmps28
  go_wp2
  go_ret
  exact ⟨by first | rfl | (simp; done) | (simp [*]; done), by repeat (first | exact Drawn0.refl _ | apply Drawn0.step)⟩
 ·rw [if_neg c3] at H
  have c3b0 : decide ((wrap64 (a1 - (l0.length : Int))) < 0) = false := decide_eq_false c3
  clear c3
  obtain rfl := Option.some.inj H
  go_enter Try.func28, Try.ntmps28
  go_wp2
  go_ret
  exact ⟨by first | rfl | (simp; done) | (simp [*]; done), by repeat (first | exact Drawn0.refl _ | apply Drawn0.step)⟩
end Go.Proofs.Ytpmjjldocjopmaa.Pr
namespace Go.Proofs.Ytpmjjldocjopmaa.Pr
set_option linter.unusedVariables false
set_option linter.unusedSimpArgs false
open Go.RowKit Go.Proofs.YtpmjjldocjopmaaW.PrintWords Go.Proofs.YtpmjjldocjopmaaW.PrintLast Go.Proofs.YtpmjjldocjopmaaW.PrintMore
attribute [local go_sem] max2_int min2_int max_two min_two max_three min_three max_four min_four   -- for this text's walks alone
/-! ### laws_toPoint: function 40 -/
def laws_toPoint.f (a0_0 : Int) (a0_1 : Int) : Option (Int × Int) := some (a0_0, a0_1)
set_option maxHeartbeats 8000000 in
set_option maxRecDepth 100000 in
theorem laws_toPoint.calls (a0_0 : Int) (a0_1 : Int) (r1 : Int) (r2 : Int) (w : World) (h : laws_toPoint.f a0_0 a0_1 = some (r1, r2)) :
  Calls Try.prog 40 #[.agg #[.int .i64 a0_0, .int .i64 a0_1]] w fun e w' => e = .returned (.agg #[.int .i64 r1, .int .i64 r2]) ∧ Below w.heap.size w w' := by
 have hu55 := Try.underlying55
 have hu37 := Try.underlying37
 have HB := Aside0.mk (Below.refl w.heap.size w)
 have H : (some (a0_0, a0_1)) = some (r1, r2) := h
 clear h
 simp only [Option.some.injEq, Prod.mk.injEq] at H
 obtain ⟨rfl, rfl⟩ := H
 go_enter Try.func40, Try.ntmps40
 go_wp2_with (first | ((with_reducible refine gate_dst (N := 1) rfl ?_); refine box_event ?hg (N := 1) ?hd (cs := #[.int .i64 a0_0, .int .i64 a0_1]) (t := 55) ?hr ?_; (case hd => rfl); (case hg => rfl); (case hr => first | (go_simp; done) | (go_simp; rfl)); intro gb301 hg w2 hbox hb; have n0_ := Aside0.mk (below_step (by repeat (first | (with_reducible first | exact HB.out | apply below_alloc | apply pw_below_drewN | apply below_drew1) | exact HB.out)) hb); have n1_ := Aside0.mk (hbox); have n2_ := Aside0.mk ((by rw [hg]; exact (below_size (by repeat (first | (with_reducible first | exact HB.out | apply below_alloc | apply pw_below_drewN | apply below_drew1) | exact HB.out))) : w.heap.size ≤ gb301)); have n3_ := Aside0.mk ((by rw [hg]; exact (below_size (by repeat (first | (with_reducible first | exact HB.out | apply below_alloc | apply pw_below_drewN | apply below_drew1) | exact HB.out))) : w.heap.size ≤ gb301)); clear HB; have HB := n0_; have BK301 := n1_; have GW301 := n2_; have GE301 := n3_; clear n0_ n1_ n2_ n3_; clear hb hbox hg) | ((with_reducible refine gate_dst (N := 2) rfl ?_); refine box_event ?hg (N := 2) ?hd (cs := #[.int .i64 0, .int .i64 0]) (t := 37) ?hr ?_; (case hd => rfl); (case hg => rfl); (case hr => first | (go_simp; done) | (go_simp; rfl)); intro gb302 hg w3 hbox hb; have n0_ := Aside0.mk (blk_below (g := gb301) (o := .cells #[.int .i64 a0_0, .int .i64 a0_1] 55 (0, 0)) (by (with_reducible repeat (first | refine blk_drewN ?_ _ | refine blk_drew ?_ | refine blk_alloc ?_ _)); exact BK301.out) hb); have n1_ := Aside0.mk (below_step (by repeat (first | (with_reducible first | exact HB.out | apply below_alloc | apply pw_below_drewN | apply below_drew1 | refine below_set ?_ GE301.out) | exact HB.out)) hb); have n2_ := Aside0.mk (hbox); have n3_ := Aside0.mk ((by rw [hg]; exact (below_size (by repeat (first | (with_reducible first | exact HB.out | apply below_alloc | apply pw_below_drewN | apply below_drew1 | refine below_set ?_ GE301.out) | exact HB.out))) : w.heap.size ≤ gb302)); have n4_ := Aside0.mk ((by rw [hg]; exact (below_size (by repeat (first | (with_reducible first | exact HB.out | apply below_alloc | apply pw_below_drewN | apply below_drew1 | refine below_set ?_ GE301.out) | exact HB.out))) : w.heap.size ≤ gb302)); have n5_ := Aside0.mk ((by rw [hg]; exact Nat.ne_of_lt (blk_lt (g := gb301) (o := .cells #[.int .i64 a0_0, .int .i64 a0_1] 55 (0, 0)) (by (with_reducible repeat (first | refine blk_drewN ?_ _ | refine blk_drew ?_ | refine blk_alloc ?_ _)); exact BK301.out)) : gb301 ≠ gb302)); have n6_ := Aside0.mk ((by rw [hg]; exact Nat.ne_of_gt (blk_lt (g := gb301) (o := .cells #[.int .i64 a0_0, .int .i64 a0_1] 55 (0, 0)) (by (with_reducible repeat (first | refine blk_drewN ?_ _ | refine blk_drew ?_ | refine blk_alloc ?_ _)); exact BK301.out)) : gb302 ≠ gb301)); clear BK301; clear HB; have BK301 := n0_; have HB := n1_; have BK302 := n2_; have GW302 := n3_; have GE302 := n4_; have NB301_302 := n5_; have NB302_301 := n6_; clear n0_ n1_ n2_ n3_ n4_ n5_ n6_; clear hb hbox hg) | ((with_reducible refine gate_dst (N := 3) rfl ?_); refine box_event ?hg (N := 3) ?hd (cs := #[.int .i64 0, .int .i64 0]) (t := 37) ?hr ?_; (case hd => rfl); (case hg => rfl); (case hr => first | (go_simp; done) | (go_simp; rfl)); intro gb303 hg w4 hbox hb; have n0_ := Aside0.mk (blk_below (g := gb301) (o := .cells #[.int .i64 a0_0, .int .i64 a0_1] 55 (0, 0)) (by (with_reducible repeat (first | refine blk_drewN ?_ _ | refine blk_drew ?_ | refine blk_alloc ?_ _)); exact BK301.out) hb); have n1_ := Aside0.mk (blk_below (g := gb302) (o := .cells #[.int .i64 0, .int .i64 0] 37 (0, 0)) (by (with_reducible repeat (first | refine blk_drewN ?_ _ | refine blk_drew ?_ | refine blk_alloc ?_ _)); exact BK302.out) hb); have n2_ := Aside0.mk (below_step (by repeat (first | (with_reducible first | exact HB.out | apply below_alloc | apply pw_below_drewN | apply below_drew1 | refine below_set ?_ GE301.out | refine below_set ?_ GE302.out) | exact HB.out)) hb); have n3_ := Aside0.mk (hbox); have n4_ := Aside0.mk ((by rw [hg]; exact (below_size (by repeat (first | (with_reducible first | exact HB.out | apply below_alloc | apply pw_below_drewN | apply below_drew1 | refine below_set ?_ GE301.out | refine below_set ?_ GE302.out) | exact HB.out))) : w.heap.size ≤ gb303)); have n5_ := Aside0.mk ((by rw [hg]; exact (below_size (by repeat (first | (with_reducible first | exact HB.out | apply below_alloc | apply pw_below_drewN | apply below_drew1 | refine below_set ?_ GE301.out | refine below_set ?_ GE302.out) | exact HB.out))) : w.heap.size ≤ gb303)); have n6_ := Aside0.mk ((by rw [hg]; exact Nat.ne_of_lt (blk_lt (g := gb301) (o := .cells #[.int .i64 a0_0, .int .i64 a0_1] 55 (0, 0)) (by (with_reducible repeat (first | refine blk_drewN ?_ _ | refine blk_drew ?_ | refine blk_alloc ?_ _)); exact BK301.out)) : gb301 ≠ gb303)); have n7_ := Aside0.mk ((by rw [hg]; exact Nat.ne_of_gt (blk_lt (g := gb301) (o := .cells #[.int .i64 a0_0, .int .i64 a0_1] 55 (0, 0)) (by (with_reducible repeat (first | refine blk_drewN ?_ _ | refine blk_drew ?_ | refine blk_alloc ?_ _)); exact BK301.out)) : gb303 ≠ gb301)); have n8_ := Aside0.mk ((by rw [hg]; exact Nat.ne_of_lt (blk_lt (g := gb302) (o := .cells #[.int .i64 0, .int .i64 0] 37 (0, 0)) (by (with_reducible repeat (first | refine blk_drewN ?_ _ | refine blk_drew ?_ | refine blk_alloc ?_ _)); exact BK302.out)) : gb302 ≠ gb303)); have n9_ := Aside0.mk ((by rw [hg]; exact Nat.ne_of_gt (blk_lt (g := gb302) (o := .cells #[.int .i64 0, .int .i64 0] 37 (0, 0)) (by (with_reducible repeat (first | refine blk_drewN ?_ _ | refine blk_drew ?_ | refine blk_alloc ?_ _)); exact BK302.out)) : gb303 ≠ gb302)); clear BK301; clear BK302; clear HB; have BK301 := n0_; have BK302 := n1_; have HB := n2_; have BK303 := n3_; have GW303 := n4_; have GE303 := n5_; have NB301_303 := n6_; have NB303_301 := n7_; have NB302_303 := n8_; have NB303_302 := n9_; clear n0_ n1_ n2_ n3_ n4_ n5_ n6_ n7_ n8_ n9_; clear hb hbox hg; have hnb5 := NB301_302.out; have hnc5 := NB302_301.out; have hnb6 := NB301_303.out; have hnc6 := NB303_301.out; have hcz7_0 : w4.cell? ⟨gb301, 0, none⟩ = some (.int .i64 a0_0) := (blk_cell BK301.out 0).trans rfl; have hcz7_1 : w4.cell? ⟨gb301, 1, none⟩ = some (.int .i64 a0_1) := (blk_cell BK301.out 1).trans rfl; have hfz7_0 := blk_frozen BK301.out 0; have hfz7_1 := blk_frozen BK301.out 1; have hnb8 := NB303_302.out; have hnc8 := NB302_303.out; have hcz9_0 : w4.cell? ⟨gb303, 0, none⟩ = some (.int .i64 0) := (blk_cell BK303.out 0).trans rfl; have hcz9_1 : w4.cell? ⟨gb303, 1, none⟩ = some (.int .i64 0) := (blk_cell BK303.out 1).trans rfl; have hfz9_0 := blk_frozen BK303.out 0; have hfz9_1 := blk_frozen BK303.out 1; have hcz10_0 : w4.cell? ⟨gb302, 0, none⟩ = some (.int .i64 0) := (blk_cell BK302.out 0).trans rfl; have hcz10_1 : w4.cell? ⟨gb302, 1, none⟩ = some (.int .i64 0) := (blk_cell BK302.out 1).trans rfl; have hfz10_0 := blk_frozen BK302.out 0; have hfz10_1 := blk_frozen BK302.out 1))
 refine bodyPost_ret (results_cell_row rfl _ _ gb302 37 #[.int .i64 a0_0, .int .i64 a0_1] (0, 0) _ rfl (by (with_reducible repeat (first | refine blk_drewN ?_ _ | refine blk_drew ?_ | refine blk_alloc ?_ _)); refine blk_put (cs := #[.int .i64 a0_0, .int .i64 0]) ?_ 1 _ rfl; (with_reducible repeat (first | refine blk_drewN ?_ _ | refine blk_drew ?_ | refine blk_alloc ?_ _)); refine blk_put (cs := #[.int .i64 0, .int .i64 0]) ?_ 0 _ rfl; (with_reducible repeat (first | refine blk_drewN ?_ _ | refine blk_drew ?_ | refine blk_alloc ?_ _)); refine blk_far ?_ NB302_303.out _; (with_reducible repeat (first | refine blk_drewN ?_ _ | refine blk_drew ?_ | refine blk_alloc ?_ _)); refine blk_far ?_ NB302_303.out _; (with_reducible repeat (first | refine blk_drewN ?_ _ | refine blk_drew ?_ | refine blk_alloc ?_ _)); exact BK302.out) Try.underlying37 rfl (by kernel_rfl)) rfl ?_
 exact ⟨by first | rfl | (simp [errW_none, errW_some] <;> rfl) | (simp [*, errW_none, errW_some] <;> rfl), by repeat (first | (with_reducible first | exact HB.out | apply below_alloc | apply pw_below_drewN | apply below_drew1 | refine below_set ?_ GE301.out | refine below_set ?_ GE302.out | refine below_set ?_ GE303.out) | exact HB.out)⟩
end Go.Proofs.Ytpmjjldocjopmaa.Pr
