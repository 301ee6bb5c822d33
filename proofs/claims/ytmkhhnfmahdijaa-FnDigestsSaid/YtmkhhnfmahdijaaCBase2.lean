/- Shared by the claims on digests: the walks of the given functions rounds, wordsOf, turnBlock, Chunk, Digest. No conditions beyond those that each theorem names. -/
import Derived.Test.YtmkhhnfmahdijaaCBase1
/- The digest of bytes that are given: the walk over all pieces and the text of the eight words. By hand. -/
namespace Go.Proofs.Ytmkhhnfmahdijaa.Sha
open Go.RowKit Go.Shelf Go.Proofs.YtmkhhnfmahdijaaW.PrintWords Go.Proofs.YtmkhhnfmahdijaaW.PrintLast Go.Proofs.YtmkhhnfmahdijaaW.PrintMore
set_option linter.unusedVariables false
def kks : List Int := [1116352408, 1899447441, 3049323471, 3921009573, 961987163, 1508970993, 2453635748, 2870763221, 3624381080, 310598401, 607225278, 1426881987, 1925078388, 2162078206, 2614888103, 3248222580, 3835390401, 4022224774, 264347078, 604807628, 770255983, 1249150122, 1555081692, 1996064986, 2554220882, 2821834349, 2952996808, 3210313671, 3336571891, 3584528711, 113926993, 338241895, 666307205, 773529912, 1294757372, 1396182291, 1695183700, 1986661051, 2177026350, 2456956037, 2730485921, 2820302411, 3259730800, 3345764771, 3516065817, 3600352804, 4094571909, 275423344, 430227734, 506948616, 659060556, 883997877, 958139571, 1322822218, 1537002063, 1747873779, 1955562222, 2024104815, 2227730452, 2361852424, 2428436474, 2756734187, 3204031479, 3329325298]
def kk (j : Nat) : Int := kks.getD j 0
set_option maxHeartbeats 8000000 in
set_option maxRecDepth 100000 in
theorem rounds_calls (w : World) : Calls Try.prog 105 #[] w fun e w' => e = .returned (.pointer (some ⟨w.heap.size, 0, none⟩)) ∧ w' = w.alloc (.cells (kks.map (fun x => Value.int .u32 x)).toArray 121) := by
  go_enter Try.func105, Try.ntmps105
  go_wp2
  go_ret
  exact ⟨rfl, rfl⟩
theorem rounds_cells (w : World) : Cells (w.alloc (.cells (kks.map (fun x => Value.int .u32 x)).toArray 121)) w.heap.size 64 kk := Cells.alloc fun j hj => by
  have h64 : kks.length = 64 := rfl
  simp [kk, h64, hj]
def h0 : Nat → Int
  | 0 => 1779033703
  | 1 => 3144134277
  | 2 => 1013904242
  | 3 => 2773480762
  | 4 => 1359893119
  | 5 => 2600822924
  | 6 => 528734635
  | _ => 1541459225
/-- The words behind the pieces of these numbers. -/
def fold (p : List Int) (xs : List Nat) : Nat → Int := xs.foldl (fun h x => turn h (fun j => rd p ((64 * x + j : Nat) : Int)) kk) h0
theorem fold_snoc (p : List Int) (xs : List Nat) (x : Nat) : fold p (xs ++ [x]) = turn (fold p xs) (fun j => rd p ((64 * x + j : Nat) : Int)) kk := by simp [fold]
/-- The bytes of the first k words. -/
def bytes (h : Nat → Int) : Nat → List Int
  | 0 => []
  | k + 1 => bytes h k ++ [h k / 16777216 % 256, h k / 65536 % 256, h k / 256 % 256, h k % 256]
theorem bytes_length (h : Nat → Int) (k : Nat) : (bytes h k).length = 4 * k := by
  induction k with
  | zero => rfl
  | succ k ih => simp only [bytes, List.length_append, List.length_cons, List.length_nil, ih]; omega
def text (p : List Int) : ByteArray := strOfNums (bytes (fold p (List.range (p.length / 64))) 8)
theorem Off.keeps {B : Nat} {a w : World} {v : Value} (h : Off a.heap.size B a w) (hc : a.cell? ⟨B, 0, none⟩ = some v) : KeepsOthers a w :=
  ⟨h.size, fun k o hk ho => by
    have hlt := (Array.getElem?_eq_some_iff.1 hk).1
    refine (h.block k hlt fun e => ?_).trans hk
    subst e
    cases o <;> simp_all [World.cell?, Obj.isCells]⟩
theorem Off.grown {n B : Nat} {a w w' : World} {row : Option Nat} (h : Off n B a w) (hn : n ≤ w.heap.size) (hg : w.grownBy w' row) (hr : ∀ r, row = some r → n ≤ r) : Off n B a w' :=
  h.trans ⟨hg.os, hg.tape, hg.output, hg.size, fun k hk hB => hg.block k (by omega) (fun e => by have := hr k e.symm; omega)⟩
/-- What the loop over the pieces keeps. -/
def Inv (n : Nat) (wl : World) {m : Nat} (p : List Int) (pre : List (Fin m)) (W : World) : Prop := Cells W n 8 (fold p (pre.map Fin.val)) ∧ Off wl.heap.size n wl W
theorem Inv.own {n m : Nat} {wl : World} {p : List Int} (hn : n < wl.heap.size) : OwnFrom wl.heap.size (Inv n wl (m := m) p) := fun s W W' row hs hg hr =>
  ⟨hs.1.of (hg.block n (by have := hs.2.size; omega) (fun e => by have := (hr n e.symm).1; omega)), hs.2.grown hs.2.size hg (fun r e => (hr r e).1)⟩
theorem ix (cs : Array Value) (i : Nat) (x : Int) (w : World) (hi : i < 8) (h : cs[i]? = some (.int .u32 x)) : (Instr.index 97 (.agg cs) (.int .i64 (i : Int))).run Try.prog w = .ok (.int .u32 x) w := by
  simp [Instr.index, run_underlying Try.underlying97, asIntOf, go_sem, hi, h]
attribute [local go_sem] Oper.semAt_some
set_option maxHeartbeats 8000000 in
set_option maxRecDepth 100000 in
theorem digest_calls (A0 : Option Addr) (c0 : Nat) (l0 p : List Int) (w : World) (hr0 : Kd.C (Kd.int .u8) w A0 l0.length l0)
    (hP : ∀ w1, Kd.C (Kd.int .u8) w1 A0 l0.length l0 → Calls Try.prog 37 #[.slice A0 l0.length c0] w1 fun e w' => ∃ v0_ : Value, e = .returned v0_ ∧ Kd.R (Kd.int .u8) 5 w' w1.heap.size (fun _ => True) v0_ p ∧ Below w1.heap.size w1 w')
    (m : Nat) (hm : p.length = 64 * m) (hp0 : 0 < m) (hp1 : p.length ≤ 140737488351232) :
    Calls Try.prog 72 #[.slice A0 l0.length c0] w fun e w' => e = .returned (.string (text p)) ∧ Below w.heap.size w w' := by
  refine (callsIn_wide (n := 6)).1 ?_
  refine callsIn_of_wp_marks Try.func72 rfl trivial ?_ rfl
  simp only [Try.ntmps72, List.size_toArray, List.length_cons, List.length_nil, Nat.reduceAdd, Nat.reduceSub, Array.replicate_succ, Array.replicate_zero, List.push_toArray, List.append_toArray, List.nil_append, List.cons_append]
  have hn1 : (1 : Nat) ≤ 6 - 1 := by decide
  have hpp : 0 < p.length := by omega
  gi_wp2_with (first
    | (refine ⟨trivial, ?_⟩; gi_at_call 105; refine (callsIn_wide.2 (rounds_calls _)).mono ?_; rintro e w' ⟨rfl, rfl⟩)
    | (refine ⟨trivial, ?_⟩; gi_at_call 37; refine (callsIn_wide.2 (hP _ ?hC)).mono ?_; (case hC => exact Kd.C_alloc (Kd.C_alloc (Kd.C_alloc hr0 _) _) _); rintro e w3 ⟨v0, rfl, hR3, hB3⟩; obtain ⟨g, cap, rfl, hg0, hg1, hg2⟩ := Kd.R_form hR3 hpp)
    | (refine ⟨trivial, ?_⟩; gi_at_call 106; refine (chunk_in Fence.wide _ trivial rfl _ _ _ _ _).mono ?_; rintro e w' ⟨rfl, rfl⟩))
  simp only [World.size_alloc] at hg0
  have hb0 : ∀ (H R K : Obj), Below w.heap.size w (((w.alloc H).alloc R).alloc K) := fun H R K => (((Below.refl _ w).alloc (Nat.le_refl _) _).alloc (by simp) _).alloc (by simp; omega) _
  have hB3' : Below w.heap.size w w3 := (hb0 _ _ _).trans (hB3.mono (by simp; omega))
  have hs3 : w.heap.size + 3 ≤ w3.heap.size := by have := hB3.size; simpa using this
  have hk3 : w3.cell? ⟨w.heap.size + 1 + 1, 0, none⟩ = some (.pointer (some ⟨w.heap.size + 1, 0, none⟩)) := by
    refine (hB3.cell (by simp)).trans ?_
    refine (World.cell?_alloc_at (hn := by simp) ..).trans ?_
    rfl
  have hH3 : Cells w3 w.heap.size 8 h0 := by
    refine Cells.below ?_ hB3 (by simp; omega)
    refine Cells.of (W := w.alloc _) (Cells.alloc fun j hj => ?_) ((Below.heap_alloc _ _ _ (by simp; omega)).trans (Below.heap_alloc _ _ _ (by simp)))
    match j, hj with
    | 0, _ => rfl
    | 1, _ => rfl
    | 2, _ => rfl
    | 3, _ => rfl
    | 4, _ => rfl
    | 5, _ => rfl
    | 6, _ => rfl
    | 7, _ => rfl
  have hK3 : Cells w3 (w.heap.size + 1) 64 kk := by
    refine Cells.below ?_ hB3 (by simp)
    refine Cells.of (W := World.alloc _ _) ?_ (Below.heap_alloc _ _ _ (by simp))
    have := rounds_cells (w.alloc (.cells #[Value.int IntKind.u32 1779033703, Value.int IntKind.u32 3144134277, Value.int IntKind.u32 1013904242, Value.int IntKind.u32 2773480762, Value.int IntKind.u32 1359893119, Value.int IntKind.u32 2600822924, Value.int IntKind.u32 528734635, Value.int IntKind.u32 1541459225] 97))
    rwa [World.size_alloc] at this
  have hby : ∀ j : Nat, j < 64 * m → w3.cell? ⟨g, j, none⟩ = some (.int .u8 (rd p (j : Int))) := fun j hj =>
    (Kd.R_cell (enc := Value.int .u8) (h1 := fun _ => rfl) (0 : Int) hR3 (j : Int) (by omega) (by omega)).1
  have hcap : 64 * m ≤ cap := by have := (Kd.R_reads' hR3).2.1; omega
  clear hB3 hb0 hP hr0 hR3
  obtain ⟨wl, hwl⟩ : ∃ wl, (w3.alloc (Obj.cells #[Value.slice (some ⟨g, 0, none⟩) (64 * m) cap] 27)).alloc (Obj.cells #[Value.int IntKind.i64 64] 3) = wl := ⟨_, rfl⟩
  have hB4 : Below w3.heap.size w3 wl := by rw [← hwl]; exact ((Below.refl _ _).alloc (Nat.le_refl _) _).alloc (by simp) _
  have hsl : wl.heap.size = w3.heap.size + 2 := by rw [← hwl]; simp
  have hc1 : wl.cell? ⟨w3.heap.size, 0, none⟩ = some (.slice (some ⟨g, 0, none⟩) (64 * m) cap) := by
    rw [← hwl]
    refine (World.cell?_alloc_past (hn := by simp) ..).trans ?_
    exact (World.cell?_alloc_at (hn := rfl) ..).trans rfl
  have hc2 : wl.cell? ⟨w3.heap.size + 1, 0, none⟩ = some (.int .i64 64) := by
    rw [← hwl]
    exact (World.cell?_alloc_at (hn := by simp) ..).trans rfl
  rw [hwl]
  clear hwl
  refine wpIn_rangeFunc_ownF rfl (by decide) (gf := 128) (lb := #[.pointer (some ⟨w3.heap.size, 0, none⟩), .pointer (some ⟨w3.heap.size + 1, 0, none⟩)]) rfl trivial (enters_of Try.func128 (by kernel_rfl) rfl)
    (chunk_stops Fence.wide _ trivial rfl (by decide) w3.heap.size (w3.heap.size + 1) wl.heap.size w.heap.size g 0 cap m hcap (by omega) (by omega) (by omega) (by omega) (by omega) wl (Nat.le_refl _) hc1 hc2)
    (fun h k => h.trans k) (fun W l o o' hl h h1 h2 => Off.of (belowK_b (Nat.le_refl _) W l o o' hl h h1 h2)) (Below.refl _ _) (fun _ => rfl)
    (Inv w.heap.size wl p) (fun _ _ _ => False) (Inv.own (by omega)) (fun _ _ _ _ _ hs _ _ => hs)
    ⟨hH3.below hB4 (by omega), Off.of (Below.refl _ _)⟩
    (fun x => { tmps := #[Value.slice A0 l0.length c0, undef, Value.string ByteArray.empty, Value.pointer (some ⟨w.heap.size, 0, none⟩), Value.pointer (some ⟨w.heap.size + 1 + 1, 0, none⟩), Value.slice (some ⟨g, 0 + 64 * x.1, none⟩) 64 64, undef, undef, undef, Value.agg #[Value.int IntKind.u32 1779033703, Value.int IntKind.u32 3144134277, Value.int IntKind.u32 1013904242, Value.int IntKind.u32 2773480762, Value.int IntKind.u32 1359893119, Value.int IntKind.u32 2600822924, Value.int IntKind.u32 528734635, Value.int IntKind.u32 1541459225], Value.pointer (some ⟨w.heap.size + 1, 0, none⟩), Value.slice A0 l0.length c0, Value.slice (some ⟨g, 0, none⟩) (64 * m) cap, Value.func (.func 128) #[] #[Value.pointer (some ⟨w3.heap.size, 0, none⟩), Value.pointer (some ⟨w3.heap.size + 1, 0, none⟩)], Value.slice (some ⟨g, 0 + 64 * x.1, none⟩) 64 64, undef, undef, undef, undef, undef, undef, undef, undef, undef, undef, undef, undef, undef, undef, undef, undef, undef, undef, undef, undef, undef, undef, undef, undef], defers := [] }) ?assign ?body ?done ?stop
  case assign =>
    intro l x W K hK
    dsimp only [piece]
    simp only [Nat.zero_add] at hK ⊢
    gi_wp2
    exact hK
  case stop =>
    rintro D c pre W _ _ h _
    exact h.elim
  case body =>
    rintro l pre x W ⟨hC, hO⟩ hlen
    have hkc := (World.cell?_of_block (w := w3) (w' := W) (a := ⟨w.heap.size + 1 + 1, 0, none⟩) ((hO.block _ (by show w.heap.size + 1 + 1 < _; omega) (by show w.heap.size + 1 + 1 ≠ _; omega)).trans (hB4.block _ (by show w.heap.size + 1 + 1 < _; omega)))).trans hk3
    have hKW : Cells W (w.heap.size + 1) 64 kk := hK3.of ((hO.block _ (by omega) (by omega)).trans (hB4.block _ (by omega)))
    have hbW : ∀ j, j < 64 → W.cell? ⟨g, 64 * x.1 + j, none⟩ = some (.int .u8 (rd p ((64 * x.1 + j : Nat) : Int))) := fun j hj => by
      have hx := x.2
      exact (World.cell?_of_block (w := w3) (w' := W) (a := ⟨g, 64 * x.1 + j, none⟩) ((hO.block g (by omega) (by omega)).trans (hB4.block g (by omega)))).trans (hby _ (by omega))
    have hsW := hO.size
    have hgn : g ≠ w.heap.size := by omega
    have hg' : g < W.heap.size := by omega
    have hn' : w.heap.size < W.heap.size := by omega
    have hk' : w.heap.size + 1 < W.heap.size := by omega
    have hkn : w.heap.size + 1 ≠ w.heap.size := by omega
    have hC0 := (hC 0 (by omega)).1
    simp only [Nat.zero_add]
    gi_wp2_with (refine ⟨trivial, ?_⟩; gi_at_call 107; refine (CallsIn.inRound l (callsIn_wide.2 (turn_calls w.heap.size (w.heap.size + 1) g (64 * x.1) 64 _ (fun j => rd p ((64 * x.1 + j : Nat) : Int)) kk W hg' hn' hk' hgn hkn hbW hC hKW))).mono ?_; rintro e w' ⟨⟨v, rfl⟩, hO', hC'⟩)
    refine ⟨hO'.keeps hC0, hO'.mono hsW, ?_, hO.trans (hO'.mono hsW)⟩
    rw [List.map_append, List.map_singleton, fold_snoc]
    exact hC'
  case done =>
    rintro D xs W hD rfl ⟨hC, hO⟩ hK
    rw [first_map] at hC
    have hBW : Below w.heap.size w W := (hB3'.trans (hB4.mono (by omega))).trans (hO.below (by omega) (Nat.le_refl _))
    have htx : text p = strOfNums (bytes (fold p (List.range m)) 8) := by
      unfold text
      rw [show p.length / 64 = m by omega]
    obtain ⟨F, hF⟩ : ∃ F, fold p (List.range m) = F := ⟨_, rfl⟩
    rw [hF] at hC htx
    have HTX := Aside0.mk htx
    have hDW : D < W.heap.size := (Array.getElem?_eq_some_iff.1 hK).1
    clear hF htx hc1 hc2 hk3 hH3 hK3 hby
    obtain ⟨f0, _⟩ := hC 0 (by omega)
    obtain ⟨f1, _⟩ := hC 1 (by omega)
    obtain ⟨f2, _⟩ := hC 2 (by omega)
    obtain ⟨f3, _⟩ := hC 3 (by omega)
    obtain ⟨f4, _⟩ := hC 4 (by omega)
    obtain ⟨f5, _⟩ := hC 5 (by omega)
    obtain ⟨f6, _⟩ := hC 6 (by omega)
    obtain ⟨f7, _⟩ := hC 7 (by omega)
    gi_wp2
    refine wpIn_wide.2 ?_
    go_loopw [6, 19] (fun v6 i wr => ∃ k : Nat, k ≤ 8 ∧ i = .int .i64 k ∧ Aside0 (Kd.R (Kd.int .u8) 5 wr W.heap.size (fun _ => True) v6 (bytes F k)) ∧ Aside0 (Below W.heap.size W wr)) (fun _ i _ => 8 - (intOf i).toNat)
    case atStart => exact ⟨0, by omega, rfl, ⟨Kd.R_nil _ _ _ _ _⟩, ⟨Below.refl _ _⟩⟩
    case round =>
      obtain ⟨k, hk, rfl, HO, HB⟩ := hrel
      by_cases hlt : k < 8
      · have hix : ∀ w : World, (Instr.index 97 (.agg #[Value.int IntKind.u32 (F 0), Value.int IntKind.u32 (F 1), Value.int IntKind.u32 (F 2), Value.int IntKind.u32 (F 3), Value.int IntKind.u32 (F 4), Value.int IntKind.u32 (F 5), Value.int IntKind.u32 (F 6), Value.int IntKind.u32 (F 7)]) (.int .i64 (k : Int))).run Try.prog w = .ok (.int .u32 (F k)) w := fun w => ix _ k _ w hlt (by
          match k, hlt with
          | 0, _ => rfl
          | 1, _ => rfl
          | 2, _ => rfl
          | 3, _ => rfl
          | 4, _ => rfl
          | 5, _ => rfl
          | 6, _ => rfl
          | 7, _ => rfl)
        have hlen := bytes_length F k
        have hbs : (bytes F (k + 1)) = bytes F k ++ [F k / 16777216 % 256, F k / 65536 % 256, F k / 256 % 256, F k % 256] := rfl
        have HL := Aside0.mk hlen
        have HS := Aside0.mk hbs
        obtain ⟨Ao, co, eo⟩ := Kd.R_slice HO.out
        subst eo
        obtain ⟨bs, hbs'⟩ : ∃ bs, bytes F k = bs := ⟨_, rfl⟩
        obtain ⟨fk, hfk⟩ : ∃ x, F k = x := ⟨_, rfl⟩
        rw [hbs'] at HO HL
        rw [hbs', hfk] at HS
        rw [hbs']
        rw [hfk] at hix
        clear hlen hbs hbs' hfk
        go_wp2_with (first
          | ((with_reducible refine gate_dst (N := 34) rfl ?_); refine Kd.R_lit (Kd.int .u8) _ 5 ?hg (N := 34) ?hd (xs := [fk / 16777216 % 256, fk / 65536 % 256, fk / 256 % 256, fk % 256]) (inner := [.int .u8 (fk / 16777216 % 256), .int .u8 (fk / 65536 % 256), .int .u8 (fk / 256 % 256), .int .u8 (fk % 256)]) (ok := fun _ => True) (okp := fun _ => True) ?hr ?hp (fun _ hk => hk) trivial (Below.refl _ _) (Nat.le_refl _) (by simp) ?_; (case hd => rfl); (case hg => rfl); (case hr => first | (go_simp; done) | (go_simp; rfl)); (case hp => exact (Reps.one (show Kd.M (Kd.int .u8) _ _ _ _ [.int .u8 _] from rfl) (Reps.one (show Kd.M (Kd.int .u8) _ _ _ _ [.int .u8 _] from rfl) (Reps.one (show Kd.M (Kd.int .u8) _ _ _ _ [.int .u8 _] from rfl) (Reps.one (show Kd.M (Kd.int .u8) _ _ _ _ [.int .u8 _] from rfl) (Reps.none _ _)))))); intro v34 w34 ho hb hg_ hnew_; clear hg_ hnew_; have HOo := Aside0.mk (Kd.R_elder' HO.out (Kd.R_base ho) hb); have HBb := Aside0.mk (below_step HB.out hb); have HOl := Aside0.mk ho; clear ho hb HB; obtain ⟨Al, cl, el⟩ := Kd.R_slice HOl.out; subst el)
          | ((with_reducible refine gate_builtin (b := .append) (xs := #[.tmp 22, .tmp 34]) rfl ?_); at_builtin; refine Kd.R_append_rows (Kd.int .u8) (w0 := W) W.heap.size rfl (.tmp 22) (.tmp 34) 27 5 (.int .u8 0) 1 rfl Try.underlying27 X.info5 rfl (by decide) (by omega) _ bs [fk / 16777216 % 256, fk / 65536 % 256, fk / 256 % 256, fk % 256] _ _ _ (fun k_ => some k_ ≠ (.slice Al [fk / 16777216 % 256, fk / 65536 % 256, fk / 256 % 256, fk % 256].length cl : Value).ownBlock) (fun _ => False) rfl rfl ?aO ?aR (fun _ _ h => h) (fun _ h => h.elim) ?aF ?aB ?aS ?aL ?_; (case aR => exact (Kd.R_reads' HOl.out).2.2); (case aB => exact HBb.out); (case aF => exact fun k_ hk => Kd.fresh' (Kd.R_lt HOl.out) k_ hk); (case aO => exact Kd.R_mono HOo.out (fun _ hk => hk.2)); (case aS => exact below_size HBb.out); (case aL => have := HL.out; simp; omega); intro v35 w35 ho hb hg hat; have HOn := Aside0.mk ho; have HB := Aside0.mk hb; clear ho hb hg hat))
        go_roundw
        case measure => simp [intOf]; omega
        case rel => exact ⟨k + 1, by omega, by go_num, ⟨by rw [HS.out]; exact Kd.R_mono HOn.out (fun _ _ => trivial)⟩, HB⟩
      · obtain rfl : k = 8 := by omega
        have hcv31 := own_string (P := Try.prog) Try.underlying27 Try.underlying5 Try.underlying9 (Kd.own_of_R HO.out)
        obtain ⟨Ao, co, eo⟩ := Kd.R_slice HO.out
        subst eo
        have hKr : wr.heap[D]? = some (.deferred (some [])) := (HB.out.block D hDW).trans hK
        go_wp2
        refine wpIn_wide.2 ?_
        go_wp2

        refine ⟨by simp, .inl ⟨_, _, rfl, run_takeDeferred hKr, ?_⟩⟩
        exact ⟨_, results_tmp rfl _ _ _, by rw [HTX.out]; rfl, (hBW.trans (HB.out.mono (by omega))).trans (belowK_b (w := w) (Nat.le_refl _) wr D _ _ (by omega) hKr rfl rfl)⟩
end Go.Proofs.Ytmkhhnfmahdijaa.Sha
