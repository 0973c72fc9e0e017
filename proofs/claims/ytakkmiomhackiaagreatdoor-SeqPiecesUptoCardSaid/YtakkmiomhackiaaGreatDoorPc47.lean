/-
  The law's own function works: two records told, a broken one between.
-/
import Derived.Test.YtakkmiomhackiaaGreatDoorPc46
import Derived.Test.YtakkmiomhackiaaGreatDoorPc44
import Derived.Lib.SlBytesConst
set_option linter.all false
set_option maxRecDepth 100000
set_option maxHeartbeats 16000000
namespace Go.Proofs.YtakkmiomhackiaaGreatDoor
open Go.RowKit
open Go.RowKit Go.Shelf
attribute [local go_sem] Oper.semAt_some
def worksBytes : List UInt8 := [30, 49, 10, 30, 91, 10, 30, 34, 97, 34, 10]
theorem RecIs.minds (B : Nat) (recs : List (Except (Nat × Nat) Tr)) (k : Nat) (x : Rec) : Minds2 B (RecIs recs k x) := by
 rintro A C ⟨h1, h2⟩ hk;refine ⟨h1, h2.keeps hk ?_⟩;rintro k c T' hT' hc ⟨_, (⟨c', T, h, hT⟩ | ⟨o, h, ho⟩)⟩
 ·rw [hc] at h;cases h;rcases hT with rfl | rfl | rfl <;> exact absurd hT' (by decide)
 ·rw [hc] at h;cases h;simp [Obj.isCells] at ho
def WorksAt (n₀ ib : Nat) (w : World) (pre : List Rec) (W : World) : Prop :=
 W.heap[ib]? = some (.cells #[.int .i64 pre.length] 3 (0, 0)) ∧ W.heap[n₀]? = some (.cells #[.bool false] 4 (0, 0)) ∧ Below n₀ w W
theorem WorksAt.minds {n₀ ib B : Nat} {w : World} (hi : ib < B) (hn : n₀ < B) (hw : n₀ = w.heap.size) (pre : List Rec) : Minds2 B (WorksAt n₀ ib w pre) := by
 rintro A C ⟨h1, h2, h3⟩ hk;refine ⟨hk.blk h1 (fun h => by omega), hk.blk h2 (fun h => by omega), h3.trans (hk.toBelow ?_ (fun k h => by omega))⟩;have := h3.size;omega
theorem stays_set {W : World} {b o : Nat} {c : Array Value} {T : TypeId} (h : W.heap[b]? = some (.cells c T (0, 0))) (hT : T = 3 ∨ T = 4) (v : Value) : Stays W (W.setCell ⟨b, o, none⟩ v) :=
 Stays.of_keeps (F := fun k => k = b) ((Keeps.refl (fun k => k = b) W).setCell (p := ⟨b, o, none⟩) (.inl rfl) _) (fun k e => by
  subst e;rintro ⟨c', T', h', hT'⟩;rw [h] at h';cases h';rcases hT with rfl | rfl <;> exact absurd hT' (by decide))
theorem stays_alloc (W : World) (o : Obj) : Stays W (W.alloc o) := Stays.of_keeps (F := fun _ => False) ((Keeps.refl _ W).alloc o) (fun _ h => h.elim)
theorem works_any (w : World) : Calls Tryz.prog 24 #[] w fun e w' => e = .returned (.bool true) ∧ Below w.heap.size w w' := by
 have hcv := Lib.run_convert_bytes_const (P := Tryz.prog) (w.alloc (.cells #[.bool false] 4)) 22 5 (worksBytes.map encB).toArray 11 11 Tryz.underlying22 Tryz.underlying5;have hnew := heap_alloc_new (w.alloc (.cells #[.bool false] 4)) (.cells (worksBytes.map encB).toArray 5 ((worksBytes.map encB).toArray.size, (worksBytes.map encB).toArray.size + 1));rw [World.size_alloc] at hcv hnew;obtain ⟨W1, hW1⟩ : ∃ W1, (w.alloc (.cells #[.bool false] 4)).alloc (.cells (worksBytes.map encB).toArray 5 ((worksBytes.map encB).toArray.size, (worksBytes.map encB).toArray.size + 1)) = W1 := ⟨_, rfl⟩;have hb1 : Below w.heap.size w W1 := by rw [← hW1]; exact ((Below.refl _ _).alloc (Nat.le_refl _) _).alloc (by simp) _
 have hres : W1.heap[w.heap.size]? = some (.cells #[.bool false] 4 (0, 0)) := by rw [← hW1]; exact (Below.heap_alloc _ _ _ (by simp)).trans (heap_alloc_new w _)
 have hsz1 : W1.heap.size = w.heap.size + 2 := by rw [← hW1]; simp
 rw [hW1] at hcv hnew
 have hhas : HasBytes W1 (.slice (some ⟨w.heap.size + 1, 0, none⟩) 11 11) worksBytes := by
  refine ⟨⟨_, 11, rfl, Nat.le_refl _, by decide, .inr ⟨w.heap.size + 1, 0, rfl, id, fun i x hx => ?_⟩⟩, .inr ⟨_, _, _, _, rfl⟩⟩;rw [cell_any hnew, Nat.zero_add]
  have : ((worksBytes.map encB).toArray)[i]? = some (encB x) := by
   rw [List.getElem?_toArray, List.getElem?_map, hx]; rfl
  exact this
 have HALL := Lib.hid (all_any W1 _ worksBytes 4 (by decide) (by decide) hhas (by decide));have HB1 := Lib.hid hb1;have HRES := Lib.hid hres;have HSZ1 := Lib.hid hsz1;clear hnew hW1 hb1 hres hsz1 hhas;have hcv2 : (convert 22 22 (.slice (some ⟨w.heap.size + 1, 0, none⟩) 11 11)).run Tryz.prog ((w.alloc (.cells #[.bool false] 4)).alloc (.cells #[.int .u8 30, .int .u8 49, .int .u8 10, .int .u8 30, .int .u8 91, .int .u8 10, .int .u8 30, .int .u8 34, .int .u8 97, .int .u8 34, .int .u8 10] 5)) = .ok (.slice (some ⟨w.heap.size + 1, 0, none⟩) 11 11) W1 := hcv;clear hcv;refine (callsIn_wide (n := 6)).1 ?_;refine callsIn_of_wp_marks Tryz.func24 rfl trivial ?_ rfl;simp only [Tryz.ntmps24, List.size_toArray, List.length_cons, List.length_nil, Nat.reduceAdd, Nat.reduceSub, Array.replicate_succ, Array.replicate_zero, List.push_toArray, List.append_toArray, List.nil_append, List.cons_append];gi_wp2_with fail;refine ⟨trivial, ?_⟩;refine (callsIn_wide.2 (HALL.out)).mono ?_;rintro e w2 ⟨db, rb, v, rfl, hdb, hrb, hw2, hb2⟩;have hb : Below w.heap.size w w2 := chain HB1.out hb2;have hres2 := keep HRES.out hb2;have HB := Lib.hid hb;have HDB := Lib.hid hdb;have HRB := Lib.hid hrb;have HW2 := Lib.hid hw2;have hrc : w2.cell? ⟨w.heap.size, 0, none⟩ = some (.bool false) := cell_of_one hres2;have hrf : w2.frozen? ⟨w.heap.size, 0, none⟩ = false := free_of_one hres2;have HRES2 := Lib.hid hres2;have hfn : ∀ w : World, (binOp .eql 70 (.func (.func 66) #[] #[.pointer (some ⟨db, 0, none⟩), .pointer (some ⟨rb, 0, none⟩)]) .nilFunc).run Tryz.prog w = .ok (.bool false) w := fun _ => by kernel_rfl
 have hrecs := recs_works;have hseq := all1_any 5 db rb 4 worksBytes v w2 (by decide) (by decide) HDB.out HRB.out HW2.out (by decide);rw [show ((((Rd.new 4).feed worksBytes).done).recs) = _ from hrecs] at hseq;have HSEQ := Lib.hid hseq;clear hb hres2 hdb hrb hw2 hb2 hcv2 hrecs hseq;gi_wp2_with fail;have hib : (w2.alloc (.cells #[.int .i64 0] 3)).heap[w2.heap.size]? = some (.cells #[.int .i64 0] 3 (0, 0)) := heap_alloc_new w2 _;have hrs : (w2.alloc (.cells #[.int .i64 0] 3)).heap[w.heap.size]? = some (.cells #[.bool false] 4 (0, 0)) := (Below.heap_alloc _ _ _ (lt_of_block HRES2.out)).trans HRES2.out
 refine range_law (gf := 66) (lb := #[.pointer (some ⟨db, 0, none⟩), .pointer (some ⟨rb, 0, none⟩)]) rfl (enters_of Tryz.func66 (by kernel_rfl) rfl) HSEQ.out ((Below.refl _ _).alloc (Nat.le_refl _) _) (fun _ => rfl)
  (WorksAt w.heap.size w2.heap.size w) (WorksAt.minds (by simp) (by have := lt_of_block HRES2.out; simp; omega) rfl) ⟨hib, hrs, HB.out.alloc HB.out.size _⟩
  (fun pre x a1 W => a1 = { tmps := (.pointer (some ⟨w.heap.size, 0, none⟩) :: (.func (.func 66) #[] #[.pointer (some ⟨db, 0, none⟩), .pointer (some ⟨rb, 0, none⟩)]) :: .nilIface :: .pointer (some ⟨w2.heap.size, 0, none⟩) :: .pointer x.q :: x.e :: undef :: undef :: (.tuple #[(.func (.func 66) #[] #[.pointer (some ⟨db, 0, none⟩), .pointer (some ⟨rb, 0, none⟩)]), .nilIface]) :: (.slice (some ⟨w.heap.size + 1, 0, none⟩) 11 11) :: (.slice (some ⟨w.heap.size + 1, 0, none⟩) 11 11) :: (.tuple #[(.func (.func 66) #[] #[.pointer (some ⟨db, 0, none⟩), .pointer (some ⟨rb, 0, none⟩)]), .nilIface]) :: (.func (.func 66) #[] #[.pointer (some ⟨db, 0, none⟩), .pointer (some ⟨rb, 0, none⟩)]) :: .nilIface :: .nilIface :: .bool false :: .bool false :: (.func (.func 66) #[] #[.pointer (some ⟨db, 0, none⟩), .pointer (some ⟨rb, 0, none⟩)]) :: .bool false :: .bool false :: (.func (.func 66) #[] #[.pointer (some ⟨db, 0, none⟩), .pointer (some ⟨rb, 0, none⟩)]) :: .pointer x.q :: x.e :: undef :: undef :: undef :: undef :: undef :: undef :: undef :: undef :: undef :: undef :: undef :: undef :: undef :: undef :: undef :: undef :: undef :: undef :: undef :: undef :: undef :: undef :: undef :: undef :: undef :: undef :: undef :: undef :: undef :: undef :: undef :: undef :: ([] : List Value)).toArray, defers := [] } ∧ WorksAt w.heap.size w2.heap.size w pre W ∧ RecIs [.ok (.num 4607182418800017408), .error (95, 6), .ok (.text [97])] pre.length x W) ?minds ?assign ?body ?done
 case minds =>
  rintro pre x a1 A C ⟨h1, h2, h3⟩ hk;exact ⟨h1, WorksAt.minds (by simp) (by have := lt_of_block HRES2.out; simp; omega) rfl pre A C h2 hk, RecIs.minds _ _ _ _ A C h3 hk⟩
 case assign =>
  rintro l pre x W K hi hx hK;dsimp only [recEnc];gi_wp2_with fail;exact hK _ _ (KeepsOthers.refl _) (Stays.refl _) ⟨rfl, hi, hx⟩
 case body =>
  rintro l pre x a1 W ⟨rfl, ⟨hi, hr, hB⟩, hrk, hra⟩;have hHI := Lib.hid hi;have hHR := Lib.hid hr;have hHB := Lib.hid hB;have hne : w.heap.size ≠ w2.heap.size := by have := lt_of_block HRES2.out; omega
  have HNE := Lib.hid hne;have hst : KeepsOthers W W := KeepsOthers.refl W;obtain ⟨k, hk⟩ : ∃ k, pre.length = k := ⟨_, rfl⟩;have hlen : (pre ++ [x]).length = k + 1 := by rw [List.length_append, hk]; rfl
  have HLEN := Lib.hid hlen;have HKL := Lib.hid hk
  have hend : ∀ W', W' = W.setCell ⟨w2.heap.size, 0, none⟩ (.int .i64 ((k + 1 : Nat) : Int)) → KeepsOthers W W' ∧ Stays W W' ∧ WorksAt w.heap.size w2.heap.size w (pre ++ [x]) W' := by
   rintro W' rfl;refine ⟨KeepsOthers.setCell _ _ _, stays_set hi (.inl rfl) _, ?_, ?_, ?_⟩
   ·rw [hlen]; exact set_at hi _
   ·exact (set_else _ (by exact hne)).trans hr
   ·exact hB.setCell (p := ⟨w2.heap.size, 0, none⟩) (by have := lt_of_block HRES2.out; show w.heap.size ≤ w2.heap.size; omega) _
  have HEND := Lib.hid hend;rw [hk] at hi hrk;obtain ⟨q, e, it⟩ := x;have hic : W.cell? ⟨w2.heap.size, 0, none⟩ = some (.int .i64 k) := cell_of_one hi;have hif : W.frozen? ⟨w2.heap.size, 0, none⟩ = false := free_of_one hi;clear hi hr hB hend hlen hk hne
  match k, hrk with
  | 0, hrk =>
   cases hrk;obtain ⟨he, T, v, hq, _, _⟩ := hra;cases hq;simp only [] at he;subst he;have hic : W.cell? ⟨w2.heap.size, 0, none⟩ = some (.int .i64 0) := hic;clear hrk HLEN hst;gi_wp2_with fail;exact HEND.out _ rfl
  | 1, hrk =>
   cases hrk;obtain ⟨hq, he⟩ := hra;cases hq;simp only [] at he;subst he;have hic : W.cell? ⟨w2.heap.size, 0, none⟩ = some (.int .i64 1) := hic;have hm : ∀ w, (Instr.typeAssert (.iface 151 (.agg #[.int .i64 95, .int .i64 6])) 26 151 true).run Tryz.prog w = .ok (.tuple #[.agg #[.int .i64 95, .int .i64 6], .bool true]) w := fun _ => by kernel_rfl
   clear hrk HLEN hst;rw [show spotV 95 6 = .iface 151 (.agg #[.int .i64 95, .int .i64 6]) from rfl] at HEND ⊢;have hib := lt_of_block (hHI.out);have hnew := heap_alloc_new W (.cells #[.int .i64 95, .int .i64 6] 151);have x1 : (W.alloc (.cells #[.int .i64 95, .int .i64 6] 151)).cell? ⟨W.heap.size, 1, none⟩ = some (.int .i64 6) := cell_at hnew;have hic2 : (W.alloc (.cells #[.int .i64 95, .int .i64 6] 151)).cell? ⟨w2.heap.size, 0, none⟩ = some (.int .i64 1) := ((Keeps.refl (fun _ => False) W).alloc _).cell hic id;have hif2 : (W.alloc (.cells #[.int .i64 95, .int .i64 6] 151)).frozen? ⟨w2.heap.size, 0, none⟩ = false := free_of_one ((Below.heap_alloc _ _ _ hib).trans hHI.out);clear hnew hic hif;gi_wp2_with fail;obtain ⟨g1, g2, g3, g4, g5⟩ := HEND.out _ rfl;exact ⟨g1.trans (KeepsOthers.alloc _ _), g2.trans (stays_alloc _ _), (Below.heap_alloc _ _ _ (lt_of_block g3)).trans g3, (Below.heap_alloc _ _ _ (lt_of_block g4)).trans g4, g5.alloc g5.size _⟩
  | 2, hrk =>
   cases hrk;obtain ⟨he, T, v, hq, _, _⟩ := hra;cases hq;simp only [] at he;subst he;have hic : W.cell? ⟨w2.heap.size, 0, none⟩ = some (.int .i64 2) := hic;clear hrk HLEN hst;gi_wp2_with fail;exact HEND.out _ rfl
  | k + 3, hrk => simp at hrk
 case done =>
  rintro D xs W hD hS ⟨hi, hr, hB⟩ hK;have hl : xs.length = 3 := by have := congrArg List.length hS; simpa using this
  rw [hl] at hi;have hic : W.cell? ⟨w2.heap.size, 0, none⟩ = some (.int .i64 3) := cell_of_one hi;have hif : W.frozen? ⟨w2.heap.size, 0, none⟩ = false := free_of_one hi;have hrc2 : W.cell? ⟨w.heap.size, 0, none⟩ = some (.bool false) := cell_of_one hr;have hrf2 : W.frozen? ⟨w.heap.size, 0, none⟩ = false := free_of_one hr;have HB3 := Lib.hid hB;have HR3 := Lib.hid hr;have HK3 := Lib.hid hK;have HD3 := Lib.hid hD;clear hi hr hB hS hl hK hD;gi_wp2_with fail;refine ⟨by simp, .inl ⟨_, _, rfl, run_takeDeferred ((KeepsOthers.setCell _ _ _).same D _ HK3.out rfl), ?_⟩⟩;have hr4 : (W.setCell ⟨w.heap.size, 0, none⟩ (.bool true)).heap[w.heap.size]? = some (.cells #[.bool true] 4 (0, 0)) := set_at HR3.out _
  have hr5 : ((W.setCell ⟨w.heap.size, 0, none⟩ (.bool true)).putObj D (.deferred none)).heap[w.heap.size]? = some (.cells #[.bool true] 4 (0, 0)) :=
   (World.putObj_heap_other (by have h := HD3.out; rw [World.size_alloc] at h; have := lt_of_block HRES2.out; omega)).trans hr4
  have hc5 := cell_of_one hr5;refine ⟨_, (by simp [results, Tryz.results24, go_sem, hc5]), rfl, ?_⟩;have hb4 := HB3.out.setCell (p := ⟨w.heap.size, 0, none⟩) (Nat.le_refl _) (.bool true);exact hb4.trans ((keeps_putObj (F := fun k => k = D) (.deferred none) rfl).toBelow hb4.size (fun k e => by subst e; have h := HD3.out; rw [World.size_alloc] at h; have := lt_of_block HRES2.out; omega))
end Go.Proofs.YtakkmiomhackiaaGreatDoor
