/-
  Package node, fifth part: how great a value is; how great many are together.
-/
import Derived.Test.YtakkmiomhackiaaGreatDoorPc15
set_option linter.all false
set_option maxRecDepth 100000
set_option maxHeartbeats 16000000
namespace Go.Proofs.YtakkmiomhackiaaGreatDoor
open Go.RowKit
def szV (z : Sz) : Value := .agg #[.int .i64 z.nodes, .int .i64 z.bytes, .int .i64 z.depth]
theorem sized_null (w : World) : Calls Tryz.prog 343 #[.agg #[]] w fun e w' => e = .returned (.agg #[.int .i64 1, .int .i64 0, .int .i64 1]) ∧ Below w.heap.size w w' := by
 go_enter Tryz.func343, Tryz.ntmps343;go_wp2;exact bodyPost_ret (v := .agg #[.int .i64 1, .int .i64 0, .int .i64 1]) (by simp [results, Tryz.results343, go_sem]) rfl ⟨rfl, ((Below.refl _ _).alloc (Nat.le_refl _) _).alloc (by simp) _⟩
theorem sized_flag (w : World) (b : Bool) : Calls Tryz.prog 345 #[.bool b] w fun e w' => e = .returned (.agg #[.int .i64 1, .int .i64 0, .int .i64 1]) ∧ Below w.heap.size w w' := by
 go_enter Tryz.func345, Tryz.ntmps345;go_wp2;exact bodyPost_ret (v := .agg #[.int .i64 1, .int .i64 0, .int .i64 1]) (by simp [results, Tryz.results345, go_sem]) rfl ⟨rfl, (Below.refl _ _).alloc (Nat.le_refl _) _⟩
theorem sized_size (w : World) (n b d : Nat) : Calls Tryz.prog 351 #[.agg #[.int .i64 n, .int .i64 b, .int .i64 d]] w fun e w' => e = .returned (.agg #[.int .i64 n, .int .i64 b, .int .i64 d]) ∧ Below w.heap.size w w' := by
 go_enter Tryz.func351, Tryz.ntmps351;go_wp2;exact bodyPost_ret (v := .agg #[.int .i64 n, .int .i64 b, .int .i64 d]) (by simp [results, Tryz.results351, go_sem]) rfl ⟨rfl, ((Below.refl _ _).alloc (Nat.le_refl _) _).alloc (by simp) _⟩
theorem follow_181 (w : World) (b : Nat) : (follow [⟨186, 0, true⟩] 181 (.val (.pointer (some ⟨b, 0, none⟩)))).run Tryz.prog w = .ok (183, .var ⟨b, 0, none⟩) w := by kernel_rfl
theorem info_181 (w : World) : (typeInfo 181).run Tryz.prog w = .ok Tryz.t181 w := by kernel_rfl
theorem follow_187 (w : World) (b : Nat) : (follow [⟨189, 0, true⟩] 187 (.val (.pointer (some ⟨b, 0, none⟩)))).run Tryz.prog w = .ok (183, .var ⟨b, 0, none⟩) w := by kernel_rfl
theorem info_187 (w : World) : (typeInfo 187).run Tryz.prog w = .ok Tryz.t187 w := by kernel_rfl
theorem recv_183 (w : World) (a : Addr) : (receiverAt 183 (.var a) false none).run Tryz.prog w = (loadVar 183 a).run Tryz.prog w := by kernel_rfl
theorem load_183 {w : World} {b : Nat} {c : Array Value} {T : TypeId} {v0 v1 v2 : Value} (h : w.heap[b]? = some (.cells c T (0, 0))) (h0 : c[0]? = some v0) (h1 : c[1]? = some v1) (h2 : c[2]? = some v2) : (loadVar 183 ⟨b, 0, none⟩).run Tryz.prog w = .ok (.agg #[v0, v1, v2]) w := by
 have hl := run_loadCells_list (P := Tryz.prog) w ⟨b, 0, none⟩ [v0, v1, v2] (fun j v hj => by
  have hp : (⟨b, 0, none⟩ : Addr).add j = ⟨b, j, none⟩ := by unfold Addr.add; split <;> simp_all
  rw [hp, cell_at h]
  match j, hj with
  | 0, hj => cases hj; exact h0
  | 1, hj => cases hj; exact h1
  | 2, hj => cases hj; exact h2
  | j + 3, hj => simp at hj)
 simp [loadVar];simp at hl;rw [hl];rfl
theorem method_181 {w : World} {b : Nat} {c : Array Value} {S : TypeId} {v0 v1 v2 : Value} (h : w.heap[b]? = some (.cells c S (0, 0))) (h0 : c[0]? = some v0) (h1 : c[1]? = some v1) (h2 : c[2]? = some v2) :
 (method 565 181 (.pointer (some ⟨b, 0, none⟩)) "affidavit/node.sized").run Tryz.prog w = .ok (351, .agg #[v0, v1, v2]) w := by
 have hf : Tryz.t181.methods.find? (·.name == "affidavit/node.sized") = some ⟨ "affidavit/node.sized", 388, #[⟨186, 0, true⟩], some (351, false)⟩ := by kernel_rfl
 unfold method;rw [Sem.run_bind, info_181];simp only [Result.andThen_ok, hf];rw [Sem.run_bind, follow_181];simp only [Result.andThen_ok];rw [Sem.run_bind];simp [recv_183, Sem.run_pure, load_183 h h0 h1 h2]
theorem method_187 {w : World} {b : Nat} {c : Array Value} {S : TypeId} {v0 v1 v2 : Value} (h : w.heap[b]? = some (.cells c S (0, 0))) (h0 : c[0]? = some v0) (h1 : c[1]? = some v1) (h2 : c[2]? = some v2) :
 (method 565 187 (.pointer (some ⟨b, 0, none⟩)) "affidavit/node.sized").run Tryz.prog w = .ok (351, .agg #[v0, v1, v2]) w := by
 have hf : Tryz.t187.methods.find? (·.name == "affidavit/node.sized") = some ⟨ "affidavit/node.sized", 388, #[⟨189, 0, true⟩], some (351, false)⟩ := by kernel_rfl
 unfold method;rw [Sem.run_bind, info_187];simp only [Result.andThen_ok, hf];rw [Sem.run_bind, follow_187];simp only [Result.andThen_ok];rw [Sem.run_bind];simp [recv_183, Sem.run_pure, load_183 h h0 h1 h2]
theorem sized_list_eq (l : List Tr) : (Tr.list l).sized = sumSz 0 (l.map Tr.sized) := by
 rw [Tr.sized];congr 1;exact List.attach_map_val
theorem sized_object_eq (k : List (List UInt8)) (l : List Tr) : (Tr.object k l).sized = sumSz (keysLen k) (l.map Tr.sized) := by
 rw [Tr.sized];congr 1;exact List.attach_map_val
def partSz (bytes : Nat) (l : List Sz) : Sz := l.foldl (fun (a z : Sz) => (⟨a.nodes + z.nodes, a.bytes + z.bytes, max a.depth z.depth⟩ : Sz)) ⟨1, bytes, 0⟩
theorem partSz_snoc (bytes : Nat) (l : List Sz) (z : Sz) : partSz bytes (l ++ [z]) = ⟨(partSz bytes l).nodes + z.nodes, (partSz bytes l).bytes + z.bytes, max (partSz bytes l).depth z.depth⟩ := by
 unfold partSz;rw [List.foldl_append];rfl
theorem sumSz_part (bytes : Nat) (l : List Sz) : sumSz bytes l = ⟨(partSz bytes l).nodes, (partSz bytes l).bytes, (partSz bytes l).depth + 1⟩ := rfl
theorem partSz_take {bytes : Nat} {l : List Sz} {i : Nat} {z : Sz} (h : l[i]? = some z) : partSz bytes (l.take (i + 1)) = ⟨(partSz bytes (l.take i)).nodes + z.nodes, (partSz bytes (l.take i)).bytes + z.bytes, max (partSz bytes (l.take i)).depth z.depth⟩ := by
 rw [← partSz_snoc, List.take_add_one, h];rfl
theorem foldSz_bound : ∀ (l : List Sz) (a : Sz), (∀ z ∈ l, z.within = true) → a.depth ≤ 512 →
 (l.foldl (fun (a z : Sz) => (⟨a.nodes + z.nodes, a.bytes + z.bytes, max a.depth z.depth⟩ : Sz)) a).nodes ≤ a.nodes + l.length * 65536 ∧
 (l.foldl (fun (a z : Sz) => (⟨a.nodes + z.nodes, a.bytes + z.bytes, max a.depth z.depth⟩ : Sz)) a).bytes ≤ a.bytes + l.length * 2097152 ∧
 (l.foldl (fun (a z : Sz) => (⟨a.nodes + z.nodes, a.bytes + z.bytes, max a.depth z.depth⟩ : Sz)) a).depth ≤ 512
 | [], a, _, hd => ⟨by simp, by simp, hd⟩
 | z :: l, a, h, hd => by
  have hz := h z (by simp);simp [Sz.within] at hz;have := foldSz_bound l ⟨a.nodes + z.nodes, a.bytes + z.bytes, max a.depth z.depth⟩ (fun y hy => h y (List.mem_cons_of_mem _ hy)) (by simp only []; omega);simp only [List.foldl_cons, List.length_cons] at this ⊢;omega
theorem partSz_bound {bytes : Nat} {l : List Sz} (h : ∀ z ∈ l, z.within = true) : (partSz bytes l).nodes ≤ 1 + l.length * 65536 ∧ (partSz bytes l).bytes ≤ bytes + l.length * 2097152 ∧ (partSz bytes l).depth ≤ 512 :=
 foldSz_bound l ⟨1, bytes, 0⟩ h (by simp)
def SumAt (w : World) (bytes : Nat) (zs : List Sz) (i : Nat) (wr : World) : Prop :=
 wr.heap[w.heap.size]? = some (.cells #[.int .i64 0, .int .i64 0, .int .i64 0] 183 (0, 0)) ∧ wr.heap[w.heap.size + 1]? = some (.cells #[.int .i64 (partSz bytes (zs.take i)).nodes, .int .i64 (partSz bytes (zs.take i)).bytes, .int .i64 (partSz bytes (zs.take i)).depth] 183 (0, 0)) ∧ Below w.heap.size w wr
theorem SumAt.next {w w4 : World} {bytes i : Nat} {zs : List Sz} {a z : Sz} {V0 V1 V2 : Int} (hs : w4.heap[w.heap.size + 1]? = some (.cells #[.int .i64 a.nodes, .int .i64 a.bytes, .int .i64 a.depth] 183 (0, 0))) (hr : w4.heap[w.heap.size]? = some (.cells #[.int .i64 0, .int .i64 0, .int .i64 0] 183 (0, 0)))
 (hb : Below w.heap.size w w4) (hn : partSz bytes (zs.take (i + 1)) = ⟨a.nodes + z.nodes, a.bytes + z.bytes, max a.depth z.depth⟩) (h0 : V0 = ((a.nodes + z.nodes : Nat) : Int)) (h1 : V1 = ((a.bytes + z.bytes : Nat) : Int)) (h2 : V2 = ((max a.depth z.depth : Nat) : Int)) (o : Obj) :
 SumAt w bytes zs (i + 1) ((((w4.setCell ⟨w.heap.size + 1, 0, none⟩ (.int .i64 V0)).setCell ⟨w.heap.size + 1, 1, none⟩ (.int .i64 V1)).setCell ⟨w.heap.size + 1, 2, none⟩ (.int .i64 V2)).alloc o) := by
 subst h0; subst h1; subst h2;have hsz := lt_of_block hs
 have hk : Keeps (fun k => k = w.heap.size + 1) w4 ((((w4.setCell ⟨w.heap.size + 1, 0, none⟩ (.int .i64 ((a.nodes + z.nodes : Nat) : Int))).setCell ⟨w.heap.size + 1, 1, none⟩ (.int .i64 ((a.bytes + z.bytes : Nat) : Int))).setCell ⟨w.heap.size + 1, 2, none⟩ (.int .i64 ((max a.depth z.depth : Nat) : Int))).alloc o) :=
  ((((Keeps.refl (fun k => k = w.heap.size + 1) w4).setCell (p := ⟨w.heap.size + 1, 0, none⟩) (.inl rfl) _).setCell (p := ⟨w.heap.size + 1, 1, none⟩) (.inl rfl) _).setCell (p := ⟨w.heap.size + 1, 2, none⟩) (.inl rfl) _).alloc _
 refine ⟨hk.blk hr (by omega), ?_, hb.trans (hk.toBelow hb.size (fun k e => by omega))⟩;rw [hn];exact (Below.heap_alloc _ _ _ (by simpa [World.setCell] using hsz)).trans (set_at (set_at (set_at hs _) _) _)
theorem summed_any (F : Nat → Prop) (w : World) (V : Value) (vals : List Value) (items : List Tr) (bytes : Nat) (hw : Win 97 id w V vals) (ht : Trees F w vals items) (hin : ∀ t ∈ items, t.sized.within = true) (hlen : items.length ≤ 65536) (hby : bytes ≤ 1073741824) :
 Calls Tryz.prog 221 #[V, .int .i64 bytes] w fun e w' => e = .returned (szV (sumSz bytes (items.map Tr.sized))) ∧ Below w.heap.size w w' := by
 obtain ⟨zs, hzs⟩ : ∃ zs, items.map Tr.sized = zs := ⟨_, rfl⟩;have hzl : zs.length = vals.length := by rw [← hzs, List.length_map, ht.1]
 have hzw : ∀ z ∈ zs, z.within = true := fun z hz => by
  rw [← hzs] at hz;obtain ⟨t, h1, rfl⟩ := List.mem_map.1 hz;exact hin t h1
 have hvl : vals.length ≤ 65536 := by rw [ht.1]; exact hlen
 have hbnd : ∀ i, (partSz bytes (zs.take i)).nodes ≤ 4294967297 ∧ (partSz bytes (zs.take i)).bytes ≤ 138512695296 ∧ (partSz bytes (zs.take i)).depth ≤ 512 := fun i => by
  have := partSz_bound (bytes := bytes) (l := zs.take i) (fun z hz => hzw z (List.mem_of_mem_take hz));have hl : (zs.take i).length ≤ 65536 := by rw [List.length_take]; omega
  omega
 rw [hzs, sumSz_part];have HZS := Lib.hid hzs;have HT := Lib.hid ht;have HWN := Lib.hid hw;have HBND := Lib.hid hbnd;have HZL := Lib.hid hzl;have HZW := Lib.hid hzw
 have hinit : SumAt w bytes zs 0 ((w.alloc (.cells #[.int .i64 0, .int .i64 0, .int .i64 0] 183)).alloc (.cells #[.int .i64 1, .int .i64 bytes, .int .i64 0] 183)) := by
  refine ⟨(Below.heap_alloc _ _ _ (by simp)).trans (heap_alloc_new w _), ?_, ((Below.refl _ _).alloc (Nat.le_refl _) _).alloc (by simp) _⟩;have := heap_alloc_new (w.alloc (.cells #[.int .i64 0, .int .i64 0, .int .i64 0] 183)) (.cells #[.int .i64 1, .int .i64 bytes, .int .i64 0] 183);rw [World.size_alloc] at this;exact this
 have HI := Lib.hid hinit;obtain ⟨va, vc, hV⟩ := hw.shape;subst hV;clear hzs hzl hzw hbnd ht hw hin hlen hinit;rcases Nat.eq_zero_or_pos vals.length with h0 | h0
 ·rw [h0];have HV0 := Lib.hid h0;clear h0;go_enter Tryz.func221, Tryz.ntmps221;go_wp2_with fail
  go_loopw [13] (fun v wr => v = .int .i64 0 ∧ Hid (SumAt w bytes zs 0 wr)) (fun _ _ => 0)
  case atStart => exact ⟨rfl, HI⟩
  case round =>
   obtain ⟨rfl, HS⟩ := hrel;obtain ⟨hr0, hs0, hbl0⟩ := HS.out;obtain ⟨a, ha⟩ : ∃ a, partSz bytes (zs.take 0) = a := ⟨_, rfl⟩;rw [ha] at hs0;have hab : a = ⟨1, bytes, 0⟩ := ha.symm;have hz0 : zs = [] := List.eq_nil_of_length_eq_zero (by rw [HZL.out, HV0.out]);have HA2 := Lib.hid (show partSz bytes zs = a by rw [← ha, hz0]; rfl);have q0 : wr.cell? ⟨w.heap.size + 1, 0, none⟩ = some (.int .i64 a.nodes) := by rw [cell_at hs0]; rfl
   have q1 : wr.cell? ⟨w.heap.size + 1, 1, none⟩ = some (.int .i64 a.bytes) := by rw [cell_at hs0]; rfl
   have q2 : wr.cell? ⟨w.heap.size + 1, 2, none⟩ = some (.int .i64 a.depth) := by rw [cell_at hs0]; rfl
   have qf : ∀ o, wr.frozen? ⟨w.heap.size + 1, o, none⟩ = false := free_at hs0;have r0 : wr.cell? ⟨w.heap.size, 0, none⟩ = some (.int .i64 0) := by rw [cell_at hr0]; rfl
   have r1 : wr.cell? ⟨w.heap.size, 1, none⟩ = some (.int .i64 0) := by rw [cell_at hr0]; rfl
   have r2 : wr.cell? ⟨w.heap.size, 2, none⟩ = some (.int .i64 0) := by rw [cell_at hr0]; rfl
   have rf : ∀ o, wr.frozen? ⟨w.heap.size, o, none⟩ = false := free_at hr0;have hab3 : a.depth ≤ 512 := by rw [hab]; simp
   have HR0 := Lib.hid hr0;have HBL := Lib.hid hbl0;clear hr0 hs0 hbl0 ha hab hz0 HI;go_wp2_with fail;rw [HA2.out];have hk1 : Keeps (fun k => k = w.heap.size + 1) wr (wr.setCell ⟨w.heap.size + 1, 2, none⟩ (.int .i64 ((a.depth : Int) + 1))) := (Keeps.refl (fun k => k = w.heap.size + 1) wr).setCell (p := ⟨w.heap.size + 1, 2, none⟩) (.inl rfl) _;have hr1 := hk1.blk HR0.out (by omega);have hfin := set_at (set_at (set_at hr1 (o := 0) (.int .i64 a.nodes)) (o := 1) (.int .i64 a.bytes)) (o := 2) (.int .i64 ((a.depth : Int) + 1));simp only [List.setIfInBounds_toArray, List.set_cons_zero, List.set_cons_succ] at hfin;have hbl := ((((HBL.out.setCell (p := ⟨w.heap.size + 1, 2, none⟩) (by simp) (.int .i64 ((a.depth : Int) + 1))).setCell (p := ⟨w.heap.size, 0, none⟩) (Nat.le_refl _) (.int .i64 a.nodes)).setCell (p := ⟨w.heap.size, 1, none⟩) (Nat.le_refl _) (.int .i64 a.bytes)).setCell (p := ⟨w.heap.size, 2, none⟩) (Nat.le_refl _) (.int .i64 ((a.depth : Int) + 1)));obtain ⟨Wf, hWf⟩ : ∃ Wf, ((((wr.setCell ⟨w.heap.size + 1, 2, none⟩ (.int .i64 ((a.depth : Int) + 1))).setCell ⟨w.heap.size, 0, none⟩ (.int .i64 a.nodes)).setCell ⟨w.heap.size, 1, none⟩ (.int .i64 a.bytes)).setCell ⟨w.heap.size, 2, none⟩ (.int .i64 ((a.depth : Int) + 1))) = Wf := ⟨_, rfl⟩;rw [hWf] at hfin hbl ⊢;have y0 : Wf.cell? ⟨w.heap.size, 0, none⟩ = some (.int .i64 a.nodes) := by rw [cell_at hfin]; rfl
   have y1 : Wf.cell? ⟨w.heap.size, 1, none⟩ = some (.int .i64 a.bytes) := by rw [cell_at hfin]; rfl
   have y2 : Wf.cell? ⟨w.heap.size, 2, none⟩ = some (.int .i64 ((a.depth : Int) + 1)) := by rw [cell_at hfin]; rfl
   exact bodyPost_ret (v := .agg #[.int .i64 a.nodes, .int .i64 a.bytes, .int .i64 ((a.depth : Int) + 1)]) (by simp [results, Tryz.results221, go_sem, y0, y1, y2]) rfl ⟨rfl, hbl⟩
 ·obtain ⟨g, off, cur, rfl, hgb, hcell⟩ : ∃ g off cur, va = some ⟨g, off, none⟩ ∧ w.heap[g]? = some (.cells cur 97 (0, 0)) ∧ ∀ i x, vals[i]? = some x → cur[off + i]? = some x := by
   rcases HWN.out with ⟨hv, hn⟩ | ⟨g, off, cap, cur, hv, hg, hc, ho, hm, hi⟩
   ·rw [hn] at h0; simp at h0
   ·cases hv; exact ⟨g, off, cur, rfl, hg, hi⟩
  have hgl := lt_of_block hgb;have HGB := Lib.hid hgb;have HCL := Lib.hid hcell;clear hgb hcell h0;go_enter Tryz.func221, Tryz.ntmps221;go_wp2_with fail
  go_loopw [13] (fun v wr => ∃ i : Nat, v = .int .i64 i ∧ i ≤ vals.length ∧ Hid (SumAt w bytes zs i wr)) (fun v _ => vals.length - (intOf v).toNat)
  case atStart => exact ⟨0, rfl, Nat.zero_le _, HI⟩
  case round =>
   obtain ⟨i, rfl, hin, HS⟩ := hrel;clear HI;obtain ⟨hr0, hs0, hbl0⟩ := HS.out;obtain ⟨a, ha⟩ : ∃ a, partSz bytes (zs.take i) = a := ⟨_, rfl⟩;have hab := HBND.out i;rw [ha] at hs0 hab;obtain ⟨hab1, hab2, hab3⟩ := hab;have q0 : wr.cell? ⟨w.heap.size + 1, 0, none⟩ = some (.int .i64 a.nodes) := by rw [cell_at hs0]; rfl
   have q1 : wr.cell? ⟨w.heap.size + 1, 1, none⟩ = some (.int .i64 a.bytes) := by rw [cell_at hs0]; rfl
   have q2 : wr.cell? ⟨w.heap.size + 1, 2, none⟩ = some (.int .i64 a.depth) := by rw [cell_at hs0]; rfl
   have qf : ∀ o, wr.frozen? ⟨w.heap.size + 1, o, none⟩ = false := free_at hs0;have r0 : wr.cell? ⟨w.heap.size, 0, none⟩ = some (.int .i64 0) := by rw [cell_at hr0]; rfl
   have r1 : wr.cell? ⟨w.heap.size, 1, none⟩ = some (.int .i64 0) := by rw [cell_at hr0]; rfl
   have r2 : wr.cell? ⟨w.heap.size, 2, none⟩ = some (.int .i64 0) := by rw [cell_at hr0]; rfl
   have rf : ∀ o, wr.frozen? ⟨w.heap.size, o, none⟩ = false := free_at hr0;have hszr := lt_of_block hs0;have HR0 := Lib.hid hr0;have HS0 := Lib.hid hs0;have HA := Lib.hid ha;have HBL := Lib.hid hbl0
   by_cases hlt : i < vals.length
   ·have hlt2 : (i : Int) < (vals.length : Int) := by omega
    obtain ⟨vi, hvi⟩ : ∃ vi, vals[i]? = some vi := ⟨_, List.getElem?_eq_getElem hlt⟩;obtain ⟨ti, hti⟩ : ∃ ti, items[i]? = some ti := ⟨_, List.getElem?_eq_getElem (by have := HT.out.1; omega)⟩;obtain ⟨zi, hzi⟩ : ∃ zi, ti.sized = zi := ⟨_, rfl⟩;have hzz : zs[i]? = some zi := by rw [← HZS.out, List.getElem?_map, hti, ← hzi]; rfl
    have htree := HT.out.2 i vi ti hvi hti
    have hcv : wr.cell? ⟨g, off + i, none⟩ = some vi := by
     rw [cell_at ((hbl0.block g hgl).trans HGB.out)];exact HCL.out i vi hvi
    have hzb := HZW.out zi (List.mem_of_getElem? hzz);have hzb2 : zi.nodes ≤ 65536 ∧ zi.bytes ≤ 2097152 ∧ zi.depth ≤ 512 := by simp [Sz.within] at hzb; omega
    obtain ⟨hzb3, hzb4, hzb5⟩ := hzb2;have HNXT := Lib.hid (show partSz bytes (zs.take (i + 1)) = ⟨a.nodes + zi.nodes, a.bytes + zi.bytes, max a.depth zi.depth⟩ by rw [partSz_take hzz, ha]);clear hvi hti hzz hzb ha hr0 hs0;cases htree with
    | null =>
     have hm : ∀ w : World, (method 565 177 (.agg #[]) "affidavit/node.sized").run Tryz.prog w = .ok (343, .agg #[]) w := fun _ => by kernel_rfl
     have HSZ := Lib.hid (fun w0 => sized_null w0);have hz1 : zi.nodes = 1 ∧ zi.bytes = 0 ∧ zi.depth = 1 := by rw [← hzi]; simp [Tr.sized]
     clear hzi hbl0;go_wp2_with fail;refine (HSZ.out _).mono ?_;rintro e w4 ⟨rfl, hb4⟩;have hs4 := keep HS0.out hb4;have hr4 := keep HR0.out hb4;have d0 : w4.cell? ⟨w.heap.size + 1, 0, none⟩ = some (.int .i64 a.nodes) := by rw [cell_at hs4]; rfl
     have d1 : w4.cell? ⟨w.heap.size + 1, 1, none⟩ = some (.int .i64 a.bytes) := by rw [cell_at hs4]; rfl
     have d2 : w4.cell? ⟨w.heap.size + 1, 2, none⟩ = some (.int .i64 a.depth) := by rw [cell_at hs4]; rfl
     have df : ∀ o, w4.frozen? ⟨w.heap.size + 1, o, none⟩ = false := free_at hs4;have hsz4 := lt_of_block hs4;have hne4 : ¬ w.heap.size + 1 = w4.heap.size := by omega
     have hne5 : ¬ w4.heap.size = w.heap.size + 1 := by omega
     have HS4 := Lib.hid hs4;have HR4 := Lib.hid hr4;have HB4 := Lib.hid (HBL.out.trans (hb4.mono (Nat.le_of_lt (by omega))));clear hs4 hr4 hb4 q0 q1 q2 qf r0 r1 r2 rf hcv;go_wp2_with fail;refine ⟨⟨i + 1, by congr 1, by omega, Lib.hid (SumAt.next HS4.out HR4.out HB4.out HNXT.out (by omega) (by omega) (by omega) _)⟩, ?_⟩
     show vals.length - ((i : Int) + 1).toNat < vals.length - ((i : Int)).toNat
     omega
    | flag b =>
     have hm : ∀ w : World, (method 565 178 (.bool b) "affidavit/node.sized").run Tryz.prog w = .ok (345, .bool b) w := fun _ => by kernel_rfl
     have HSZ := Lib.hid (fun w0 => sized_flag w0 b);have hz1 : zi.nodes = 1 ∧ zi.bytes = 0 ∧ zi.depth = 1 := by rw [← hzi]; simp [Tr.sized]
     clear hzi hbl0;go_wp2_with fail;refine (HSZ.out _).mono ?_;rintro e w4 ⟨rfl, hb4⟩;have hs4 := keep HS0.out hb4;have hr4 := keep HR0.out hb4;have d0 : w4.cell? ⟨w.heap.size + 1, 0, none⟩ = some (.int .i64 a.nodes) := by rw [cell_at hs4]; rfl
     have d1 : w4.cell? ⟨w.heap.size + 1, 1, none⟩ = some (.int .i64 a.bytes) := by rw [cell_at hs4]; rfl
     have d2 : w4.cell? ⟨w.heap.size + 1, 2, none⟩ = some (.int .i64 a.depth) := by rw [cell_at hs4]; rfl
     have df : ∀ o, w4.frozen? ⟨w.heap.size + 1, o, none⟩ = false := free_at hs4;have hsz4 := lt_of_block hs4;have hne4 : ¬ w.heap.size + 1 = w4.heap.size := by omega
     have hne5 : ¬ w4.heap.size = w.heap.size + 1 := by omega
     have HS4 := Lib.hid hs4;have HR4 := Lib.hid hr4;have HB4 := Lib.hid (HBL.out.trans (hb4.mono (Nat.le_of_lt (by omega))));clear hs4 hr4 hb4 q0 q1 q2 qf r0 r1 r2 rf hcv;go_wp2_with fail;refine ⟨⟨i + 1, by congr 1, by omega, Lib.hid (SumAt.next HS4.out HR4.out HB4.out HNXT.out (by omega) (by omega) (by omega) _)⟩, ?_⟩
     show vals.length - ((i : Int) + 1).toNat < vals.length - ((i : Int)).toNat
     omega
    | num x =>
     have hm : ∀ w : World, (method 565 179 (.float .f64 x) "affidavit/node.sized").run Tryz.prog w = .ok (347, .float .f64 x) w := fun _ => by kernel_rfl
     have HSZ := Lib.hid (fun w0 => sized_num w0 x);have hz1 : zi.nodes = 1 ∧ zi.bytes = 0 ∧ zi.depth = 1 := by rw [← hzi]; simp [Tr.sized]
     clear hzi hbl0;go_wp2_with fail;refine (HSZ.out _).mono ?_;rintro e w4 ⟨rfl, hb4⟩;have hs4 := keep HS0.out hb4;have hr4 := keep HR0.out hb4;have d0 : w4.cell? ⟨w.heap.size + 1, 0, none⟩ = some (.int .i64 a.nodes) := by rw [cell_at hs4]; rfl
     have d1 : w4.cell? ⟨w.heap.size + 1, 1, none⟩ = some (.int .i64 a.bytes) := by rw [cell_at hs4]; rfl
     have d2 : w4.cell? ⟨w.heap.size + 1, 2, none⟩ = some (.int .i64 a.depth) := by rw [cell_at hs4]; rfl
     have df : ∀ o, w4.frozen? ⟨w.heap.size + 1, o, none⟩ = false := free_at hs4;have hsz4 := lt_of_block hs4;have hne4 : ¬ w.heap.size + 1 = w4.heap.size := by omega
     have hne5 : ¬ w4.heap.size = w.heap.size + 1 := by omega
     have HS4 := Lib.hid hs4;have HR4 := Lib.hid hr4;have HB4 := Lib.hid (HBL.out.trans (hb4.mono (Nat.le_of_lt (by omega))));clear hs4 hr4 hb4 q0 q1 q2 qf r0 r1 r2 rf hcv;go_wp2_with fail;refine ⟨⟨i + 1, by congr 1, by omega, Lib.hid (SumAt.next HS4.out HR4.out HB4.out HNXT.out (by omega) (by omega) (by omega) _)⟩, ?_⟩
     show vals.length - ((i : Int) + 1).toNat < vals.length - ((i : Int)).toNat
     omega
    | text s =>
     obtain ⟨sv, hsv⟩ : ∃ sv : ByteArray, (⟨s.toArray⟩ : ByteArray) = sv := ⟨_, rfl⟩;rw [hsv] at hcv;have hss : sv.size = s.length := by rw [← hsv]; show s.toArray.size = _; simp
     have hm : ∀ w : World, (method 565 180 (.string sv) "affidavit/node.sized").run Tryz.prog w = .ok (349, .string sv) w := fun _ => by kernel_rfl
     have HSZ := Lib.hid (fun w0 => sized_text w0 sv);rw [hss] at HSZ;have hz1 : zi.nodes = 1 ∧ zi.bytes = s.length ∧ zi.depth = 1 := by rw [← hzi]; simp [Tr.sized]
     clear hsv hss;clear hzi hbl0;go_wp2_with fail;refine (HSZ.out _).mono ?_;rintro e w4 ⟨rfl, hb4⟩;have hs4 := keep HS0.out hb4;have hr4 := keep HR0.out hb4;have d0 : w4.cell? ⟨w.heap.size + 1, 0, none⟩ = some (.int .i64 a.nodes) := by rw [cell_at hs4]; rfl
     have d1 : w4.cell? ⟨w.heap.size + 1, 1, none⟩ = some (.int .i64 a.bytes) := by rw [cell_at hs4]; rfl
     have d2 : w4.cell? ⟨w.heap.size + 1, 2, none⟩ = some (.int .i64 a.depth) := by rw [cell_at hs4]; rfl
     have df : ∀ o, w4.frozen? ⟨w.heap.size + 1, o, none⟩ = false := free_at hs4;have hsz4 := lt_of_block hs4;have hne4 : ¬ w.heap.size + 1 = w4.heap.size := by omega
     have hne5 : ¬ w4.heap.size = w.heap.size + 1 := by omega
     have HS4 := Lib.hid hs4;have HR4 := Lib.hid hr4;have HB4 := Lib.hid (HBL.out.trans (hb4.mono (Nat.le_of_lt (by omega))));clear hs4 hr4 hb4 q0 q1 q2 qf r0 r1 r2 rf hcv;go_wp2_with fail;refine ⟨⟨i + 1, by congr 1, by omega, Lib.hid (SumAt.next HS4.out HR4.out HB4.out HNXT.out (by omega) (by omega) (by omega) _)⟩, ?_⟩
     show vals.length - ((i : Int) + 1).toNat < vals.length - ((i : Int)).toNat
     omega
    | list b2 itemsV vals2 l2 hb2 hblk hw2 hlen2 ht2 =>
     have hblk2 := (hbl0.block b2 (lt_of_block hblk)).trans hblk;have hm := method_181 hblk2 rfl rfl rfl;rw [hzi] at hm;have HSZ := Lib.hid (fun w0 => sized_size w0 zi.nodes zi.bytes zi.depth);have hz1 : zi.nodes = zi.nodes ∧ zi.bytes = zi.bytes ∧ zi.depth = zi.depth := ⟨rfl, rfl, rfl⟩;clear hblk hblk2 hw2 ht2;clear hzi hbl0;go_wp2_with fail;refine (HSZ.out _).mono ?_;rintro e w4 ⟨rfl, hb4⟩;have hs4 := keep HS0.out hb4;have hr4 := keep HR0.out hb4;have d0 : w4.cell? ⟨w.heap.size + 1, 0, none⟩ = some (.int .i64 a.nodes) := by rw [cell_at hs4]; rfl
     have d1 : w4.cell? ⟨w.heap.size + 1, 1, none⟩ = some (.int .i64 a.bytes) := by rw [cell_at hs4]; rfl
     have d2 : w4.cell? ⟨w.heap.size + 1, 2, none⟩ = some (.int .i64 a.depth) := by rw [cell_at hs4]; rfl
     have df : ∀ o, w4.frozen? ⟨w.heap.size + 1, o, none⟩ = false := free_at hs4;have hsz4 := lt_of_block hs4;have hne4 : ¬ w.heap.size + 1 = w4.heap.size := by omega
     have hne5 : ¬ w4.heap.size = w.heap.size + 1 := by omega
     have HS4 := Lib.hid hs4;have HR4 := Lib.hid hr4;have HB4 := Lib.hid (HBL.out.trans (hb4.mono (Nat.le_of_lt (by omega))));clear hs4 hr4 hb4 q0 q1 q2 qf r0 r1 r2 rf hcv;go_wp2_with fail;refine ⟨⟨i + 1, by congr 1, by omega, Lib.hid (SumAt.next HS4.out HR4.out HB4.out HNXT.out (by omega) (by omega) (by omega) _)⟩, ?_⟩
     show vals.length - ((i : Int) + 1).toNat < vals.length - ((i : Int)).toNat
     omega
    | object b2 keysV itemsV vals2 keys l2 hb2 hblk hk2 hw2 hlen2 ht2 =>
     have hblk2 := (hbl0.block b2 (lt_of_block hblk)).trans hblk;have hm := method_187 hblk2 rfl rfl rfl;rw [hzi] at hm;have HSZ := Lib.hid (fun w0 => sized_size w0 zi.nodes zi.bytes zi.depth);have hz1 : zi.nodes = zi.nodes ∧ zi.bytes = zi.bytes ∧ zi.depth = zi.depth := ⟨rfl, rfl, rfl⟩;clear hblk hblk2 hk2 hw2 ht2;clear hzi hbl0;go_wp2_with fail;refine (HSZ.out _).mono ?_;rintro e w4 ⟨rfl, hb4⟩;have hs4 := keep HS0.out hb4;have hr4 := keep HR0.out hb4;have d0 : w4.cell? ⟨w.heap.size + 1, 0, none⟩ = some (.int .i64 a.nodes) := by rw [cell_at hs4]; rfl
     have d1 : w4.cell? ⟨w.heap.size + 1, 1, none⟩ = some (.int .i64 a.bytes) := by rw [cell_at hs4]; rfl
     have d2 : w4.cell? ⟨w.heap.size + 1, 2, none⟩ = some (.int .i64 a.depth) := by rw [cell_at hs4]; rfl
     have df : ∀ o, w4.frozen? ⟨w.heap.size + 1, o, none⟩ = false := free_at hs4;have hsz4 := lt_of_block hs4;have hne4 : ¬ w.heap.size + 1 = w4.heap.size := by omega
     have hne5 : ¬ w4.heap.size = w.heap.size + 1 := by omega
     have HS4 := Lib.hid hs4;have HR4 := Lib.hid hr4;have HB4 := Lib.hid (HBL.out.trans (hb4.mono (Nat.le_of_lt (by omega))));clear hs4 hr4 hb4 q0 q1 q2 qf r0 r1 r2 rf hcv;go_wp2_with fail;refine ⟨⟨i + 1, by congr 1, by omega, Lib.hid (SumAt.next HS4.out HR4.out HB4.out HNXT.out (by omega) (by omega) (by omega) _)⟩, ?_⟩
     show vals.length - ((i : Int) + 1).toNat < vals.length - ((i : Int)).toNat
     omega
   ·have heq : i = vals.length := by omega
    subst heq;clear ha hr0 hs0 hbl0;go_wp2_with fail;have ha := HA.out;rw [List.take_of_length_le (Nat.le_of_eq HZL.out)] at ha;rw [ha];have hk1 : Keeps (fun k => k = w.heap.size + 1) wr (wr.setCell ⟨w.heap.size + 1, 2, none⟩ (.int .i64 ((a.depth : Int) + 1))) := (Keeps.refl (fun k => k = w.heap.size + 1) wr).setCell (p := ⟨w.heap.size + 1, 2, none⟩) (.inl rfl) _;have hr1 := hk1.blk HR0.out (by omega);have hfin := set_at (set_at (set_at hr1 (o := 0) (.int .i64 a.nodes)) (o := 1) (.int .i64 a.bytes)) (o := 2) (.int .i64 ((a.depth : Int) + 1));simp only [List.setIfInBounds_toArray, List.set_cons_zero, List.set_cons_succ] at hfin;have hbl := ((((HBL.out.setCell (p := ⟨w.heap.size + 1, 2, none⟩) (by simp) (.int .i64 ((a.depth : Int) + 1))).setCell (p := ⟨w.heap.size, 0, none⟩) (Nat.le_refl _) (.int .i64 a.nodes)).setCell (p := ⟨w.heap.size, 1, none⟩) (Nat.le_refl _) (.int .i64 a.bytes)).setCell (p := ⟨w.heap.size, 2, none⟩) (Nat.le_refl _) (.int .i64 ((a.depth : Int) + 1)));obtain ⟨Wf, hWf⟩ : ∃ Wf, ((((wr.setCell ⟨w.heap.size + 1, 2, none⟩ (.int .i64 ((a.depth : Int) + 1))).setCell ⟨w.heap.size, 0, none⟩ (.int .i64 a.nodes)).setCell ⟨w.heap.size, 1, none⟩ (.int .i64 a.bytes)).setCell ⟨w.heap.size, 2, none⟩ (.int .i64 ((a.depth : Int) + 1))) = Wf := ⟨_, rfl⟩;rw [hWf] at hfin hbl ⊢;have y0 : Wf.cell? ⟨w.heap.size, 0, none⟩ = some (.int .i64 a.nodes) := by rw [cell_at hfin]; rfl
    have y1 : Wf.cell? ⟨w.heap.size, 1, none⟩ = some (.int .i64 a.bytes) := by rw [cell_at hfin]; rfl
    have y2 : Wf.cell? ⟨w.heap.size, 2, none⟩ = some (.int .i64 ((a.depth : Int) + 1)) := by rw [cell_at hfin]; rfl
    exact bodyPost_ret (v := .agg #[.int .i64 a.nodes, .int .i64 a.bytes, .int .i64 ((a.depth : Int) + 1)]) (by simp [results, Tryz.results221, go_sem, y0, y1, y2]) rfl ⟨rfl, hbl⟩
end Go.Proofs.YtakkmiomhackiaaGreatDoor
