/-
  The program, one part of its walk: Sm7, Se1, Se2, Se3. Conditions: none.
-/
import Derived.Test.YtakkmiomhackiaaGreatDoorPc45
import Derived.Test.YtakkmiomhackiaaGreatDoorPc47
import Derived.Deep.RegionWith
set_option linter.all false
set_option maxRecDepth 100000
set_option maxHeartbeats 16000000
namespace Go.Proofs.YtakkmiomhackiaaGreatDoor
open Go.RowKit
section
open Go.RowKit Go.Shelf
attribute [local go_sem] Oper.semAt_some
theorem keepsOthers_of {F : Nat → Prop} {W W' : World} (h : Keeps F W W') (hF : ∀ k o, F k → W.heap[k]? = some o → o.isCells = true) : KeepsOthers W W' :=
 ⟨h.size, fun k o hk ho => h.blk hk (fun hf => by have := hF k o hf hk; rw [ho] at this; cases this)⟩
theorem appendIn_winN {s e : Nat} {w : World} {v : Value} {n : Nat} {cs : List Value} {F : Fence} {d t bytes : Nat} {ops : Array Oper} {rest : List Oper} {o : Oper} {a : Act} {Q : Exit → Act → World → Prop} (E : ElemN t e s bytes) (hgd : o.guard = none) (so x : Operand)
 (ho : o.op = .call { callee := .builtin .append, args := #[so, x], argTypes := #[t, t] }) (hs : a.eval so = v) (hown : WinN s e w v n cs) (ad : Addr) (m c : Nat) (news : List Value) (hx : a.eval x = .slice (some ad) m c) (hnl : news.length = m * s)
 (hnews : ∀ j u, news[j]? = some u → w.cell? (ad.add j) = some u) (h1 : ∀ u ∈ news, u.oneCell' = true) (hm1 : 1 ≤ m) (hb : (n + m) * bytes ≤ 140737488355328) (hm : n + m ≤ maxLen)
 (h : ∀ g off cap w', WinN s e w' (.slice (some ⟨g, off, none⟩) (n + m) cap) (n + m) (cs ++ news) → (v.ownBlock = some g ∨ (w.heap.size ≤ g ∧ g < w'.heap.size)) → Keeps (fun k => v.ownBlock = some k) w w' → wpListIn F d Tryz.prog ops Q rest (a.put o.dst (.slice (some ⟨g, off, none⟩) (n + m) cap)) w') :
 wpListIn F d Tryz.prog ops Q (o :: rest) a w := by
 refine wpListIn_plain hgd fun K hK' => ?_
 obtain ⟨g, off, cap, w', hrun, r1, r2, r3⟩ := run_append_winN (t := t) (ty := o.type) E hown ad m c news hnl hnews h1 hm1 hb hm;unfold Oper.wpIn;refine ⟨?_, ?_⟩
 ·simp [Oper.about, ho, resolve, Target.leads, Sem.run_pure]
 ·rw [Oper.semAt_plain F _ _ (by rw [ho]; intro c hc'; cases hc')];simp [execOp, ho, resolve, invoke, builtin, hs, hx, hrun, Result.andThen];exact hK' _ _ (h g off cap w' r1 r2 r3)
def recCells : List Rec → List Value
 | [] => []
 | x :: l => .pointer x.q :: x.e :: recCells l
theorem recCells_snoc (l : List Rec) (x : Rec) : recCells (l ++ [x]) = recCells l ++ [.pointer x.q, x.e] := by
 induction l with
 | nil => rfl
 | cons y l ih => simp [recCells, ih]
theorem recCells_at {l : List Rec} {i : Nat} {x : Rec} (h : l[i]? = some x) : (recCells l)[2 * i]? = some (.pointer x.q) ∧ (recCells l)[2 * i + 1]? = some x.e := by
 induction l generalizing i with
 | nil => simp at h
 | cons y l ih =>
  cases i with
  | zero => simp at h; subst h; exact ⟨rfl, rfl⟩
  | succ i =>
   have := ih (by simpa using h);rw [show 2 * (i + 1) = 2 * i + 2 by omega];exact ⟨by simpa [recCells] using this.1, by simpa [recCells] using this.2⟩
def AllsAt (lb : Nat) (w : World) (pre : List Rec) (W : World) : Prop :=
 Below w.heap.size w W ∧ ∃ lV, W.heap[lb]? = some (.cells #[lV] 81 (0, 0)) ∧ WinN 2 85 W lV pre.length (recCells pre) ∧ (∀ k, lV.ownBlock = some k → w.heap.size ≤ k) ∧ ∀ (i : Nat) (x : Rec), pre[i]? = some x → RecAt W (.pointer x.q) x.e x.it
theorem AllsAt.minds {lb B : Nat} {w : World} (hl : lb < B) (hw : w.heap.size ≤ B) (pre : List Rec) : Minds2 B (AllsAt lb w pre) := by
 rintro A C ⟨h1, lV, h2, h3, h4, h5⟩ hk;refine ⟨h1.trans (hk.toBelow (by have := h1.size; omega) (fun k h => by omega)), lV, hk.blk h2 (fun h => by omega), h3.keeps hk ?_, h4, fun i x hx => (RecIs.minds B [x.it] 0 x A C ⟨rfl, h5 i x hx⟩ hk).2⟩;rintro k hk' ⟨_, h⟩;rcases h3.2 with ⟨rfl, _⟩ | ⟨g, off, cap, cur, rfl, hg, _⟩
 ·cases hk'
 ·cases hk';rcases h with ⟨c, T, h, hT⟩ | ⟨o, h, ho⟩
  ·rw [hg] at h;cases h;rcases hT with h | h | h <;> cases h
  ·rw [hg] at h;cases h;simp [Obj.isCells] at ho
def AllsRet (w : World) (recs : List (Except (Nat × Nat) Tr)) (e : Ending) (w' : World) : Prop :=
 ∃ a c cs, e = .returned (.tuple #[.slice a recs.length c, .bool true]) ∧ WinN 2 85 w' (.slice a recs.length c) recs.length cs ∧ Recs w' cs recs ∧ Below w.heap.size w w'
theorem alls_any (w : World) (v : Value) (b : List UInt8) (d : Nat) (hd1 : 1 ≤ d) (hd2 : d ≤ 512) (h : HasBytes w v b) (hl : b.length ≤ 1073741824) :
 Calls Tryz.prog 37 #[v, .int .i64 d] w fun e w' => AllsRet w (((Rd.new d).feed b).done).recs e w' := by
 obtain ⟨recs, hrecs⟩ : ∃ recs, (((Rd.new d).feed b).done).recs = recs := ⟨_, rfl⟩;rw [hrecs];have HRECS := Lib.hid hrecs
 have hrl : recs.length ≤ 1073741824 := by
  rw [← hrecs];have := Rd.done_len (x := (Rd.new d).feed b) (Rd.feed_ok b ⟨hd1, hd2, rfl, Nat.le_refl _, Nat.le_refl _, Nat.le_refl _⟩);rw [Rd.feed_place] at this;have h0 : (Rd.new d).place = 0 := rfl;omega
 clear hrecs;have HALL := Lib.hid (all_any w v b d hd1 hd2 h hl);obtain ⟨⟨va, vc, hve, _⟩, _⟩ := h;subst hve;refine (callsIn_wide (n := 6)).1 ?_;refine callsIn_of_wp_marks Tryz.func37 rfl trivial ?_ rfl;simp only [Tryz.ntmps37, List.size_toArray, List.length_cons, List.length_nil, Nat.reduceAdd, Nat.reduceSub, Array.replicate_succ, Array.replicate_zero, List.push_toArray, List.append_toArray, List.nil_append, List.cons_append];gi_wp2_with fail;refine ⟨trivial, ?_⟩;refine (callsIn_wide.2 (HALL.out)).mono ?_;rintro e w2 ⟨db, rb, rv, rfl, hdb, hrb, hw2, hb2⟩;have HB := Lib.hid hb2;have hfn : ∀ w : World, (binOp .eql 70 (.func (.func 66) #[] #[.pointer (some ⟨db, 0, none⟩), .pointer (some ⟨rb, 0, none⟩)]) .nilFunc).run Tryz.prog w = .ok (.bool false) w := fun _ => by kernel_rfl
 have hseq := all1_any 5 db rb d b rv w2 hd1 hd2 hdb hrb hw2 hl;rw [HRECS.out] at hseq;have HSEQ := Lib.hid hseq;clear hseq;clear hdb hrb hw2 hb2;gi_wp2_with fail;have hlb : (w2.alloc (.cells #[.slice none 0 0] 81)).heap[w2.heap.size]? = some (.cells #[.slice none 0 0] 81 (0, 0)) := heap_alloc_new w2 _;have hbw := HB.out.alloc HB.out.size (.cells #[.slice none 0 0] 81)
 refine range_law (gf := 66) (lb := #[.pointer (some ⟨db, 0, none⟩), .pointer (some ⟨rb, 0, none⟩)]) rfl (enters_of Tryz.func66 (by kernel_rfl) rfl) HSEQ.out ((Below.refl _ _).alloc (Nat.le_refl _) _) (fun _ => rfl)
  (AllsAt w2.heap.size w) (AllsAt.minds (by simp) (by have := HB.out.size; simp; omega)) ⟨hbw, _, hlb, .nil _ _ _, fun k h => (by cases h), fun i x hx => by simp at hx⟩
  (fun pre x a1 W => a1 = { tmps := ((.slice va b.length vc) :: (.int .i64 d) :: undef :: undef :: (.slice none 0 0) :: (.bool false) :: (.func (.func 66) #[] #[.pointer (some ⟨db, 0, none⟩), .pointer (some ⟨rb, 0, none⟩)]) :: .nilIface :: (.pointer (some ⟨w2.heap.size, 0, none⟩)) :: (.pointer x.q) :: x.e :: (.tuple #[(.func (.func 66) #[] #[.pointer (some ⟨db, 0, none⟩), .pointer (some ⟨rb, 0, none⟩)]), .nilIface]) :: (.slice va b.length vc) :: (.int .i64 d) :: (.tuple #[(.func (.func 66) #[] #[.pointer (some ⟨db, 0, none⟩), .pointer (some ⟨rb, 0, none⟩)]), .nilIface]) :: (.func (.func 66) #[] #[.pointer (some ⟨db, 0, none⟩), .pointer (some ⟨rb, 0, none⟩)]) :: .nilIface :: .nilIface :: (.bool false) :: (.bool false) :: (.func (.func 66) #[] #[.pointer (some ⟨db, 0, none⟩), .pointer (some ⟨rb, 0, none⟩)]) :: (.bool false) :: (.bool false) :: (.func (.func 66) #[] #[.pointer (some ⟨db, 0, none⟩), .pointer (some ⟨rb, 0, none⟩)]) :: (.pointer x.q) :: x.e :: undef :: undef :: undef :: undef :: undef :: undef :: undef :: ([] : List Value)).toArray, defers := [] } ∧ AllsAt w2.heap.size w pre W ∧ RecIs recs pre.length x W) ?minds ?assign ?body ?done
 case minds =>
  rintro pre x a1 A C ⟨h1, h2, h3⟩ hk;exact ⟨h1, AllsAt.minds (by simp) (by have := HB.out.size; simp; omega) pre A C h2 hk, RecIs.minds _ _ _ _ A C h3 hk⟩
 case assign =>
  rintro l pre x W K hi hx hK;dsimp only [recEnc];gi_wp2_with fail;exact hK _ _ (KeepsOthers.refl _) (Stays.refl _) ⟨rfl, hi, hx⟩
 case body =>
  rintro l pre x a1 W ⟨rfl, ⟨hB, lV, hlc, hwin, hown, hits⟩, hrk, hra⟩;have hpl : pre.length < recs.length := (List.getElem?_eq_some_iff.1 hrk).1;obtain ⟨q, e, it⟩ := x;have hra0 : RecAt W (.pointer q) e it := hra;obtain ⟨la, lc, hlve⟩ := hwin.shape;have hk1 : Keeps (fun _ => False) W (W.alloc (.cells #[.pointer q, e] 85)) := (Keeps.refl _ W).alloc _
  have hnews : ∀ j u, ([.pointer q, e] : List Value)[j]? = some u → (W.alloc (.cells #[.pointer q, e] 85)).cell? ((⟨W.heap.size, 0, none⟩ : Addr).add j) = some u := by
   intro j u hj;rw [add_zero_at W.heap.size j, cell_at (heap_alloc_new W _)]
   simpa using hj
  have hone : ∀ u ∈ ([.pointer q, e] : List Value), u.oneCell' = true := by
   intro u hu;simp at hu;rcases hu with rfl | rfl
   ·rfl
   ·obtain ⟨_, _, h | ⟨T, v, h⟩⟩ := hra0.parts
    ·rw [h]; rfl
    ·rw [h]; rfl
  have HWX := Lib.hid (hwin.keeps hk1 (fun _ _ => id));have HNEWS := Lib.hid hnews;have HONE := Lib.hid hone
  have HFIN : Hid (∀ (g off cap : Nat) (w' : World), WinN 2 85 w' (.slice (some ⟨g, off, none⟩) (pre.length + 1) cap) (pre.length + 1) (recCells pre ++ [.pointer q, e]) → (lV.ownBlock = some g ∨ ((W.alloc (.cells #[.pointer q, e] 85)).heap.size ≤ g ∧ g < w'.heap.size)) → Keeps (fun k => lV.ownBlock = some k) (W.alloc (.cells #[.pointer q, e] 85)) w' → w'.cell? ⟨w2.heap.size, 0, none⟩ = some lV ∧ w'.frozen? ⟨w2.heap.size, 0, none⟩ = false ∧ KeepsOthers W (w'.setCell ⟨w2.heap.size, 0, none⟩ (.slice (some ⟨g, off, none⟩) (pre.length + 1) cap)) ∧ Stays W (w'.setCell ⟨w2.heap.size, 0, none⟩ (.slice (some ⟨g, off, none⟩) (pre.length + 1) cap)) ∧ AllsAt w2.heap.size w (pre ++ [⟨q, e, it⟩]) (w'.setCell ⟨w2.heap.size, 0, none⟩ (.slice (some ⟨g, off, none⟩) (pre.length + 1) cap))) := Lib.hid (by
   intro g off cap w' hw' hgb hkk;have hlne : lV.ownBlock ≠ some w2.heap.size := hwin.ne hlc (by decide);have hlc' := hkk.blk (hk1.blk hlc id) hlne;have hks : Keeps (fun k => k = w2.heap.size) w' (w'.setCell ⟨w2.heap.size, 0, none⟩ (.slice (some ⟨g, off, none⟩) (pre.length + 1) cap)) := (Keeps.refl (fun k => k = w2.heap.size) w').setCell (p := ⟨w2.heap.size, 0, none⟩) (.inl rfl) _;have hall : Keeps (fun k => lV.ownBlock = some k ∨ k = w2.heap.size) W (w'.setCell ⟨w2.heap.size, 0, none⟩ (.slice (some ⟨g, off, none⟩) (pre.length + 1) cap)) := ((hk1.mono (fun _ h => h.elim)).trans hkk (fun k h => .inl (.inl h))).trans hks (fun k h => .inl (.inr h))
   have hcl : ∀ k o, (lV.ownBlock = some k ∨ k = w2.heap.size) → W.heap[k]? = some o → ∃ c T, o = .cells c T (0, 0) ∧ (T = 85 ∨ T = 81) := by
    rintro k o (h | h) ho
    ·rcases hwin.2 with ⟨rfl, _⟩ | ⟨g', off', cap', cur', rfl, hg', _⟩
     ·cases h
     ·cases h;rw [hg'] at ho;cases ho;exact ⟨_, _, rfl, .inl rfl⟩
    ·subst h;rw [hlc] at ho;cases ho;exact ⟨_, _, rfl, .inr rfl⟩
   have hend : KeepsOthers W (w'.setCell ⟨w2.heap.size, 0, none⟩ (.slice (some ⟨g, off, none⟩) (pre.length + 1) cap)) ∧ Stays W (w'.setCell ⟨w2.heap.size, 0, none⟩ (.slice (some ⟨g, off, none⟩) (pre.length + 1) cap)) ∧ AllsAt w2.heap.size w (pre ++ [⟨q, e, it⟩]) (w'.setCell ⟨w2.heap.size, 0, none⟩ (.slice (some ⟨g, off, none⟩) (pre.length + 1) cap)) := by
    refine ⟨keepsOthers_of hall (fun k o h ho => by obtain ⟨c, T, rfl, _⟩ := hcl k o h ho; rfl), Stays.of_keeps hall (fun k h => by
     rintro ⟨c, T, hc, hT⟩;obtain ⟨c', T', e', hT'⟩ := hcl k _ h hc;cases e';rcases hT' with rfl | rfl <;> exact absurd hT (by decide)), ?_⟩
    have hwl : w.heap.size ≤ w2.heap.size := HB.out.size;refine ⟨hB.trans (hall.toBelow hB.size (fun k h => ?_)), _, set_at hlc' _, ?_, ?_, ?_⟩
    ·rcases h with h | h
     ·exact hown k h
     ·omega
    ·rw [List.length_append, recCells_snoc];exact hw'.keeps hks (fun k e hk => hw'.ne hlc' (by decide) (e.trans (congrArg some hk)))
    ·intro k hk;cases hk;rcases hgb with h | h
     ·exact hown _ h
     ·exact Nat.le_trans hB.size (Nat.le_trans hk1.size h.1)
    ·intro i y hy
     have hky : ∀ {a b : Value} {rc : Except (Nat × Nat) Tr}, RecAt W a b rc → RecAt (w'.setCell ⟨w2.heap.size, 0, none⟩ (.slice (some ⟨g, off, none⟩) (pre.length + 1) cap)) a b rc := fun h => h.keeps hall (fun k c T hT hc hk => by
      obtain ⟨c', T', e', hT'⟩ := hcl k _ hk hc;cases e';rcases hT' with rfl | rfl <;> exact absurd hT (by decide))
     by_cases hi : i < pre.length
     ·rw [List.getElem?_append_left hi] at hy;exact hky (hits i y hy)
     ·rw [List.getElem?_append_right (by omega)] at hy
      have hi0 : i - pre.length = 0 := by
       have := (List.getElem?_eq_some_iff.1 hy).1;simp at this; omega
      rw [hi0] at hy;simp at hy;subst hy;exact hky hra0
   exact ⟨cell_of_one hlc', free_of_one hlc', hend⟩)
  have hcb : W.cell? ⟨w2.heap.size, 0, none⟩ = some lV := cell_of_one hlc;have hcb2 : (W.alloc (.cells #[.pointer q, e] 85)).cell? ⟨w2.heap.size, 0, none⟩ = some lV := hk1.cell hcb id;obtain ⟨_, _, hsh⟩ := hra0.parts;subst hlve;clear hB hlc hwin hown hits hrk hra hra0 hk1 hnews hone;rcases hsh with rfl | ⟨T, v, rfl⟩
  all_goals
   gi_wp2_with (gi_at_builtin; refine appendIn_winN elemItm rfl _ _ rfl rfl HWX.out ⟨W.heap.size, 0, none⟩ 1 1 _ rfl rfl HNEWS.out HONE.out (by decide) (by omega) (by unfold maxLen; omega) ?_)
   intro g off cap w' hw' hgb hkk;obtain ⟨hc3, hf3, hend⟩ := HFIN.out g off cap w' hw' (by simpa using hgb) hkk;have HEND := Lib.hid hend;clear hw' hgb hkk hend;gi_wp2_with fail;exact HEND.out
 case done =>
  rintro D xs W hD hS ⟨hB, lV, hlc, hwin, hown, hits⟩ hK;have hl : xs.length = recs.length := by have := congrArg List.length hS; simpa using this
  obtain ⟨la, lc, rfl⟩ := hwin.shape;rw [hl] at hwin hlc;have hlcc : W.cell? ⟨w2.heap.size, 0, none⟩ = some (.slice la recs.length lc) := cell_of_one hlc;have hkD : Keeps (fun k => k = D) W (W.putObj D (.deferred none)) := keeps_putObj (.deferred none) rfl;have hDc : ∀ k c T, W.heap[k]? = some (Obj.cells c T (0, 0)) → ¬ k = D := fun k c T h e => by subst e; rw [hK] at h; cases h
  have hrecs2 : Recs (W.putObj D (.deferred none)) (recCells xs) recs := by
   intro i rec hi;rw [← hS, List.getElem?_map] at hi;cases hx : xs[i]? with
   | none => rw [hx] at hi; cases hi
   | some x =>
    rw [hx] at hi;cases hi;exact ⟨_, _, (recCells_at hx).1, (recCells_at hx).2, (hits i x hx).keeps hkD (fun k c T _ hc => hDc k c T hc)⟩
  have hwD : w2.heap.size + 1 ≤ D := by rw [World.size_alloc] at hD; exact hD
  have hwin2 : WinN 2 85 (W.putObj D (.deferred none)) (.slice la recs.length lc) recs.length (recCells xs) := hwin.keeps hkD (fun k e hk => by
   rcases hwin.2 with ⟨h, _⟩ | ⟨g, off, cap, cur, h, hg, _⟩
   ·rw [h] at e; cases e
   ·rw [h] at e;cases e;exact hDc _ _ _ hg hk)
  have hbe : Below w.heap.size w (W.putObj D (.deferred none)) := hB.trans (hkD.toBelow hB.size (fun k e => by have := HB.out.size; omega));have HEND := Lib.hid (show AllsRet w recs (.returned (.tuple #[.slice la recs.length lc, .bool true])) (W.putObj D (.deferred none)) from ⟨la, lc, recCells xs, rfl, hwin2, hrecs2, hbe⟩);have HK3 := Lib.hid hK;clear hB hlc hwin hown hits hK hD hS hl hkD hDc hrecs2 hwD hwin2 hbe;gi_wp2_with fail;refine ⟨by simp, .inl ⟨_, _, rfl, run_takeDeferred HK3.out, ?_⟩⟩;exact ⟨_, (by simp [results, Tryz.results37, go_sem]), HEND.out⟩
end
def PcGot (n₀ rb gb r : Nat) (w₀ W : World) (got : List (Except (Nat × Nat) Tr)) : Prop :=
 Below n₀ w₀ W ∧ W.heap[rb]? = some (.cells #[.pointer (some ⟨r, 0, none⟩)] 60 (0, 0)) ∧ ∃ gv cs, W.heap[gb]? = some (.cells #[gv] 81 (0, 0)) ∧ WinN 2 85 W gv got.length cs ∧ (∀ k, gv.ownBlock = some k → n₀ ≤ k) ∧ Recs W cs got
def PcRd (n₀ r : Nat) (W : World) (x : Rd) (ended : Bool) : Prop := ∃ F : Nat → Prop, RdAt F W r x ended ∧ ∀ k, F k → n₀ ≤ k ∧ RdT W k
def PcAt (n₀ rb gb r : Nat) (w₀ W : World) (x : Rd) (ended : Bool) (got : List (Except (Nat × Nat) Tr)) : Prop := PcGot n₀ rb gb r w₀ W got ∧ PcRd n₀ r W x ended
theorem PcGot.keeps {n₀ rb gb r : Nat} {w₀ W W' : World} {got : List (Except (Nat × Nat) Tr)} {F : Nat → Prop} (h : PcGot n₀ rb gb r w₀ W got) (hn : n₀ ≤ W.heap.size) (hk : Keeps F W W') (hF : ∀ k, F k → n₀ ≤ k ∧ RdT W k) : PcGot n₀ rb gb r w₀ W' got := by
 obtain ⟨h1, h2, gv, cs, h3, h4, h5, h6⟩ := h
 have hno : ∀ k c T, ¬ (T = 159 ∨ T = 5 ∨ T = 162) → W.heap[k]? = some (.cells c T (0, 0)) → ¬ F k := by
  intro k c T hT hc hf;obtain ⟨_, c', T', hc', hT'⟩ := hF k hf;rw [hc] at hc';cases hc';exact hT hT'
 refine ⟨h1.trans (hk.toBelow hn (fun k h => (hF k h).1)), hk.blk h2 (hno _ _ _ (by decide) h2), gv, cs, hk.blk h3 (hno _ _ _ (by decide) h3), h4.keeps hk ?_, h5, h6.keeps hk (fun k c T hT hc => hno k c T (fun h => by rcases h with rfl | rfl | rfl <;> exact absurd hT (by decide)) hc)⟩;intro k hk' hf;rcases h4.2 with ⟨rfl, _⟩ | ⟨g, off, cap, cur, rfl, hg, _⟩
 ·cases hk'
 ·cases hk';exact hno _ _ _ (by decide) hg hf
theorem PcAt.turn {n₀ rb gb r : Nat} {w₀ W W' : World} {x' : Rd} {d' : Bool} {got : List (Except (Nat × Nat) Tr)} {F : Nat → Prop} (h : PcGot n₀ rb gb r w₀ W got) (hn : n₀ ≤ W.heap.size) (hk : Keeps F W W') (hF : ∀ k, F k → n₀ ≤ k ∧ RdT W k) (hr : RdAt (Since F W W') W' r x' d') : PcAt n₀ rb gb r w₀ W' x' d' got :=
 ⟨h.keeps hn hk hF, _, hr.slim, fun k h => ⟨h.1.elim (fun e => (hF k e).1) (fun e => Nat.le_trans hn e.1), h.2⟩⟩
theorem PcAt.same {n₀ rb gb r : Nat} {w₀ W W' : World} {x : Rd} {d : Bool} {got : List (Except (Nat × Nat) Tr)} (h : PcAt n₀ rb gb r w₀ W x d got) (hn : n₀ ≤ W.heap.size) (hk : Keeps (fun _ => False) W W') : PcAt n₀ rb gb r w₀ W' x d got := by
 obtain ⟨hg, F, hr, hF⟩ := h;refine ⟨hg.keeps hn hk (fun _ h => h.elim), F, hr.stays (Stays.of_keeps hk (fun _ h => h.elim)), fun k h => ⟨(hF k h).1, ?_⟩⟩;obtain ⟨_, c, T, hc, hT⟩ := hF k h;exact ⟨c, T, hk.blk hc id, hT⟩
theorem Recs.snoc {w : World} {cs : List Value} {recs : List (Except (Nat × Nat) Tr)} {a b : Value} {rec : Except (Nat × Nat) Tr} (h : Recs w cs recs) (hl : cs.length = recs.length * 2) (hr : RecAt w a b rec) : Recs w (cs ++ [a, b]) (recs ++ [rec]) := by
 intro i rc hi
 by_cases hlt : i < recs.length
 ·rw [List.getElem?_append_left hlt] at hi;obtain ⟨x, y, h1, h2, h3⟩ := h i rc hi;exact ⟨x, y, by rw [List.getElem?_append_left (by omega)]; exact h1, by rw [List.getElem?_append_left (by omega)]; exact h2, h3⟩
 ·rw [List.getElem?_append_right (by omega)] at hi
  have h0 : i - recs.length = 0 := by
   have := (List.getElem?_eq_some_iff.1 hi).1;simp at this; omega
  rw [h0] at hi;simp at hi;subst hi;exact ⟨a, b, by rw [List.getElem?_append_right (by omega), show 2 * i - cs.length = 0 by omega]; rfl, by rw [List.getElem?_append_right (by omega), show 2 * i + 1 - cs.length = 1 by omega]; rfl, hr⟩
theorem PcAt.put {n₀ rb gb r : Nat} {w₀ W w' : World} {x : Rd} {d : Bool} {got : List (Except (Nat × Nat) Tr)} {gv a b : Value} {cs : List Value} {rec : Except (Nat × Nat) Tr} {g off cap : Nat} (hn : n₀ ≤ W.heap.size) (hgn : n₀ ≤ gb) (hB : Below n₀ w₀ W) (hrb : W.heap[rb]? = some (.cells #[.pointer (some ⟨r, 0, none⟩)] 60 (0, 0))) (hgb : W.heap[gb]? = some (.cells #[gv] 81 (0, 0))) (hgw : WinN 2 85 W gv got.length cs) (hgo : ∀ k, gv.ownBlock = some k → n₀ ≤ k) (hgr : Recs W cs got) (hrd : PcRd n₀ r W x d)
 (hra : RecAt W a b rec) (hw' : WinN 2 85 w' (.slice (some ⟨g, off, none⟩) (got.length + 1) cap) (got.length + 1) (cs ++ [a, b])) (hg : gv.ownBlock = some g ∨ (W.heap.size ≤ g ∧ g < w'.heap.size)) (hkk : Keeps (fun k => gv.ownBlock = some k) W w') :
 w'.cell? ⟨gb, 0, none⟩ = some gv ∧ w'.frozen? ⟨gb, 0, none⟩ = false ∧ PcAt n₀ rb gb r w₀ (w'.setCell ⟨gb, 0, none⟩ (.slice (some ⟨g, off, none⟩) (got.length + 1) cap)) x d (got ++ [rec]) := by
 have hne : gv.ownBlock ≠ some gb := hgw.ne hgb (by decide);have hgb' := hkk.blk hgb hne;have hks : Keeps (fun k => k = gb) w' (w'.setCell ⟨gb, 0, none⟩ (.slice (some ⟨g, off, none⟩) (got.length + 1) cap)) := (Keeps.refl (fun k => k = gb) w').setCell (p := ⟨gb, 0, none⟩) (.inl rfl) _;have hall : Keeps (fun k => gv.ownBlock = some k ∨ k = gb) W (w'.setCell ⟨gb, 0, none⟩ (.slice (some ⟨g, off, none⟩) (got.length + 1) cap)) := (hkk.mono (fun _ h => .inl h)).same (hks.mono (fun k h => .inr h))
 have hcl : ∀ k o, (gv.ownBlock = some k ∨ k = gb) → W.heap[k]? = some o → ∃ c T, o = .cells c T (0, 0) ∧ (T = 85 ∨ T = 81) := by
  rintro k o (h | h) ho
  ·rcases hgw.2 with ⟨rfl, _⟩ | ⟨g', off', cap', cur', rfl, hg', _⟩
   ·cases h
   ·cases h;rw [hg'] at ho;cases ho;exact ⟨_, _, rfl, .inl rfl⟩
  ·subst h;rw [hgb] at ho;cases ho;exact ⟨_, _, rfl, .inr rfl⟩
 have hno : ∀ k c T, ¬ (T = 85 ∨ T = 81) → W.heap[k]? = some (.cells c T (0, 0)) → ¬ (gv.ownBlock = some k ∨ k = gb) := by
  intro k c T hT hc hf;obtain ⟨c', T', e, hT'⟩ := hcl k _ hf hc;cases e;exact hT hT'
 have htt : ∀ k c T, TT5 T → W.heap[k]? = some (.cells c T (0, 0)) → ¬ (gv.ownBlock = some k ∨ k = gb) := fun k c T hT hc => hno k c T (fun h => by rcases h with rfl | rfl <;> exact absurd hT (by decide)) hc
 refine ⟨cell_of_one hgb', free_of_one hgb', ⟨hB.trans (hall.toBelow hn ?_), hall.blk hrb (hno _ _ _ (by decide) hrb), .slice (some ⟨g, off, none⟩) (got.length + 1) cap, cs ++ [a, b], set_at hgb' _, ?_, ?_, ?_⟩, ?_⟩
 ·rintro k (h | h)
  ·exact hgo k h
  ·omega
 ·rw [List.length_append];exact hw'.keeps hks (fun k e hk => hw'.ne hgb' (by decide) (e.trans (congrArg some hk)))
 ·intro k hk;cases hk;rcases hg with h | h
  ·exact hgo _ h
  ·exact Nat.le_trans hn h.1
 ·exact (hgr.snoc (by rw [hgw.1]) hra).keeps hall htt
 ·obtain ⟨F, hr, hF⟩ := hrd;refine ⟨F, hr.stays (Stays.of_keeps hall ?_), fun k h => ⟨(hF k h).1, ?_⟩⟩
  ·rintro k h ⟨c, T, hc, hT⟩;exact hno k c T (fun h => by rcases h with rfl | rfl <;> exact absurd hT (by decide)) hc h
  ·obtain ⟨_, c, T, hc, hT⟩ := hF k h;exact ⟨c, T, hall.blk hc (hno k c T (fun h => by rcases h with rfl | rfl <;> exact absurd hT (by decide)) hc), hT⟩
def PcRet (n₀ rb gb r : Nat) (w₀ : World) (x : Rd) (d : Bool) (got : List (Except (Nat × Nat) Tr)) (n : Nat) (e : Ending) (W' : World) : Prop :=
 e = .returned (.tuple #[]) ∧ PcAt n₀ rb gb r w₀ W' { x with recs := x.recs.drop n } d (got ++ x.recs.take n)
theorem drawOut_any (n₀ rb gb r : Nat) (w₀ w : World) (x : Rd) (d : Bool) (got : List (Except (Nat × Nat) Tr)) (n : Nat) (h : PcAt n₀ rb gb r w₀ w x d got) (h0 : n₀ ≤ w.heap.size) (hgn : n₀ ≤ gb) (hl : got.length + x.recs.length ≤ 1073741824) (hn : n ≤ 1073741824) :
 Calls Tryz.prog 38 #[.int .i64 n, .pointer (some ⟨rb, 0, none⟩), .pointer (some ⟨gb, 0, none⟩)] w fun e w' => PcRet n₀ rb gb r w₀ x d got n e w' := by
 have HAT := Lib.hid h;clear h;go_enter Tryz.func38, Tryz.ntmps38;go_wp2_with fail
 go_loopw [8] (fun v wr => ∃ i : Nat, v = .int .i64 i ∧ i ≤ n ∧ Hid (PcAt n₀ rb gb r w₀ wr { x with recs := x.recs.drop i } d (got ++ x.recs.take i) ∧ n₀ ≤ wr.heap.size)) (fun v _ => n - (intOf v).toNat)
 case atStart => exact ⟨0, rfl, Nat.zero_le _, Lib.hid ⟨by simpa using HAT.out, h0⟩⟩
 case round =>
  obtain ⟨i, rfl, hi, HI⟩ := hrel
  by_cases hin : i < n
  ·obtain ⟨⟨⟨hb, hrb, gv, cs, hgb, hgw, hgo, hgr⟩, F, hrd, hF⟩, hns⟩ := HI.out;have crb : wr.cell? ⟨rb, 0, none⟩ = some (.pointer (some ⟨r, 0, none⟩)) := cell_of_one hrb;cases hxr : x.recs.drop i with
   | nil =>
    have HNX := Lib.hid (seqNext_none F wr r _ d hrd hxr)
    have hgo : PcAt n₀ rb gb r w₀ wr { x with recs := x.recs.drop (i + 1) } d (got ++ x.recs.take (i + 1)) := by
     have hle : x.recs.length ≤ i := by simpa using hxr
     have := HI.out.1;rw [List.drop_eq_nil_of_le hle, List.take_of_length_le hle] at this;rw [List.drop_eq_nil_of_le (by omega), List.take_of_length_le (by omega)];exact this
    have HGO := Lib.hid (And.intro hgo hns);clear hgo hb hrb hgb hgw hgr hrd hF hns hxr;go_wp2_with fail;refine (HNX.out).mono ?_;rintro e w1 ⟨rfl, rfl⟩;go_wp2_with fail;exact ⟨⟨i + 1, by go_num, by omega, HGO⟩, by simp [intOf]; omega⟩
   | cons rec rest =>
    have hil : i < x.recs.length := by
     have := congrArg List.length hxr;simp at this; omega
    have hre : x.recs.drop (i + 1) = rest := by
     rw [List.drop_add_one_eq_tail_drop, hxr]; rfl
    have htk : x.recs.take (i + 1) = x.recs.take i ++ [rec] := by
     rw [List.take_add_one]
     have : x.recs[i]? = some rec := by
      have := List.getElem?_drop (xs := x.recs) (i := i) (j := 0);rw [hxr] at this
      simpa using this.symm
     rw [this]; rfl
    have hgl : (got ++ x.recs.take i).length ≤ 1073741823 := by simp; omega
    have HNX := Lib.hid (seqNext_some F wr r _ rec rest d hrd hxr (by show (x.recs.drop i).length ≤ _; simp; omega));have HPG := Lib.hid HI.out.1.1;have HEQ := Lib.hid (And.intro hre htk);have HF := Lib.hid hF;clear hb hrb hgb hgw hgo hgr hrd hF hxr hre htk;obtain ⟨G, hG⟩ : ∃ G, got ++ x.recs.take i = G := ⟨_, rfl⟩;rw [hG] at HPG hgl;have HG := Lib.hid hG;clear hG;go_wp2_with fail;refine (HNX.out).mono ?_;rintro e w1 ⟨qa, b, rfl, hra, hk, hrd⟩;obtain ⟨q, rfl, hsh⟩ := hra.shape;have hsz := Nat.le_trans hns hk.size;have hpc := PcAt.turn HPG.out hns hk HF.out hrd;have hk1 : Keeps (fun _ => False) w1 (w1.alloc (.cells #[.pointer q, b] 85)) := (Keeps.refl _ w1).alloc _;have hpc1 := hpc.same hsz hk1;have hra1 : RecAt (w1.alloc (.cells #[.pointer q, b] 85)) (.pointer q) b rec := hra.keeps hk1 (fun _ _ _ _ _ => id);obtain ⟨⟨hB, hrb, gv, cs, hgb, hgw, hgo, hgr⟩, hrd1⟩ := hpc1;have hsz1 : n₀ ≤ (w1.alloc (.cells #[.pointer q, b] 85)).heap.size := Nat.le_trans hsz hk1.size;have HFIN := Lib.hid (fun (g off cap : Nat) (w' : World) (hw' : WinN 2 85 w' (.slice (some ⟨g, off, none⟩) (G.length + 1) cap) (G.length + 1) (cs ++ [.pointer q, b])) (hg : gv.ownBlock = some g ∨ ((w1.alloc (.cells #[.pointer q, b] 85)).heap.size ≤ g ∧ g < w'.heap.size)) (hkk : Keeps (fun k => gv.ownBlock = some k) (w1.alloc (.cells #[.pointer q, b] 85)) w') => And.intro (Nat.le_trans hsz1 hkk.size) (PcAt.put hsz1 hgn hB hrb hgb hgw hgo hgr hrd1 hra1 hw' hg hkk))
    have hnews : ∀ j u, ([.pointer q, b] : List Value)[j]? = some u → (w1.alloc (.cells #[.pointer q, b] 85)).cell? ((⟨w1.heap.size, 0, none⟩ : Addr).add j) = some u := by
     intro j u hj;rw [add_zero_at w1.heap.size j, cell_at (heap_alloc_new w1 _)]
     simpa using hj
    have hone : ∀ u ∈ ([.pointer q, b] : List Value), u.oneCell' = true := by
     intro u hu;simp at hu;rcases hu with rfl | rfl
     ·rfl
     ·rcases hsh with rfl | ⟨T, v, rfl⟩ <;> rfl
    have HNEWS := Lib.hid hnews;have HONE := Lib.hid hone;have cgb1 : (w1.alloc (.cells #[.pointer q, b] 85)).cell? ⟨gb, 0, none⟩ = some gv := cell_of_one hgb;obtain ⟨⟨_, _, gv', cs', hgb0, _⟩, _⟩ := hpc
    have hgv : gv' = gv := by
     have h1 := hk1.blk hgb0 id;rw [hgb] at h1;simp at h1;exact h1.symm
    subst hgv;have cgb : w1.cell? ⟨gb, 0, none⟩ = some gv' := cell_of_one hgb0;have HGW := Lib.hid hgw;obtain ⟨ga, gc, hgve⟩ := hgw.shape;subst hgve;clear hra hk hrd hk1 hra1 hB hrb hgb hgw hgo hgr hrd1 hnews hone hgb0 hsz hsz1;rcases hsh with rfl | ⟨T, v, rfl⟩
    all_goals
     go_wp2_with (at_builtin; refine append_winN elemItm rfl _ _ rfl rfl HGW.out ⟨w1.heap.size, 0, none⟩ 1 1 _ rfl rfl HNEWS.out HONE.out (Nat.le_refl _) ?_ ?_ ?_)
     ·omega
     ·unfold maxLen; omega
     intro g off cap w' hw' hgb hkk;obtain ⟨hsz', hc3, hf3, hend⟩ := HFIN.out g off cap w' hw' (by simpa using hgb) hkk;have HEND := Lib.hid hend;clear hw' hgb hkk hend;go_wp2_with fail;exact ⟨⟨i + 1, by go_num, by omega, Lib.hid ⟨by rw [HEQ.out.1, HEQ.out.2, ← List.append_assoc, HG.out]; exact HEND.out, by simpa [World.setCell] using hsz'⟩⟩, by simp [intOf]; omega⟩
  ·have hie : i = n := by omega
   subst hie;go_wp2_with fail;refine bodyPost_ret (results_none rfl _ _ _) rfl ?_;exact ⟨rfl, HI.out.1⟩
def Rd.skip (x : Rd) (k : Nat) : Rd := { x with recs := x.recs.drop k }
theorem Rd.skip_whole {x : Rd} {k : Nat} (h : k ≤ x.recs.length) : (x.skip k).whole = (x.whole).skip k := by
 unfold Rd.whole
 by_cases h0 : x.size = 0
 ·rw [if_pos h0, if_pos (show (x.skip k).size = 0 from h0)]
 ·rw [if_neg h0, if_neg (show ¬ (x.skip k).size = 0 from h0)];unfold Rd.skip;simp only;rw [List.drop_append_of_le_length h];rfl
theorem Rd.whole_recs (x : Rd) : ∃ l, (x.whole).recs = x.recs ++ l := by
 unfold Rd.whole;split
 ·exact ⟨[], by simp⟩
 ·exact ⟨_, rfl⟩
theorem Rd.byte_recs (x : Rd) (c : UInt8) : ∃ l, (x.byte c).recs = x.recs ++ l := by
 unfold Rd.byte;split
 ·exact x.whole_recs
 ·exact ⟨[], by simp [Rd.part]⟩
theorem Rd.feed_recs : ∀ (b : List UInt8) (x : Rd), ∃ l, (x.feed b).recs = x.recs ++ l
 | [], x => ⟨[], by simp [Rd.feed]⟩
 | c :: b, x => by
  obtain ⟨l, hl⟩ := x.byte_recs c;obtain ⟨m, hm⟩ := Rd.feed_recs b (x.byte c);exact ⟨l ++ m, by rw [← List.append_assoc, ← hl]; exact hm⟩
theorem Rd.skip_byte {x : Rd} {k : Nat} (h : k ≤ x.recs.length) (c : UInt8) : (x.skip k).byte c = (x.byte c).skip k := by
 unfold Rd.byte;split
 ·rw [Rd.skip_whole h]; rfl
 ·rfl
theorem Rd.skip_feed : ∀ (b : List UInt8) {x : Rd} {k : Nat}, k ≤ x.recs.length → (x.skip k).feed b = (x.feed b).skip k
 | [], x, k, _ => rfl
 | c :: b, x, k, h => by
  obtain ⟨l, hl⟩ := x.byte_recs c
  show ((x.skip k).byte c).feed b = ((x.byte c).feed b).skip k
  rw [Rd.skip_byte h];exact Rd.skip_feed b (by rw [hl, List.length_append]; omega)
theorem Rd.skip_done {x : Rd} {k : Nat} (h : k ≤ x.recs.length) : (x.skip k).done = (x.done).skip k := by
 unfold Rd.done;rw [Rd.skip_whole h];rfl
theorem Rd.skip_ok {x : Rd} (k : Nat) (h : RdOk x) : RdOk (x.skip k) :=
 ⟨h.d1, h.d2, h.len, h.size, h.frm, by have := h.recs; unfold Rd.skip; simp only [List.length_drop]; omega⟩
theorem Rd.done_recs (x : Rd) : ∃ l, (x.done).recs = x.recs ++ l := x.whole_recs
theorem Rd.done_place (x : Rd) : (x.done).place = x.place := by
 unfold Rd.done Rd.whole;split <;> rfl
theorem Rd.skip_skip (x : Rd) (k n : Nat) : { x.skip k with recs := (x.skip k).recs.drop n } = x.skip (k + n) := by
 unfold Rd.skip;simp only [List.drop_drop]
theorem Rd.skip_min (x : Rd) (k : Nat) : x.skip (min k x.recs.length) = x.skip k ∧ x.recs.take (min k x.recs.length) = x.recs.take k := by
 by_cases h : k ≤ x.recs.length
 ·rw [Nat.min_eq_left h]; exact ⟨rfl, rfl⟩
 ·rw [Nat.min_eq_right (by omega)];unfold Rd.skip;rw [List.drop_eq_nil_of_le (Nat.le_refl _), List.drop_eq_nil_of_le (by omega), List.take_of_length_le (Nat.le_refl _), List.take_of_length_le (by omega)];exact ⟨rfl, rfl⟩
theorem place_any (F : Nat → Prop) (w : World) (r : Nat) (x : Rd) (d : Bool) (h : RdAt F w r x d) : Calls Tryz.prog 40 #[.pointer (some ⟨r, 0, none⟩)] w fun e w' => e = .returned (.int .i64 x.place) ∧ w' = w := by
 obtain ⟨hF, hlt, openV, recV, cs, hbk, hw, hwF, hr, hrF, hrecs⟩ := h;obtain ⟨c0, c1, c2, c3, c4, c5, c6, c7, cf⟩ := cells8 hbk;clear hbk hw hr hrecs;go_enter Tryz.func40, Tryz.ntmps40;go_wp2_with fail;go_ret;exact ⟨rfl, rfl⟩
def HasInts (w : World) (v : Value) (l : List Int) : Prop := ∃ a cap, v = .slice a l.length cap ∧ (l = [] ∨ ∃ g off, a = some ⟨g, off, none⟩ ∧ ∀ i x, l[i]? = some x → w.cell? ⟨g, off + i, none⟩ = some (.int .i64 x))
theorem HasInts.below {w w' : World} {v : Value} {l : List Int} (h : HasInts w v l) (hb : Below w.heap.size w w') : HasInts w' v l := by
 obtain ⟨a, cap, h1, h2⟩ := h
 exact ⟨a, cap, h1, h2.imp id (fun ⟨g, off, h3, h4⟩ => ⟨g, off, h3, fun i x hx => by
  have := h4 i x hx;rw [hb.cell (World.block_lt_of_cell? _ _ this)]; exact this⟩)⟩
theorem HasBytes.cut {F : Nat → Prop} {w w' : World} {v : Value} {b : List UInt8} (h : HasBytes w v b) (hb : Below w.heap.size w w') (hF : ∀ k, F k → w.heap.size ≤ k) (p n : Nat) (hn : p + n ≤ b.length) :
 ∃ a cap, v = .slice a b.length cap ∧ b.length ≤ cap ∧ cap ≤ 9223372036854775807 ∧
  ((a = none ∧ cap = 0 ∧ BytesOf F w' (.slice none 0 0) ((b.drop p).take n)) ∨ ∃ g off, a = some ⟨g, off, none⟩ ∧ BytesOf F w' (.slice (some ⟨g, if cap - p = 0 then off else off + p, none⟩) n (cap - p)) ((b.drop p).take n)) := by
 have hlen : ((b.drop p).take n).length = n := by simp; omega
 obtain ⟨⟨a, cap, rfl, h1, h2, h3⟩, h4⟩ := h;refine ⟨a, cap, rfl, h1, h2, ?_⟩;rcases h4 with h4 | ⟨g, off, m, c, h4⟩
 ·injection h4 with e1 e2 e3
  have hn0 : n = 0 := by omega
  have : (b.drop p).take n = [] := by rw [hn0]; rfl
  rw [this];exact .inl ⟨e1, e3, ⟨⟨none, 0, rfl, Nat.le_refl _, Nat.zero_le _, .inl rfl⟩, .inl rfl⟩⟩
 ·injection h4 with e1 e2 e3
  refine .inr ⟨g, off, e1, ⟨_, cap - p, by rw [hlen], by rw [hlen]; omega, Nat.le_trans (Nat.sub_le _ _) h2, ?_⟩, .inr ⟨_, _, _, _, rfl⟩⟩
  by_cases hn0 : n = 0
  ·exact .inl (by rw [hn0]; rfl)
  ·obtain ⟨g', off', f1, _, f3⟩ := h3.resolve_left (fun e => by rw [e] at hn; simp at hn; omega);rw [e1] at f1;injection f1 with f1
   injection f1 with f1 f2 _
   subst f1; subst f2;have hlt : g < w.heap.size := World.block_lt_of_cell? w _ (f3 0 (b[0]'(by omega)) (List.getElem?_eq_getElem _));refine .inr ⟨g, off + p, by rw [if_neg (by omega)], fun hf => absurd (hF _ hf) (by omega), fun i x hx => ?_⟩;rw [List.getElem?_take] at hx;split at hx
   ·rw [List.getElem?_drop] at hx;have := f3 _ _ hx;rw [show off + p + i = off + (p + i) by omega, hb.cell hlt];exact this
   ·cases hx
section
def PcY (w1 : World) (rb gb r : Nat) (y : Rd) (d : Bool) (W : World) : Prop := w1.heap.size ≤ W.heap.size ∧ ∃ k, k ≤ y.recs.length ∧ PcAt w1.heap.size rb gb r w1 W (y.skip k) d (y.recs.take k)
section
variable {w1 W : World} {rb gb r : Nat} {y : Rd} {d : Bool}
theorem PcY.same {W' : World} (h : PcY w1 rb gb r y d W) (hk : Keeps (fun _ => False) W W') : PcY w1 rb gb r y d W' := by
 obtain ⟨h1, k, h2, h3⟩ := h;exact ⟨Nat.le_trans h1 hk.size, k, h2, h3.same h1 hk⟩
theorem PcY.drew (h : PcY w1 rb gb r y d W) : PcY w1 rb gb r y d W.drew := h.same ((Keeps.refl _ W).drew)
theorem PcY.below (h : PcY w1 rb gb r y d W) : Below w1.heap.size w1 W := by
 obtain ⟨_, _, _, h3⟩ := h;exact h3.1.1
theorem PcY.box (h : PcY w1 rb gb r y d W) : W.cell? ⟨rb, 0, none⟩ = some (.pointer (some ⟨r, 0, none⟩)) := by
 obtain ⟨_, _, _, h3⟩ := h;exact cell_of_one h3.1.2.1
theorem PcY.feed (h : PcY w1 rb gb r y false W) (hy : RdOk y) (c : List UInt8) (v : Value) (hp : y.place + c.length ≤ 1073741824) (hv : ∀ F : Nat → Prop, (∀ k, F k → w1.heap.size ≤ k) → BytesOf F W v c) :
 Calls Tryz.prog 27 #[.pointer (some ⟨r, 0, none⟩), v] W fun e w' => e = .returned .nilIface ∧ PcY w1 rb gb r (y.feed c) false w' := by
 obtain ⟨h1, k, h2, hg, F, hr, hF⟩ := h;refine (seqFeed_any F W r (y.skip k) c v hr (Rd.skip_ok k hy) hp (hv F (fun k h => (hF k h).1))).mono ?_;rintro e w' ⟨rfl, hk, hr'⟩;rw [Rd.skip_feed c h2] at hr';obtain ⟨l, hl⟩ := Rd.feed_recs c y;refine ⟨rfl, Nat.le_trans h1 hk.size, k, by rw [hl, List.length_append]; omega, ?_⟩;rw [hl, List.take_append_of_le_length h2];exact PcAt.turn hg h1 hk hF hr'
theorem PcY.draw (h : PcY w1 rb gb r y d W) (hgb : w1.heap.size ≤ gb) (hl : y.recs.length ≤ 1073741824) (n : Nat) (hn : n ≤ 1073741824) :
 Calls Tryz.prog 38 #[.int .i64 n, .pointer (some ⟨rb, 0, none⟩), .pointer (some ⟨gb, 0, none⟩)] W fun e w' => e = .returned (.tuple #[]) ∧ PcY w1 rb gb r y d w' := by
 obtain ⟨h1, k, h2, h3⟩ := h;refine (drawOut_any w1.heap.size rb gb r w1 W (y.skip k) d (y.recs.take k) n h3 h1 hgb (by unfold Rd.skip; simp only [List.length_take, List.length_drop]; omega) hn).mono ?_;rintro e w' ⟨rfl, h⟩;have hb := h.1.1;rw [Rd.skip_skip, show y.recs.take k ++ (y.skip k).recs.take n = y.recs.take (k + n) from List.take_add.symm, ← (y.skip_min (k + n)).1, ← (y.skip_min (k + n)).2] at h;exact ⟨rfl, hb.size, _, Nat.min_le_right _ _, h⟩
theorem PcY.ended (h : PcY w1 rb gb r y false W) (hy : RdOk y) (hp : y.place ≤ 1073741824) :
 Calls Tryz.prog 28 #[.pointer (some ⟨r, 0, none⟩)] W fun e w' => e = .returned .nilIface ∧ PcY w1 rb gb r (y.done) true w' := by
 obtain ⟨h1, k, h2, hg, F, hr, hF⟩ := h;refine (seqEnd_any F W r (y.skip k) hr (Rd.skip_ok k hy) hp).mono ?_;rintro e w' ⟨rfl, hk, hr'⟩;rw [Rd.skip_done h2] at hr';obtain ⟨l, hl⟩ := Rd.done_recs y;refine ⟨rfl, Nat.le_trans h1 hk.size, k, by rw [hl, List.length_append]; omega, ?_⟩;rw [hl, List.take_append_of_le_length h2];exact PcAt.turn hg h1 hk hF hr'
theorem PcY.last (h : PcY w1 rb gb r y d W) (hgb : w1.heap.size ≤ gb) (hl : y.recs.length ≤ 1073741824) :
 ∃ n : Nat, n ≤ 1073741824 ∧ Calls Tryz.prog 39 #[.pointer (some ⟨r, 0, none⟩)] W (fun e w' => e = .returned (.int .i64 n) ∧ w' = W) ∧
  Calls Tryz.prog 38 #[.int .i64 n, .pointer (some ⟨rb, 0, none⟩), .pointer (some ⟨gb, 0, none⟩)] W fun e w' => e = .returned (.tuple #[]) ∧ PcAt w1.heap.size rb gb r w1 w' { y with recs := [] } d y.recs := by
 obtain ⟨h1, k, h2, h3⟩ := h;obtain ⟨F, hr, hF⟩ := h3.2;refine ⟨(y.skip k).recs.length, by unfold Rd.skip; simp only [List.length_drop]; omega, waiting_any F W r _ d hr, ?_⟩;refine (drawOut_any w1.heap.size rb gb r w1 W (y.skip k) d (y.recs.take k) _ h3 h1 hgb (by unfold Rd.skip; simp only [List.length_take, List.length_drop]; omega) (by unfold Rd.skip; simp only [List.length_drop]; omega)).mono ?_;rintro e w' ⟨rfl, h⟩
 rw [Rd.skip_skip, show y.recs.take k ++ (y.skip k).recs.take (y.skip k).recs.length = y.recs by
  rw [List.take_length]; exact List.take_append_drop k y.recs] at h
 refine ⟨rfl, ?_⟩
 have e2 : y.skip (k + (y.skip k).recs.length) = { y with recs := [] } := by
  unfold Rd.skip;simp only;rw [List.drop_eq_nil_of_le (by simp only [List.length_drop]; omega)]
 rw [e2] at h;exact h
end
end
end Go.Proofs.YtakkmiomhackiaaGreatDoor
