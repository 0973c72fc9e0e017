/-
  The program, one part of its walk: Sm7, Ap1, Se5, Ap2, Rb. Conditions: none.
-/
import Derived.Test.YtakkmiomhackiaaGreatDoorPa37
import Derived.Test.YtakkmiomhackiaaGreatDoorPa38
import Derived.Test.YtakkmiomhackiaaGreatDoorPa36
import Derived.Test.YtakkmiomhackiaaGreatDoorCards
import Derived.Test.YtakkmiomhackiaaGreatDoorTie
import Derived.WalkKit
import Derived.ProofKit
import Derived.OpenShut
import Derived.ChangeSame
import Derived.Carry
import Derived.Deep.DeepHandedRow
import Derived.Deep.DeepLaidRun
import Derived.Lib.LaidTab
import Derived.Test.YtakkmiomhackiaaGreatDoorPa00
set_option linter.all false
set_option maxRecDepth 100000
set_option maxHeartbeats 16000000
open Go.Proofs.Tryz
namespace Go.Proofs.YtakkmiomhackiaaGreatDoor
open Go.RowKit
section
open Go.RowKit Go.Shelf
attribute [local go_sem] Oper.semAt_some
theorem keepsOthers_of {F : Nat → Prop} {W W' : World} (h : Keeps F W W') (hF : ∀ k o, F k → W.heap[k]? = some o → o.isCells = true) : KeepsOthers W W' :=
 ⟨h.size, fun k o hk ho => h.blk hk (fun hf => by have := hF k o hf hk; rw [ho] at this; cases this)⟩
theorem appendIn_winN {s e : Nat} {w : World} {v : Value} {n : Nat} {cs : List Value} {F : Fence} {d t bytes : Nat} {ops : Array Oper} {rest : List Oper} {o : Oper} {a : Act} {Q : Exit → Act → World → Prop} (E : ElemN t e s bytes) (hgd : o.guard = none) (so x : Operand)
 (ho : o.op = .call { callee := .builtin .append, args := #[so, x], argTypes := #[t, t] }) (hs : a.eval so = v) (hown : WinN s e w v n cs) (ad : Addr) (m c : Nat) (news : List Value) (hx : a.eval x = .slice (some ad) m c) (hnl : news.length = m * s)
 (hnews : ∀ j u, news[j]? = some u → w.cell? (ad.add j) = some u) (h1 : ∀ u ∈ news, u.oneCell' = true) (hm1 : 1 ≤ m) (hb : (n + m) * bytes ≤ 140737488355328) (hm : n + m ≤ maxLen)
 (h : ∀ g off cap w', WinN s e w' (.slice (some ⟨g, off, none⟩) (n + m) cap) (n + m) (cs ++ news) → (v.ownBlock = some g ∨ (w.heap.size ≤ g ∧ g < w'.heap.size)) → Keeps (fun k => v.ownBlock = some k) w w' → wpListIn F d prog ops Q rest (a.put o.dst (.slice (some ⟨g, off, none⟩) (n + m) cap)) w') :
 wpListIn F d prog ops Q (o :: rest) a w := by
 refine wpListIn_plain hgd fun K hK' => ?_
 obtain ⟨g, off, cap, w', hrun, r1, r2, r3⟩ := run_append_winN (t := t) (ty := o.type) E hown ad m c news hnl hnews h1 hm1 hb hm;unfold Oper.wpIn;refine ⟨?_, ?_⟩
 ·simp [Oper.about, ho, resolve, Target.leads, Sem.run_pure]
 ·rw [Oper.semAt_plain F _ _ (by rw [ho]; intro c hc'; cases hc')];simp [execOp, ho, resolve, invoke, builtin, hs, hx, hrun, Result.andThen];exact hK' _ _ (h g off cap w' r1 r2 r3)
def recCells : List Rec → List Value
 | [] => []
 | x :: l => .pointer x.q :: x.e :: recCells l
theorem recCells_snoc (l : List Rec) (x : Rec) : recCells (l ++ [x]) = recCells l ++ [.pointer x.q, x.e] := by
 induction l with
 | nil => rfl
 | cons y l ih => simp [recCells, ih]
theorem recCells_at {l : List Rec} {i : Nat} {x : Rec} (h : l[i]? = some x) : (recCells l)[2 * i]? = some (.pointer x.q) ∧ (recCells l)[2 * i + 1]? = some x.e := by
 induction l generalizing i with
 | nil => simp at h
 | cons y l ih =>
  cases i with
  | zero => simp at h; subst h; exact ⟨rfl, rfl⟩
  | succ i =>
   have := ih (by simpa using h);rw [show 2 * (i + 1) = 2 * i + 2 by omega];exact ⟨by simpa [recCells] using this.1, by simpa [recCells] using this.2⟩
def AllsAt (lb : Nat) (w : World) (pre : List Rec) (W : World) : Prop :=
 Below w.heap.size w W ∧ ∃ lV, W.heap[lb]? = some (.cells #[lV] 81 (0, 0)) ∧ WinN 2 85 W lV pre.length (recCells pre) ∧ (∀ k, lV.ownBlock = some k → w.heap.size ≤ k) ∧ ∀ (i : Nat) (x : Rec), pre[i]? = some x → RecAt W (.pointer x.q) x.e x.it
theorem AllsAt.minds {lb B : Nat} {w : World} (hl : lb < B) (hw : w.heap.size ≤ B) (pre : List Rec) : Minds2 B (AllsAt lb w pre) := by
 rintro A C ⟨h1, lV, h2, h3, h4, h5⟩ hk;refine ⟨h1.trans (hk.toBelow (by have := h1.size; omega) (fun k h => by omega)), lV, hk.blk h2 (fun h => by omega), h3.keeps hk ?_, h4, fun i x hx => (RecIs.minds B [x.it] 0 x A C ⟨rfl, h5 i x hx⟩ hk).2⟩;rintro k hk' ⟨_, h⟩;rcases h3.2 with ⟨rfl, _⟩ | ⟨g, off, cap, cur, rfl, hg, _⟩
 ·cases hk'
 ·cases hk';rcases h with ⟨c, T, h, hT⟩ | ⟨o, h, ho⟩
  ·rw [hg] at h;cases h;rcases hT with h | h | h <;> cases h
  ·rw [hg] at h;cases h;simp [Obj.isCells] at ho
def AllsRet (w : World) (recs : List (Except (Nat × Nat) Tr)) (e : Ending) (w' : World) : Prop :=
 ∃ a c cs, e = .returned (.tuple #[.slice a recs.length c, .bool true]) ∧ WinN 2 85 w' (.slice a recs.length c) recs.length cs ∧ Recs w' cs recs ∧ Below w.heap.size w w'
theorem alls_any (w : World) (v : Value) (b : List UInt8) (d : Nat) (hd1 : 1 ≤ d) (hd2 : d ≤ 512) (h : HasBytes w v b) (hl : b.length ≤ 1073741824) :
 Calls prog 37 #[v, .int .i64 d] w fun e w' => AllsRet w (((Rd.new d).feed b).done).recs e w' := by
 obtain ⟨recs, hrecs⟩ : ∃ recs, (((Rd.new d).feed b).done).recs = recs := ⟨_, rfl⟩;rw [hrecs];have HRECS := hZ hrecs
 have hrl : recs.length ≤ 1073741824 := by
  rw [← hrecs];have := Rd.done_len (x := (Rd.new d).feed b) (Rd.feed_ok b ⟨hd1, hd2, rfl, Nat.le_refl _, Nat.le_refl _, Nat.le_refl _⟩);rw [Rd.feed_place] at this;have h0 : (Rd.new d).place = 0 := rfl;omega
 clear hrecs;have HALL := hZ (all_any w v b d hd1 hd2 h hl);obtain ⟨⟨va, vc, hve, _⟩, _⟩ := h;subst hve;refine (callsIn_wide (n := 6)).1 ?_;refine callsIn_of_wp_marks func37 rfl trivial ?_ rfl;simp only [ntmps37, List.size_toArray, List.length_cons, List.length_nil, Nat.reduceAdd, Nat.reduceSub, Array.replicate_succ, Array.replicate_zero, List.push_toArray, List.append_toArray, List.nil_append, List.cons_append];gi_wp2_with fail;refine ⟨trivial, ?_⟩;refine (callsIn_wide.2 (HALL.out)).mono ?_;rintro e w2 ⟨db, rb, rv, rfl, hdb, hrb, hw2, hb2⟩;have HB := hZ hb2;have hfn : ∀ w : World, (binOp .eql 70 (.func (.func 66) #[] #[.pointer (some ⟨db, 0, none⟩), .pointer (some ⟨rb, 0, none⟩)]) .nilFunc).run prog w = .ok (.bool false) w := fun _ => by kernel_rfl
 have hseq := all1_any 5 db rb d b rv w2 hd1 hd2 hdb hrb hw2 hl;rw [HRECS.out] at hseq;have HSEQ := hZ hseq;clear hseq;clear hdb hrb hw2 hb2;gi_wp2_with fail;have hlb : (w2.alloc (.cells #[.slice none 0 0] 81)).heap[w2.heap.size]? = some (.cells #[.slice none 0 0] 81 (0, 0)) := heap_alloc_new w2 _;have hbw := HB.out.alloc HB.out.size (.cells #[.slice none 0 0] 81)
 refine range_law (gf := 66) (lb := #[.pointer (some ⟨db, 0, none⟩), .pointer (some ⟨rb, 0, none⟩)]) rfl (enters_of func66 (by kernel_rfl) rfl) HSEQ.out ((Below.refl _ _).alloc (Nat.le_refl _) _) (fun _ => rfl)
  (AllsAt w2.heap.size w) (AllsAt.minds (by simp) (by have := HB.out.size; simp; omega)) ⟨hbw, _, hlb, .nil _ _ _, fun k h => (by cases h), fun i x hx => by simp at hx⟩
  (fun pre x a1 W => a1 = { tmps := ((.slice va b.length vc) :: (.int .i64 d) :: undef :: undef :: (.slice none 0 0) :: (.bool false) :: (.func (.func 66) #[] #[.pointer (some ⟨db, 0, none⟩), .pointer (some ⟨rb, 0, none⟩)]) :: .nilIface :: (.pointer (some ⟨w2.heap.size, 0, none⟩)) :: (.pointer x.q) :: x.e :: (.tuple #[(.func (.func 66) #[] #[.pointer (some ⟨db, 0, none⟩), .pointer (some ⟨rb, 0, none⟩)]), .nilIface]) :: (.slice va b.length vc) :: (.int .i64 d) :: (.tuple #[(.func (.func 66) #[] #[.pointer (some ⟨db, 0, none⟩), .pointer (some ⟨rb, 0, none⟩)]), .nilIface]) :: (.func (.func 66) #[] #[.pointer (some ⟨db, 0, none⟩), .pointer (some ⟨rb, 0, none⟩)]) :: .nilIface :: .nilIface :: (.bool false) :: (.bool false) :: (.func (.func 66) #[] #[.pointer (some ⟨db, 0, none⟩), .pointer (some ⟨rb, 0, none⟩)]) :: (.bool false) :: (.bool false) :: (.func (.func 66) #[] #[.pointer (some ⟨db, 0, none⟩), .pointer (some ⟨rb, 0, none⟩)]) :: (.pointer x.q) :: x.e :: undef :: undef :: undef :: undef :: undef :: undef :: undef :: ([] : List Value)).toArray, defers := [] } ∧ AllsAt w2.heap.size w pre W ∧ RecIs recs pre.length x W) ?minds ?assign ?body ?done
 case minds =>
  rintro pre x a1 A C ⟨h1, h2, h3⟩ hk;exact ⟨h1, AllsAt.minds (by simp) (by have := HB.out.size; simp; omega) pre A C h2 hk, RecIs.minds _ _ _ _ A C h3 hk⟩
 case assign =>
  rintro l pre x W K hi hx hK;dsimp only [recEnc];gi_wp2_with fail;exact hK _ _ (KeepsOthers.refl _) (Stays.refl _) ⟨rfl, hi, hx⟩
 case body =>
  rintro l pre x a1 W ⟨rfl, ⟨hB, lV, hlc, hwin, hown, hits⟩, hrk, hra⟩;have hpl : pre.length < recs.length := (List.getElem?_eq_some_iff.1 hrk).1;obtain ⟨q, e, it⟩ := x;have hra0 : RecAt W (.pointer q) e it := hra;obtain ⟨la, lc, hlve⟩ := hwin.shape;have hk1 : Keeps (fun _ => False) W (W.alloc (.cells #[.pointer q, e] 85)) := (Keeps.refl _ W).alloc _
  have hnews : ∀ j u, ([.pointer q, e] : List Value)[j]? = some u → (W.alloc (.cells #[.pointer q, e] 85)).cell? ((⟨W.heap.size, 0, none⟩ : Addr).add j) = some u := by
   intro j u hj;rw [add_zero_at W.heap.size j, cell_at (heap_alloc_new W _)]
   simpa using hj
  have hone : ∀ u ∈ ([.pointer q, e] : List Value), u.oneCell' = true := by
   intro u hu;simp at hu;rcases hu with rfl | rfl
   ·rfl
   ·obtain ⟨_, _, h | ⟨T, v, h⟩⟩ := hra0.parts
    ·rw [h]; rfl
    ·rw [h]; rfl
  have HWX := hZ (hwin.keeps hk1 (fun _ _ => id));have HNEWS := hZ hnews;have HONE := hZ hone
  have HFIN : Hid (∀ (g off cap : Nat) (w' : World), WinN 2 85 w' (.slice (some ⟨g, off, none⟩) (pre.length + 1) cap) (pre.length + 1) (recCells pre ++ [.pointer q, e]) → (lV.ownBlock = some g ∨ ((W.alloc (.cells #[.pointer q, e] 85)).heap.size ≤ g ∧ g < w'.heap.size)) → Keeps (fun k => lV.ownBlock = some k) (W.alloc (.cells #[.pointer q, e] 85)) w' → w'.cell? ⟨w2.heap.size, 0, none⟩ = some lV ∧ w'.frozen? ⟨w2.heap.size, 0, none⟩ = false ∧ KeepsOthers W (w'.setCell ⟨w2.heap.size, 0, none⟩ (.slice (some ⟨g, off, none⟩) (pre.length + 1) cap)) ∧ Stays W (w'.setCell ⟨w2.heap.size, 0, none⟩ (.slice (some ⟨g, off, none⟩) (pre.length + 1) cap)) ∧ AllsAt w2.heap.size w (pre ++ [⟨q, e, it⟩]) (w'.setCell ⟨w2.heap.size, 0, none⟩ (.slice (some ⟨g, off, none⟩) (pre.length + 1) cap))) := hZ (by
   intro g off cap w' hw' hgb hkk;have hlne : lV.ownBlock ≠ some w2.heap.size := hwin.ne hlc (by decide);have hlc' := hkk.blk (hk1.blk hlc id) hlne;have hks : Keeps (fun k => k = w2.heap.size) w' (w'.setCell ⟨w2.heap.size, 0, none⟩ (.slice (some ⟨g, off, none⟩) (pre.length + 1) cap)) := (Keeps.refl (fun k => k = w2.heap.size) w').setCell (p := ⟨w2.heap.size, 0, none⟩) (.inl rfl) _;have hall : Keeps (fun k => lV.ownBlock = some k ∨ k = w2.heap.size) W (w'.setCell ⟨w2.heap.size, 0, none⟩ (.slice (some ⟨g, off, none⟩) (pre.length + 1) cap)) := ((hk1.mono (fun _ h => h.elim)).trans hkk (fun k h => .inl (.inl h))).trans hks (fun k h => .inl (.inr h))
   have hcl : ∀ k o, (lV.ownBlock = some k ∨ k = w2.heap.size) → W.heap[k]? = some o → ∃ c T, o = .cells c T (0, 0) ∧ (T = 85 ∨ T = 81) := by
    rintro k o (h | h) ho
    ·rcases hwin.2 with ⟨rfl, _⟩ | ⟨g', off', cap', cur', rfl, hg', _⟩
     ·cases h
     ·cases h;rw [hg'] at ho;cases ho;exact ⟨_, _, rfl, .inl rfl⟩
    ·subst h;rw [hlc] at ho;cases ho;exact ⟨_, _, rfl, .inr rfl⟩
   have hend : KeepsOthers W (w'.setCell ⟨w2.heap.size, 0, none⟩ (.slice (some ⟨g, off, none⟩) (pre.length + 1) cap)) ∧ Stays W (w'.setCell ⟨w2.heap.size, 0, none⟩ (.slice (some ⟨g, off, none⟩) (pre.length + 1) cap)) ∧ AllsAt w2.heap.size w (pre ++ [⟨q, e, it⟩]) (w'.setCell ⟨w2.heap.size, 0, none⟩ (.slice (some ⟨g, off, none⟩) (pre.length + 1) cap)) := by
    refine ⟨keepsOthers_of hall (fun k o h ho => by obtain ⟨c, T, rfl, _⟩ := hcl k o h ho; rfl), Stays.of_keeps hall (fun k h => by
     rintro ⟨c, T, hc, hT⟩;obtain ⟨c', T', e', hT'⟩ := hcl k _ h hc;cases e';rcases hT' with rfl | rfl <;> exact absurd hT (by decide)), ?_⟩
    have hwl : w.heap.size ≤ w2.heap.size := HB.out.size;refine ⟨hB.trans (hall.toBelow hB.size (fun k h => ?_)), _, set_at hlc' _, ?_, ?_, ?_⟩
    ·rcases h with h | h
     ·exact hown k h
     ·omega
    ·rw [List.length_append, recCells_snoc];exact hw'.keeps hks (fun k e hk => hw'.ne hlc' (by decide) (e.trans (congrArg some hk)))
    ·intro k hk;cases hk;rcases hgb with h | h
     ·exact hown _ h
     ·exact Nat.le_trans hB.size (Nat.le_trans hk1.size h.1)
    ·intro i y hy
     have hky : ∀ {a b : Value} {rc : Except (Nat × Nat) Tr}, RecAt W a b rc → RecAt (w'.setCell ⟨w2.heap.size, 0, none⟩ (.slice (some ⟨g, off, none⟩) (pre.length + 1) cap)) a b rc := fun h => h.keeps hall (fun k c T hT hc hk => by
      obtain ⟨c', T', e', hT'⟩ := hcl k _ hk hc;cases e';rcases hT' with rfl | rfl <;> exact absurd hT (by decide))
     by_cases hi : i < pre.length
     ·rw [List.getElem?_append_left hi] at hy;exact hky (hits i y hy)
     ·rw [List.getElem?_append_right (by omega)] at hy
      have hi0 : i - pre.length = 0 := by
       have := (List.getElem?_eq_some_iff.1 hy).1;simp at this; omega
      rw [hi0] at hy;simp at hy;subst hy;exact hky hra0
   exact ⟨cell_of_one hlc', free_of_one hlc', hend⟩)
  have hcb : W.cell? ⟨w2.heap.size, 0, none⟩ = some lV := cell_of_one hlc;have hcb2 : (W.alloc (.cells #[.pointer q, e] 85)).cell? ⟨w2.heap.size, 0, none⟩ = some lV := hk1.cell hcb id;obtain ⟨_, _, hsh⟩ := hra0.parts;subst hlve;clear hB hlc hwin hown hits hrk hra hra0 hk1 hnews hone;rcases hsh with rfl | ⟨T, v, rfl⟩
  all_goals
   gi_wp2_with (gi_at_builtin; refine appendIn_winN elemItm rfl _ _ rfl rfl HWX.out ⟨W.heap.size, 0, none⟩ 1 1 _ rfl rfl HNEWS.out HONE.out (by decide) (by omega) (by unfold maxLen; omega) ?_)
   intro g off cap w' hw' hgb hkk;obtain ⟨hc3, hf3, hend⟩ := HFIN.out g off cap w' hw' (by simpa using hgb) hkk;have HEND := hZ hend;clear hw' hgb hkk hend;gi_wp2_with fail;exact HEND.out
 case done =>
  rintro D xs W hD hS ⟨hB, lV, hlc, hwin, hown, hits⟩ hK;have hl : xs.length = recs.length := by have := congrArg List.length hS; simpa using this
  obtain ⟨la, lc, rfl⟩ := hwin.shape;rw [hl] at hwin hlc;have hlcc : W.cell? ⟨w2.heap.size, 0, none⟩ = some (.slice la recs.length lc) := cell_of_one hlc;have hkD : Keeps (fun k => k = D) W (W.putObj D (.deferred none)) := keeps_putObj (.deferred none) rfl;have hDc : ∀ k c T, W.heap[k]? = some (Obj.cells c T (0, 0)) → ¬ k = D := fun k c T h e => by subst e; rw [hK] at h; cases h
  have hrecs2 : Recs (W.putObj D (.deferred none)) (recCells xs) recs := by
   intro i rec hi;rw [← hS, List.getElem?_map] at hi;cases hx : xs[i]? with
   | none => rw [hx] at hi; cases hi
   | some x =>
    rw [hx] at hi;cases hi;exact ⟨_, _, (recCells_at hx).1, (recCells_at hx).2, (hits i x hx).keeps hkD (fun k c T _ hc => hDc k c T hc)⟩
  have hwD : w2.heap.size + 1 ≤ D := by rw [World.size_alloc] at hD; exact hD
  have hwin2 : WinN 2 85 (W.putObj D (.deferred none)) (.slice la recs.length lc) recs.length (recCells xs) := hwin.keeps hkD (fun k e hk => by
   rcases hwin.2 with ⟨h, _⟩ | ⟨g, off, cap, cur, h, hg, _⟩
   ·rw [h] at e; cases e
   ·rw [h] at e;cases e;exact hDc _ _ _ hg hk)
  have hbe : Below w.heap.size w (W.putObj D (.deferred none)) := hB.trans (hkD.toBelow hB.size (fun k e => by have := HB.out.size; omega));have HEND := hZ (show AllsRet w recs (.returned (.tuple #[.slice la recs.length lc, .bool true])) (W.putObj D (.deferred none)) from ⟨la, lc, recCells xs, rfl, hwin2, hrecs2, hbe⟩);have HK3 := hZ hK;clear hB hlc hwin hown hits hK hD hS hl hkD hDc hrecs2 hwD hwin2 hbe;gi_wp2_with fail;refine ⟨by simp, .inl ⟨_, _, rfl, run_takeDeferred HK3.out, ?_⟩⟩;exact ⟨_, (by simp [results, results37, go_sem]), HEND.out⟩
end
section
theorem shiftOf_add (m n : Nat) (r : Except (Nat × Nat) Tr) : shiftOf m (shiftOf n r) = shiftOf (n + m) r := by
 cases r with
 | ok t => rfl
 | error e => obtain ⟨no, a⟩ := e; simp [shiftOf]; omega
structure Beyond (m : Nat) (pre : List (Except (Nat × Nat) Tr)) (x y : Rd) : Prop where
 depth : y.depth = x.depth
 place : y.place = x.place + m
 bx : x.begun = true
 by_ : y.begun = true
 open_ : y.open_ = x.open_
 frm : y.frm = x.frm + m
 size : y.size = x.size
 recs : y.recs = pre ++ x.recs.map (shiftOf m)
variable {m : Nat} {pre : List (Except (Nat × Nat) Tr)} {x y : Rd}
theorem Beyond.recOf (h : Beyond m pre x y) : y.recOf = shiftOf m x.recOf := by
 unfold Rd.recOf wrongOf;rw [h.by_, h.bx, h.frm, h.size, h.open_, h.depth];simp only [Bool.true_eq_false, if_false]
 by_cases h1 : 16777216 < x.size
 ·rw [if_pos h1, if_pos h1]
  show Except.error (3, x.frm + m + 16777216) = Except.error (3, x.frm + 16777216 + m)
  rw [Nat.add_right_comm]
 ·rw [if_neg h1, if_neg h1]
  by_cases h2 : x.open_.getLast? ≠ some 10
  ·rw [if_pos h2, if_pos h2]
   show Except.error (261, x.frm + m + x.size) = Except.error (261, x.frm + x.size + m)
   rw [Nat.add_right_comm]
  ·rw [if_neg h2, if_neg h2];exact (shiftOf_add m x.frm _).symm
theorem Beyond.whole (h : Beyond m pre x y) : Beyond m pre x.whole y.whole := by
 unfold Rd.whole
 by_cases h0 : x.size = 0
 ·rw [if_pos h0, if_pos (by rw [h.size]; exact h0)]; exact h
 ·rw [if_neg h0, if_neg (by rw [h.size]; exact h0)];exact ⟨h.depth, h.place, h.bx, h.by_, h.open_, h.frm, h.size, by show y.recs ++ [y.recOf] = _; rw [h.recs, h.recOf, List.map_append, List.append_assoc]; rfl⟩
theorem Beyond.byte (h : Beyond m pre x y) (c : UInt8) : Beyond m pre (x.byte c) (y.byte c) := by
 unfold Rd.byte;split
 ·have hw := h.whole;exact ⟨hw.depth, by show y.whole.place + 1 = x.whole.place + 1 + m; rw [hw.place, Nat.add_right_comm], rfl, rfl, rfl, by show y.whole.place + 1 = x.whole.place + 1 + m; rw [hw.place, Nat.add_right_comm], rfl, hw.recs⟩
 ·exact ⟨h.depth, by show y.place + 1 = x.place + 1 + m; rw [h.place, Nat.add_right_comm], h.bx, h.by_, by unfold Rd.part; simp only [h.open_], h.frm, by unfold Rd.part; simp only [h.size], h.recs⟩
theorem Beyond.feed : ∀ (b : List UInt8) {x y : Rd}, Beyond m pre x y → Beyond m pre (x.feed b) (y.feed b)
 | [], _, _, h => h
 | c :: b, _, _, h => Beyond.feed b (h.byte c)
theorem Rd.feed_place' : ∀ (b : List UInt8) (x : Rd), (x.feed b).place = x.place + b.length
 | [], _ => rfl
 | c :: b, x => by
  show ((x.byte c).feed b).place = _
  rw [Rd.feed_place' b]
  have : (x.byte c).place = x.place + 1 := by
   unfold Rd.byte;split
   ·show x.whole.place + 1 = _
    unfold Rd.whole; split <;> rfl
   ·rfl
  rw [this, List.length_cons]; omega
theorem Rd.feed_depth : ∀ (b : List UInt8) (x : Rd), (x.feed b).depth = x.depth
 | [], _ => rfl
 | c :: b, x => by
  show ((x.byte c).feed b).depth = _
  rw [Rd.feed_depth b];unfold Rd.byte;split
  ·show x.whole.depth = _
   unfold Rd.whole; split <;> rfl
  ·rfl
def rowOf (d : Nat) (b : List UInt8) : List (Except (Nat × Nat) Tr) := (((Rd.new d).feed b).done).recs
theorem rowOf_cut (d : Nat) (a b : List UInt8) : rowOf d (a ++ 30 :: b) = rowOf d a ++ (rowOf d (30 :: b)).map (shiftOf a.length) := by
 unfold rowOf;rw [Rd.feed_append];have e1 : ((Rd.new d).feed a).feed (30 :: b) = ((((Rd.new d).feed a).whole).sign).feed b := rfl;have e2 : (Rd.new d).feed (30 :: b) = ((((Rd.new d)).whole).sign).feed b := rfl;rw [e1, e2];have hp : ((Rd.new d).feed a).place = a.length := by rw [Rd.feed_place']; show 0 + _ = _; omega
 have hwp : ((Rd.new d).feed a).whole.place = a.length := by rw [← hp]; unfold Rd.whole; split <;> rfl
 have hwd : ((Rd.new d).feed a).whole.depth = d := by
  have hw : ∀ y : Rd, y.whole.depth = y.depth := fun y => by unfold Rd.whole; split <;> rfl
  rw [hw];exact Rd.feed_depth a _
 have h : Beyond a.length (((Rd.new d).feed a).done).recs (((Rd.new d)).whole).sign ((((Rd.new d).feed a).whole).sign) :=
  ⟨hwd, by show ((Rd.new d).feed a).whole.place + 1 = 0 + 1 + a.length; omega, rfl, rfl, rfl, by show ((Rd.new d).feed a).whole.place + 1 = 0 + 1 + a.length; omega, rfl, by
   show ((Rd.new d).feed a).whole.recs = ((Rd.new d).feed a).whole.recs ++ _
   exact (List.append_nil _).symm⟩
 exact (h.feed b).whole.recs
theorem rowOf_one (d : Nat) (b : List UInt8) (hb : ∀ c ∈ b, c ≠ 30) : rowOf d (30 :: b) = if b = [] then [] else [(⟨d, 1 + b.length, true, b.take 16777217, 1, b.length, []⟩ : Rd).recOf] := by
 unfold rowOf;have e2 : (Rd.new d).feed (30 :: b) = (⟨d, 1, true, [], 1, 0, []⟩ : Rd).feed b := rfl;rw [e2, Rd.feed_plain _ hb]
 by_cases h : b = []
 ·rw [if_pos h, h]; rfl
 ·rw [if_neg h];have hl : b.length ≠ 0 := fun e => h (List.eq_nil_of_length_eq_zero e)
  show (((⟨d, 1, true, [], 1, 0, []⟩ : Rd).part b).whole).recs = _
  unfold Rd.whole;rw [if_neg (by show 0 + b.length ≠ 0; omega)]
  show [] ++ [((⟨d, 1, true, [], 1, 0, []⟩ : Rd).part b).recOf] = _
  unfold Rd.part;simp
theorem rowOf_one_length (d : Nat) (b : List UInt8) (hb : ∀ c ∈ b, c ≠ 30) : (rowOf d (30 :: b)).length = min b.length 1 := by
 rw [rowOf_one d b hb]
 by_cases h : b = []
 ·rw [if_pos h, h]; rfl
 ·rw [if_neg h];have hl : b.length ≠ 0 := fun e => h (List.eq_nil_of_length_eq_zero e)
  simp; omega
theorem rowOf_between (d : Nat) (a b c : List UInt8) : rowOf d (a ++ 30 :: (b ++ 30 :: c)) = rowOf d a ++ (rowOf d (30 :: b)).map (shiftOf a.length) ++ (rowOf d (30 :: c)).map (shiftOf (a.length + 1 + b.length)) := by
 rw [rowOf_cut, show 30 :: (b ++ 30 :: c) = (30 :: b) ++ 30 :: c from rfl, rowOf_cut, List.map_append, List.map_map, List.append_assoc]
 have : (shiftOf a.length ∘ shiftOf (30 :: b : List UInt8).length) = shiftOf (a.length + 1 + b.length) := by
  funext r
  show shiftOf _ (shiftOf _ r) = _
  rw [shiftOf_add, List.length_cons];congr 1;omega
 rw [this]
theorem rowOf_rec (d : Nat) (b : List UInt8) (hb : ∀ c ∈ b, c ≠ 30) (h0 : b ≠ []) (hl : b.length ≤ 16777216) : rowOf d (30 :: b) = [if b.getLast? ≠ some 10 then .error (261, 1 + b.length) else shiftOf 1 (readTree b d)] := by
 rw [rowOf_one d b hb, if_neg h0];unfold Rd.recOf wrongOf;simp only [Bool.true_eq_false, if_false];rw [List.take_of_length_le (by omega), if_neg (by omega)]
 by_cases h2 : b.getLast? ≠ some 10
 ·rw [if_pos h2, if_pos h2]
 ·rw [if_neg h2, if_neg h2]
end
theorem outsideStep_no (x : Lx) (c : UInt8) : (outsideStep x c).no ≤ 200 := by
 unfold outsideStep numFirst
 repeat' split
 all_goals exact Nat.le_of_ble_eq_true rfl
theorem step_no (x : Lx) (c : UInt8) : (x.step c).no ≤ 200 := by
 unfold Lx.step;split
 ·exact outsideStep_no x c
 ·unfold letterStep;simp only
  repeat' split
  all_goals exact Nat.le_of_ble_eq_true rfl
 ·unfold numeralStep;split
  ·exact Nat.le_of_ble_eq_true rfl
  ·split
   ·split
    ·exact Nat.le_of_ble_eq_true rfl
    ·exact outsideStep_no _ c
   ·exact Nat.le_of_ble_eq_true rfl
 ·unfold withinStep
  repeat' split
  all_goals exact Nat.le_of_ble_eq_true rfl
 ·unfold escapeStep
  repeat' split
  all_goals exact Nat.le_of_ble_eq_true rfl
 ·unfold digitStep;split
  ·split <;> exact Nat.le_of_ble_eq_true rfl
  ·split <;> exact Nat.le_of_ble_eq_true rfl
 ·unfold slashStep;split <;> exact Nat.le_of_ble_eq_true rfl
 ·unfold letterUStep;split <;> exact Nat.le_of_ble_eq_true rfl
theorem lexTake_no (x : Lx) (c : UInt8) : (x.take c).2.2.1 ≤ 200 := by
 unfold Lx.take;split
 ·exact Nat.le_of_ble_eq_true rfl
 ·simp only;split
  ·exact Nat.le_of_ble_eq_true rfl
  ·exact step_no x c
theorem lexEnded_no (x : Lx) : (x.ended).2.2.1 ≤ 200 := by
 unfold Lx.ended
 repeat' split
 all_goals exact Nat.le_of_ble_eq_true rfl
def NoOk (o : Out) : Prop := ∀ n a, o = .error (n, a) → 1 ≤ n ∧ n ≤ 300
theorem NoOk.ok (x : Ps) : NoOk (.ok x) := fun _ _ h => by cases h
theorem NoOk.err {n a : Nat} (h : 1 ≤ n) (h2 : n ≤ 300) : NoOk (.error (n, a)) := fun _ _ e => by cases e; exact ⟨h, h2⟩
theorem NoOk.map {o : Out} (h : NoOk o) (f : Ps → Ps) : NoOk (o.map f) := by
 cases o with
 | error e => intro n a he; cases he; exact h n a rfl
 | ok y => exact .ok _
theorem value_no (x : Ps) (a : Nat) : NoOk (x.value a) := by
 unfold Ps.value
 repeat' split
 all_goals first | exact .ok _ | exact .err (by decide) (by decide)
theorem weigh_no (x : Ps) (s : List UInt8) (a : Nat) : NoOk (x.weigh s a) := by
 unfold Ps.weigh
 repeat' split
 all_goals first | exact .ok _ | exact .err (by decide) (by decide)
theorem begins_no (x : Ps) (c : UInt8) : NoOk (x.begins c) := by
 unfold Ps.begins;split
 ·exact .ok _
 ·exact value_no _ _
theorem token_no (x : Ps) (t : Tok) : NoOk (x.token po t) := by
 cases t with
 | mark a s =>
  show NoOk (x.mark po a s)
  unfold Ps.mark
  repeat' split
  all_goals first | exact (value_no _ _).map _ | exact .ok _ | exact .err (by decide) (by decide)
 | str a z s =>
  show NoOk (x.text a s)
  unfold Ps.text
  repeat' split
  all_goals first | exact (weigh_no _ _ _).map _ | exact .ok _ | exact .err (by decide) (by decide)
 | term a z n => exact .ok _
 | num a z b => exact .ok _
theorem drain_no (l : List Tok) : ∀ x : Ps, NoOk (Ps.drain po x l) := by
 induction l with
 | nil => intro x; exact .ok _
 | cons t l ih =>
  intro x;rw [drain_cons'];have ht := token_no x t;cases hv : x.token po t with
  | error e => rw [hv] at ht; exact ht
  | ok z => exact ih z
theorem lexNo_no {n : Nat} (h : n ≠ 0) (h2 : n ≤ 200) : 1 ≤ lexNo n ∧ lexNo n ≤ 300 := by
 unfold lexNo;split <;> omega
theorem take_no (x : Ps) (c : UInt8) : NoOk (x.take po c) := by
 have htake : x.take po c = takeOut c (x.lex.take c) (Ps.drain po { x with lex := (x.lex.take c).1 } (x.lex.take c).2.1) := rfl;have hn := lexTake_no x.lex c;rw [htake];obtain ⟨r, hr⟩ : ∃ r, x.lex.take c = r := ⟨_, rfl⟩;rw [hr] at hn ⊢;have hd0 := drain_no r.2.1 { x with lex := r.1 };cases hd : Ps.drain po { x with lex := r.1 } r.2.1 with
 | error e => rw [hd] at hd0; exact hd0
 | ok z =>
  intro n a h;simp only [takeOut] at h;split at h
  ·rename_i hno;cases h;exact lexNo_no hno hn
  ·split at h
   ·rename_i hb;split at hb
    ·cases h;exact begins_no _ _ _ _ hb
    ·cases hb
   ·cases h
theorem feed_no (l : List UInt8) : ∀ x : Ps, NoOk (x.feed po l) := by
 induction l with
 | nil => intro x; exact .ok _
 | cons c l ih =>
  intro x;unfold Ps.feed;rw [List.foldlM_cons];have ht := take_no x c;cases hv : x.take po c with
  | error e => rw [hv] at ht; exact ht
  | ok z => exact ih z
theorem finish_no (x : Ps) : NoOk (x.finish po) := by
 have htake : x.finish po = finOut x.lex.ended (Ps.drain po { x with lex := x.lex.ended.1 } x.lex.ended.2.1) := rfl;have hn := lexEnded_no x.lex;rw [htake];have hd0 := drain_no x.lex.ended.2.1 { x with lex := x.lex.ended.1 };cases hd : Ps.drain po { x with lex := x.lex.ended.1 } x.lex.ended.2.1 with
 | error e => rw [hd] at hd0; exact hd0
 | ok z =>
  intro n a h;simp only [finOut] at h;split at h
  ·rename_i hno;cases h;exact lexNo_no hno hn
  ·split at h
   ·cases h; omega
   ·cases h
theorem readTree_no {l : List UInt8} {d no at_ : Nat} (h : readTree l d = .error (no, at_)) : 1 ≤ no ∧ no ≤ 300 := by
 unfold readTree oneOf at h;cases hr : Ps.read po l d with
 | error e =>
  obtain ⟨n2, a2⟩ := e;rw [hr] at h;cases h;unfold Ps.read at hr;cases hf : (Ps.new d).feed po l with
  | error e2 =>
   rw [hf] at hr;cases hr;exact feed_no l _ _ _ hf
  | ok z =>
   rw [hf] at hr;exact finish_no z _ _ hr
 | ok y => rw [hr] at h; cases h
theorem readTree_fin {l : List UInt8} {d : Nat} {t : Tr} (h2 : d ≤ 512) (h : readTree l d = .ok t) : FinT t := by
 unfold readTree oneOf at h;cases hr : Ps.read po l d with
 | error e => rw [hr] at h; cases h
 | ok y =>
  rw [hr] at h;have := read_fin h2 hr;cases hy : y.items with
  | nil => simp only [hy, List.headD_nil] at h; cases h; exact .null
  | cons t2 l2 => simp only [hy, List.headD_cons] at h; cases h; exact this _ (by rw [hy]; exact List.mem_cons_self ..)
theorem recOf_ok {x : Rd} (h : RdOk x) (hp : x.place ≤ 500000000) : RecOk x.recOf := by
 unfold Rd.recOf;cases hw : wrongOf x.begun x.frm x.size x.open_ with
 | some e =>
  obtain ⟨no, a⟩ := e;have h1 := h.size;have h2 := h.frm;have h3 := h.recs;unfold wrongOf at hw;split at hw
  ·cases hw; exact ⟨by decide, by decide, by decide⟩
  ·split at hw
   ·cases hw; exact ⟨by decide, by decide, by omega⟩
   ·split at hw
    ·cases hw; exact ⟨by decide, by decide, by omega⟩
    ·cases hw
 | none =>
  cases ht : readTree x.open_ x.depth with
  | error e =>
   obtain ⟨no, a⟩ := e;have h1 := readTree_no ht;have h3 := readTree_at h.d2 ht;have h2 := h.frm
   show 1 ≤ no ∧ no ≤ 1073741824 ∧ a + x.frm ≤ 1073741824
   omega
  | ok t => exact readTree_fin h.d2 ht
theorem whole_recs_ok {x : Rd} (h : RdOk x) (hp : x.place ≤ 500000000) (hr : ∀ rc ∈ x.recs, RecOk rc) : ∀ rc ∈ (x.whole).recs, RecOk rc := by
 unfold Rd.whole;split
 ·exact hr
 ·intro rc hm;rcases List.mem_append.1 hm with hm | hm
  ·exact hr rc hm
  ·simp at hm;subst hm;exact recOf_ok h hp
theorem feed_recs_ok : ∀ (b : List UInt8) {x : Rd}, RdOk x → x.place + b.length ≤ 500000000 → (∀ rc ∈ x.recs, RecOk rc) → ∀ rc ∈ (x.feed b).recs, RecOk rc
 | [], x, _, _, hr => hr
 | c :: b, x, h, hp, hr => by
  show ∀ rc ∈ ((x.byte c).feed b).recs, RecOk rc
  have hpl : (x.byte c).place = x.place + 1 := Rd.feed_place [c] x;have hok : RdOk (x.byte c) := Rd.feed_ok [c] h;refine feed_recs_ok b hok (by rw [hpl]; simp at hp; omega) ?_;unfold Rd.byte;split
  ·exact whole_recs_ok h (by omega) hr
  ·exact hr
theorem new_ok {d : Nat} (h1 : 1 ≤ d) (h2 : d ≤ 512) : RdOk (Rd.new d) := ⟨h1, h2, rfl, Nat.le_refl _, Nat.le_refl _, Nat.le_refl _⟩
theorem done_recs_ok {d : Nat} (h1 : 1 ≤ d) (h2 : d ≤ 512) (b : List UInt8) (hb : b.length ≤ 500000000) : ∀ rc ∈ (((Rd.new d).feed b).done).recs, RecOk rc := by
 have h0 : (Rd.new d).place = 0 := rfl;have hok := Rd.feed_ok b (new_ok h1 h2);have hpl := Rd.feed_place b (Rd.new d);exact whole_recs_ok hok (by omega) (feed_recs_ok b (new_ok h1 h2) (by omega) (fun rc h => by cases h))
theorem hasBytes_iff {w : World} {v : Value} {l : List UInt8} : HasBytes w v l ↔ Bs w v l ∧ Sl v := by
 constructor
 ·rintro ⟨⟨a, cap, e, h1, h2, h3⟩, h4⟩;exact ⟨⟨a, cap, e, h1, h2, h3.imp id fun ⟨g, off, e, _, h⟩ => ⟨g, off, e, h⟩⟩, h4⟩
 ·rintro ⟨⟨a, cap, e, h1, h2, h3⟩, h4⟩;exact ⟨⟨a, cap, e, h1, h2, h3.imp id fun ⟨g, off, e, h⟩ => ⟨g, off, e, id, h⟩⟩, h4⟩
theorem HasBytes.stay {w w' : World} {v : Value} {l : List UInt8} (h : HasBytes w v l) (hb : Below w.heap.size w w') : HasBytes w' v l := by
 obtain ⟨h1, h2⟩ := hasBytes_iff.1 h;exact hasBytes_iff.2 ⟨h1.below hb, h2⟩
theorem HasBytes.readable {w : World} {v : Value} {l : List UInt8} (h : HasBytes w v l) : BytesIn (fun k => w.heap.size ≤ k) w v l := by
 obtain ⟨⟨a, cap, e, h1, h2, h3⟩, _⟩ := h;refine ⟨a, cap, e, h1, h2, ?_⟩
 by_cases hl : l = []
 ·exact .inl hl
 ·obtain ⟨g, off, e, _, hc⟩ := h3.resolve_left hl;refine .inr ⟨g, off, e, fun hk => ?_, hc⟩;obtain ⟨x, t, rfl⟩ := List.exists_cons_of_ne_nil hl;have := World.block_lt_of_cell? w _ (hc 0 x rfl);simp only at this;omega
def CleanRet (w : World) (l : List UInt8) (e : Ending) (w' : World) : Prop := ∃ a c, e = .returned (.slice a (cleanOf l).length c) ∧ HasBytes w' (.slice a (cleanOf l).length c) (cleanOf l) ∧ Below w.heap.size w w'
theorem clean_all (w : World) (v : Value) (l : List UInt8) (h : HasBytes w v l) (hl : l.length ≤ 1073741824) : Calls prog 44 #[v] w fun e w' => CleanRet w l e w' := by
 obtain ⟨h1, h2⟩ := hasBytes_iff.1 h;refine (clean_any w v l h1 h2 hl).mono fun e w' ⟨v', e1, h3, h4, h5⟩ => ?_
 obtain ⟨a, c, rfl, h6⟩ := id h3;exact ⟨a, c, e1, hasBytes_iff.2 ⟨h3, h4⟩, h5⟩
def CatRet (w : World) (l : List UInt8) (e : Ending) (w' : World) : Prop := ∃ a c, e = .returned (.slice a l.length c) ∧ HasBytes w' (.slice a l.length c) l ∧ Below w.heap.size w w'
theorem cat_all (w : World) (k n : Nat) (hk : w.heap.size = k) (vs : List Value) (bs : List (List UInt8)) (l : List UInt8) (hbs : bs.flatten = l) (hn : vs.length = n) (hbl : bs.length = n) (hv : ∀ (i : Nat) v b, vs[i]? = some v → bs[i]? = some b → HasBytes w v b) (htot : l.length ≤ 1073741824) (hnn : n ≤ 100) :
 Calls prog 46 #[.slice (some ⟨k, 0, none⟩) n n] (w.alloc (.cells vs.toArray 22)) fun e w' => CatRet w l e w' := by
 subst hk;subst hbs;have hb1 := (Below.refl w.heap.size w).alloc (Nat.le_refl _) (.cells vs.toArray 22);have hnew := heap_alloc_new w (.cells vs.toArray 22);refine (concat_any (w.alloc (.cells vs.toArray 22)) w.heap.size 0 n n vs bs hn hbl (fun i v hi => ?_) (fun i v b h1 h2 => ((hasBytes_iff.1 (hv i v b h1 h2)).1).below hb1) htot (by omega)).mono fun e w' ⟨v, e1, h1, _, h3⟩ => ?_
 ·rw [Nat.zero_add, cell_at hnew]
  simpa using hi
 ·obtain ⟨h4, h5⟩ := winN_bs h1;obtain ⟨a, c, rfl, _⟩ := id h4;exact ⟨a, c, e1, hasBytes_iff.2 ⟨h4, h5⟩, hb1.trans (h3.mono (by simp))⟩
theorem cat2 (w : World) (k : Nat) (hk : w.heap.size = k) (v1 v2 : Value) (l1 l2 l : List UInt8) (hl : l1 ++ l2 = l) (h1 : HasBytes w v1 l1) (h2 : HasBytes w v2 l2) (ht : l.length ≤ 1073741824) :
 Calls prog 46 #[.slice (some ⟨k, 0, none⟩) 2 2] (w.alloc (.cells #[v1, v2] 22)) fun e w' => CatRet w l e w' :=
 cat_all w k 2 hk [v1, v2] [l1, l2] l (by rw [← hl]; simp) rfl rfl (fun i v b e1 e2 => by
  match i, e1, e2 with
  | 0, e1, e2 => cases e1; cases e2; exact h1
  | 1, e1, e2 => cases e1; cases e2; exact h2
  | i + 2, e1, e2 => simp at e1) ht (by decide)
theorem cat4 (w : World) (k : Nat) (hk : w.heap.size = k) (v1 v2 v3 v4 : Value) (l1 l2 l3 l4 l : List UInt8) (hl : l1 ++ (l2 ++ (l3 ++ l4)) = l) (h1 : HasBytes w v1 l1) (h2 : HasBytes w v2 l2) (h3 : HasBytes w v3 l3) (h4 : HasBytes w v4 l4) (ht : l.length ≤ 1073741824) :
 Calls prog 46 #[.slice (some ⟨k, 0, none⟩) 4 4] (w.alloc (.cells #[v1, v2, v3, v4] 22)) fun e w' => CatRet w l e w' :=
 cat_all w k 4 hk [v1, v2, v3, v4] [l1, l2, l3, l4] l (by rw [← hl]; simp) rfl rfl (fun i v b e1 e2 => by
  match i, e1, e2 with
  | 0, e1, e2 => cases e1; cases e2; exact h1
  | 1, e1, e2 => cases e1; cases e2; exact h2
  | 2, e1, e2 => cases e1; cases e2; exact h3
  | 3, e1, e2 => cases e1; cases e2; exact h4
  | i + 4, e1, e2 => simp at e1) ht (by decide)
def AllAt (w : World) (v : Value) (recs : List (Except (Nat × Nat) Tr)) : Prop := ∃ a c cs, v = .slice a recs.length c ∧ WinN 2 85 w (.slice a recs.length c) recs.length cs ∧ Recs w cs recs
theorem AllAt.below {w w' : World} {v : Value} {recs : List (Except (Nat × Nat) Tr)} (h : AllAt w v recs) (hb : Below w.heap.size w w') : AllAt w' v recs := by
 obtain ⟨a, c, cs, e, h1, h2⟩ := h;exact ⟨a, c, cs, e, h1.keeps (Keeps.of_below (fun _ => False) hb) (fun _ _ => id), h2.keeps (Keeps.of_below (fun _ => False) hb) (fun _ _ _ _ _ => id)⟩
theorem RecAt.stay {w w' : World} {a b : Value} {rc : Except (Nat × Nat) Tr} (h : RecAt w a b rc) (hb : Below w.heap.size w w') : RecAt w' a b rc := h.keeps (Keeps.of_below (fun _ => False) hb) (fun _ _ _ _ _ => id)
theorem AllAt.get {w : World} {a : Option Addr} {n c : Nat} {recs : List (Except (Nat × Nat) Tr)} (h : AllAt w (.slice a n c) recs) {i : Nat} {rc : Except (Nat × Nat) Tr} (hi : recs[i]? = some rc) :
 ∃ g off q e, a = some ⟨g, off, none⟩ ∧ w.cell? ⟨g, off + i * 2, none⟩ = some (.pointer q) ∧ w.cell? ⟨g, off + i * 2 + 1, none⟩ = some e ∧ RecAt w (.pointer q) e rc := by
 obtain ⟨a', c', cs, e, h1, h2⟩ := h;cases e;obtain ⟨x, y, hx, hy, hr⟩ := h2 i rc hi;obtain ⟨q, rfl, _⟩ := hr.parts;obtain ⟨g, off, e1, c0, c1⟩ := WinN.at2 h1 hx hy;exact ⟨g, off, q, y, e1, c0, c1, hr⟩
def Three (e1 e2 e3 : Value) : Prop := (e1 = .nilIface ∧ e2 = .nilIface ∧ e3 = .nilIface) ∨ ∃ T v T2 v2 T3 v3, e1 = .iface T v ∧ e2 = .iface T2 v2 ∧ e3 = .iface T3 v3
theorem three_of {w : World} {a1 a2 a3 e1 e2 e3 : Value} {rc : Except (Nat × Nat) Tr} {m k : Nat} (h1 : RecAt w a1 e1 rc) (h2 : RecAt w a2 e2 (shiftOf m rc)) (h3 : RecAt w a3 e3 (shiftOf k rc)) : Three e1 e2 e3 := by
 cases rc with
 | error er =>
  obtain ⟨no, at_⟩ := er;obtain ⟨_, rfl⟩ := h1;obtain ⟨_, rfl⟩ := h2;obtain ⟨_, rfl⟩ := h3;exact .inr ⟨_, _, _, _, _, _, rfl, rfl, rfl⟩
 | ok t => exact .inl ⟨h1.1, h2.1, h3.1⟩
theorem shift_fits {rc : Except (Nat × Nat) Tr} {m : Nat} (h : RecOk (shiftOf m rc)) : ∀ no at_, rc = .error (no, at_) → at_ + m ≤ 1073741824 := by
 rintro no at_ rfl;exact h.2.2
theorem shift_ok {rc : Except (Nat × Nat) Tr} {m : Nat} (h : RecOk (shiftOf m rc)) : RecOk rc := by
 cases rc with
 | error e => obtain ⟨no, a⟩ := e; obtain ⟨h1, h2, h3⟩ := h; exact ⟨h1, h2, Nat.le_trans (Nat.le_add_right _ _) h3⟩
 | ok t => exact h
theorem row_ok {b : List UInt8} (hb : b.length ≤ 500000000) : ∀ rc ∈ rowOf 8 b, RecOk rc := done_recs_ok (by decide) (by decide) b hb
theorem alls_row (w : World) (v : Value) (b : List UInt8) (h : HasBytes w v b) (hl : b.length ≤ 1073741824) : Calls prog 37 #[v, .int .i64 8] w fun e w' => ∃ a c, e = .returned (.tuple #[.slice a (rowOf 8 b).length c, .bool true]) ∧ AllAt w' (.slice a (rowOf 8 b).length c) (rowOf 8 b) ∧ Below w.heap.size w w' := by
 refine (alls_any w v b 8 (by decide) (by decide) h hl).mono fun e w' ⟨a, c, cs, e1, h1, h2, h3⟩ => ?_
 exact ⟨a, c, e1, ⟨a, c, cs, rfl, h1, h2⟩, h3⟩
structure RowFacts (ns ms xs : List (Except (Nat × Nat) Tr)) (O : List UInt8) (a : Nat) : Prop where
 len : xs.length = ns.length + ms.length + min O.length 1
 front : ∀ (i : Nat) rc, ns[i]? = some rc → xs[i]? = some (shiftOf 0 rc)
 back : ∀ (i j : Nat) rc, j + i + 1 = ms.length → ms[j]? = some rc → ∃ j', j' + i + 1 = xs.length ∧ xs[j']? = some (shiftOf (a + 1 + O.length) rc)
 mid : O ≠ [] → xs[ns.length]? = some (if O.getLast? ≠ some 10 then .error (261, a + 1 + O.length) else shiftOf (a + 1) (readTree O 8))
theorem row_facts (A O B : List UInt8) (hO : ∀ c ∈ O, c ≠ 30) (hl : O.length ≤ 16777216) : RowFacts (rowOf 8 A) (rowOf 8 (30 :: B)) (rowOf 8 (A ++ 30 :: (O ++ 30 :: B))) O A.length := by
 rw [rowOf_between];have hone := rowOf_one_length 8 O hO;obtain ⟨ns, hns⟩ : ∃ ns, rowOf 8 A = ns := ⟨_, rfl⟩;obtain ⟨ms, hms⟩ : ∃ ms, rowOf 8 (30 :: B) = ms := ⟨_, rfl⟩;rw [hns, hms];refine ⟨?_, ?_, ?_, ?_⟩
 ·simp only [List.length_append, List.length_map, hone]; omega
 ·intro i rc hi;rw [shiftOf_zero, List.append_assoc, List.getElem?_append_left (List.getElem?_eq_some_iff.1 hi).1];exact hi
 ·intro i j rc hij hj;refine ⟨(ns ++ (rowOf 8 (30 :: O)).map (shiftOf A.length)).length + j, ?_, ?_⟩
  ·generalize ns ++ (rowOf 8 (30 :: O)).map (shiftOf A.length) = q;simp only [List.length_append, List.length_map]; omega
  ·rw [List.getElem?_append_right (Nat.le_add_right _ _), Nat.add_sub_cancel_left, List.getElem?_map, hj]; rfl
 ·intro h0;rw [rowOf_rec 8 O hO h0 hl, List.append_assoc, List.getElem?_append_right (Nat.le_refl _), Nat.sub_self];simp only [List.map_cons, List.map_nil, List.cons_append, List.nil_append, List.getElem?_cons_zero];congr 1;split
  ·show Except.error (261, 1 + O.length + A.length) = _
   rw [show 1 + O.length + A.length = A.length + 1 + O.length by omega]
  ·rw [shiftOf_add, Nat.add_comm 1]
def ReadRet (w : World) (rc : Except (Nat × Nat) Tr) (e : Ending) (w' : World) : Prop := ∃ q x, e = .returned (.tuple #[.pointer q, x]) ∧ RecAt w' (.pointer q) x rc ∧ Below w.heap.size w w'
theorem read_rec (w : World) (v : Value) (l : List UInt8) (h : HasBytes w v l) (hl : l.length ≤ 134217728) : Calls prog 12 #[v, .int .i64 8] w fun e w' => ReadRet w (readTree l 8) e w' := by
 refine (parRead_any w l 8 v (by decide) (by decide) h.readable hl).mono fun e w' ⟨hk, hm⟩ => ?_
 have hb := hk.toBelow (Nat.le_refl _) (fun _ h => h.elim);cases hr : readTree l 8 with
 | error er =>
  obtain ⟨no, a⟩ := er;rw [hr] at hm;exact ⟨none, spotV no a, hm, ⟨rfl, rfl⟩, hb⟩
 | ok t =>
  rw [hr] at hm;obtain ⟨T, v, e1, h1, h2, _⟩ := hm;exact ⟨some ⟨T, 0, none⟩, .nilIface, e1, ⟨rfl, T, v, rfl, h1, h2.mono (fun _ _ => trivial)⟩, hb⟩
theorem last_at {w : World} {a : Option Addr} {n c : Nat} {l : List UInt8} {b : UInt8} (h : HasBytes w (.slice a n c) l) (hb : l.getLast? = some b) : ∃ g off k, a = some ⟨g, off, none⟩ ∧ n = k + 1 ∧ w.cell? ⟨g, off + k, none⟩ = some (.int .u8 ((b.toNat : Nat) : Int)) := by
 obtain ⟨⟨a', c', e, h1, h2, h3⟩, _⟩ := h;cases e;have hne : l ≠ [] := by rintro rfl; simp at hb
 obtain ⟨g, off, e, _, hc⟩ := h3.resolve_left hne;have hpos := List.length_pos_iff.2 hne;refine ⟨g, off, l.length - 1, e, by omega, hc _ _ ?_⟩;rw [← hb, List.getLast?_eq_getElem?]
section
open Go.ChangeShapes Go.WideShapes Go.ChangeAt Go.RowKit
namespace Rowed
theorem cells5 : prog.cellsOf 5 = 1 := by kernel_rfl
theorem cells3 : prog.cellsOf 3 = 1 := by kernel_rfl
theorem laidOut : laidOutB prog = true := by kernel_rfl
theorem slice_plain {W : World} {base : Nat} {t e : TypeId} {a : Option Addr} {n c : Nat} (ht : prog.underlying t = some (.slice e)) (h : Value.okWide prog W .any base t (.slice a n c)) : Value.slice a n c = .slice none 0 0 ∨ ∃ g off, a = some ⟨g, off, none⟩ := by
 simp only [Value.okWide, ht, Cell.okWide, Cell.ok] at h;cases a with
 | none =>
  left;split at h
  all_goals simp_all
 | some a =>
  right;obtain ⟨g, off, s⟩ := a
  have : s = none := by
   simp only at h;exact h.2.2.2.1
  subst this;exact ⟨g, off, rfl⟩
theorem bulk_lits {H : Type} (k : IntKind) (l r : List Int) : l.length + 1 ≤ Rows.uptoBulk (DataW.slice (lits (H := H) k l) (lits k r)) := by
 have h : ∀ (l : List (DataW H)), l.length ≤ Rows.uptoBulkAll l := by
  intro l
  induction l with
  | nil => simp [Rows.uptoBulkAll]
  | cons x l ih =>
   have h1 : 1 ≤ Rows.uptoBulk x := by
    cases x with
    | lit l => cases l <;> simp [Rows.uptoBulk]
    | nil => simp [Rows.uptoBulk]
    | ptr d => simp [Rows.uptoBulk]
    | slice elems spare => simp [Rows.uptoBulk]
    | agg parts => simp [Rows.uptoBulk]
    | iface t d => simp [Rows.uptoBulk]
    | map entries => simp [Rows.uptoBulk]
    | held h => simp [Rows.uptoBulk]
   simp only [Rows.uptoBulkAll, List.length_cons];omega
 have h1 := h (lits k l);simp only [Rows.uptoBulk];have h2 : (lits (H := H) k l).length = l.length := by simp [lits]
 omega
theorem byte_of_wf {x : Int} (h : (Lit.int .u8 x).wf = true) : 0 ≤ x ∧ x < 256 := by
 have h1 : IntKind.u8.min = 0 := rfl;have h2 : IntKind.u8.max = 255 := rfl;simp only [Lit.wf, Bool.and_eq_true, decide_eq_true_eq] at h;omega
theorem nil_shape {a : Option Addr} {n c : Nat} (h : Value.slice a n c = .slice none 0 0) : a = none ∧ n = 0 ∧ c = 0 := by
 injection h with h1 h2 h3
 exact ⟨h1, h2, h3⟩
theorem opened_bytes {H : Type} {enc : TypeId × Value → H} {W : World} {base : Nat} {a0 : Option Addr} {len cap : Nat} {d0 : DataW H} {p : List MemPlace} (hok : Value.okWide prog W .any base 22 (.slice a0 len cap))
 (h0 : DataW.Trod enc prog W 0 (fun _ => true) true 22 (.slice a0 len cap) d0 p) : ∃ b : List UInt8, b.length ≤ Rows.uptoBulk d0 ∧ HasBytes W (.slice a0 len cap) b := by
 have hpl := slice_plain underlying22 hok;obtain ⟨fuel, hf⟩ := h0;rcases open_ints underlying22 underlying5 cells5 hf with ⟨hcs, hx⟩ | ⟨a, len', cap', zs, hcs, _, hl, hm, hz, hx, hcell, hwz⟩
 ·simp [Value.cells] at hcs;obtain ⟨rfl, rfl, rfl⟩ := hcs;exact ⟨[], Nat.zero_le _, ⟨⟨none, 0, rfl, Nat.le_refl _, Nat.zero_le _, .inl rfl⟩, .inl rfl⟩⟩
 ·simp [Value.cells] at hcs;obtain ⟨rfl, rfl, rfl⟩ := hcs;simp only [Prod.mk.injEq] at hx;obtain ⟨rfl, rfl⟩ := hx;simp only [if_true] at hz;obtain ⟨g, off, hgo⟩ := hpl.resolve_left (fun e => by cases (nil_shape e).1);cases hgo;have hlen : ((zs.take len).map fun z => UInt8.ofNat z.toNat).length = len := by simp; omega
  refine ⟨(zs.take len).map fun z => UInt8.ofNat z.toNat, ?_, ⟨⟨_, cap, by rw [hlen], by rw [hlen]; exact hl, hm, .inr ⟨g, off, rfl, id, fun i x hx => ?_⟩⟩, .inr ⟨g, off, _, _, rfl⟩⟩⟩
  ·have := bulk_lits (H := H) .u8 (zs.take len) (zs.drop len);rw [List.length_map];omega
  ·have hi : i < len := by have := (List.getElem?_eq_some_iff.1 hx).1; omega
   have hc := hcell i (by omega);rw [add_plain] at hc;rw [hc];rw [List.getElem?_map, List.getElem?_take_of_lt hi] at hx;cases hzz : zs[i]? with
   | none => rw [hzz] at hx; cases hx
   | some z =>
    rw [hzz] at hx;cases hx;have hb := byte_of_wf (hwz z (List.mem_of_getElem? hzz));have hg : zs.getD i 0 = z := by rw [List.getD_eq_getElem?_getD, hzz]; rfl
    rw [hg];have : (UInt8.ofNat z.toNat).toNat = z.toNat := by simp [UInt8.toNat_ofNat]; omega
    rw [this];congr 2;omega
theorem post_of_below {H : Type} {enc : TypeId × Value → H} {P : Program} {f : Func} {s : ChangeSpec} {apart fresh handsOn again : Bool} {W W' : World} {args : Array Value} {v : Value} {ds gs : List (DataW H)} {before pa pv : List MemPlace}
 (hW : DataW.Whole enc P f.params.toList s.vars apart W args.toList ds gs before)
 (hres : ∀ (b : Nat) (sp : Nat → Bool) (hd : Bool), DataW.TrodAll enc P W' b sp hd f.resultTypes.toList (v.resultList f.resultTypes.size) (s.fn H (ds ++ gs)).results [])
 (hargs : ∀ sp : Nat → Bool, (∀ p ∈ before, sp p.block = true) → DataW.TrodAll enc P W' 0 sp true f.params.toList args.toList (s.fn H (ds ++ gs)).args pa)
 (hvars : ∀ sp : Nat → Bool, (∀ p ∈ before, sp p.block = true) → DataW.TrodVars enc P W' sp s.vars (s.fn H (ds ++ gs)).vars pv)
 (hps : before = pa ++ pv) (hk : Below W.heap.size W W')
 (hok : ∀ (j : Nat) (t : TypeId) (r : Value), f.resultTypes[j]? = some t → (v.resultList f.resultTypes.size)[j]? = some r → Value.okWide P W' .any 0 t r) :
 s.post enc P f apart fresh handsOn again W args v W' := by
 have hlt : ∀ p ∈ before, p.block < W.heap.size := fun p hp => hW.lt p hp
 have hold : ∀ p ∈ before, (fun b => decide (b < W.heap.size)) p.block = true := fun p hp => by simpa using hW.lt p hp
 refine ⟨ds, gs, before, [], pa, pv, hW, hres _ _ _, hargs _ hold, hvars _ hold, hk.frame _, fun _ => ?_⟩;obtain ⟨_, _, _, _, _, hz, hn⟩ := hW;refine ⟨hok, _, _, ([] ++ pa) ++ pv, ⟨[] ++ pa, pv, trodAll_append (hargs _ (fun _ _ => rfl)) (hres _ _ _), hvars _ (fun _ _ => rfl), rfl, ?_, ?_⟩, ?_⟩
 ·intro b off hp;have hp' := hp;rw [show ([] ++ pa) ++ pv = before by rw [hps]; simp] at hp';have hb := hlt _ hp';have := hz b off hp';unfold World.frozen? at this ⊢;rw [hk.block b hb];exact this
 ·intro ha;have := hn ha;rw [hps] at this
  simpa using this
 ·intro p hp _;rw [hps]
  simpa using hp
end Rowed
end
end Go.Proofs.YtakkmiomhackiaaGreatDoor
