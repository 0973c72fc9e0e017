/-
  The program, one part of its walk: Ob5, Ob6, Pa3. Conditions: none.
-/
import Derived.Test.YtakkmiomhackiaaGreatDoorPc26
import Derived.Test.YtakkmiomhackiaaGreatDoorPc28
import Derived.Test.YtakkmiomhackiaaGreatDoorPc51
import Derived.Test.YtakkmiomhackiaaGreatDoorPc27
set_option linter.all false
set_option maxRecDepth 100000
set_option maxHeartbeats 16000000
namespace Go.Proofs.YtakkmiomhackiaaGreatDoor
open Go.RowKit
theorem sortT_nil : sortT [] = [] := List.perm_nil.1 (sortT_perm [])
theorem besides_nil (l : List Tr) : besides [] l = [] := by unfold besides; rw [sortT_nil]; rfl
theorem sized_obj0 : (Tr.object [] []).sized = ⟨1, 0, 1⟩ := by rw [sized_object_eq]; rfl
theorem cloneKeys_none (w : World) : Calls Tryz.prog 164 #[.slice none 0 0] w fun e w' => e = .returned (.slice none 0 0) ∧ w' = w := by
 have q22 : ∀ (w : World) (a : Option Addr) (n c n' c' : Nat), (binOp .eql 32 (.slice a n c) (.slice none n' c')).run Tryz.prog w = .ok (.bool a.isNone) w := fun w a n c n' c' => Lib.run_eql_slice_nil w _ _ a n c n' c' Tryz.underlying32
 go_enter Tryz.func164, Tryz.ntmps164;go_wp2_with fail;exact bodyPost_ret (v := .slice none 0 0) (by simp [results, Tryz.results164, go_sem]) rfl ⟨rfl, rfl⟩
theorem object_nil (w : World) (F : Nat → Prop) (b : Nat) (V : Value) (vals : List Value) (items : List Tr) (h : w.heap[b]? = some (.cells #[V] 195 (0, 0))) (hw : Win 97 id w V vals) (ht : Trees F w vals items) (hin : ∀ t ∈ items, t.sized.within = true) (hl : items.length ≤ 65536) :
 Calls Tryz.prog 222 #[.pointer (some ⟨b, 0, none⟩), .slice none 0 0] w fun e w' => ObjEnds w b V vals items [] e w' := by
 have H := Lib.hid h;have HW := Lib.hid hw;have HT := Lib.hid ht;have HIN := Lib.hid hin;have hvl := ht.1;have HTK := Lib.hid (fun w1 (hb : Below w.heap.size w w1) => take_ok w1 b 0 V vals (keep h hb) (hw.keeps (Keeps.of_below (fun _ => False) hb) (fun _ _ => id)) (by omega) ht.oneCell (Nat.zero_le _));clear h hw ht hin;have hmk := makeMap_any w;have HA := Lib.hid ((Below.refl w.heap.size w).alloc (Nat.le_refl _) (.map #[] 0));obtain ⟨w0, hw0⟩ : ∃ w0, w.alloc (.map #[] 0) = w0 := ⟨_, rfl⟩;rw [hw0] at hmk HA;clear hw0;go_enter Tryz.func222, Tryz.ntmps222;go_wp2_with fail
 go_loopw [18] (fun v wr => v = .int .i64 0 ∧ wr = w) (fun _ _ => 0)
 case atStart => exact ⟨rfl, rfl⟩
 case round =>
  obtain ⟨rfl, hwr⟩ := hrel;rw [hwr];clear hwr;go_wp2_with fail
  go_loopw [7, 29] (fun y v wr => y = .int .i64 0 ∧ v = .int .i64 0 ∧ wr = w0) (fun _ _ _ => 0)
  case atStart => exact ⟨rfl, rfl, rfl⟩
  case round =>
   obtain ⟨rfl, rfl, hwr⟩ := hrel;rw [hwr];clear hwr;go_wp2_with fail;refine (HTK.out w0 HA.out).mono ?_;rintro e w3 ⟨itemsV, rfl, hi1, hi2, hi3⟩;have hd0 : vals.drop (vals.length - 0) = [] := by rw [Nat.sub_zero, List.drop_length]
   rw [hd0] at hi1;obtain ⟨ta, tc, hti⟩ := hi1.shape;have HB3 := Lib.hid (chain HA.out hi3);have HI3 := Lib.hid hi1;have HS := Lib.hid (summed_any F w3 itemsV [] [] 0 hi1 ⟨rfl, fun i v t h => by simp at h⟩ (fun t m => by simp at m) (by simp) (by decide));subst hti;clear hi1 hi2 hi3 hd0;go_wp2_with fail;refine (HS.out).mono ?_;rintro e w4 ⟨rfl, hb4⟩;have HB4 := Lib.hid (chain HB3.out hb4);rw [show szV (sumSz 0 (([] : List Tr).map Tr.sized)) = .agg #[.int .i64 (1 : Nat), .int .i64 (0 : Nat), .int .i64 (1 : Nat)] from rfl];clear hb4;go_wp2_with fail;refine (cloneKeys_none w4).mono ?_;rintro e w5 ⟨rfl, rfl⟩;obtain ⟨p, hp⟩ : ∃ p, w5.heap.size = p := ⟨_, rfl⟩;obtain ⟨w6, hw6⟩ : ∃ w6, w5.alloc (.cells #[.int .i64 1, .int .i64 0, .int .i64 1, .slice none 0 0, .slice none 0 0] 189) = w6 := ⟨_, rfl⟩;have ha6 : Below w5.heap.size w5 w6 := by rw [← hw6]; exact (Below.refl _ _).alloc (Nat.le_refl _) _
   have hp6 : w6.heap[p]? = some (.cells #[.int .i64 1, .int .i64 0, .int .i64 1, .slice none 0 0, .slice none 0 0] 189 (0, 0)) := by rw [← hw6, ← hp]; exact heap_alloc_new w5 _
   have HP6 := Lib.hid hp6;have HB6 := Lib.hid (chain HB4.out ha6);have HWP := Lib.hid (show w.heap.size ≤ p by rw [← hp]; exact HB4.out.size);have hc3 : w6.cell? ⟨p, 3, none⟩ = some (.slice none 0 0) := by rw [cell_at hp6]; rfl
   have hf6 : ∀ o, w6.frozen? ⟨p, o, none⟩ = false := free_at hp6;have HG := Lib.hid (group_fits_object w6 b 0 p 1 0 1 _ _ V vals hp6 rfl rfl rfl (by decide) ((Keeps.of_below (fun _ => False) HB6.out).blk H.out id) (HW.out.keeps (Keeps.of_below (fun _ => False) HB6.out) (fun _ _ => id)) (by omega) (Nat.zero_le _))
   have hdone : ∀ w', GroupRet w6 b V vals (vals.length - 0) 187 (.pointer (some ⟨p, 0, none⟩)) w' → ObjEnds w b V vals items [] (.returned (.tuple #[])) w' := fun w' hgr => .inr ⟨rfl, Nat.zero_le _, by
    have h0 : (Tr.object (sortT []) (besides [] (items.drop (items.length - 0)))).sized.within = true := by rw [sortT_nil, besides_nil, sized_obj0]; rfl
    have hl0 : ([] : List (List UInt8)).length = 0 := rfl;unfold po putGroup;rw [hl0, if_neg (Nat.not_lt_zero _), if_pos h0, hvl], by
    rw [sortT_nil, besides_nil, sized_obj0];exact ⟨w6, p, .slice none 0 0, .slice none 0 0, HB6.out, HWP.out, HP6.out, by rw [sortT_nil]; exact .nil _ _ _, fun q e => (by cases e), by rw [sortT_nil]; exact .nil _ _ _, fun q e => (by cases e), hgr⟩⟩
   have HDONE := Lib.hid hdone;clear hp6 ha6 hdone;go_wp2_with fail
   try rw [hw6]
   refine (sort_nil w6).mono ?_;rintro e w7 ⟨rfl, rfl⟩
   try rw [hp]
   go_wp2_with fail
   go_loopw [72] (fun v wr => v = .int .i64 0 ∧ wr = w7) (fun _ _ => 0)
   case atStart => exact ⟨rfl, rfl⟩
   case round =>
    obtain ⟨rfl, hwr⟩ := hrel;rw [hwr];clear hwr;go_wp2_with fail;refine (HG.out).mono ?_;rintro e w8 ⟨rfl, hgr⟩;have HGR := Lib.hid hgr;clear hgr;go_wp2_with fail
    go_end0
    exact HDONE.out _ HGR.out
theorem object_any (w : World) (F : Nat → Prop) (b : Nat) (kv : Value) (V : Value) (vals : List Value) (items : List Tr) (keys : List (List UInt8)) (h : w.heap[b]? = some (.cells #[V] 195 (0, 0))) (hw : Win 97 id w V vals) (ht : Trees F w vals items) (hin : ∀ t ∈ items, t.sized.within = true) (hl : items.length ≤ 65536)
 (hkw : Win 9 encS w kv keys) (hz : keys = [] → kv = .slice none 0 0) (hkr : RightKeys keys) (hnd : keys.Nodup) (hkl : keysLen keys ≤ 2097152) (hkn : keys.length ≤ 4194304) :
 Calls Tryz.prog 222 #[.pointer (some ⟨b, 0, none⟩), kv] w fun e w' => ObjEnds w b V vals items keys e w' := by
 by_cases h0 : keys = []
 ·rw [hz h0, h0];exact object_nil w F b V vals items h hw ht hin hl
 ·rcases hkw with ⟨_, e⟩ | ⟨g, off, cap, cur, rfl, hg, hc, ho, hm, hi⟩
  ·exact absurd e h0
  ·exact object_some w F b g off cap V vals items keys h hw ht hin hl (.inr ⟨g, off, cap, cur, rfl, hg, hc, ho, hm, hi⟩) hkr hnd hkl hkn h0
theorem count_le_len : ∀ (l : List (List UInt8)) (a : Nat), l.length + a ≤ l.foldl (fun a k => a + k.length) a + l.count []
 | [], a => by simp
 | x :: l, a => by
  have h := count_le_len l (a + x.length);rw [List.foldl_cons, List.length_cons, List.count_cons];cases x with
  | nil => simp at h ⊢; omega
  | cons y ys => simp at h ⊢; omega
theorem nodup_len {keys : List (List UInt8)} (h : keys.Nodup) : keys.length ≤ keysLen keys + 1 := by
 have h1 := count_le_len keys 0;have h2 : keys.count [] ≤ 1 := List.nodup_iff_count.1 h [];unfold keysLen;omega
theorem used_object (w : World) (a : Option Addr) (n c : Nat) : Calls Tryz.prog 213 #[.agg #[.int .i64 6, .bool false, .int .u64 0, .string ⟨#[]⟩, .int .i64 0, .slice a n c]] w fun e w' => e = .returned (.bool true) ∧ Below w.heap.size w w' := by
 have hb : (((n : Nat) : Int) == 0) = true ∨ (((n : Nat) : Int) == 0) = false := by cases h : (((n : Nat) : Int) == 0) <;> simp
 rcases hb with hb | hb
 all_goals
  go_enter Tryz.func213, Tryz.ntmps213;go_wp2;go_ret;exact ⟨rfl, (Below.refl _ _).alloc (Nat.le_refl _) _⟩
def ObjDoneR (w : World) (b : Nat) (V : Value) (vals : List Value) (keys : List (List UInt8)) (z : Sz) (w' : World) : Prop :=
 ∃ (w4 : World) (R p : Nat) (KV IV : Value), Below w.heap.size w w4 ∧ w.heap.size ≤ R ∧ w4.heap[R]? = some (.cells #[.nilIface] 26 (0, 0)) ∧ w.heap.size ≤ p ∧ w4.heap[p]? = some (.cells #[.int .i64 z.nodes, .int .i64 z.bytes, .int .i64 z.depth, KV, IV] 189 (0, 0)) ∧
  Win 9 encS w4 KV (sortT keys) ∧ (∀ q, KV.ownBlock = some q → w.heap.size ≤ q) ∧
  Win 97 id w4 IV ((sortT keys).map fun k => (vals.drop (vals.length - keys.length)).getD (keys.idxOf k) .nilIface) ∧ (∀ q, IV.ownBlock = some q → w.heap.size ≤ q) ∧
  GroupR w4 b V vals (vals.length - keys.length) 187 (.pointer (some ⟨p, 0, none⟩)) R w'
theorem ObjDoneR.lift {w w1 w' : World} {b : Nat} {V : Value} {vals : List Value} {keys : List (List UInt8)} {z : Sz} (hb : Below w.heap.size w w1) (h : ObjDoneR w1 b V vals keys z w') : ObjDoneR w b V vals keys z w' := by
 obtain ⟨w4, R, p, KV, IV, h1, h2, h3, h4, h5, h6, h7, h8, h9, h10⟩ := h;exact ⟨w4, R, p, KV, IV, hb.trans (h1.mono hb.size), Nat.le_trans hb.size h2, h3, Nat.le_trans hb.size h4, h5, h6, fun q e => Nat.le_trans hb.size (h7 q e), h8, fun q e => Nat.le_trans hb.size (h9 q e), h10⟩
def ObjRet (w : World) (b : Nat) (V : Value) (vals : List Value) (items : List Tr) (keys : List (List UInt8)) (w' : World) : Prop :=
 (po items keys = items ∧ Below w.heap.size w w') ∨
  (keys.length ≤ vals.length ∧ po items keys = items.take (vals.length - keys.length) ++ [.object (sortT keys) (besides keys (items.drop (vals.length - keys.length)))] ∧
   ObjDoneR w b V vals keys (Tr.object (sortT keys) (besides keys (items.drop (vals.length - keys.length)))).sized w')
theorem do_object (w : World) (F : Nat → Prop) (b n c : Nat) (a : Option Addr) (V : Value) (vals : List Value) (items : List Tr) (keys : List (List UInt8)) (h : w.heap[b]? = some (.cells #[V] 195 (0, 0))) (hw : Win 97 id w V vals) (ht : Trees F w vals items) (hin : ∀ t ∈ items, t.sized.within = true) (hl : items.length ≤ 65536)
 (hkw : Win 9 encS w (.slice a n c) keys) (hz : keys = [] → (Value.slice a n c) = .slice none 0 0) (hkr : RightKeys keys) (hnd : keys.Nodup) (hkl : keysLen keys ≤ 2097152) :
 Calls Tryz.prog 196 #[.pointer (some ⟨b, 0, none⟩), .agg #[.int .i64 6, .bool false, .int .u64 0, .string ⟨#[]⟩, .int .i64 0, .slice a n c]] w fun e w' => (∃ v, e = .returned v) ∧ ObjRet w b V vals items keys w' := by
 have hmf : ∀ (fn : Fn) (first cap : Array Value) (w : World), (Instr.makeFunc fn first cap).run Tryz.prog w = .ok (.func fn first cap) w := fun _ _ _ _ => rfl
 have HU := Lib.hid (fun w => used_object w a n c);have HV := Lib.hid (fun k (e : V.ownBlock = some k) => hw.lt e);have hb0 := lt_of_block h;have HO := Lib.hid (fun w' (hb : Below w.heap.size w w') => object_any w' F b (.slice a n c) V vals items keys (keep h hb) (hw.keeps (Keeps.of_below (fun _ => False) hb) (fun _ _ => id)) (ht.keeps (Keeps.of_below (fun _ => False) hb) (fun _ _ => id)) hin hl (hkw.keeps (Keeps.of_below (fun _ => False) hb) (fun _ _ => id)) hz hkr hnd hkl (by have := nodup_len hnd; omega));clear h hw ht hin hl hkw hz hkr hnd hkl
 go_enter_defers Tryz.func196, Tryz.ntmps196
 go_wp2_with fail;refine (HU.out _).mono ?_;rintro e w1 ⟨rfl, hb1⟩;obtain ⟨g1, g2, hbw, hsz⟩ := after2 hb1;obtain ⟨q0, q1, q2, q3, q4, q5, qf⟩ := cells6 g1;have G2 := Lib.hid g2;have HBW := Lib.hid hbw;clear hb1 g1 g2 hbw;go_wp2_with fail;refine (refuse_no _ 2).mono ?_;rintro e w2 ⟨rfl, rfl⟩;go_wp2_with fail;refine (HO.out _ HBW.out).mono ?_;rintro e w3 hends;rcases hends with ⟨no, rfl, hpo, hb3⟩ | ⟨rfl, hle, hpo, hdone⟩
 ·have GE := Lib.hid (keep G2.out hb3);have HBE := Lib.hid (chain HBW.out hb3);have HPO := Lib.hid hpo;clear hb3 hpo q0 q1 q2 q3 q4 q5 qf;go_wp2_with fail;refine leaves_cons (f := 211) (args := #[.pointer (some ⟨w.heap.size + 1, 0, none⟩)]) (by simp) (by simp [go_sem]) ?_;refine (doCatch_errno ⟨w.heap.size + 1, 0, none⟩ .nilIface no [] _ (cell_of_one GE.out) (free_of_one GE.out)).mono ?_;rintro e u' w'' ⟨rfl, rfl, rfl⟩;have hcs : (w3.setCell ⟨w.heap.size + 1, 0, none⟩ (.iface 29 (.int .i64 no))).cell? ⟨w.heap.size + 1, 0, none⟩ = some (.iface 29 (.int .i64 no)) := by rw [cell_at (set_at GE.out _)]; rfl
  have hend : ObjRet w b V vals items keys (w3.setCell ⟨w.heap.size + 1, 0, none⟩ (.iface 29 (.int .i64 no))) := .inl ⟨HPO.out, HBE.out.setCell (p := ⟨w.heap.size + 1, 0, none⟩) (Nat.le_succ _) _⟩;simp [Leaves, settle, results, Tryz.results196, go_sem, hcs];exact hend
 ·obtain ⟨w4, p, KV, IV, hb4, hp, hpb, hk, hko, hi, hio, hgr⟩ := hdone;obtain ⟨r0, rf, hgr2, rc⟩ := GroupRet.close (w := w) (R := w.heap.size + 1) (Nat.le_succ _) (keep G2.out hb4) HV.out hb0 hgr .nilIface
  have hend : ObjRet w b V vals items keys (w3.setCell ⟨w.heap.size + 1, 0, none⟩ .nilIface) :=
   .inr ⟨hle, hpo, w4, _, p, KV, IV, chain HBW.out hb4, Nat.le_succ _, keep G2.out hb4, Nat.le_trans HBW.out.size hp, hpb, hk, fun q e => Nat.le_trans HBW.out.size (hko q e), hi, fun q e => Nat.le_trans HBW.out.size (hio q e), hgr2⟩
  have HEND := Lib.hid hend;clear hb4 hp hpb hk hko hi hio hgr hgr2 hend hpo hle q0 q1 q2 q3 q4 q5 qf;go_wp2_with fail;refine leaves_cons (f := 211) (args := #[.pointer (some ⟨w.heap.size + 1, 0, none⟩)]) (by simp) (by simp [go_sem]) ?_;refine (doCatch_idle ⟨w.heap.size + 1, 0, none⟩ _).mono ?_;rintro e u' w'' ⟨rfl, rfl, rfl⟩;have hend := HEND.out;simp [Leaves, settle, results, Tryz.results196, go_sem, rc];exact hend
theorem ObjDoneR.maker {F : Nat → Prop} {w w' : World} {mb : Nat} {V : Value} {vals : List Value} {items : List Tr} {keys : List (List UInt8)} {z : Sz} (hF : F mb) (hlt : ∀ k, F k → k < w.heap.size) (hw : WinIn F 97 id w V vals) (ht : Trees (fun k => F k ∧ k ≠ mb ∧ V.ownBlock ≠ some k) w vals items)
 (hle : keys.length ≤ vals.length) (hz : z = (Tr.object (sortT keys) (besides keys (items.drop (vals.length - keys.length)))).sized) (h : ObjDoneR w mb V vals keys z w') :
 Keeps F w w' ∧ MakerAt (Since F w w') w' mb (items.take (vals.length - keys.length) ++ [.object (sortT keys) (besides keys (items.drop (vals.length - keys.length)))]) := by
 obtain ⟨w4, R, p, KV, IV, hb, hR, hr, hp, hpb, hkw, hko, hi, hio, g, off, cap, h1, h2, h3, h4⟩ := h;have hVlt : ∀ q, V.ownBlock = some q → q < w.heap.size := fun q e => hlt q (hw.2 q e)
 have hk : Keeps F w w' := (Keeps.of_below F hb).trans h4 (fun q e => by
  rcases e with e | e | e
  ·exact .inl (e ▸ hF)
  ·exact .inl (hw.2 q e)
  ·exact .inr (e ▸ hR))
 have hmb := hlt mb hF
 have hpn : ¬ (p = mb ∨ V.ownBlock = some p ∨ p = R) := by
  rintro (e | e | e)
  ·omega
  ·have := hVlt p e; omega
  ·rw [e, hr] at hpb;cases hpb
 have hpb' := h4.blk hpb hpn
 have hgp : g ≠ p := fun e => by
  obtain ⟨c, hc⟩ := h2.typed rfl;rw [e, hpb'] at hc;cases hc
 have hgl : ∀ q, q < w4.heap.size → V.ownBlock ≠ some q → g ≠ q := fun q hq hn e => by
  rcases h3 with h3 | h3
  ·exact hn (e ▸ h3)
  ·omega
 have hds : (vals.drop (vals.length - keys.length)).length = keys.length := by rw [List.length_drop]; omega
 refine ⟨hk, .inl hF, since_lt hlt hk.size, _, _, h1, ⟨h2, ?_⟩, ?_⟩
 ·intro q e;cases e;exact h3.elim (fun e => .inl (hw.2 _ e)) (fun hle => .inr ⟨Nat.le_trans hb.size hle, h2.lt rfl⟩)
 ·have hold : ∀ q, (F q ∧ q ≠ mb ∧ V.ownBlock ≠ some q) → Since F w w' q ∧ q ≠ mb ∧ (Value.slice (some ⟨g, off, none⟩) (vals.length - keys.length + 1) cap).ownBlock ≠ some q := fun q h => ⟨.inl h.1, h.2.1, fun e => by
   cases e;exact hgl g (Nat.lt_of_lt_of_le (hlt g h.1) hb.size) h.2.2 rfl⟩
  have htk := (ht.keeps (Keeps.of_below (fun _ => False) hb) (fun _ _ => id)).keeps h4 (fun q h => by
   rintro (e | e | e)
   ·exact h.2.1 e
   ·exact h.2.2 e
   ·have := hlt q h.1; omega)
  have hwin : ∀ {α : Type} {e : Nat} {enc : α → Value} {v : Value} {l : List α}, 26 ≠ e → Win e enc w4 v l → (∀ q, v.ownBlock = some q → w.heap.size ≤ q) → WinIn (fun k => Since F w w' k ∧ k ≠ mb ∧ (Value.slice (some ⟨g, off, none⟩) (vals.length - keys.length + 1) cap).ownBlock ≠ some k) e enc w' v l := by
   intro α e enc v l hne hv hvo;refine ⟨hv.keeps h4 ?_, ?_⟩
   ·intro q e;rintro (e2 | e2 | e2)
    ·have := hvo q e; omega
    ·have := hVlt q e2; have := hvo q e; omega
    ·exact hv.ne hr hne (e.trans (congrArg some e2))
   ·intro q e;have hq4 := hv.lt e;have hq := hvo q e;exact ⟨.inr ⟨hq, Nat.lt_of_lt_of_le hq4 h4.size⟩, by omega, fun e2 => hgl q hq4 (fun e3 => by have := hVlt q e3; omega) (by cases e2; rfl)⟩
  refine Trees.snoc ((htk.take (vals.length - keys.length)).mono hold) ?_;subst hz;refine .object p KV IV ((sortT keys).map fun k => (vals.drop (vals.length - keys.length)).getD (keys.idxOf k) .nilIface) (sortT keys) (besides keys (items.drop (vals.length - keys.length))) ⟨.inr ⟨hp, lt_of_block hpb'⟩, by omega, fun e => hgp (by cases e; rfl)⟩ hpb' (hwin (by decide) hkw hko) (hwin (by decide) hi hio) (by unfold besides; simp) ?_;intro i v t hv hti;have hdr := (htk.drop (vals.length - keys.length)).mono hold;unfold besides at hti;rw [List.getElem?_map] at hv hti;cases hki : (sortT keys)[i]? with
  | none => rw [hki] at hv; cases hv
  | some k =>
   rw [hki] at hv hti;simp only [Option.map_some, Option.some.injEq] at hv hti;have hkm : k ∈ keys := (sortT_perm keys).mem_iff.1 (List.mem_of_getElem? hki);have hix : keys.idxOf k < keys.length := List.idxOf_lt_length_of_mem hkm
   have h5 : (vals.drop (vals.length - keys.length))[keys.idxOf k]? = some v := by
    rw [← hv, List.getD_eq_getElem?_getD, List.getElem?_eq_getElem (by rw [hds]; exact hix)];rfl
   have h6 : (items.drop (vals.length - keys.length))[keys.idxOf k]? = some t := by
    rw [← hti, List.getD_eq_getElem?_getD, List.getElem?_eq_getElem (by have := hdr.1; omega)];rfl
   exact hdr.2 _ v t h5 h6
theorem object_step (w : World) (b n c : Nat) (a : Option Addr) (V : Value) (h : w.heap[b]? = some (.cells #[V] 195 (0, 0))) (P : World → World → Prop) (HD : Hid (∀ w1, Below w.heap.size w w1 → Calls Tryz.prog 196 #[.pointer (some ⟨b, 0, none⟩), .agg #[.int .i64 6, .bool false, .int .u64 0, .string ⟨#[]⟩, .int .i64 0, .slice a n c]] w1 fun e w' => (∃ v, e = .returned v) ∧ P w1 w')) :
 Calls Tryz.prog 175 #[.pointer (some ⟨b, 0, none⟩), .agg #[.int .i64 6, .bool false, .int .u64 0, .string ⟨#[]⟩, .int .i64 0, .slice a n c]] w fun e w' => (∃ v, e = .returned v) ∧ ∃ w1, Below w.heap.size w w1 ∧ P w1 w' := by
 have hal : Below w.heap.size w (w.alloc (.cells #[.int .i64 6, .bool false, .int .u64 0, .string ⟨#[]⟩, .int .i64 0, .slice a n c] 147)) := (Below.refl _ _).alloc (Nat.le_refl _) _;obtain ⟨q0, q1, q2, q3, q4, q5, qf⟩ := cells6 (heap_alloc_new w (.cells #[.int .i64 6, .bool false, .int .u64 0, .string ⟨#[]⟩, .int .i64 0, .slice a n c] 147));have hc := cell_of_one h;have hb0 := lt_of_block h;have HAL := Lib.hid hal;clear hal h;go_enter Tryz.func175, Tryz.ntmps175;go_wp2_with fail
 go_region_with (go_at_call 196; refine (HD.out _ HAL.out.drew).mono ?_; rintro e w2 ⟨⟨v, rfl⟩, hp⟩)
 all_goals
  have HP := Lib.hid hp;clear hp;go_wp2_with fail;go_ret;exact ⟨⟨_, rfl⟩, _, HAL.out.drew, HP.out⟩
theorem object_call (w : World) (b n c : Nat) (a : Option Addr) (V : Value) (h : w.heap[b]? = some (.cells #[V] 195 (0, 0))) (P : World → World → Prop) (HD : Hid (∀ w1, Below w.heap.size w w1 → Calls Tryz.prog 196 #[.pointer (some ⟨b, 0, none⟩), .agg #[.int .i64 6, .bool false, .int .u64 0, .string ⟨#[]⟩, .int .i64 0, .slice a n c]] w1 fun e w' => (∃ v, e = .returned v) ∧ P w1 w')) :
 Calls Tryz.prog 174 #[.pointer (some ⟨b, 0, none⟩), .slice a n c] w fun e w' => (∃ v, e = .returned v) ∧ ∃ w1, Below w.heap.size w w1 ∧ P w1 w' := by
 have HS := Lib.hid (object_step w b n c a V h P HD);clear HD h;go_enter Tryz.func174, Tryz.ntmps174;go_wp2_with fail;refine (HS.out).mono ?_;rintro e w2 ⟨⟨v, rfl⟩, hp⟩;have HP := Lib.hid hp;clear hp;go_wp2_with fail;go_ret;exact ⟨⟨_, rfl⟩, HP.out⟩
theorem maker_object (F : Nat → Prop) (w : World) (mb n c : Nat) (a : Option Addr) (items : List Tr) (keys : List (List UInt8)) (h : MakerAt F w mb items) (hin : ∀ t ∈ items, t.sized.within = true) (hl : items.length ≤ 65536)
 (hkw : Win 9 encS w (.slice a n c) keys) (hz : keys = [] → (Value.slice a n c) = .slice none 0 0) (hkr : RightKeys keys) (hnd : keys.Nodup) (hkl : keysLen keys ≤ 2097152) :
 Calls Tryz.prog 174 #[.pointer (some ⟨mb, 0, none⟩), .slice a n c] w fun e w' => (∃ v, e = .returned v) ∧ Keeps F w w' ∧ MakerAt (Since F w w') w' mb (po items keys) := by
 have h0 := h;obtain ⟨hF, hlt, V, vals, hb, hw, ht⟩ := h;have hsame : ∀ w', Below w.heap.size w w' → Keeps F w w' ∧ MakerAt (Since F w w') w' mb items := fun w' hbl => ⟨Keeps.of_below F hbl, (h0.apart (Keeps.of_below (fun _ => False) hbl) (fun _ _ => id)).mono (fun k hk => .inl hk) (since_lt hlt hbl.size)⟩
 have hwk : ∀ w1, Below w.heap.size w w1 → Win 97 id w1 V vals := fun w1 hb1 => hw.1.keeps (Keeps.of_below (fun _ => False) hb1) (fun _ _ => id)
 refine (object_call w mb n c a V hb (fun w1 w' => ObjRet w1 mb V vals items keys w') (Lib.hid fun w1 hb1 => do_object w1 _ mb n c a V vals items keys (keep hb hb1) (hwk w1 hb1) (ht.keeps (Keeps.of_below (fun _ => False) hb1) (fun _ _ => id)) hin hl (hkw.keeps (Keeps.of_below (fun _ => False) hb1) (fun _ _ => id)) hz hkr hnd hkl)).mono ?_;rintro e w' ⟨hv, w1, hb1, hret⟩;rcases hret with ⟨hpo, hb2⟩ | ⟨hle, hpo, hd⟩
 ·rw [hpo];exact ⟨hv, hsame _ (chain hb1 hb2)⟩
 ·rw [hpo];exact ⟨hv, (hd.lift hb1).maker hF hlt hw ht hle rfl⟩
section
inductive LS | at_ (x : Lx) (dn : Bool) | dead (pl st : Nat) (errV : Value)
def LexIs (F : Nat → Prop) (w : World) (b : Nat) (toks : List Tok) : LS → Prop
 | .at_ x dn => LexAt F w b x dn toks
 | .dead pl st errV => LexDead F w b pl st errV toks
section
variable {F G : Nat → Prop} {w w' : World} {b : Nat} {toks : List Tok} {s : LS}
theorem LexIs.block (h : LexIs F w b toks s) : F b := by cases s <;> exact h.1
theorem LexIs.lt (h : LexIs F w b toks s) : ∀ k, F k → k < w.heap.size := by cases s <;> exact h.2.1
theorem LexIs.apart (h : LexIs F w b toks s) (hk : Keeps G w w') (hd : ∀ k, F k → ¬ G k) : LexIs F w' b toks s := by
 cases s with
 | at_ x dn => exact LexAt.apart h hk hd
 | dead pl st errV => exact LexDead.apart h hk hd
end
theorem nextTok_any (F : Nat → Prop) (w : World) (b : Nat) (t : Tok) (toks : List Tok) (s : LS) (h : LexIs F w b (t :: toks) s) (hl : toks.length ≤ 999) :
 Calls Tryz.prog 111 #[.pointer (some ⟨b, 0, none⟩)] w fun e w' => e = .returned (.tuple #[tokEnc t, .bool true]) ∧ LexIs F w' b toks s ∧ Keeps (fun k => k = b) w w' := by
 have hl2 : (toks.map tokEnc).length ≤ 1000 := by simp; omega
 obtain ⟨T, tv, ht⟩ : ∃ T tv, tokEnc t = .iface T tv := by cases t <;> exact ⟨_, _, rfl⟩
 cases s with
 | at_ x dn =>
  obtain ⟨hF, hlt, rawV, chV, saysV, tokV, hb, hw, hs⟩ := h;have hw1 := hw.1;rw [List.map_cons, ht] at hw1;rw [ht];refine (next_some w b _ _ _ _ _ _ _ _ _ _ _ _ _ tokV T tv (toks.map tokEnc) hb hw1 hl2).mono ?_;rintro e w' ⟨rfl, g, off, cap, hb2, hw2, hg, hk⟩;refine ⟨rfl, ⟨hF, fun k hk' => Nat.lt_of_lt_of_le (hlt k hk') hk.size, rawV, chV, saysV, _, hb2, ⟨by simpa using hw2, fun k e => by cases e; exact hw.2 _ hg⟩, ⟨fun h => ?_, fun h => ?_⟩⟩, hk⟩
  ·have hr := hs.raw h;exact ⟨hr.1.keeps hk (fun k e hk => hr.1.ne hb (by decide) (e.trans (congrArg some hk))), hr.2⟩
  ·obtain ⟨h1, f, pl, h2, h3, h4, h5⟩ := hs.text h;exact ⟨⟨h1.1.keeps hk (fun k e hk => h1.1.ne hb (by decide) (e.trans (congrArg some hk))), h1.2⟩, f, pl, h2, h3.keeps hk (feeds_ne h3 hb (by decide)), h4, h5⟩
 | dead pl st errV =>
  obtain ⟨hF, hlt, v2, v3, v4, v6, v7, v8, v9, va, vb, vc, tokV, hb, hw⟩ := h;have hw1 := hw.1;rw [List.map_cons, ht] at hw1;rw [ht];refine (next_some w b _ _ _ _ _ _ _ _ _ _ _ _ _ tokV T tv (toks.map tokEnc) hb hw1 hl2).mono ?_;rintro e w' ⟨rfl, g, off, cap, hb2, hw2, hg, hk⟩;exact ⟨rfl, ⟨hF, fun k hk' => Nat.lt_of_lt_of_le (hlt k hk') hk.size, _, _, _, _, _, _, _, _, _, _, _, hb2, ⟨by simpa using hw2, fun k e => by cases e; exact hw.2 _ hg⟩⟩, hk⟩
theorem nextNone_any (F : Nat → Prop) (w : World) (b : Nat) (s : LS) (h : LexIs F w b [] s) :
 Calls Tryz.prog 111 #[.pointer (some ⟨b, 0, none⟩)] w fun e w' => e = .returned (.tuple #[.nilIface, .bool false]) ∧ w' = w := by
 cases s with
 | at_ x dn =>
  obtain ⟨hF, hlt, rawV, chV, saysV, tokV, hb, hw, hs⟩ := h;obtain ⟨a, c, rfl⟩ := hw.1.shape;exact next_none w b _ _ _ _ _ _ _ _ _ _ _ _ _ a c hb
 | dead pl st errV =>
  obtain ⟨hF, hlt, v2, v3, v4, v6, v7, v8, v9, va, vb, vc, tokV, hb, hw⟩ := h;obtain ⟨a, c, rfl⟩ := hw.1.shape;exact next_none w b _ _ _ _ _ _ _ _ _ _ _ _ _ a c hb
def FrameAt (Q : Nat → Prop) (w : World) (v : Value) : Fr → Prop
 | .list m => ∃ fb, v = .iface 272 (.pointer (some ⟨fb, 0, none⟩)) ∧ w.heap[fb]? = some (.cells #[.int .i64 m] 274 (0, 0)) ∧ Q fb
 | .object keys => ∃ fb mb keysV, v = .iface 275 (.pointer (some ⟨fb, 0, none⟩)) ∧ w.heap[fb]? = some (.cells #[keysV, .map (some mb)] 278 (0, 0)) ∧ Q fb ∧ WinIn Q 9 encS w keysV keys ∧ (keys = [] → keysV = .slice none 0 0) ∧ MetMap w mb keys.reverse ∧ Q mb
structure PileAt (F : Nat → Prop) (w : World) (v : Value) (pile : List Fr) (vals : List Value) : Prop where
 lt : ∀ k, F k → k < w.heap.size
 win : WinIn F 281 id w v vals
 len : vals.length = pile.length
 frames : ∃ Q : Nat → Nat → Prop, (∀ i k, Q i k → F k ∧ v.ownBlock ≠ some k) ∧ (∀ i j k, Q i k → Q j k → i = j) ∧ ∀ (i : Nat) (u : Value) (fr : Fr), vals[i]? = some u → pile[i]? = some fr → FrameAt (Q i) w u fr
theorem FrameAt.keeps {Q G : Nat → Prop} {w w' : World} {v : Value} {fr : Fr} (h : FrameAt Q w v fr) (hk : Keeps G w w') (hd : ∀ k, Q k → ¬ G k) : FrameAt Q w' v fr := by
 cases fr with
 | list m => obtain ⟨fb, h1, h2, h3⟩ := h; exact ⟨fb, h1, hk.blk h2 (hd fb h3), h3⟩
 | object k =>
  obtain ⟨fb, mb, kV, h1, h2, h3, h4, h5, h6, h7⟩ := h;exact ⟨fb, mb, kV, h1, hk.blk h2 (hd fb h3), h3, ⟨h4.1.keeps hk (fun k e => hd k (h4.2 k e)), h4.2⟩, h5, h6.keeps hk (hd mb h7), h7⟩
theorem FrameAt.mono {Q G : Nat → Prop} {w : World} {v : Value} {fr : Fr} (h : FrameAt Q w v fr) (hf : ∀ k, Q k → G k) : FrameAt G w v fr := by
 cases fr with
 | list m => obtain ⟨fb, h1, h2, h3⟩ := h; exact ⟨fb, h1, h2, hf _ h3⟩
 | object k => obtain ⟨fb, mb, kV, h1, h2, h3, h4, h5, h6, h7⟩ := h; exact ⟨fb, mb, kV, h1, h2, hf _ h3, h4.mono hf, h5, h6, hf _ h7⟩
theorem FrameAt.one {Q : Nat → Prop} {w : World} {v : Value} {fr : Fr} (h : FrameAt Q w v fr) : ∃ T x, v = .iface T x := by
 cases fr with
 | list m => obtain ⟨fb, rfl, _⟩ := h; exact ⟨_, _, rfl⟩
 | object k => obtain ⟨fb, mb, kV, rfl, _⟩ := h; exact ⟨_, _, rfl⟩
theorem PileAt.keeps {F G : Nat → Prop} {w w' : World} {v : Value} {pile : List Fr} {vals : List Value} (h : PileAt F w v pile vals) (hk : Keeps G w w') (hd : ∀ k, F k → ¬ G k) : PileAt F w' v pile vals := by
 obtain ⟨Q, h1, h2, h3⟩ := h.frames;exact ⟨fun k hk' => Nat.lt_of_lt_of_le (h.lt k hk') hk.size, ⟨h.win.1.keeps hk fun k e => hd k (h.win.2 k e), h.win.2⟩, h.len, Q, h1, h2, fun i u fr hu hf => (h3 i u fr hu hf).keeps hk (fun k hq => hd k (h1 i k hq).1)⟩
theorem PileAt.nil (w : World) : PileAt (fun _ => False) w (.slice none 0 0) [] [] := ⟨fun _ h => h.elim, .nil _ _ _ _, rfl, fun _ _ => False, fun _ _ h => h.elim, fun _ _ _ h => h.elim, fun i u fr hu => by simp at hu⟩
theorem PileAt.last {F : Nat → Prop} {w : World} {v : Value} {ini : List Fr} {fr : Fr} {vals : List Value} (h : PileAt F w v (ini ++ [fr]) vals) :
 ∃ (Q : Nat → Prop) (u : Value), (∀ k, Q k → F k ∧ v.ownBlock ≠ some k) ∧ vals[ini.length]? = some u ∧ FrameAt Q w u fr ∧
  ∀ (w' : World) (G : Nat → Prop) (fr' : Fr), Keeps G w w' → (∀ k, G k → F k → Q k) → FrameAt (Since Q w w') w' u fr' → PileAt (Since F w w') w' v (ini ++ [fr']) vals := by
 obtain ⟨Q, h1, h2, h3⟩ := h.frames;have hlen : vals.length = ini.length + 1 := by rw [h.len]; simp
 obtain ⟨u, hu⟩ : ∃ u, vals[ini.length]? = some u := ⟨_, List.getElem?_eq_getElem (by omega)⟩;refine ⟨Q ini.length, u, h1 _, hu, h3 _ u fr hu (by simp), fun w' G fr' hk hG hfr => ?_⟩;refine ⟨since_lt h.lt hk.size, ⟨h.win.1.keeps hk fun k e hg => (h1 _ k (hG k hg (h.win.2 k e))).2 e, fun k e => .inl (h.win.2 k e)⟩, by simp [hlen], fun i k => if i = ini.length then Since (Q ini.length) w w' k else Q i k, ?_, ?_, ?_⟩
 ·intro i k hq
  try simp only [] at hq
  split at hq
  ·rcases hq with hq | hq
   ·exact ⟨.inl (h1 _ k hq).1, (h1 _ k hq).2⟩
   ·exact ⟨.inr hq, fun e => absurd (h.win.1.lt e) (Nat.not_lt.2 hq.1)⟩
  ·exact ⟨.inl (h1 i k hq).1, (h1 i k hq).2⟩
 ·intro i j k hi hj
  try simp only [] at hi hj
  split at hi
  ·split at hj
   ·omega
   ·rcases hi with hi | hi
    ·rename_i e1 e2; rw [e1]; exact h2 _ _ k hi hj
    ·exact absurd (h.lt k (h1 j k hj).1) (Nat.not_lt.2 hi.1)
  ·split at hj
   ·rcases hj with hj | hj
    ·rename_i e1 e2; rw [e2]; exact h2 _ _ k hi hj
    ·exact absurd (h.lt k (h1 i k hi).1) (Nat.not_lt.2 hj.1)
   ·exact h2 i j k hi hj
 ·intro i u' fr2 hu' hf
  by_cases hi : i = ini.length
  ·subst hi;rw [hu] at hu';cases hu';rw [List.getElem?_append_right (Nat.le_refl _), Nat.sub_self] at hf;cases hf;simp only [if_pos];exact hfr
  ·have hil : i < ini.length := by
    have := (List.getElem?_eq_some_iff.1 hu').1;omega
   rw [List.getElem?_append_left hil] at hf;have hf0 : (ini ++ [fr])[i]? = some fr2 := by rw [List.getElem?_append_left hil]; exact hf
   have hfr2 := (h3 i u' fr2 hu' hf0).keeps hk (fun k hq hg => hi (h2 i ini.length k hq (hG k hg (h1 i k hq).1)))
   simpa only [if_neg hi] using hfr2
theorem PileAt.push {F G : Nat → Prop} {w w' : World} {v v' : Value} {pile : List Fr} {vals : List Value} {u : Value} {fr : Fr} (h : PileAt F w v pile vals) (hk : Keeps G w w') (hG : ∀ k, G k → F k → v.ownBlock = some k) (hw : Win 281 id w' v' (vals ++ [u]))
 (hown : ∀ k, v'.ownBlock = some k → v.ownBlock = some k ∨ w.heap.size ≤ k) (hfr : FrameAt (fun k => w.heap.size ≤ k ∧ k < w'.heap.size ∧ v'.ownBlock ≠ some k) w' u fr) : PileAt (Since F w w') w' v' (pile ++ [fr]) (vals ++ [u]) := by
 obtain ⟨Q, h1, h2, h3⟩ := h.frames;have hlen := h.len;refine ⟨since_lt h.lt hk.size, ⟨hw, fun k e => (hown k e).elim (fun e => .inl (h.win.2 k e)) (fun hle => .inr ⟨hle, hw.lt e⟩)⟩, by simp [hlen], fun i k => if i = vals.length then (w.heap.size ≤ k ∧ k < w'.heap.size ∧ v'.ownBlock ≠ some k) else Q i k, ?_, ?_, ?_⟩
 ·intro i k hq
  try simp only [] at hq
  split at hq
  ·exact ⟨.inr ⟨hq.1, hq.2.1⟩, hq.2.2⟩
  ·refine ⟨.inl (h1 i k hq).1, fun e => ?_⟩;rcases hown k e with e | e
   ·exact (h1 i k hq).2 e
   ·exact absurd (h.lt k (h1 i k hq).1) (Nat.not_lt.2 e)
 ·intro i j k hi hj
  try simp only [] at hi hj
  split at hi
  ·split at hj
   ·omega
   ·exact absurd (h.lt k (h1 j k hj).1) (Nat.not_lt.2 hi.1)
  ·split at hj
   ·exact absurd (h.lt k (h1 i k hi).1) (Nat.not_lt.2 hj.1)
   ·exact h2 i j k hi hj
 ·intro i u' fr2 hu hf
  by_cases hi : i = vals.length
  ·subst hi;rw [List.getElem?_append_right (Nat.le_refl _), Nat.sub_self] at hu;rw [hlen, List.getElem?_append_right (Nat.le_refl _), Nat.sub_self] at hf;cases hu;cases hf;simp only [if_pos];exact hfr
  ·have hil : i < vals.length := by
    have := (List.getElem?_eq_some_iff.1 hu).1;simp at this; omega
   rw [List.getElem?_append_left hil] at hu;rw [List.getElem?_append_left (by omega)] at hf;have hfr2 := (h3 i u' fr2 hu hf).keeps hk (fun k hq hg => (h1 i k hq).2 (hG k hg (h1 i k hq).1))
   simpa only [if_neg hi] using hfr2
theorem PileAt.pop {F : Nat → Prop} {w : World} {g off n cap : Nat} {ini : List Fr} {fr : Fr} {vals : List Value} (h : PileAt F w (.slice (some ⟨g, off, none⟩) (n + 1) cap) (ini ++ [fr]) vals) (hn : n = ini.length) : PileAt F w (.slice (some ⟨g, off, none⟩) n cap) ini (vals.take n) := by
 obtain ⟨Q, h1, h2, h3⟩ := h.frames;have hlen : vals.length = ini.length + 1 := by rw [h.len]; simp
 subst hn;refine ⟨h.lt, ⟨h.win.1.take (by omega), fun k e => h.win.2 k (by cases e; rfl)⟩, by rw [List.length_take]; omega, Q, fun i k hq => ⟨(h1 i k hq).1, fun e => (h1 i k hq).2 (by cases e; rfl)⟩, h2, fun i u fr2 hu hf => ?_⟩;have hil := (List.getElem?_eq_some_iff.1 hf).1;rw [List.getElem?_take, if_pos hil] at hu;exact h3 i u fr2 hu (by rw [List.getElem?_append_left hil]; exact hf)
theorem PileAt.mono {F G : Nat → Prop} {w : World} {v : Value} {pile : List Fr} {vals : List Value} (h : PileAt F w v pile vals) (hf : ∀ k, F k → G k) (hlt : ∀ k, G k → k < w.heap.size) : PileAt G w v pile vals := by
 obtain ⟨Q, h1, h2, h3⟩ := h.frames;exact ⟨hlt, h.win.mono hf, h.len, Q, fun i k hq => ⟨hf _ (h1 i k hq).1, (h1 i k hq).2⟩, h2, h3⟩
structure Parts (F : Nat → Prop) (p : Nat) (FL FM FP : Nat → Prop) : Prop where
 lex : ∀ k, FL k → F k
 maker : ∀ k, FM k → F k
 pile : ∀ k, FP k → F k
 self : F p ∧ ¬ FL p ∧ ¬ FM p ∧ ¬ FP p
 lm : ∀ k, FL k → ¬ FM k
 lp : ∀ k, FL k → ¬ FP k
 mp : ∀ k, FM k → ¬ FP k
section
variable {F FL FM FP : Nat → Prop} {p : Nat} {w w' : World}
theorem Parts.lexSince (h : Parts F p FL FM FP) (hp : p < w.heap.size) (hm : ∀ k, FM k → k < w.heap.size) (hf : ∀ k, FP k → k < w.heap.size) : Parts (Since F w w') p (Since FL w w') FM FP :=
 ⟨fun k hk => hk.elim (fun h' => .inl (h.lex k h')) .inr, fun k hk => .inl (h.maker k hk), fun k hk => .inl (h.pile k hk), ⟨.inl h.self.1, fun hk => hk.elim h.self.2.1 (fun h => absurd hp (Nat.not_lt.2 h.1)), h.self.2.2.1, h.self.2.2.2⟩,
  fun k hk hm' => hk.elim (fun h' => h.lm k h' hm') (fun h' => absurd (hm k hm') (Nat.not_lt.2 h'.1)), fun k hk hm' => hk.elim (fun h' => h.lp k h' hm') (fun h' => absurd (hf k hm') (Nat.not_lt.2 h'.1)), h.mp⟩
theorem Parts.makerSince (h : Parts F p FL FM FP) (hp : p < w.heap.size) (hl : ∀ k, FL k → k < w.heap.size) (hf : ∀ k, FP k → k < w.heap.size) : Parts (Since F w w') p FL (Since FM w w') FP :=
 ⟨fun k hk => .inl (h.lex k hk), fun k hk => hk.elim (fun h' => .inl (h.maker k h')) .inr, fun k hk => .inl (h.pile k hk), ⟨.inl h.self.1, h.self.2.1, fun hk => hk.elim h.self.2.2.1 (fun h => absurd hp (Nat.not_lt.2 h.1)), h.self.2.2.2⟩,
  fun k hk hm' => hm'.elim (fun h' => h.lm k hk h') (fun h' => absurd (hl k hk) (Nat.not_lt.2 h'.1)), h.lp, fun k hk hm' => hk.elim (fun h' => h.mp k h' hm') (fun h' => absurd (hf k hm') (Nat.not_lt.2 h'.1))⟩
theorem Parts.pileSince (h : Parts F p FL FM FP) (hp : p < w.heap.size) (hl : ∀ k, FL k → k < w.heap.size) (hm : ∀ k, FM k → k < w.heap.size) : Parts (Since F w w') p FL FM (Since FP w w') :=
 ⟨fun k hk => .inl (h.lex k hk), fun k hk => .inl (h.maker k hk), fun k hk => hk.elim (fun h' => .inl (h.pile k h')) .inr, ⟨.inl h.self.1, h.self.2.1, h.self.2.2.1, fun hk => hk.elim h.self.2.2.2 (fun h => absurd hp (Nat.not_lt.2 h.1))⟩,
  h.lm, fun k hk hm' => hm'.elim (fun h' => h.lp k hk h') (fun h' => absurd (hl k hk) (Nat.not_lt.2 h'.1)), fun k hk hm' => hm'.elim (fun h' => h.mp k hk h') (fun h' => absurd (hm k hk) (Nat.not_lt.2 h'.1))⟩
theorem Parts.since (h : Parts F p FL FM FP) : Parts (Since F w w') p FL FM FP :=
 ⟨fun k hk => .inl (h.lex k hk), fun k hk => .inl (h.maker k hk), fun k hk => .inl (h.pile k hk), ⟨.inl h.self.1, h.self.2⟩, h.lm, h.lp, h.mp⟩
end
def parCells (x : Ps) (lb mb : Nat) (pileV : Value) : Array Value := #[.int .i64 x.depth, .int .i64 x.place, .pointer (some ⟨lb, 0, none⟩), .pointer (some ⟨mb, 0, none⟩), pileV, .int .i64 x.want, .int .i64 x.nodes, .int .i64 x.bytes, .nilIface, .bool false]
def ParAt (F : Nat → Prop) (w : World) (p : Nat) (x : Ps) (s : LS) (toks : List Tok) : Prop :=
 (∀ k, F k → k < w.heap.size) ∧ ∃ FL FM FP lb mb pileV vals, Parts F p FL FM FP ∧ w.heap[p]? = some (.cells (parCells x lb mb pileV) 136 (0, 0)) ∧ LexIs FL w lb toks s ∧ MakerAt FM w mb x.items ∧ PileAt FP w pileV x.pile vals
def ParDead (w : World) (p : Nat) : Prop := ∃ v0 v1 v2 v3 v4 v5 v6 v7 v8 v9, w.heap[p]? = some (.cells #[v0, v1, v2, v3, v4, v5, v6, v7, v8, v9] 136 (0, 0))
theorem ParAt.dead {F : Nat → Prop} {w : World} {p : Nat} {x : Ps} {s : LS} {toks : List Tok} (h : ParAt F w p x s toks) : ParDead w p := by
 obtain ⟨_, _, _, _, _, _, _, _, _, hb, _⟩ := h;exact ⟨_, _, _, _, _, _, _, _, _, _, hb⟩
def ParPost (F : Nat → Prop) (w : World) (p : Nat) (s : LS) (toks : List Tok) (o : Out) (e : Ending) (w' : World) : Prop :=
 Keeps F w w' ∧ match o with
 | .error (no, at_) => e = failE no at_ ∧ ParDead w' p
 | .ok y => e = .returned (.tuple #[]) ∧ ParAt (Since F w w') w' p y s toks
end
end Go.Proofs.YtakkmiomhackiaaGreatDoor
