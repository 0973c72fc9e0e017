/-
  Package node, eleventh part: an object in the place of the last values: (*row).object.
-/
import Derived.Test.YtakkmiomhackiaaGreatDoorPc21
import Derived.Test.YtakkmiomhackiaaGreatDoorPc51
set_option linter.all false
set_option maxRecDepth 100000
set_option maxHeartbeats 16000000
namespace Go.Proofs.YtakkmiomhackiaaGreatDoor
open Go.RowKit
def MapLoop (w : World) (m : Nat) (keys : List (List UInt8)) (i : Nat) (wr : World) : Prop :=
 Below w.heap.size w wr ∧ w.heap.size ≤ m ∧ IdxMap wr m (keys.take i).reverse
theorem fold_le : ∀ (l : List (List UInt8)) (a : Nat), a ≤ l.foldl (fun a k => a + k.length) a
 | [], _ => Nat.le_refl _
 | x :: l, a => Nat.le_trans (Nat.le_add_right a x.length) (fold_le l (a + x.length))
theorem nodup_rev {l : List (List UInt8)} (h : l.Nodup) : l.reverse.Nodup := List.pairwise_reverse.2 (h.imp fun h e => h e.symm)
theorem right_any' (k : List UInt8) (w : World) (hl : k.length ≤ 1073741824) : Calls Tryz.prog 218 #[.string ⟨k.toArray⟩] w fun e w' => e = .returned (.bool (rightOf k)) ∧ Below w.heap.size w w' := by
 have h := right_any ⟨k.toArray⟩ w (by show k.toArray.size ≤ _; simpa using hl)
 simpa using h
theorem keysLen_le {l : List (List UInt8)} {i : Nat} : keysLen (l.take i) ≤ keysLen l := by
 conv => rhs; rw [← List.take_append_drop i l]
 unfold keysLen;rw [List.foldl_append];exact fold_le _ _
def ObjLoop (w7 : World) (p g2 off2 cap2 n : Nat) (z : Sz) (vs : List Value) (j : Nat) (wr : World) : Prop :=
 Keeps (fun k => k = p) w7 wr ∧ ∃ V, wr.heap[p]? = some (.cells #[.int .i64 z.nodes, .int .i64 z.bytes, .int .i64 z.depth, .slice (some ⟨g2, off2, none⟩) n cap2, V] 189 (0, 0)) ∧ Win 97 id wr V (vs.take j) ∧ ∀ q, V.ownBlock = some q → w7.heap.size ≤ q
def ObjDone (w : World) (b : Nat) (V : Value) (vals : List Value) (keys : List (List UInt8)) (z : Sz) (w' : World) : Prop :=
 ∃ (w4 : World) (p : Nat) (KV IV : Value), Below w.heap.size w w4 ∧ w.heap.size ≤ p ∧ w4.heap[p]? = some (.cells #[.int .i64 z.nodes, .int .i64 z.bytes, .int .i64 z.depth, KV, IV] 189 (0, 0)) ∧
  Win 9 encS w4 KV (sortT keys) ∧ (∀ q, KV.ownBlock = some q → w.heap.size ≤ q) ∧
  Win 97 id w4 IV ((sortT keys).map fun k => (vals.drop (vals.length - keys.length)).getD (keys.idxOf k) .nilIface) ∧ (∀ q, IV.ownBlock = some q → w.heap.size ≤ q) ∧
  GroupRet w4 b V vals (vals.length - keys.length) 187 (.pointer (some ⟨p, 0, none⟩)) w'
def ObjEnds (w : World) (b : Nat) (V : Value) (vals : List Value) (items : List Tr) (keys : List (List UInt8)) (e : Ending) (w' : World) : Prop :=
 (∃ no : Nat, e = .panicked [{ v := .iface 29 (.int .i64 no), recovered := false }] ∧ po items keys = items ∧ Below w.heap.size w w') ∨
  (e = .returned (.tuple #[]) ∧ keys.length ≤ vals.length ∧ po items keys = items.take (vals.length - keys.length) ++ [.object (sortT keys) (besides keys (items.drop (vals.length - keys.length)))] ∧
   ObjDone w b V vals keys (Tr.object (sortT keys) (besides keys (items.drop (vals.length - keys.length)))).sized w')
theorem Win.cellAt {α : Type} {e : Nat} {enc : α → Value} {w : World} {g off n cap : Nat} {l : List α} (h : Win e enc w (.slice (some ⟨g, off, none⟩) n cap) l) {i : Nat} {x : α} (hx : l[i]? = some x) : w.cell? ⟨g, off + i, none⟩ = some (enc x) := by
 rcases h with ⟨hv, _⟩ | ⟨g', off', cap', cur, hv, hg, hc, ho, hm, hi⟩
 ·cases hv
 ·cases hv;rw [cell_at hg];exact hi i x hx
theorem add_zero_at (b j : Nat) : (⟨b, 0, none⟩ : Addr).add j = ⟨b, j, none⟩ := by unfold Addr.add; split <;> simp_all
theorem makeMap_any (w : World) : (Instr.makeMap 263 none).run Tryz.prog w = .ok (.map (some w.heap.size)) (w.alloc (.map #[] 0)) := by kernel_rfl
theorem object_some (w : World) (F : Nat → Prop) (b g off cap : Nat) (V : Value) (vals : List Value) (items : List Tr) (keys : List (List UInt8)) (h : w.heap[b]? = some (.cells #[V] 195 (0, 0))) (hw : Win 97 id w V vals) (ht : Trees F w vals items) (hin : ∀ t ∈ items, t.sized.within = true) (hl : items.length ≤ 65536)
 (hkw : Win 9 encS w (.slice (some ⟨g, off, none⟩) keys.length cap) keys) (hkr : RightKeys keys) (hnd : keys.Nodup) (hkl : keysLen keys ≤ 2097152) (hkn : keys.length ≤ 4194304) (hne : keys ≠ []) :
 Calls Tryz.prog 222 #[.pointer (some ⟨b, 0, none⟩), .slice (some ⟨g, off, none⟩) keys.length cap] w fun e w' => ObjEnds w b V vals items keys e w' := by
 have hkc : ∀ i k, keys[i]? = some k → w.cell? ⟨g, off + i, none⟩ = some (encS k) := by
  rcases hkw with ⟨hv, _⟩ | ⟨g', off', cap', cur, hv, hg, hc, ho, hm, hi⟩
  ·cases hv
  ·cases hv;exact fun i k hk => by rw [cell_at hg]; exact hi i k hk
 have hglt : g < w.heap.size := hkw.lt rfl;have HKC := Lib.hid hkc;have HKW := Lib.hid hkw;have HR := Lib.hid (fun k (hk : k ∈ keys) (w : World) => right_any' k w (by have := (hkr k hk).2; omega));have HKR := Lib.hid hkr;have HND := Lib.hid hnd;have H := Lib.hid h;have HW := Lib.hid hw;have HT := Lib.hid ht;have HIN := Lib.hid hin;clear hkc h hw ht hin hkr hnd hkw;go_enter Tryz.func222, Tryz.ntmps222;go_wp2_with fail
 go_loopw [18] (fun v wr => ∃ i : Nat, v = .int .i64 i ∧ i ≤ keys.length ∧ Hid (Below w.heap.size w wr)) (fun v _ => keys.length - (intOf v).toNat)
 case atStart => exact ⟨0, rfl, Nat.zero_le _, Lib.hid (Below.refl _ _)⟩
 case round =>
  obtain ⟨i, rfl, hik, HB⟩ := hrel
  by_cases hi : i < keys.length
  ·obtain ⟨k, hk⟩ : ∃ k, keys[i]? = some k := ⟨_, List.getElem?_eq_getElem hi⟩;have hc0 := (HB.out.cell (p := ⟨g, off + i, none⟩) hglt).trans (HKC.out i k hk);have HRK := Lib.hid (HR.out k (List.mem_of_getElem? hk));have hkr : rightOf k = true := (HKR.out k (List.mem_of_getElem? hk)).1;simp only [hkr] at HRK;unfold encS at hc0;obtain ⟨s, hs⟩ : ∃ s : ByteArray, (⟨k.toArray⟩ : ByteArray) = s := ⟨_, rfl⟩;rw [hs] at HRK hc0;clear hk hkr hs;go_wp2_with fail;refine (HRK.out _).mono ?_;rintro e w1 ⟨rfl, hb1⟩;have HB1 := Lib.hid (chain HB.out hb1);clear hb1;go_wp2_with fail;refine (refuse_no _ 100).mono ?_;rintro e w2 ⟨rfl, rfl⟩;go_wp2_with fail;exact ⟨⟨i + 1, by go_num, by omega, HB1⟩, by simp [intOf]; omega⟩
  ·have hie : i = keys.length := by omega
   subst hie;obtain ⟨m, hm⟩ : ∃ m, wr.heap.size = m := ⟨_, rfl⟩;have HM0 : Hid (MapLoop w m keys 0 (wr.alloc (.map #[] 0))) := Lib.hid ⟨HB.out.alloc HB.out.size _, by rw [← hm]; exact HB.out.size, by rw [← hm]; exact IdxMap.made wr⟩;have hmk := makeMap_any wr;rw [hm] at hmk;obtain ⟨w0, hw0⟩ : ∃ w0, wr.alloc (.map #[] 0) = w0 := ⟨_, rfl⟩;rw [hw0] at hmk HM0;have hk0 : ((0 : Nat) : Int) = ((keysLen (keys.take 0) : Nat) : Int) := rfl;clear hw0 hm;go_wp2_with fail
   go_loopw [7, 29] (fun y v wr => ∃ i : Nat, v = .int .i64 i ∧ y = .int .i64 (keysLen (keys.take i)) ∧ i ≤ keys.length ∧ Hid (MapLoop w m keys i wr)) (fun _ v _ => keys.length - (intOf v).toNat)
   case atStart => exact ⟨0, rfl, rfl, Nat.zero_le _, HM0⟩
   case round =>
    obtain ⟨i, rfl, rfl, hik, HM⟩ := hrel
    by_cases hi : i < keys.length
    ·obtain ⟨k, hk⟩ : ∃ k, keys[i]? = some k := ⟨_, List.getElem?_eq_getElem hi⟩;have hc0 := (HM.out.1.cell (p := ⟨g, off + i, none⟩) hglt).trans (HKC.out i k hk);have hkm : k.length ≤ maxLen := by have := (HKR.out k (List.mem_of_getElem? hk)).2; unfold maxLen; omega
     have htk : (keys.take (i + 1)).reverse = k :: (keys.take i).reverse := by rw [List.take_add_one, hk]; simp
     have hnm : decide (k ∈ (keys.take i).reverse) = false := by
      have := HND.out.sublist (List.take_sublist (i + 1) keys);have h2 := nodup_rev this;rw [htk] at h2;exact decide_eq_false (List.nodup_cons.1 h2).1
     have hlen : (keys.take i).reverse.length = i := by simp; omega
     obtain ⟨c, hlk⟩ := HM.out.2.2.look hkm;obtain ⟨w1, hup, hmap, hturn⟩ := HM.out.2.2.put (by rw [hlen]; omega) hkm;rw [hnm] at hlk;rw [hlen] at hup;rw [← htk] at hmap;have HM1 : Hid (MapLoop w m keys (i + 1) w1) := Lib.hid ⟨((Keeps.of_below (fun _ => False) HM.out.1).trans (turned_keeps hturn) (fun q e => .inr (e ▸ HM.out.2.1))).toBelow (Nat.le_refl _) (fun _ h => h.elim), HM.out.2.1, hmap⟩;have hsum := keysLen_take hk;have hsl : keysLen (keys.take (i + 1)) ≤ 2097152 := Nat.le_trans keysLen_le hkl;have hsz : (⟨k.toArray⟩ : ByteArray).size = k.length := by show k.toArray.size = _; simp
     unfold encS at hc0 hlk hup;obtain ⟨s, hs⟩ : ∃ s : ByteArray, (⟨k.toArray⟩ : ByteArray) = s := ⟨_, rfl⟩;obtain ⟨y, hy⟩ : ∃ y, keysLen (keys.take i) = y := ⟨_, rfl⟩;rw [hs] at hlk hc0 hup hsz;rw [← hsz, hy] at hsum;rw [hsum] at hsl;have HSUM := Lib.hid hsum;rw [hy];clear hk hs hnm hlen hmap hturn htk hy hkm hsum hsz hk0;go_wp2_with fail;refine (refuse_no _ 101).mono ?_;rintro e w2 ⟨rfl, rfl⟩;go_wp2_with fail;exact ⟨⟨i + 1, by go_num, by rw [HSUM.out]; go_num, by omega, HM1⟩, by simp [intOf]; omega⟩
    ·have hie : i = keys.length := by omega
     subst hie;have hmm2 := HM.out.2.2;rw [List.take_length] at hmm2 ⊢;have HMM := Lib.hid hmm2;clear hmm2;have hwk := HW.out.keeps (Keeps.of_below (fun _ => False) HM.out.1) (fun _ _ => id);have hbk := (Keeps.of_below (fun _ => False) HM.out.1).blk H.out id;have htk := HT.out.keeps (Keeps.of_below (fun _ => False) HM.out.1) (fun _ _ => id)
     by_cases hfew : vals.length < keys.length
     ·have HF := Lib.hid (take_few wr b keys.length V vals hbk hwk hfew);have HFEW := Lib.hid hfew;clear hwk hbk htk hfew;go_wp2_with fail;refine (HF.out).mono ?_;rintro e w1 ⟨rfl, rfl⟩;go_wp2_with fail;exact ⟨rfl, .inl ⟨102, rfl, by unfold po; rw [if_pos (by have := HFEW.out; have := HT.out.1; omega)], HM.out.1⟩⟩
     ·have hvl := HT.out.1;have HTK := Lib.hid (take_ok wr b keys.length V vals hbk hwk (by omega) HT.out.oneCell (by omega));have hdl : (vals.drop (vals.length - keys.length)).length = keys.length := by rw [List.length_drop]; omega
      have HDL := Lib.hid hdl;have HHN := Lib.hid (show keys.length ≤ vals.length by omega);have hkn2 : keys.length ≤ 65536 := by omega
      clear hwk hbk htk hdl hvl hfew;go_wp2_with fail;refine (HTK.out).mono ?_;rintro e w3 ⟨itemsV, rfl, hi1, hi2, hi3⟩;obtain ⟨ta, tc, hti⟩ := hi1.shape;rw [HDL.out] at hti;have HB3 := Lib.hid (chain HM.out.1 hi3);have HI3 := Lib.hid hi1;have HIO := Lib.hid (fun q (e : itemsV.ownBlock = some q) => (⟨Nat.le_trans HM.out.1.size (hi2 q e).1, (hi2 q e).2⟩ : w.heap.size ≤ q ∧ q < w3.heap.size));have HM3 := Lib.hid (HMM.out.keeps (Keeps.of_below (fun _ => False) hi3) id);have HS := Lib.hid (summed_any F w3 itemsV (vals.drop (vals.length - keys.length)) (items.drop (vals.length - keys.length)) (keysLen keys) hi1 ((HT.out.keeps (Keeps.of_below (fun _ => False) HB3.out) (fun _ _ => id)).drop _) (fun t m => HIN.out t (List.mem_of_mem_drop m)) (by rw [List.length_drop]; omega) (by omega));subst hti;clear hi1 hi2 hi3;go_wp2_with fail;refine (HS.out).mono ?_;rintro e w4 ⟨rfl, hb4⟩;have hzd : ∀ z : Sz, szV z = .agg #[.int .i64 z.nodes, .int .i64 z.bytes, .int .i64 z.depth] := fun _ => rfl
      obtain ⟨z, hz⟩ : ∃ z : Sz, sumSz (keysLen keys) ((items.drop (vals.length - keys.length)).map Tr.sized) = z := ⟨_, rfl⟩;have HZ := Lib.hid hz;rw [hz, hzd];have HB4 := Lib.hid (chain HB3.out hb4);have HI4 := Lib.hid (HI3.out.keeps (Keeps.of_below (fun _ => False) hb4) (fun _ _ => id));have HM4 := Lib.hid (HM3.out.keeps (Keeps.of_below (fun _ => False) hb4) id);have HCL := Lib.hid (cloneKeys_any w4 (.slice (some ⟨g, off, none⟩) keys.length cap) keys (by omega) (HKW.out.keeps (Keeps.of_below (fun _ => False) HB4.out) (fun _ _ => id)));have HIO4 := Lib.hid (fun q e => (⟨(HIO.out q e).1, Nat.lt_of_lt_of_le (HIO.out q e).2 hb4.size⟩ : w.heap.size ≤ q ∧ q < w4.heap.size));clear hb4 hz hzd;go_wp2_with fail;refine (HCL.out).mono ?_;rintro e w5 ⟨keysV, rfl, hk1, hk2, hk3⟩;rcases hk1 with ⟨_, hkn0⟩ | ⟨g2, off2, cap2, cur2, rfl, hg2, hcp2, ho2, hm2, hi2⟩
      ·exact absurd hkn0 hne
      have hk1 : Win 9 encS w5 (.slice (some ⟨g2, off2, none⟩) keys.length cap2) keys := .inr ⟨g2, off2, cap2, cur2, rfl, hg2, hcp2, ho2, hm2, hi2⟩;have HK5 := Lib.hid hk1;have HKO := Lib.hid (hk2 g2 rfl);have HB5 := Lib.hid (chain HB4.out hk3);have HI5 := Lib.hid (HI4.out.keeps (Keeps.of_below (fun _ => False) hk3) (fun _ _ => id));have HM5 := Lib.hid (HM4.out.keeps (Keeps.of_below (fun _ => False) hk3) id);have HIO5 := Lib.hid (fun q e => (⟨(HIO4.out q e).1, Nat.lt_of_lt_of_le (HIO4.out q e).2 hk3.size⟩ : w.heap.size ≤ q ∧ q < w5.heap.size));clear hk1 hk2 hk3 hg2 hcp2 ho2 hm2 hi2;obtain ⟨p, hp⟩ : ∃ p, w5.heap.size = p := ⟨_, rfl⟩;obtain ⟨w6, hw6⟩ : ∃ w6, w5.alloc (.cells #[.int .i64 z.nodes, .int .i64 z.bytes, .int .i64 z.depth, .slice (some ⟨g2, off2, none⟩) keys.length cap2, .slice none 0 0] 189) = w6 := ⟨_, rfl⟩;have ha6 : Below w5.heap.size w5 w6 := by rw [← hw6]; exact (Below.refl _ _).alloc (Nat.le_refl _) _
      have hp6 : w6.heap[p]? = some (.cells #[.int .i64 z.nodes, .int .i64 z.bytes, .int .i64 z.depth, .slice (some ⟨g2, off2, none⟩) keys.length cap2, .slice none 0 0] 189 (0, 0)) := by rw [← hw6, ← hp]; exact heap_alloc_new w5 _
      have hs6 : w6.heap.size = p + 1 := by rw [← hw6, ← hp]; simp
      have hsort := sort_row w6 g2 off2 cap2 (liftT keys HKR.out) (by rw [liftT_length, liftT_val]; exact HK5.out.keeps (Keeps.of_below (fun _ => False) ha6) (fun _ _ => id)) (by rw [liftT_length]; omega);rw [liftT_length, ← sortT_right HKR.out] at hsort;have HSORT := Lib.hid hsort;have HP6 := Lib.hid hp6;have HA6 := Lib.hid ha6;have HS6 := Lib.hid hs6;have HPP := Lib.hid hp;have hc3 : w6.cell? ⟨p, 3, none⟩ = some (.slice (some ⟨g2, off2, none⟩) keys.length cap2) := by rw [cell_at hp6]; rfl
      have hp0 : w6.cell? ⟨p, 0, none⟩ = some (.int .i64 z.nodes) := by rw [cell_at hp6]; rfl
      clear hsort hp6 ha6 hs6;go_wp2_with fail;refine (HSORT.out).mono ?_;rintro e w7 ⟨rfl, hk7, hkeep7⟩;have hg2p : p ≠ g2 := fun e => by have := hk7.lt rfl; have h1 := HKO.out.2; have h2 := HPP.out; omega
      have hp7 := hkeep7.blk HP6.out hg2p;have h7c : w7.cell? ⟨p, 3, none⟩ = some (.slice (some ⟨g2, off2, none⟩) keys.length cap2) := by rw [cell_at hp7]; rfl
      have HP7 := Lib.hid hp7;have HK7 := Lib.hid hk7;have HKEEP7 := Lib.hid hkeep7;obtain ⟨vs, hvs⟩ : ∃ vs, (sortT keys).map (fun k => (vals.drop (vals.length - keys.length)).getD (keys.idxOf k) .nilIface) = vs := ⟨_, rfl⟩;have HVS := Lib.hid hvs;have HJ0 : Hid (ObjLoop w7 p g2 off2 cap2 keys.length z vs 0 w7) := Lib.hid ⟨Keeps.refl _ _, _, hp7, .nil _ _ _, fun q e => by cases e⟩;clear hg2p hp7 hk7 hkeep7 hvs;go_wp2_with fail
      go_loopw [72] (fun v wr => ∃ j : Nat, v = .int .i64 j ∧ j ≤ keys.length ∧ Hid (ObjLoop w7 p g2 off2 cap2 keys.length z vs j wr)) (fun v _ => keys.length - (intOf v).toNat)
      case atStart => exact ⟨0, rfl, Nat.zero_le _, HJ0⟩
      case round =>
       obtain ⟨j, rfl, hjk, HJ⟩ := hrel;clear HJ0 h7c hc3 hp0
       by_cases hj : j < keys.length
       ·obtain ⟨hkp, IV, hpb, hiv, hio⟩ := HJ.out;have hsl : (sortT keys).length = keys.length := (sortT_perm keys).length_eq;obtain ⟨k, hk⟩ : ∃ k, (sortT keys)[j]? = some k := ⟨_, List.getElem?_eq_getElem (by omega)⟩;have hkm : k ∈ keys := (sortT_perm keys).mem_iff.1 (List.mem_of_getElem? hk);obtain ⟨i, hik⟩ := List.mem_iff_getElem?.1 hkm;have hil : i < keys.length := (List.getElem?_eq_some_iff.1 hik).1;obtain ⟨x, hx⟩ : ∃ x, (vals.drop (vals.length - keys.length))[i]? = some x := ⟨_, List.getElem?_eq_getElem (by rw [HDL.out]; exact hil)⟩
        obtain ⟨T, y, rfl⟩ : ∃ T y, x = .iface T y := by
         have hd := HT.out.drop (vals.length - keys.length);have hi2 : i < (items.drop (vals.length - keys.length)).length := by have := hd.1; have := HDL.out; omega
         exact (hd.2 i x _ hx (List.getElem?_eq_getElem hi2)).iface
        have hvj : vs[j]? = some (.iface T y) := by
         rw [← HVS.out, List.getElem?_map, hk];simp only [Option.map_some];rw [idx_at HND.out hik, List.getD_eq_getElem?_getD, hx];rfl
        have hone := HT.out.oneCell _ (List.mem_of_mem_drop (List.mem_of_getElem? hx))
        have hkv : Win 9 encS wr (.slice (some ⟨g2, off2, none⟩) keys.length cap2) (sortT keys) := HK7.out.keeps hkp (fun q e hq => by
         cases e;exact HK7.out.ne HP7.out (by decide) (congrArg some hq))
        have hkc := hkv.cellAt hk;have hmlt := HM4.out.lt;have hg2lt := HKO.out;have hm7 := (HM5.out.keeps (Keeps.of_below (fun _ => False) HA6.out) id).keeps HKEEP7.out (show ¬ m = g2 by omega);have hmr := hm7.keeps hkp (show ¬ m = p by have := HPP.out; omega);have hkml : k.length ≤ maxLen := by have := (HKR.out k hkm).2; unfold maxLen; omega
        have hget := IdxMap.get (w := wr.drew) (World.ownsMap.drew hmr) (nodup_rev HND.out) hkml (i := i) (by rw [List.reverse_reverse]; exact hik);rcases HI5.out with ⟨hv0, hl0⟩ | ⟨gi, oi, ci, curi, hvi, _⟩
        ·rw [hl0] at hx; cases hx
        simp only [Value.slice.injEq] at hvi;obtain ⟨rfl, hloop, rfl⟩ := hvi;clear hloop;have hi7 := ((HI5.out.keeps (Keeps.of_below (fun _ => False) HA6.out) (fun _ _ => id)).keeps HKEEP7.out (fun q e hq => by have := (HIO4.out q e).2; omega)).keeps hkp (fun q e hq => by have := (HIO5.out q e).2; have := HPP.out; omega);have hxc := hi7.cellAt hx;obtain ⟨ia, ic, hIV⟩ := hiv.shape;have hlj : (vs.take j).length = j := by rw [List.length_take]; have := (List.getElem?_eq_some_iff.1 hvj).1; omega
        rw [hlj] at hIV;have hkx : Keeps (fun _ => False) wr (wr.drew.alloc (.cells #[.iface T y] 97)) := ((Keeps.refl _ wr).drew).alloc _;have hwx := (hiv.keeps hkx (fun _ _ => id)).toN;rw [List.map_id, hlj] at hwx
        have hnew : ∀ j u, ([.iface T y] : List Value)[j]? = some u → (wr.drew.alloc (.cells #[.iface T y] 97)).cell? ((⟨wr.heap.size, 0, none⟩ : Addr).add j) = some u := by
         intro j u hj;have hp := add_zero_at wr.heap.size j;rw [hp]
         show (wr.drew.alloc _).cell? ⟨wr.drew.heap.size, j, none⟩ = _
         rw [cell_at (heap_alloc_new wr.drew _)]
         simpa using hj
        have hon : ∀ u ∈ ([.iface T y] : List Value), u.oneCell' = true := fun u hu => by simp at hu; subst hu; exact hone
        have hbm : (j + 1) * 16 ≤ 140737488355328 := by omega
        have hmm : j + 1 ≤ maxLen := by unfold maxLen; omega
        subst hIV;obtain ⟨c0, c1, c2, c3, c4, cf⟩ := cells5 hpb;have c4b : (wr.alloc (.cells #[.iface T y] 97)).cell? ⟨p, 4, none⟩ = some (.slice ia j ic) := ((Keeps.refl (fun _ => False) wr).alloc _).cell c4 id;have htk : vs.take (j + 1) = vs.take j ++ [.iface T y] := by rw [List.take_add_one, hvj]; rfl
        have hp7 := lt_of_block HP7.out;have HTK2 := Lib.hid htk;have HWX := Lib.hid hwx;have HNEW := Lib.hid hnew;have HON := Lib.hid hon;have HBM := Lib.hid hbm;have HMX := Lib.hid hmm;have HKX := Lib.hid hkx;have HKP := Lib.hid hkp;have HIOJ := Lib.hid hio;have HPX := Lib.hid (hkx.blk hpb id);have HNE2 := Lib.hid (show (Value.slice ia j ic).ownBlock ≠ some p from fun e => by have := hio p e; omega);unfold encS at hkc hget;obtain ⟨s, hs⟩ : ∃ s : ByteArray, (⟨k.toArray⟩ : ByteArray) = s := ⟨_, rfl⟩;rw [hs] at hkc hget;clear hs htk hwx hnew hon hbm hmm hkx hkp hio hpb hiv hi7 hkml hmr hm7 hmlt hg2lt hkv hvj hk hkm hx hlj hone hsl hik;have hxc : wr.cell? ⟨gi, oi + i, none⟩ = some (.iface T y) := hxc;go_wp2_with fail
        go_region_law (refine step_append_winN elemItemN rfl _ _ rfl rfl HWX.out ⟨wr.heap.size, 0, none⟩ 1 1 [.iface T y] rfl rfl HNEW.out HON.out (by decide) HBM.out HMX.out ?_; intro g' off' cap' w' hwin hgb hkk; have hkk : Keeps (fun q => (Value.slice ia j ic).ownBlock = some q) (wr.drew.alloc (.cells #[.iface T y] 97)) w' := hkk; have hb' := hkk.blk HPX.out HNE2.out; have hc1 := (cells5 hb').2.2.2.2.1; have hf1 := free_at hb')
        all_goals
         have HB' := Lib.hid hb';have HWIN := Lib.hid hwin;have HGB := Lib.hid hgb;have HKK := Lib.hid hkk;clear hb' hwin hgb hkk;go_wp2_with fail;have hks : Keeps (fun k => k = p) w' (w'.setCell ⟨p, 4, none⟩ (.slice (some ⟨g', off', none⟩) (j + 1) cap')) := (Keeps.refl (fun k => k = p) w').setCell (p := ⟨p, 4, none⟩) (.inl rfl) _;have hng := HWIN.out.ne HB'.out (by decide);refine ⟨⟨j + 1, by go_num, by omega, Lib.hid ⟨?_, _, set_at HB'.out _, ?_, ?_⟩⟩, by simp [intOf]; omega⟩
         ·exact ((HKP.out.trans HKX.out (fun _ h => h.elim)).trans HKK.out (fun q e => .inr (HIOJ.out q e))).same hks
         ·rw [HTK2.out];refine WinN.toWin (n := j + 1) ?_;rw [List.map_id];exact HWIN.out.keeps hks (fun k e hk => hng (e.trans (congrArg some hk)))
         ·intro q e;cases e;rcases HGB.out with h | h
          ·exact HIOJ.out _ h
          ·exact Nat.le_trans HKP.out.size (Nat.le_trans HKX.out.size h.1)
       ·have hje : j = keys.length := by omega
        subst hje;obtain ⟨hkp, IV, hpb, hiv, hio⟩ := HJ.out;have hwp : w.heap.size ≤ p := by have := HB5.out.size; have := HPP.out; omega
        have hwg : w.heap.size ≤ g2 := Nat.le_trans HB4.out.size HKO.out.1;have hall : Keeps (fun _ => False) w wr := (((Keeps.of_below (fun _ => False) HB5.out).trans (Keeps.of_below (fun _ => False) HA6.out) (fun _ h => .inl h)).trans HKEEP7.out (fun q e => .inr (e ▸ hwg))).trans hkp (fun q e => .inr (e ▸ hwp));have hlv : vs.take keys.length = vs := List.take_of_length_le (by rw [← HVS.out, List.length_map, (sortT_perm keys).length_eq]; exact Nat.le_refl _);rw [hlv] at hiv;have hsz := object_sized (keys := keys) (l := items.drop (vals.length - keys.length)) HND.out (by rw [List.length_drop]; have := HT.out.1; have := HHN.out; omega);rw [HZ.out] at hsz;have hil := HT.out.1
        have hkv : Win 9 encS wr (.slice (some ⟨g2, off2, none⟩) keys.length cap2) (sortT keys) := HK7.out.keeps hkp (fun q e hq => by
         cases e;exact HK7.out.ne HP7.out (by decide) (congrArg some hq))
        by_cases hzw : z.within = true
        ·have HG := Lib.hid (group_fits_object wr b keys.length p z.nodes z.bytes z.depth _ _ V vals hpb rfl rfl rfl hzw (hall.blk H.out id) (HW.out.keeps hall (fun _ _ => id)) (by omega) HHN.out)
         have hdone : ∀ w', GroupRet wr b V vals (vals.length - keys.length) 187 (.pointer (some ⟨p, 0, none⟩)) w' → ObjEnds w b V vals items keys (.returned (.tuple #[])) w' := fun w' hgr => .inr ⟨rfl, HHN.out, by
          unfold po putGroup;rw [if_neg (by have := HHN.out; omega), ← hil, hsz, if_pos hzw], by
          rw [hsz];exact ⟨wr, p, _, IV, hall.toBelow (Nat.le_refl _) (fun _ h => h.elim), hwp, hpb, hkv, fun q e => by cases e; exact hwg, by rw [HVS.out]; exact hiv, fun q e => by have := hio q e; have := HKEEP7.out.size; have := HA6.out.size; have := HB5.out.size; omega, hgr⟩⟩
         have HDONE := Lib.hid hdone;clear hdone hkp hpb hiv hio hall hlv hsz hkv;go_wp2_with fail;refine (HG.out).mono ?_;rintro e w8 ⟨rfl, hgr⟩;have HGR := Lib.hid hgr;clear hgr;go_wp2_with fail
         go_end0
         exact HDONE.out _ HGR.out
        ·have hzb := sumSz_bound (bytes := keysLen keys) (l := (items.drop (vals.length - keys.length)).map Tr.sized) (by intro z hz; obtain ⟨t, ht, rfl⟩ := List.mem_map.1 hz; exact HIN.out t (List.mem_of_mem_drop ht)) (by rw [List.length_map, List.length_drop]; omega) (by omega);rw [HZ.out] at hzb;have HG := Lib.hid (group_over_object wr b keys.length p z.nodes z.bytes z.depth _ _ hpb rfl rfl rfl (by simpa using hzw) hzb.1 hzb.2.1 hzb.2.2)
         have hpo : po items keys = items := by
          unfold po putGroup;rw [if_neg (by have := HHN.out; omega), ← hil, hsz, if_neg hzw]
         have HPO := Lib.hid hpo;have HALL := Lib.hid (hall.toBelow (Nat.le_refl _) (fun _ h => h.elim));clear hkp hpb hiv hio hall hlv hsz hkv hpo hzb;go_wp2_with fail;refine (HG.out).mono ?_;rintro e w8 ⟨rfl, hb8⟩;have HB8 := Lib.hid (chain HALL.out hb8);clear hb8;go_wp2_with fail;exact ⟨rfl, .inl ⟨3, rfl, HPO.out, HB8.out⟩⟩
end Go.Proofs.YtakkmiomhackiaaGreatDoor
