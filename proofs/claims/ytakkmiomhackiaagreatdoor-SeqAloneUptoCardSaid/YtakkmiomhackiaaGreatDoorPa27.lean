/-
  The program, one part of its walk: Ob4, Ob5, Ob6. Conditions: none.
-/
import Derived.Test.YtakkmiomhackiaaGreatDoorPa24
import Derived.Test.YtakkmiomhackiaaGreatDoorPa19
import Derived.Test.YtakkmiomhackiaaGreatDoorPa00
set_option linter.all false
set_option maxRecDepth 100000
set_option maxHeartbeats 16000000
open Go.Proofs.Tryz
namespace Go.Proofs.YtakkmiomhackiaaGreatDoor
open Go.RowKit
def MapLoop (w : World) (m : Nat) (keys : List (List UInt8)) (i : Nat) (wr : World) : Prop :=
 Below w.heap.size w wr ∧ w.heap.size ≤ m ∧ IdxMap wr m (keys.take i).reverse
theorem fold_le : ∀ (l : List (List UInt8)) (a : Nat), a ≤ l.foldl (fun a k => a + k.length) a
 | [], _ => Nat.le_refl _
 | x :: l, a => Nat.le_trans (Nat.le_add_right a x.length) (fold_le l (a + x.length))
theorem nodup_rev {l : List (List UInt8)} (h : l.Nodup) : l.reverse.Nodup := List.pairwise_reverse.2 (h.imp fun h e => h e.symm)
theorem right_any' (k : List UInt8) (w : World) (hl : k.length ≤ 1073741824) : Calls prog 218 #[.string ⟨k.toArray⟩] w fun e w' => e = .returned (.bool (rightOf k)) ∧ Below w.heap.size w w' := by
 have h := right_any ⟨k.toArray⟩ w (by show k.toArray.size ≤ _; simpa using hl)
 simpa using h
theorem keysLen_le {l : List (List UInt8)} {i : Nat} : keysLen (l.take i) ≤ keysLen l := by
 conv => rhs; rw [← List.take_append_drop i l]
 unfold keysLen;rw [List.foldl_append];exact fold_le _ _
def ObjLoop (w7 : World) (p g2 off2 cap2 n : Nat) (z : Sz) (vs : List Value) (j : Nat) (wr : World) : Prop :=
 Keeps (fun k => k = p) w7 wr ∧ ∃ V, wr.heap[p]? = some (.cells #[.int .i64 z.nodes, .int .i64 z.bytes, .int .i64 z.depth, .slice (some ⟨g2, off2, none⟩) n cap2, V] 189 (0, 0)) ∧ Win 97 id wr V (vs.take j) ∧ ∀ q, V.ownBlock = some q → w7.heap.size ≤ q
def ObjDone (w : World) (b : Nat) (V : Value) (vals : List Value) (keys : List (List UInt8)) (z : Sz) (w' : World) : Prop :=
 ∃ (w4 : World) (p : Nat) (KV IV : Value), Below w.heap.size w w4 ∧ w.heap.size ≤ p ∧ w4.heap[p]? = some (.cells #[.int .i64 z.nodes, .int .i64 z.bytes, .int .i64 z.depth, KV, IV] 189 (0, 0)) ∧
  Win 9 encS w4 KV (sortT keys) ∧ (∀ q, KV.ownBlock = some q → w.heap.size ≤ q) ∧
  Win 97 id w4 IV ((sortT keys).map fun k => (vals.drop (vals.length - keys.length)).getD (keys.idxOf k) .nilIface) ∧ (∀ q, IV.ownBlock = some q → w.heap.size ≤ q) ∧
  GroupRet w4 b V vals (vals.length - keys.length) 187 (.pointer (some ⟨p, 0, none⟩)) w'
def ObjEnds (w : World) (b : Nat) (V : Value) (vals : List Value) (items : List Tr) (keys : List (List UInt8)) (e : Ending) (w' : World) : Prop :=
 (∃ no : Nat, e = .panicked [{ v := .iface 29 (.int .i64 no), recovered := false }] ∧ po items keys = items ∧ Below w.heap.size w w') ∨
  (e = .returned (.tuple #[]) ∧ keys.length ≤ vals.length ∧ po items keys = items.take (vals.length - keys.length) ++ [.object (sortT keys) (besides keys (items.drop (vals.length - keys.length)))] ∧
   ObjDone w b V vals keys (Tr.object (sortT keys) (besides keys (items.drop (vals.length - keys.length)))).sized w')
theorem Win.cellAt {α : Type} {e : Nat} {enc : α → Value} {w : World} {g off n cap : Nat} {l : List α} (h : Win e enc w (.slice (some ⟨g, off, none⟩) n cap) l) {i : Nat} {x : α} (hx : l[i]? = some x) : w.cell? ⟨g, off + i, none⟩ = some (enc x) := by
 rcases h with ⟨hv, _⟩ | ⟨g', off', cap', cur, hv, hg, hc, ho, hm, hi⟩
 ·cases hv
 ·cases hv;rw [cell_at hg];exact hi i x hx
theorem add_zero_at (b j : Nat) : (⟨b, 0, none⟩ : Addr).add j = ⟨b, j, none⟩ := by unfold Addr.add; split <;> simp_all
theorem makeMap_any (w : World) : (Instr.makeMap 263 none).run prog w = .ok (.map (some w.heap.size)) (w.alloc (.map #[] 0)) := by kernel_rfl
theorem object_some (w : World) (F : Nat → Prop) (b g off cap : Nat) (V : Value) (vals : List Value) (items : List Tr) (keys : List (List UInt8)) (h : w.heap[b]? = some (.cells #[V] 195 (0, 0))) (hw : Win 97 id w V vals) (ht : Trees F w vals items) (hin : ∀ t ∈ items, t.sized.within = true) (hl : items.length ≤ 65536)
 (hkw : Win 9 encS w (.slice (some ⟨g, off, none⟩) keys.length cap) keys) (hkr : RightKeys keys) (hnd : keys.Nodup) (hkl : keysLen keys ≤ 2097152) (hkn : keys.length ≤ 4194304) (hne : keys ≠ []) :
 Calls prog 222 #[.pointer (some ⟨b, 0, none⟩), .slice (some ⟨g, off, none⟩) keys.length cap] w fun e w' => ObjEnds w b V vals items keys e w' := by
 have hkc : ∀ i k, keys[i]? = some k → w.cell? ⟨g, off + i, none⟩ = some (encS k) := by
  rcases hkw with ⟨hv, _⟩ | ⟨g', off', cap', cur, hv, hg, hc, ho, hm, hi⟩
  ·cases hv
  ·cases hv;exact fun i k hk => by rw [cell_at hg]; exact hi i k hk
 have hglt : g < w.heap.size := hkw.lt rfl;have HKC := hZ hkc;have HKW := hZ hkw;have HR := hZ (fun k (hk : k ∈ keys) (w : World) => right_any' k w (by have := (hkr k hk).2; omega));have HKR := hZ hkr;have HND := hZ hnd;have H := hZ h;have HW := hZ hw;have HT := hZ ht;have HIN := hZ hin;clear hkc h hw ht hin hkr hnd hkw;go_enter func222, ntmps222;go_wp2_with fail
 go_loopw [18] (fun v wr => ∃ i : Nat, v = .int .i64 i ∧ i ≤ keys.length ∧ Hid (Below w.heap.size w wr)) (fun v _ => keys.length - (intOf v).toNat)
 case atStart => exact ⟨0, rfl, Nat.zero_le _, hZ (Below.refl _ _)⟩
 case round =>
  obtain ⟨i, rfl, hik, HB⟩ := hrel
  by_cases hi : i < keys.length
  ·obtain ⟨k, hk⟩ : ∃ k, keys[i]? = some k := ⟨_, List.getElem?_eq_getElem hi⟩;have hc0 := (HB.out.cell (p := ⟨g, off + i, none⟩) hglt).trans (HKC.out i k hk);have HRK := hZ (HR.out k (List.mem_of_getElem? hk));have hkr : rightOf k = true := (HKR.out k (List.mem_of_getElem? hk)).1;simp only [hkr] at HRK;unfold encS at hc0;obtain ⟨s, hs⟩ : ∃ s : ByteArray, (⟨k.toArray⟩ : ByteArray) = s := ⟨_, rfl⟩;rw [hs] at HRK hc0;clear hk hkr hs;go_wp2_with fail;refine (HRK.out _).mono ?_;rintro e w1 ⟨rfl, hb1⟩;have HB1 := hZ (chain HB.out hb1);clear hb1;go_wp2_with fail;refine (refuse_no _ 100).mono ?_;rintro e w2 ⟨rfl, rfl⟩;go_wp2_with fail;exact ⟨⟨i + 1, by go_num, by omega, HB1⟩, by simp [intOf]; omega⟩
  ·have hie : i = keys.length := by omega
   subst hie;obtain ⟨m, hm⟩ : ∃ m, wr.heap.size = m := ⟨_, rfl⟩;have HM0 : Hid (MapLoop w m keys 0 (wr.alloc (.map #[] 0))) := hZ ⟨HB.out.alloc HB.out.size _, by rw [← hm]; exact HB.out.size, by rw [← hm]; exact IdxMap.made wr⟩;have hmk := makeMap_any wr;rw [hm] at hmk;obtain ⟨w0, hw0⟩ : ∃ w0, wr.alloc (.map #[] 0) = w0 := ⟨_, rfl⟩;rw [hw0] at hmk HM0;have hk0 : ((0 : Nat) : Int) = ((keysLen (keys.take 0) : Nat) : Int) := rfl;clear hw0 hm;go_wp2_with fail
   go_loopw [7, 29] (fun y v wr => ∃ i : Nat, v = .int .i64 i ∧ y = .int .i64 (keysLen (keys.take i)) ∧ i ≤ keys.length ∧ Hid (MapLoop w m keys i wr)) (fun _ v _ => keys.length - (intOf v).toNat)
   case atStart => exact ⟨0, rfl, rfl, Nat.zero_le _, HM0⟩
   case round =>
    obtain ⟨i, rfl, rfl, hik, HM⟩ := hrel
    by_cases hi : i < keys.length
    ·obtain ⟨k, hk⟩ : ∃ k, keys[i]? = some k := ⟨_, List.getElem?_eq_getElem hi⟩;have hc0 := (HM.out.1.cell (p := ⟨g, off + i, none⟩) hglt).trans (HKC.out i k hk);have hkm : k.length ≤ maxLen := by have := (HKR.out k (List.mem_of_getElem? hk)).2; unfold maxLen; omega
     have htk : (keys.take (i + 1)).reverse = k :: (keys.take i).reverse := by rw [List.take_add_one, hk]; simp
     have hnm : decide (k ∈ (keys.take i).reverse) = false := by
      have := HND.out.sublist (List.take_sublist (i + 1) keys);have h2 := nodup_rev this;rw [htk] at h2;exact decide_eq_false (List.nodup_cons.1 h2).1
     have hlen : (keys.take i).reverse.length = i := by simp; omega
     obtain ⟨c, hlk⟩ := HM.out.2.2.look hkm;obtain ⟨w1, hup, hmap, hturn⟩ := HM.out.2.2.put (by rw [hlen]; omega) hkm;rw [hnm] at hlk;rw [hlen] at hup;rw [← htk] at hmap;have HM1 : Hid (MapLoop w m keys (i + 1) w1) := hZ ⟨((Keeps.of_below (fun _ => False) HM.out.1).trans (turned_keeps hturn) (fun q e => .inr (e ▸ HM.out.2.1))).toBelow (Nat.le_refl _) (fun _ h => h.elim), HM.out.2.1, hmap⟩;have hsum := keysLen_take hk;have hsl : keysLen (keys.take (i + 1)) ≤ 2097152 := Nat.le_trans keysLen_le hkl;have hsz : (⟨k.toArray⟩ : ByteArray).size = k.length := by show k.toArray.size = _; simp
     unfold encS at hc0 hlk hup;obtain ⟨s, hs⟩ : ∃ s : ByteArray, (⟨k.toArray⟩ : ByteArray) = s := ⟨_, rfl⟩;obtain ⟨y, hy⟩ : ∃ y, keysLen (keys.take i) = y := ⟨_, rfl⟩;rw [hs] at hlk hc0 hup hsz;rw [← hsz, hy] at hsum;rw [hsum] at hsl;have HSUM := hZ hsum;rw [hy];clear hk hs hnm hlen hmap hturn htk hy hkm hsum hsz hk0;go_wp2_with fail;refine (refuse_no _ 101).mono ?_;rintro e w2 ⟨rfl, rfl⟩;go_wp2_with fail;exact ⟨⟨i + 1, by go_num, by rw [HSUM.out]; go_num, by omega, HM1⟩, by simp [intOf]; omega⟩
    ·have hie : i = keys.length := by omega
     subst hie;have hmm2 := HM.out.2.2;rw [List.take_length] at hmm2 ⊢;have HMM := hZ hmm2;clear hmm2;have hwk := HW.out.keeps (Keeps.of_below (fun _ => False) HM.out.1) (fun _ _ => id);have hbk := (Keeps.of_below (fun _ => False) HM.out.1).blk H.out id;have htk := HT.out.keeps (Keeps.of_below (fun _ => False) HM.out.1) (fun _ _ => id)
     by_cases hfew : vals.length < keys.length
     ·have HF := hZ (take_few wr b keys.length V vals hbk hwk hfew);have HFEW := hZ hfew;clear hwk hbk htk hfew;go_wp2_with fail;refine (HF.out).mono ?_;rintro e w1 ⟨rfl, rfl⟩;go_wp2_with fail;exact ⟨rfl, .inl ⟨102, rfl, by unfold po; rw [if_pos (by have := HFEW.out; have := HT.out.1; omega)], HM.out.1⟩⟩
     ·have hvl := HT.out.1;have HTK := hZ (take_ok wr b keys.length V vals hbk hwk (by omega) HT.out.oneCell (by omega));have hdl : (vals.drop (vals.length - keys.length)).length = keys.length := by rw [List.length_drop]; omega
      have HDL := hZ hdl;have HHN := hZ (show keys.length ≤ vals.length by omega);have hkn2 : keys.length ≤ 65536 := by omega
      clear hwk hbk htk hdl hvl hfew;go_wp2_with fail;refine (HTK.out).mono ?_;rintro e w3 ⟨itemsV, rfl, hi1, hi2, hi3⟩;obtain ⟨ta, tc, hti⟩ := hi1.shape;rw [HDL.out] at hti;have HB3 := hZ (chain HM.out.1 hi3);have HI3 := hZ hi1;have HIO := hZ (fun q (e : itemsV.ownBlock = some q) => (⟨Nat.le_trans HM.out.1.size (hi2 q e).1, (hi2 q e).2⟩ : w.heap.size ≤ q ∧ q < w3.heap.size));have HM3 := hZ (HMM.out.keeps (Keeps.of_below (fun _ => False) hi3) id);have HS := hZ (summed_any F w3 itemsV (vals.drop (vals.length - keys.length)) (items.drop (vals.length - keys.length)) (keysLen keys) hi1 ((HT.out.keeps (Keeps.of_below (fun _ => False) HB3.out) (fun _ _ => id)).drop _) (fun t m => HIN.out t (List.mem_of_mem_drop m)) (by rw [List.length_drop]; omega) (by omega));subst hti;clear hi1 hi2 hi3;go_wp2_with fail;refine (HS.out).mono ?_;rintro e w4 ⟨rfl, hb4⟩;have hzd : ∀ z : Sz, szV z = .agg #[.int .i64 z.nodes, .int .i64 z.bytes, .int .i64 z.depth] := fun _ => rfl
      obtain ⟨z, hz⟩ : ∃ z : Sz, sumSz (keysLen keys) ((items.drop (vals.length - keys.length)).map Tr.sized) = z := ⟨_, rfl⟩;have HZ := hZ hz;rw [hz, hzd];have HB4 := hZ (chain HB3.out hb4);have HI4 := hZ (HI3.out.keeps (Keeps.of_below (fun _ => False) hb4) (fun _ _ => id));have HM4 := hZ (HM3.out.keeps (Keeps.of_below (fun _ => False) hb4) id);have HCL := hZ (cloneKeys_any w4 (.slice (some ⟨g, off, none⟩) keys.length cap) keys (by omega) (HKW.out.keeps (Keeps.of_below (fun _ => False) HB4.out) (fun _ _ => id)));have HIO4 := hZ (fun q e => (⟨(HIO.out q e).1, Nat.lt_of_lt_of_le (HIO.out q e).2 hb4.size⟩ : w.heap.size ≤ q ∧ q < w4.heap.size));clear hb4 hz hzd;go_wp2_with fail;refine (HCL.out).mono ?_;rintro e w5 ⟨keysV, rfl, hk1, hk2, hk3⟩;rcases hk1 with ⟨_, hkn0⟩ | ⟨g2, off2, cap2, cur2, rfl, hg2, hcp2, ho2, hm2, hi2⟩
      ·exact absurd hkn0 hne
      have hk1 : Win 9 encS w5 (.slice (some ⟨g2, off2, none⟩) keys.length cap2) keys := .inr ⟨g2, off2, cap2, cur2, rfl, hg2, hcp2, ho2, hm2, hi2⟩;have HK5 := hZ hk1;have HKO := hZ (hk2 g2 rfl);have HB5 := hZ (chain HB4.out hk3);have HI5 := hZ (HI4.out.keeps (Keeps.of_below (fun _ => False) hk3) (fun _ _ => id));have HM5 := hZ (HM4.out.keeps (Keeps.of_below (fun _ => False) hk3) id);have HIO5 := hZ (fun q e => (⟨(HIO4.out q e).1, Nat.lt_of_lt_of_le (HIO4.out q e).2 hk3.size⟩ : w.heap.size ≤ q ∧ q < w5.heap.size));clear hk1 hk2 hk3 hg2 hcp2 ho2 hm2 hi2;obtain ⟨p, hp⟩ : ∃ p, w5.heap.size = p := ⟨_, rfl⟩;obtain ⟨w6, hw6⟩ : ∃ w6, w5.alloc (.cells #[.int .i64 z.nodes, .int .i64 z.bytes, .int .i64 z.depth, .slice (some ⟨g2, off2, none⟩) keys.length cap2, .slice none 0 0] 189) = w6 := ⟨_, rfl⟩;have ha6 : Below w5.heap.size w5 w6 := by rw [← hw6]; exact (Below.refl _ _).alloc (Nat.le_refl _) _
      have hp6 : w6.heap[p]? = some (.cells #[.int .i64 z.nodes, .int .i64 z.bytes, .int .i64 z.depth, .slice (some ⟨g2, off2, none⟩) keys.length cap2, .slice none 0 0] 189 (0, 0)) := by rw [← hw6, ← hp]; exact heap_alloc_new w5 _
      have hs6 : w6.heap.size = p + 1 := by rw [← hw6, ← hp]; simp
      have hsort := sort_row w6 g2 off2 cap2 (liftT keys HKR.out) (by rw [liftT_length, liftT_val]; exact HK5.out.keeps (Keeps.of_below (fun _ => False) ha6) (fun _ _ => id)) (by rw [liftT_length]; omega);rw [liftT_length, ← sortT_right HKR.out] at hsort;have HSORT := hZ hsort;have HP6 := hZ hp6;have HA6 := hZ ha6;have HS6 := hZ hs6;have HPP := hZ hp;have hc3 : w6.cell? ⟨p, 3, none⟩ = some (.slice (some ⟨g2, off2, none⟩) keys.length cap2) := by rw [cell_at hp6]; rfl
      have hp0 : w6.cell? ⟨p, 0, none⟩ = some (.int .i64 z.nodes) := by rw [cell_at hp6]; rfl
      clear hsort hp6 ha6 hs6;go_wp2_with fail;refine (HSORT.out).mono ?_;rintro e w7 ⟨rfl, hk7, hkeep7⟩;have hg2p : p ≠ g2 := fun e => by have := hk7.lt rfl; have h1 := HKO.out.2; have h2 := HPP.out; omega
      have hp7 := hkeep7.blk HP6.out hg2p;have h7c : w7.cell? ⟨p, 3, none⟩ = some (.slice (some ⟨g2, off2, none⟩) keys.length cap2) := by rw [cell_at hp7]; rfl
      have HP7 := hZ hp7;have HK7 := hZ hk7;have HKEEP7 := hZ hkeep7;obtain ⟨vs, hvs⟩ : ∃ vs, (sortT keys).map (fun k => (vals.drop (vals.length - keys.length)).getD (keys.idxOf k) .nilIface) = vs := ⟨_, rfl⟩;have HVS := hZ hvs;have HJ0 : Hid (ObjLoop w7 p g2 off2 cap2 keys.length z vs 0 w7) := hZ ⟨Keeps.refl _ _, _, hp7, .nil _ _ _, fun q e => by cases e⟩;clear hg2p hp7 hk7 hkeep7 hvs;go_wp2_with fail
      go_loopw [72] (fun v wr => ∃ j : Nat, v = .int .i64 j ∧ j ≤ keys.length ∧ Hid (ObjLoop w7 p g2 off2 cap2 keys.length z vs j wr)) (fun v _ => keys.length - (intOf v).toNat)
      case atStart => exact ⟨0, rfl, Nat.zero_le _, HJ0⟩
      case round =>
       obtain ⟨j, rfl, hjk, HJ⟩ := hrel;clear HJ0 h7c hc3 hp0
       by_cases hj : j < keys.length
       ·obtain ⟨hkp, IV, hpb, hiv, hio⟩ := HJ.out;have hsl : (sortT keys).length = keys.length := (sortT_perm keys).length_eq;obtain ⟨k, hk⟩ : ∃ k, (sortT keys)[j]? = some k := ⟨_, List.getElem?_eq_getElem (by omega)⟩;have hkm : k ∈ keys := (sortT_perm keys).mem_iff.1 (List.mem_of_getElem? hk);obtain ⟨i, hik⟩ := List.mem_iff_getElem?.1 hkm;have hil : i < keys.length := (List.getElem?_eq_some_iff.1 hik).1;obtain ⟨x, hx⟩ : ∃ x, (vals.drop (vals.length - keys.length))[i]? = some x := ⟨_, List.getElem?_eq_getElem (by rw [HDL.out]; exact hil)⟩
        obtain ⟨T, y, rfl⟩ : ∃ T y, x = .iface T y := by
         have hd := HT.out.drop (vals.length - keys.length);have hi2 : i < (items.drop (vals.length - keys.length)).length := by have := hd.1; have := HDL.out; omega
         exact (hd.2 i x _ hx (List.getElem?_eq_getElem hi2)).iface
        have hvj : vs[j]? = some (.iface T y) := by
         rw [← HVS.out, List.getElem?_map, hk];simp only [Option.map_some];rw [idx_at HND.out hik, List.getD_eq_getElem?_getD, hx];rfl
        have hone := HT.out.oneCell _ (List.mem_of_mem_drop (List.mem_of_getElem? hx))
        have hkv : Win 9 encS wr (.slice (some ⟨g2, off2, none⟩) keys.length cap2) (sortT keys) := HK7.out.keeps hkp (fun q e hq => by
         cases e;exact HK7.out.ne HP7.out (by decide) (congrArg some hq))
        have hkc := hkv.cellAt hk;have hmlt := HM4.out.lt;have hg2lt := HKO.out;have hm7 := (HM5.out.keeps (Keeps.of_below (fun _ => False) HA6.out) id).keeps HKEEP7.out (show ¬ m = g2 by omega);have hmr := hm7.keeps hkp (show ¬ m = p by have := HPP.out; omega);have hkml : k.length ≤ maxLen := by have := (HKR.out k hkm).2; unfold maxLen; omega
        have hget := IdxMap.get (w := wr.drew) (World.ownsMap.drew hmr) (nodup_rev HND.out) hkml (i := i) (by rw [List.reverse_reverse]; exact hik);rcases HI5.out with ⟨hv0, hl0⟩ | ⟨gi, oi, ci, curi, hvi, _⟩
        ·rw [hl0] at hx; cases hx
        simp only [Value.slice.injEq] at hvi;obtain ⟨rfl, hloop, rfl⟩ := hvi;clear hloop;have hi7 := ((HI5.out.keeps (Keeps.of_below (fun _ => False) HA6.out) (fun _ _ => id)).keeps HKEEP7.out (fun q e hq => by have := (HIO4.out q e).2; omega)).keeps hkp (fun q e hq => by have := (HIO5.out q e).2; have := HPP.out; omega);have hxc := hi7.cellAt hx;obtain ⟨ia, ic, hIV⟩ := hiv.shape;have hlj : (vs.take j).length = j := by rw [List.length_take]; have := (List.getElem?_eq_some_iff.1 hvj).1; omega
        rw [hlj] at hIV;have hkx : Keeps (fun _ => False) wr (wr.drew.alloc (.cells #[.iface T y] 97)) := ((Keeps.refl _ wr).drew).alloc _;have hwx := (hiv.keeps hkx (fun _ _ => id)).toN;rw [List.map_id, hlj] at hwx
        have hnew : ∀ j u, ([.iface T y] : List Value)[j]? = some u → (wr.drew.alloc (.cells #[.iface T y] 97)).cell? ((⟨wr.heap.size, 0, none⟩ : Addr).add j) = some u := by
         intro j u hj;have hp := add_zero_at wr.heap.size j;rw [hp]
         show (wr.drew.alloc _).cell? ⟨wr.drew.heap.size, j, none⟩ = _
         rw [cell_at (heap_alloc_new wr.drew _)]
         simpa using hj
        have hon : ∀ u ∈ ([.iface T y] : List Value), u.oneCell' = true := fun u hu => by simp at hu; subst hu; exact hone
        have hbm : (j + 1) * 16 ≤ 140737488355328 := by omega
        have hmm : j + 1 ≤ maxLen := by unfold maxLen; omega
        subst hIV;obtain ⟨c0, c1, c2, c3, c4, cf⟩ := cells5 hpb;have c4b : (wr.alloc (.cells #[.iface T y] 97)).cell? ⟨p, 4, none⟩ = some (.slice ia j ic) := ((Keeps.refl (fun _ => False) wr).alloc _).cell c4 id;have htk : vs.take (j + 1) = vs.take j ++ [.iface T y] := by rw [List.take_add_one, hvj]; rfl
        have hp7 := lt_of_block HP7.out;have HTK2 := hZ htk;have HWX := hZ hwx;have HNEW := hZ hnew;have HON := hZ hon;have HBM := hZ hbm;have HMX := hZ hmm;have HKX := hZ hkx;have HKP := hZ hkp;have HIOJ := hZ hio;have HPX := hZ (hkx.blk hpb id);have HNE2 := hZ (show (Value.slice ia j ic).ownBlock ≠ some p from fun e => by have := hio p e; omega);unfold encS at hkc hget;obtain ⟨s, hs⟩ : ∃ s : ByteArray, (⟨k.toArray⟩ : ByteArray) = s := ⟨_, rfl⟩;rw [hs] at hkc hget;clear hs htk hwx hnew hon hbm hmm hkx hkp hio hpb hiv hi7 hkml hmr hm7 hmlt hg2lt hkv hvj hk hkm hx hlj hone hsl hik;have hxc : wr.cell? ⟨gi, oi + i, none⟩ = some (.iface T y) := hxc;go_wp2_with fail
        go_region_law (refine step_append_winN elemItemN rfl _ _ rfl rfl HWX.out ⟨wr.heap.size, 0, none⟩ 1 1 [.iface T y] rfl rfl HNEW.out HON.out (by decide) HBM.out HMX.out ?_; intro g' off' cap' w' hwin hgb hkk; have hkk : Keeps (fun q => (Value.slice ia j ic).ownBlock = some q) (wr.drew.alloc (.cells #[.iface T y] 97)) w' := hkk; have hb' := hkk.blk HPX.out HNE2.out; have hc1 := (cells5 hb').2.2.2.2.1; have hf1 := free_at hb')
        all_goals
         have HB' := hZ hb';have HWIN := hZ hwin;have HGB := hZ hgb;have HKK := hZ hkk;clear hb' hwin hgb hkk;go_wp2_with fail;have hks : Keeps (fun k => k = p) w' (w'.setCell ⟨p, 4, none⟩ (.slice (some ⟨g', off', none⟩) (j + 1) cap')) := (Keeps.refl (fun k => k = p) w').setCell (p := ⟨p, 4, none⟩) (.inl rfl) _;have hng := HWIN.out.ne HB'.out (by decide);refine ⟨⟨j + 1, by go_num, by omega, hZ ⟨?_, _, set_at HB'.out _, ?_, ?_⟩⟩, by simp [intOf]; omega⟩
         ·exact ((HKP.out.trans HKX.out (fun _ h => h.elim)).trans HKK.out (fun q e => .inr (HIOJ.out q e))).same hks
         ·rw [HTK2.out];refine WinN.toWin (n := j + 1) ?_;rw [List.map_id];exact HWIN.out.keeps hks (fun k e hk => hng (e.trans (congrArg some hk)))
         ·intro q e;cases e;rcases HGB.out with h | h
          ·exact HIOJ.out _ h
          ·exact Nat.le_trans HKP.out.size (Nat.le_trans HKX.out.size h.1)
       ·have hje : j = keys.length := by omega
        subst hje;obtain ⟨hkp, IV, hpb, hiv, hio⟩ := HJ.out;have hwp : w.heap.size ≤ p := by have := HB5.out.size; have := HPP.out; omega
        have hwg : w.heap.size ≤ g2 := Nat.le_trans HB4.out.size HKO.out.1;have hall : Keeps (fun _ => False) w wr := (((Keeps.of_below (fun _ => False) HB5.out).trans (Keeps.of_below (fun _ => False) HA6.out) (fun _ h => .inl h)).trans HKEEP7.out (fun q e => .inr (e ▸ hwg))).trans hkp (fun q e => .inr (e ▸ hwp));have hlv : vs.take keys.length = vs := List.take_of_length_le (by rw [← HVS.out, List.length_map, (sortT_perm keys).length_eq]; exact Nat.le_refl _);rw [hlv] at hiv;have hsz := object_sized (keys := keys) (l := items.drop (vals.length - keys.length)) HND.out (by rw [List.length_drop]; have := HT.out.1; have := HHN.out; omega);rw [HZ.out] at hsz;have hil := HT.out.1
        have hkv : Win 9 encS wr (.slice (some ⟨g2, off2, none⟩) keys.length cap2) (sortT keys) := HK7.out.keeps hkp (fun q e hq => by
         cases e;exact HK7.out.ne HP7.out (by decide) (congrArg some hq))
        by_cases hzw : z.within = true
        ·have HG := hZ (group_fits_object wr b keys.length p z.nodes z.bytes z.depth _ _ V vals hpb rfl rfl rfl hzw (hall.blk H.out id) (HW.out.keeps hall (fun _ _ => id)) (by omega) HHN.out)
         have hdone : ∀ w', GroupRet wr b V vals (vals.length - keys.length) 187 (.pointer (some ⟨p, 0, none⟩)) w' → ObjEnds w b V vals items keys (.returned (.tuple #[])) w' := fun w' hgr => .inr ⟨rfl, HHN.out, by
          unfold po putGroup;rw [if_neg (by have := HHN.out; omega), ← hil, hsz, if_pos hzw], by
          rw [hsz];exact ⟨wr, p, _, IV, hall.toBelow (Nat.le_refl _) (fun _ h => h.elim), hwp, hpb, hkv, fun q e => by cases e; exact hwg, by rw [HVS.out]; exact hiv, fun q e => by have := hio q e; have := HKEEP7.out.size; have := HA6.out.size; have := HB5.out.size; omega, hgr⟩⟩
         have HDONE := hZ hdone;clear hdone hkp hpb hiv hio hall hlv hsz hkv;go_wp2_with fail;refine (HG.out).mono ?_;rintro e w8 ⟨rfl, hgr⟩;have HGR := hZ hgr;clear hgr;go_wp2_with fail
         go_end0
         exact HDONE.out _ HGR.out
        ·have hzb := sumSz_bound (bytes := keysLen keys) (l := (items.drop (vals.length - keys.length)).map Tr.sized) (by intro z hz; obtain ⟨t, ht, rfl⟩ := List.mem_map.1 hz; exact HIN.out t (List.mem_of_mem_drop ht)) (by rw [List.length_map, List.length_drop]; omega) (by omega);rw [HZ.out] at hzb;have HG := hZ (group_over_object wr b keys.length p z.nodes z.bytes z.depth _ _ hpb rfl rfl rfl (by simpa using hzw) hzb.1 hzb.2.1 hzb.2.2)
         have hpo : po items keys = items := by
          unfold po putGroup;rw [if_neg (by have := HHN.out; omega), ← hil, hsz, if_neg hzw]
         have HPO := hZ hpo;have HALL := hZ (hall.toBelow (Nat.le_refl _) (fun _ h => h.elim));clear hkp hpb hiv hio hall hlv hsz hkv hpo hzb;go_wp2_with fail;refine (HG.out).mono ?_;rintro e w8 ⟨rfl, hb8⟩;have HB8 := hZ (chain HALL.out hb8);clear hb8;go_wp2_with fail;exact ⟨rfl, .inl ⟨3, rfl, HPO.out, HB8.out⟩⟩
theorem sortT_nil : sortT [] = [] := List.perm_nil.1 (sortT_perm [])
theorem besides_nil (l : List Tr) : besides [] l = [] := by unfold besides; rw [sortT_nil]; rfl
theorem sized_obj0 : (Tr.object [] []).sized = ⟨1, 0, 1⟩ := by rw [sized_object_eq]; rfl
theorem cloneKeys_none (w : World) : Calls prog 164 #[.slice none 0 0] w fun e w' => e = .returned (.slice none 0 0) ∧ w' = w := by
 have q22 : ∀ (w : World) (a : Option Addr) (n c n' c' : Nat), (binOp .eql 32 (.slice a n c) (.slice none n' c')).run prog w = .ok (.bool a.isNone) w := fun w a n c n' c' => Lib.run_eql_slice_nil w _ _ a n c n' c' underlying32
 go_enter func164, ntmps164;go_wp2_with fail;exact bodyPost_ret (v := .slice none 0 0) (by simp [results, results164, go_sem]) rfl ⟨rfl, rfl⟩
theorem object_nil (w : World) (F : Nat → Prop) (b : Nat) (V : Value) (vals : List Value) (items : List Tr) (h : w.heap[b]? = some (.cells #[V] 195 (0, 0))) (hw : Win 97 id w V vals) (ht : Trees F w vals items) (hin : ∀ t ∈ items, t.sized.within = true) (hl : items.length ≤ 65536) :
 Calls prog 222 #[.pointer (some ⟨b, 0, none⟩), .slice none 0 0] w fun e w' => ObjEnds w b V vals items [] e w' := by
 have H := hZ h;have HW := hZ hw;have HT := hZ ht;have HIN := hZ hin;have hvl := ht.1;have HTK := hZ (fun w1 (hb : Below w.heap.size w w1) => take_ok w1 b 0 V vals (keep h hb) (hw.keeps (Keeps.of_below (fun _ => False) hb) (fun _ _ => id)) (by omega) ht.oneCell (Nat.zero_le _));clear h hw ht hin;have hmk := makeMap_any w;have HA := hZ ((Below.refl w.heap.size w).alloc (Nat.le_refl _) (.map #[] 0));obtain ⟨w0, hw0⟩ : ∃ w0, w.alloc (.map #[] 0) = w0 := ⟨_, rfl⟩;rw [hw0] at hmk HA;clear hw0;go_enter func222, ntmps222;go_wp2_with fail
 go_loopw [18] (fun v wr => v = .int .i64 0 ∧ wr = w) (fun _ _ => 0)
 case atStart => exact ⟨rfl, rfl⟩
 case round =>
  obtain ⟨rfl, hwr⟩ := hrel;rw [hwr];clear hwr;go_wp2_with fail
  go_loopw [7, 29] (fun y v wr => y = .int .i64 0 ∧ v = .int .i64 0 ∧ wr = w0) (fun _ _ _ => 0)
  case atStart => exact ⟨rfl, rfl, rfl⟩
  case round =>
   obtain ⟨rfl, rfl, hwr⟩ := hrel;rw [hwr];clear hwr;go_wp2_with fail;refine (HTK.out w0 HA.out).mono ?_;rintro e w3 ⟨itemsV, rfl, hi1, hi2, hi3⟩;have hd0 : vals.drop (vals.length - 0) = [] := by rw [Nat.sub_zero, List.drop_length]
   rw [hd0] at hi1;obtain ⟨ta, tc, hti⟩ := hi1.shape;have HB3 := hZ (chain HA.out hi3);have HI3 := hZ hi1;have HS := hZ (summed_any F w3 itemsV [] [] 0 hi1 ⟨rfl, fun i v t h => by simp at h⟩ (fun t m => by simp at m) (by simp) (by decide));subst hti;clear hi1 hi2 hi3 hd0;go_wp2_with fail;refine (HS.out).mono ?_;rintro e w4 ⟨rfl, hb4⟩;have HB4 := hZ (chain HB3.out hb4);rw [show szV (sumSz 0 (([] : List Tr).map Tr.sized)) = .agg #[.int .i64 (1 : Nat), .int .i64 (0 : Nat), .int .i64 (1 : Nat)] from rfl];clear hb4;go_wp2_with fail;refine (cloneKeys_none w4).mono ?_;rintro e w5 ⟨rfl, rfl⟩;obtain ⟨p, hp⟩ : ∃ p, w5.heap.size = p := ⟨_, rfl⟩;obtain ⟨w6, hw6⟩ : ∃ w6, w5.alloc (.cells #[.int .i64 1, .int .i64 0, .int .i64 1, .slice none 0 0, .slice none 0 0] 189) = w6 := ⟨_, rfl⟩;have ha6 : Below w5.heap.size w5 w6 := by rw [← hw6]; exact (Below.refl _ _).alloc (Nat.le_refl _) _
   have hp6 : w6.heap[p]? = some (.cells #[.int .i64 1, .int .i64 0, .int .i64 1, .slice none 0 0, .slice none 0 0] 189 (0, 0)) := by rw [← hw6, ← hp]; exact heap_alloc_new w5 _
   have HP6 := hZ hp6;have HB6 := hZ (chain HB4.out ha6);have HWP := hZ (show w.heap.size ≤ p by rw [← hp]; exact HB4.out.size);have hc3 : w6.cell? ⟨p, 3, none⟩ = some (.slice none 0 0) := by rw [cell_at hp6]; rfl
   have hf6 : ∀ o, w6.frozen? ⟨p, o, none⟩ = false := free_at hp6;have HG := hZ (group_fits_object w6 b 0 p 1 0 1 _ _ V vals hp6 rfl rfl rfl (by decide) ((Keeps.of_below (fun _ => False) HB6.out).blk H.out id) (HW.out.keeps (Keeps.of_below (fun _ => False) HB6.out) (fun _ _ => id)) (by omega) (Nat.zero_le _))
   have hdone : ∀ w', GroupRet w6 b V vals (vals.length - 0) 187 (.pointer (some ⟨p, 0, none⟩)) w' → ObjEnds w b V vals items [] (.returned (.tuple #[])) w' := fun w' hgr => .inr ⟨rfl, Nat.zero_le _, by
    have h0 : (Tr.object (sortT []) (besides [] (items.drop (items.length - 0)))).sized.within = true := by rw [sortT_nil, besides_nil, sized_obj0]; rfl
    have hl0 : ([] : List (List UInt8)).length = 0 := rfl;unfold po putGroup;rw [hl0, if_neg (Nat.not_lt_zero _), if_pos h0, hvl], by
    rw [sortT_nil, besides_nil, sized_obj0];exact ⟨w6, p, .slice none 0 0, .slice none 0 0, HB6.out, HWP.out, HP6.out, by rw [sortT_nil]; exact .nil _ _ _, fun q e => (by cases e), by rw [sortT_nil]; exact .nil _ _ _, fun q e => (by cases e), hgr⟩⟩
   have HDONE := hZ hdone;clear hp6 ha6 hdone;go_wp2_with fail
   try rw [hw6]
   refine (sort_nil w6).mono ?_;rintro e w7 ⟨rfl, rfl⟩
   try rw [hp]
   go_wp2_with fail
   go_loopw [72] (fun v wr => v = .int .i64 0 ∧ wr = w7) (fun _ _ => 0)
   case atStart => exact ⟨rfl, rfl⟩
   case round =>
    obtain ⟨rfl, hwr⟩ := hrel;rw [hwr];clear hwr;go_wp2_with fail;refine (HG.out).mono ?_;rintro e w8 ⟨rfl, hgr⟩;have HGR := hZ hgr;clear hgr;go_wp2_with fail
    go_end0
    exact HDONE.out _ HGR.out
theorem object_any (w : World) (F : Nat → Prop) (b : Nat) (kv : Value) (V : Value) (vals : List Value) (items : List Tr) (keys : List (List UInt8)) (h : w.heap[b]? = some (.cells #[V] 195 (0, 0))) (hw : Win 97 id w V vals) (ht : Trees F w vals items) (hin : ∀ t ∈ items, t.sized.within = true) (hl : items.length ≤ 65536)
 (hkw : Win 9 encS w kv keys) (hz : keys = [] → kv = .slice none 0 0) (hkr : RightKeys keys) (hnd : keys.Nodup) (hkl : keysLen keys ≤ 2097152) (hkn : keys.length ≤ 4194304) :
 Calls prog 222 #[.pointer (some ⟨b, 0, none⟩), kv] w fun e w' => ObjEnds w b V vals items keys e w' := by
 by_cases h0 : keys = []
 ·rw [hz h0, h0];exact object_nil w F b V vals items h hw ht hin hl
 ·rcases hkw with ⟨_, e⟩ | ⟨g, off, cap, cur, rfl, hg, hc, ho, hm, hi⟩
  ·exact absurd e h0
  ·exact object_some w F b g off cap V vals items keys h hw ht hin hl (.inr ⟨g, off, cap, cur, rfl, hg, hc, ho, hm, hi⟩) hkr hnd hkl hkn h0
theorem count_le_len : ∀ (l : List (List UInt8)) (a : Nat), l.length + a ≤ l.foldl (fun a k => a + k.length) a + l.count []
 | [], a => by simp
 | x :: l, a => by
  have h := count_le_len l (a + x.length);rw [List.foldl_cons, List.length_cons, List.count_cons];cases x with
  | nil => simp at h ⊢; omega
  | cons y ys => simp at h ⊢; omega
theorem nodup_len {keys : List (List UInt8)} (h : keys.Nodup) : keys.length ≤ keysLen keys + 1 := by
 have h1 := count_le_len keys 0;have h2 : keys.count [] ≤ 1 := List.nodup_iff_count.1 h [];unfold keysLen;omega
theorem used_object (w : World) (a : Option Addr) (n c : Nat) : Calls prog 213 #[.agg #[.int .i64 6, .bool false, .int .u64 0, .string ⟨#[]⟩, .int .i64 0, .slice a n c]] w fun e w' => e = .returned (.bool true) ∧ Below w.heap.size w w' := by
 have hb : (((n : Nat) : Int) == 0) = true ∨ (((n : Nat) : Int) == 0) = false := by cases h : (((n : Nat) : Int) == 0) <;> simp
 rcases hb with hb | hb
 all_goals
  go_enter func213, ntmps213;go_wp2;go_ret;exact ⟨rfl, (Below.refl _ _).alloc (Nat.le_refl _) _⟩
def ObjDoneR (w : World) (b : Nat) (V : Value) (vals : List Value) (keys : List (List UInt8)) (z : Sz) (w' : World) : Prop :=
 ∃ (w4 : World) (R p : Nat) (KV IV : Value), Below w.heap.size w w4 ∧ w.heap.size ≤ R ∧ w4.heap[R]? = some (.cells #[.nilIface] 26 (0, 0)) ∧ w.heap.size ≤ p ∧ w4.heap[p]? = some (.cells #[.int .i64 z.nodes, .int .i64 z.bytes, .int .i64 z.depth, KV, IV] 189 (0, 0)) ∧
  Win 9 encS w4 KV (sortT keys) ∧ (∀ q, KV.ownBlock = some q → w.heap.size ≤ q) ∧
  Win 97 id w4 IV ((sortT keys).map fun k => (vals.drop (vals.length - keys.length)).getD (keys.idxOf k) .nilIface) ∧ (∀ q, IV.ownBlock = some q → w.heap.size ≤ q) ∧
  GroupR w4 b V vals (vals.length - keys.length) 187 (.pointer (some ⟨p, 0, none⟩)) R w'
theorem ObjDoneR.lift {w w1 w' : World} {b : Nat} {V : Value} {vals : List Value} {keys : List (List UInt8)} {z : Sz} (hb : Below w.heap.size w w1) (h : ObjDoneR w1 b V vals keys z w') : ObjDoneR w b V vals keys z w' := by
 obtain ⟨w4, R, p, KV, IV, h1, h2, h3, h4, h5, h6, h7, h8, h9, h10⟩ := h;exact ⟨w4, R, p, KV, IV, hb.trans (h1.mono hb.size), Nat.le_trans hb.size h2, h3, Nat.le_trans hb.size h4, h5, h6, fun q e => Nat.le_trans hb.size (h7 q e), h8, fun q e => Nat.le_trans hb.size (h9 q e), h10⟩
def ObjRet (w : World) (b : Nat) (V : Value) (vals : List Value) (items : List Tr) (keys : List (List UInt8)) (w' : World) : Prop :=
 (po items keys = items ∧ Below w.heap.size w w') ∨
  (keys.length ≤ vals.length ∧ po items keys = items.take (vals.length - keys.length) ++ [.object (sortT keys) (besides keys (items.drop (vals.length - keys.length)))] ∧
   ObjDoneR w b V vals keys (Tr.object (sortT keys) (besides keys (items.drop (vals.length - keys.length)))).sized w')
theorem do_object (w : World) (F : Nat → Prop) (b n c : Nat) (a : Option Addr) (V : Value) (vals : List Value) (items : List Tr) (keys : List (List UInt8)) (h : w.heap[b]? = some (.cells #[V] 195 (0, 0))) (hw : Win 97 id w V vals) (ht : Trees F w vals items) (hin : ∀ t ∈ items, t.sized.within = true) (hl : items.length ≤ 65536)
 (hkw : Win 9 encS w (.slice a n c) keys) (hz : keys = [] → (Value.slice a n c) = .slice none 0 0) (hkr : RightKeys keys) (hnd : keys.Nodup) (hkl : keysLen keys ≤ 2097152) :
 Calls prog 196 #[.pointer (some ⟨b, 0, none⟩), .agg #[.int .i64 6, .bool false, .int .u64 0, .string ⟨#[]⟩, .int .i64 0, .slice a n c]] w fun e w' => (∃ v, e = .returned v) ∧ ObjRet w b V vals items keys w' := by
 have hmf : ∀ (fn : Fn) (first cap : Array Value) (w : World), (Instr.makeFunc fn first cap).run prog w = .ok (.func fn first cap) w := fun _ _ _ _ => rfl
 have HU := hZ (fun w => used_object w a n c);have HV := hZ (fun k (e : V.ownBlock = some k) => hw.lt e);have hb0 := lt_of_block h;have HO := hZ (fun w' (hb : Below w.heap.size w w') => object_any w' F b (.slice a n c) V vals items keys (keep h hb) (hw.keeps (Keeps.of_below (fun _ => False) hb) (fun _ _ => id)) (ht.keeps (Keeps.of_below (fun _ => False) hb) (fun _ _ => id)) hin hl (hkw.keeps (Keeps.of_below (fun _ => False) hb) (fun _ _ => id)) hz hkr hnd hkl (by have := nodup_len hnd; omega));clear h hw ht hin hl hkw hz hkr hnd hkl
 go_enter_defers func196, ntmps196
 go_wp2_with fail;refine (HU.out _).mono ?_;rintro e w1 ⟨rfl, hb1⟩;obtain ⟨g1, g2, hbw, hsz⟩ := after2 hb1;obtain ⟨q0, q1, q2, q3, q4, q5, qf⟩ := cells6 g1;have G2 := hZ g2;have HBW := hZ hbw;clear hb1 g1 g2 hbw;go_wp2_with fail;refine (refuse_no _ 2).mono ?_;rintro e w2 ⟨rfl, rfl⟩;go_wp2_with fail;refine (HO.out _ HBW.out).mono ?_;rintro e w3 hends;rcases hends with ⟨no, rfl, hpo, hb3⟩ | ⟨rfl, hle, hpo, hdone⟩
 ·have GE := hZ (keep G2.out hb3);have HBE := hZ (chain HBW.out hb3);have HPO := hZ hpo;clear hb3 hpo q0 q1 q2 q3 q4 q5 qf;go_wp2_with fail;refine leaves_cons (f := 211) (args := #[.pointer (some ⟨w.heap.size + 1, 0, none⟩)]) (by simp) (by simp [go_sem]) ?_;refine (doCatch_errno ⟨w.heap.size + 1, 0, none⟩ .nilIface no [] _ (cell_of_one GE.out) (free_of_one GE.out)).mono ?_;rintro e u' w'' ⟨rfl, rfl, rfl⟩;have hcs : (w3.setCell ⟨w.heap.size + 1, 0, none⟩ (.iface 29 (.int .i64 no))).cell? ⟨w.heap.size + 1, 0, none⟩ = some (.iface 29 (.int .i64 no)) := by rw [cell_at (set_at GE.out _)]; rfl
  have hend : ObjRet w b V vals items keys (w3.setCell ⟨w.heap.size + 1, 0, none⟩ (.iface 29 (.int .i64 no))) := .inl ⟨HPO.out, HBE.out.setCell (p := ⟨w.heap.size + 1, 0, none⟩) (Nat.le_succ _) _⟩;simp [Leaves, settle, results, results196, go_sem, hcs];exact hend
 ·obtain ⟨w4, p, KV, IV, hb4, hp, hpb, hk, hko, hi, hio, hgr⟩ := hdone;obtain ⟨r0, rf, hgr2, rc⟩ := GroupRet.close (w := w) (R := w.heap.size + 1) (Nat.le_succ _) (keep G2.out hb4) HV.out hb0 hgr .nilIface
  have hend : ObjRet w b V vals items keys (w3.setCell ⟨w.heap.size + 1, 0, none⟩ .nilIface) :=
   .inr ⟨hle, hpo, w4, _, p, KV, IV, chain HBW.out hb4, Nat.le_succ _, keep G2.out hb4, Nat.le_trans HBW.out.size hp, hpb, hk, fun q e => Nat.le_trans HBW.out.size (hko q e), hi, fun q e => Nat.le_trans HBW.out.size (hio q e), hgr2⟩
  have HEND := hZ hend;clear hb4 hp hpb hk hko hi hio hgr hgr2 hend hpo hle q0 q1 q2 q3 q4 q5 qf;go_wp2_with fail;refine leaves_cons (f := 211) (args := #[.pointer (some ⟨w.heap.size + 1, 0, none⟩)]) (by simp) (by simp [go_sem]) ?_;refine (doCatch_idle ⟨w.heap.size + 1, 0, none⟩ _).mono ?_;rintro e u' w'' ⟨rfl, rfl, rfl⟩;have hend := HEND.out;simp [Leaves, settle, results, results196, go_sem, rc];exact hend
theorem ObjDoneR.maker {F : Nat → Prop} {w w' : World} {mb : Nat} {V : Value} {vals : List Value} {items : List Tr} {keys : List (List UInt8)} {z : Sz} (hF : F mb) (hlt : ∀ k, F k → k < w.heap.size) (hw : WinIn F 97 id w V vals) (ht : Trees (fun k => F k ∧ k ≠ mb ∧ V.ownBlock ≠ some k) w vals items)
 (hle : keys.length ≤ vals.length) (hz : z = (Tr.object (sortT keys) (besides keys (items.drop (vals.length - keys.length)))).sized) (h : ObjDoneR w mb V vals keys z w') :
 Keeps F w w' ∧ MakerAt (Since F w w') w' mb (items.take (vals.length - keys.length) ++ [.object (sortT keys) (besides keys (items.drop (vals.length - keys.length)))]) := by
 obtain ⟨w4, R, p, KV, IV, hb, hR, hr, hp, hpb, hkw, hko, hi, hio, g, off, cap, h1, h2, h3, h4⟩ := h;have hVlt : ∀ q, V.ownBlock = some q → q < w.heap.size := fun q e => hlt q (hw.2 q e)
 have hk : Keeps F w w' := (Keeps.of_below F hb).trans h4 (fun q e => by
  rcases e with e | e | e
  ·exact .inl (e ▸ hF)
  ·exact .inl (hw.2 q e)
  ·exact .inr (e ▸ hR))
 have hmb := hlt mb hF
 have hpn : ¬ (p = mb ∨ V.ownBlock = some p ∨ p = R) := by
  rintro (e | e | e)
  ·omega
  ·have := hVlt p e; omega
  ·rw [e, hr] at hpb;cases hpb
 have hpb' := h4.blk hpb hpn
 have hgp : g ≠ p := fun e => by
  obtain ⟨c, hc⟩ := h2.typed rfl;rw [e, hpb'] at hc;cases hc
 have hgl : ∀ q, q < w4.heap.size → V.ownBlock ≠ some q → g ≠ q := fun q hq hn e => by
  rcases h3 with h3 | h3
  ·exact hn (e ▸ h3)
  ·omega
 have hds : (vals.drop (vals.length - keys.length)).length = keys.length := by rw [List.length_drop]; omega
 refine ⟨hk, .inl hF, since_lt hlt hk.size, _, _, h1, ⟨h2, ?_⟩, ?_⟩
 ·intro q e;cases e;exact h3.elim (fun e => .inl (hw.2 _ e)) (fun hle => .inr ⟨Nat.le_trans hb.size hle, h2.lt rfl⟩)
 ·have hold : ∀ q, (F q ∧ q ≠ mb ∧ V.ownBlock ≠ some q) → Since F w w' q ∧ q ≠ mb ∧ (Value.slice (some ⟨g, off, none⟩) (vals.length - keys.length + 1) cap).ownBlock ≠ some q := fun q h => ⟨.inl h.1, h.2.1, fun e => by
   cases e;exact hgl g (Nat.lt_of_lt_of_le (hlt g h.1) hb.size) h.2.2 rfl⟩
  have htk := (ht.keeps (Keeps.of_below (fun _ => False) hb) (fun _ _ => id)).keeps h4 (fun q h => by
   rintro (e | e | e)
   ·exact h.2.1 e
   ·exact h.2.2 e
   ·have := hlt q h.1; omega)
  have hwin : ∀ {α : Type} {e : Nat} {enc : α → Value} {v : Value} {l : List α}, 26 ≠ e → Win e enc w4 v l → (∀ q, v.ownBlock = some q → w.heap.size ≤ q) → WinIn (fun k => Since F w w' k ∧ k ≠ mb ∧ (Value.slice (some ⟨g, off, none⟩) (vals.length - keys.length + 1) cap).ownBlock ≠ some k) e enc w' v l := by
   intro α e enc v l hne hv hvo;refine ⟨hv.keeps h4 ?_, ?_⟩
   ·intro q e;rintro (e2 | e2 | e2)
    ·have := hvo q e; omega
    ·have := hVlt q e2; have := hvo q e; omega
    ·exact hv.ne hr hne (e.trans (congrArg some e2))
   ·intro q e;have hq4 := hv.lt e;have hq := hvo q e;exact ⟨.inr ⟨hq, Nat.lt_of_lt_of_le hq4 h4.size⟩, by omega, fun e2 => hgl q hq4 (fun e3 => by have := hVlt q e3; omega) (by cases e2; rfl)⟩
  refine Trees.snoc ((htk.take (vals.length - keys.length)).mono hold) ?_;subst hz;refine .object p KV IV ((sortT keys).map fun k => (vals.drop (vals.length - keys.length)).getD (keys.idxOf k) .nilIface) (sortT keys) (besides keys (items.drop (vals.length - keys.length))) ⟨.inr ⟨hp, lt_of_block hpb'⟩, by omega, fun e => hgp (by cases e; rfl)⟩ hpb' (hwin (by decide) hkw hko) (hwin (by decide) hi hio) (by unfold besides; simp) ?_;intro i v t hv hti;have hdr := (htk.drop (vals.length - keys.length)).mono hold;unfold besides at hti;rw [List.getElem?_map] at hv hti;cases hki : (sortT keys)[i]? with
  | none => rw [hki] at hv; cases hv
  | some k =>
   rw [hki] at hv hti;simp only [Option.map_some, Option.some.injEq] at hv hti;have hkm : k ∈ keys := (sortT_perm keys).mem_iff.1 (List.mem_of_getElem? hki);have hix : keys.idxOf k < keys.length := List.idxOf_lt_length_of_mem hkm
   have h5 : (vals.drop (vals.length - keys.length))[keys.idxOf k]? = some v := by
    rw [← hv, List.getD_eq_getElem?_getD, List.getElem?_eq_getElem (by rw [hds]; exact hix)];rfl
   have h6 : (items.drop (vals.length - keys.length))[keys.idxOf k]? = some t := by
    rw [← hti, List.getD_eq_getElem?_getD, List.getElem?_eq_getElem (by have := hdr.1; omega)];rfl
   exact hdr.2 _ v t h5 h6
theorem object_step (w : World) (b n c : Nat) (a : Option Addr) (V : Value) (h : w.heap[b]? = some (.cells #[V] 195 (0, 0))) (P : World → World → Prop) (HD : Hid (∀ w1, Below w.heap.size w w1 → Calls prog 196 #[.pointer (some ⟨b, 0, none⟩), .agg #[.int .i64 6, .bool false, .int .u64 0, .string ⟨#[]⟩, .int .i64 0, .slice a n c]] w1 fun e w' => (∃ v, e = .returned v) ∧ P w1 w')) :
 Calls prog 175 #[.pointer (some ⟨b, 0, none⟩), .agg #[.int .i64 6, .bool false, .int .u64 0, .string ⟨#[]⟩, .int .i64 0, .slice a n c]] w fun e w' => (∃ v, e = .returned v) ∧ ∃ w1, Below w.heap.size w w1 ∧ P w1 w' := by
 have hal : Below w.heap.size w (w.alloc (.cells #[.int .i64 6, .bool false, .int .u64 0, .string ⟨#[]⟩, .int .i64 0, .slice a n c] 147)) := (Below.refl _ _).alloc (Nat.le_refl _) _;obtain ⟨q0, q1, q2, q3, q4, q5, qf⟩ := cells6 (heap_alloc_new w (.cells #[.int .i64 6, .bool false, .int .u64 0, .string ⟨#[]⟩, .int .i64 0, .slice a n c] 147));have hc := cell_of_one h;have hb0 := lt_of_block h;have HAL := hZ hal;clear hal h;go_enter func175, ntmps175;go_wp2_with fail
 go_region_with (go_at_call 196; refine (HD.out _ HAL.out.drew).mono ?_; rintro e w2 ⟨⟨v, rfl⟩, hp⟩)
 all_goals
  have HP := hZ hp;clear hp;go_wp2_with fail;go_ret;exact ⟨⟨_, rfl⟩, _, HAL.out.drew, HP.out⟩
theorem object_call (w : World) (b n c : Nat) (a : Option Addr) (V : Value) (h : w.heap[b]? = some (.cells #[V] 195 (0, 0))) (P : World → World → Prop) (HD : Hid (∀ w1, Below w.heap.size w w1 → Calls prog 196 #[.pointer (some ⟨b, 0, none⟩), .agg #[.int .i64 6, .bool false, .int .u64 0, .string ⟨#[]⟩, .int .i64 0, .slice a n c]] w1 fun e w' => (∃ v, e = .returned v) ∧ P w1 w')) :
 Calls prog 174 #[.pointer (some ⟨b, 0, none⟩), .slice a n c] w fun e w' => (∃ v, e = .returned v) ∧ ∃ w1, Below w.heap.size w w1 ∧ P w1 w' := by
 have HS := hZ (object_step w b n c a V h P HD);clear HD h;go_enter func174, ntmps174;go_wp2_with fail;refine (HS.out).mono ?_;rintro e w2 ⟨⟨v, rfl⟩, hp⟩;have HP := hZ hp;clear hp;go_wp2_with fail;go_ret;exact ⟨⟨_, rfl⟩, HP.out⟩
theorem maker_object (F : Nat → Prop) (w : World) (mb n c : Nat) (a : Option Addr) (items : List Tr) (keys : List (List UInt8)) (h : MakerAt F w mb items) (hin : ∀ t ∈ items, t.sized.within = true) (hl : items.length ≤ 65536)
 (hkw : Win 9 encS w (.slice a n c) keys) (hz : keys = [] → (Value.slice a n c) = .slice none 0 0) (hkr : RightKeys keys) (hnd : keys.Nodup) (hkl : keysLen keys ≤ 2097152) :
 Calls prog 174 #[.pointer (some ⟨mb, 0, none⟩), .slice a n c] w fun e w' => (∃ v, e = .returned v) ∧ Keeps F w w' ∧ MakerAt (Since F w w') w' mb (po items keys) := by
 have h0 := h;obtain ⟨hF, hlt, V, vals, hb, hw, ht⟩ := h;have hsame : ∀ w', Below w.heap.size w w' → Keeps F w w' ∧ MakerAt (Since F w w') w' mb items := fun w' hbl => ⟨Keeps.of_below F hbl, (h0.apart (Keeps.of_below (fun _ => False) hbl) (fun _ _ => id)).mono (fun k hk => .inl hk) (since_lt hlt hbl.size)⟩
 have hwk : ∀ w1, Below w.heap.size w w1 → Win 97 id w1 V vals := fun w1 hb1 => hw.1.keeps (Keeps.of_below (fun _ => False) hb1) (fun _ _ => id)
 refine (object_call w mb n c a V hb (fun w1 w' => ObjRet w1 mb V vals items keys w') (hZ fun w1 hb1 => do_object w1 _ mb n c a V vals items keys (keep hb hb1) (hwk w1 hb1) (ht.keeps (Keeps.of_below (fun _ => False) hb1) (fun _ _ => id)) hin hl (hkw.keeps (Keeps.of_below (fun _ => False) hb1) (fun _ _ => id)) hz hkr hnd hkl)).mono ?_;rintro e w' ⟨hv, w1, hb1, hret⟩;rcases hret with ⟨hpo, hb2⟩ | ⟨hle, hpo, hd⟩
 ·rw [hpo];exact ⟨hv, hsame _ (chain hb1 hb2)⟩
 ·rw [hpo];exact ⟨hv, (hd.lift hb1).maker hF hlt hw ht hle rfl⟩
end Go.Proofs.YtakkmiomhackiaaGreatDoor
