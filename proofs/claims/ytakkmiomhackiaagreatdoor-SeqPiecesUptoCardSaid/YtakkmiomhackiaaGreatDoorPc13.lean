/-
  The program, one part of its walk: Lx3, Wn, Dc5. Conditions: none.
-/
import Derived.Test.YtakkmiomhackiaaGreatDoorPc11
import Derived.Test.YtakkmiomhackiaaGreatDoorPc03
import Derived.Deep.Upon
import Derived.Test.YtakkmiomhackiaaGreatDoorPc08
set_option linter.all false
set_option maxRecDepth 100000
set_option maxHeartbeats 16000000
namespace Go.Proofs.YtakkmiomhackiaaGreatDoor
open Go.RowKit
theorem numEnds_any (s : Nat) (hs : s ≤ 8) (w : World) : Calls Tryz.prog 109 #[.int .i64 (s : Int)] w fun e w' => e = .returned (.bool (numEnds s)) ∧ w' = w := by
 have hc : s = 0 ∨ s = 1 ∨ s = 2 ∨ s = 3 ∨ s = 4 ∨ s = 5 ∨ s = 6 ∨ s = 7 ∨ s = 8 := by omega
 rcases hc with rfl | rfl | rfl | rfl | rfl | rfl | rfl | rfl | rfl
 ·rw [show numEnds 0 = false from rfl];simp only [Int.natCast_zero, Int.natCast_one, Int.cast_ofNat_Int];go_enter Tryz.func109, Tryz.ntmps109;go_wp2;go_ret;exact ⟨rfl, rfl⟩
 ·rw [show numEnds 1 = false from rfl];simp only [Int.natCast_zero, Int.natCast_one, Int.cast_ofNat_Int];go_enter Tryz.func109, Tryz.ntmps109;go_wp2;go_ret;exact ⟨rfl, rfl⟩
 ·rw [show numEnds 2 = true from rfl];simp only [Int.natCast_zero, Int.natCast_one, Int.cast_ofNat_Int];go_enter Tryz.func109, Tryz.ntmps109;go_wp2;go_ret;exact ⟨rfl, rfl⟩
 ·rw [show numEnds 3 = true from rfl];simp only [Int.natCast_zero, Int.natCast_one, Int.cast_ofNat_Int];go_enter Tryz.func109, Tryz.ntmps109;go_wp2;go_ret;exact ⟨rfl, rfl⟩
 ·rw [show numEnds 4 = false from rfl];simp only [Int.natCast_zero, Int.natCast_one, Int.cast_ofNat_Int];go_enter Tryz.func109, Tryz.ntmps109;go_wp2;go_ret;exact ⟨rfl, rfl⟩
 ·rw [show numEnds 5 = true from rfl];simp only [Int.natCast_zero, Int.natCast_one, Int.cast_ofNat_Int];go_enter Tryz.func109, Tryz.ntmps109;go_wp2;go_ret;exact ⟨rfl, rfl⟩
 ·rw [show numEnds 6 = false from rfl];simp only [Int.natCast_zero, Int.natCast_one, Int.cast_ofNat_Int];go_enter Tryz.func109, Tryz.ntmps109;go_wp2;go_ret;exact ⟨rfl, rfl⟩
 ·rw [show numEnds 7 = false from rfl];simp only [Int.natCast_zero, Int.natCast_one, Int.cast_ofNat_Int];go_enter Tryz.func109, Tryz.ntmps109;go_wp2;go_ret;exact ⟨rfl, rfl⟩
 ·rw [show numEnds 8 = true from rfl];simp only [Int.natCast_zero, Int.natCast_one, Int.cast_ofNat_Int];go_enter Tryz.func109, Tryz.ntmps109;go_wp2;go_ret;exact ⟨rfl, rfl⟩
theorem blank_any (c : UInt8) (w : World) : Calls Tryz.prog 134 #[.int .u8 ((c.toNat : Nat) : Int)] w fun e w' => e = .returned (.bool (isBlank c)) ∧ w' = w := by
 by_cases h32 : c = 32
 ·have hn : isBlank c = true := by rw [h32]; rfl
  have HN := Lib.hid hn;have hv : ((c.toNat : Nat) : Int) = 32 := by rw [h32]; rfl
  clear hn h32;go_enter Tryz.func134, Tryz.ntmps134;go_wp2;go_ret;exact ⟨by rw [HN.out]; rfl, rfl⟩
 by_cases h9 : c = 9
 ·have hn : isBlank c = true := by rw [h9]; rfl
  have HN := Lib.hid hn;have hv : ((c.toNat : Nat) : Int) = 9 := by rw [h9]; rfl
  clear hn h32 h9;go_enter Tryz.func134, Tryz.ntmps134;go_wp2;go_ret;exact ⟨by rw [HN.out]; rfl, rfl⟩
 by_cases h10 : c = 10
 ·have hn : isBlank c = true := by rw [h10]; rfl
  have HN := Lib.hid hn;have hv : ((c.toNat : Nat) : Int) = 10 := by rw [h10]; rfl
  clear hn h32 h9 h10;go_enter Tryz.func134, Tryz.ntmps134;go_wp2;go_ret;exact ⟨by rw [HN.out]; rfl, rfl⟩
 by_cases h13 : c = 13
 ·have hn : isBlank c = true := by rw [h13]; rfl
  have HN := Lib.hid hn;have hv : ((c.toNat : Nat) : Int) = 13 := by rw [h13]; rfl
  clear hn h32 h9 h10 h13;go_enter Tryz.func134, Tryz.ntmps134;go_wp2;go_ret;exact ⟨by rw [HN.out]; rfl, rfl⟩
 have hn : isBlank c = false := by simp [isBlank, h32, h9, h10, h13]
 have HN := Lib.hid hn;obtain ⟨n32, m32, k32⟩ := byte_ne3 (c := c) (n := 32) h32 rfl;obtain ⟨n9, m9, k9⟩ := byte_ne3 (c := c) (n := 9) h9 rfl;obtain ⟨n10, m10, k10⟩ := byte_ne3 (c := c) (n := 10) h10 rfl;obtain ⟨n13, m13, k13⟩ := byte_ne3 (c := c) (n := 13) h13 rfl;clear hn h32 h9 h10 h13;go_enter Tryz.func134, Tryz.ntmps134;go_wp2;go_ret;exact ⟨by rw [HN.out]; rfl, rfl⟩
theorem lexWord_any (c : UInt8) (w : World) : Calls Tryz.prog 140 #[.int .u8 ((c.toNat : Nat) : Int)] w fun e w' => e = .returned (.string ⟨(wordOf c).toArray⟩) ∧ w' = w := by
 by_cases h110 : c = 110
 ·have hn : wordOf c = [110, 117, 108, 108] := by rw [h110]; rfl
  have HN := Lib.hid hn;have hv : ((c.toNat : Nat) : Int) = 110 := by rw [h110]; rfl
  clear hn h110;go_enter Tryz.func140, Tryz.ntmps140;go_wp2;go_ret;exact ⟨by rw [HN.out]; rfl, rfl⟩
 by_cases h116 : c = 116
 ·have hn : wordOf c = [116, 114, 117, 101] := by rw [h116]; rfl
  have HN := Lib.hid hn;have hv : ((c.toNat : Nat) : Int) = 116 := by rw [h116]; rfl
  clear hn h110 h116;go_enter Tryz.func140, Tryz.ntmps140;go_wp2;go_ret;exact ⟨by rw [HN.out]; rfl, rfl⟩
 by_cases h102 : c = 102
 ·have hn : wordOf c = [102, 97, 108, 115, 101] := by rw [h102]; rfl
  have HN := Lib.hid hn;have hv : ((c.toNat : Nat) : Int) = 102 := by rw [h102]; rfl
  clear hn h110 h116 h102;go_enter Tryz.func140, Tryz.ntmps140;go_wp2;go_ret;exact ⟨by rw [HN.out]; rfl, rfl⟩
 have hn : wordOf c = [] := by simp [wordOf, h110, h116, h102]
 have HN := Lib.hid hn;obtain ⟨n110, m110, k110⟩ := byte_ne3 (c := c) (n := 110) h110 rfl;obtain ⟨n116, m116, k116⟩ := byte_ne3 (c := c) (n := 116) h116 rfl;obtain ⟨n102, m102, k102⟩ := byte_ne3 (c := c) (n := 102) h102 rfl;clear hn h110 h116 h102;go_enter Tryz.func140, Tryz.ntmps140;go_wp2;go_ret;exact ⟨by rw [HN.out]; rfl, rfl⟩
def saidRet (o : Option UInt8) (e : Ending) : Prop := match o with
 | some b => e = .returned (.tuple #[.int .u8 ((b.toNat : Nat) : Int), .bool true])
 | none => e = .returned (.tuple #[.int .u8 0, .bool false])
theorem said_any (c : UInt8) (w : World) : Calls Tryz.prog 189 #[.int .u8 ((c.toNat : Nat) : Int)] w fun e w' => saidRet (saidOf c) e ∧ w' = w := by
 by_cases h34 : c = 34
 ·have hn : saidOf c = some 34 := by rw [h34]; rfl
  have HN := Lib.hid hn;have hv : ((c.toNat : Nat) : Int) = 34 := by rw [h34]; rfl
  clear hn h34;go_enter Tryz.func189, Tryz.ntmps189;go_wp2;exact bodyPost_ret (v := .tuple #[.int .u8 34, .bool true]) (by simp [results, Tryz.results189, go_sem, hv]) rfl ⟨by rw [HN.out]; rfl, rfl⟩
 by_cases h92 : c = 92
 ·have hn : saidOf c = some 92 := by rw [h92]; rfl
  have HN := Lib.hid hn;have hv : ((c.toNat : Nat) : Int) = 92 := by rw [h92]; rfl
  clear hn h34 h92;go_enter Tryz.func189, Tryz.ntmps189;go_wp2;exact bodyPost_ret (v := .tuple #[.int .u8 92, .bool true]) (by simp [results, Tryz.results189, go_sem, hv]) rfl ⟨by rw [HN.out]; rfl, rfl⟩
 by_cases h47 : c = 47
 ·have hn : saidOf c = some 47 := by rw [h47]; rfl
  have HN := Lib.hid hn;have hv : ((c.toNat : Nat) : Int) = 47 := by rw [h47]; rfl
  clear hn h34 h92 h47;go_enter Tryz.func189, Tryz.ntmps189;go_wp2;exact bodyPost_ret (v := .tuple #[.int .u8 47, .bool true]) (by simp [results, Tryz.results189, go_sem, hv]) rfl ⟨by rw [HN.out]; rfl, rfl⟩
 by_cases h98 : c = 98
 ·have hn : saidOf c = some 8 := by rw [h98]; rfl
  have HN := Lib.hid hn;have hv : ((c.toNat : Nat) : Int) = 98 := by rw [h98]; rfl
  clear hn h34 h92 h47 h98;go_enter Tryz.func189, Tryz.ntmps189;go_wp2;exact bodyPost_ret (v := .tuple #[.int .u8 8, .bool true]) (by simp [results, Tryz.results189, go_sem, hv]) rfl ⟨by rw [HN.out]; rfl, rfl⟩
 by_cases h102 : c = 102
 ·have hn : saidOf c = some 12 := by rw [h102]; rfl
  have HN := Lib.hid hn;have hv : ((c.toNat : Nat) : Int) = 102 := by rw [h102]; rfl
  clear hn h34 h92 h47 h98 h102;go_enter Tryz.func189, Tryz.ntmps189;go_wp2;exact bodyPost_ret (v := .tuple #[.int .u8 12, .bool true]) (by simp [results, Tryz.results189, go_sem, hv]) rfl ⟨by rw [HN.out]; rfl, rfl⟩
 by_cases h110 : c = 110
 ·have hn : saidOf c = some 10 := by rw [h110]; rfl
  have HN := Lib.hid hn;have hv : ((c.toNat : Nat) : Int) = 110 := by rw [h110]; rfl
  clear hn h34 h92 h47 h98 h102 h110;go_enter Tryz.func189, Tryz.ntmps189;go_wp2;exact bodyPost_ret (v := .tuple #[.int .u8 10, .bool true]) (by simp [results, Tryz.results189, go_sem, hv]) rfl ⟨by rw [HN.out]; rfl, rfl⟩
 by_cases h114 : c = 114
 ·have hn : saidOf c = some 13 := by rw [h114]; rfl
  have HN := Lib.hid hn;have hv : ((c.toNat : Nat) : Int) = 114 := by rw [h114]; rfl
  clear hn h34 h92 h47 h98 h102 h110 h114;go_enter Tryz.func189, Tryz.ntmps189;go_wp2;exact bodyPost_ret (v := .tuple #[.int .u8 13, .bool true]) (by simp [results, Tryz.results189, go_sem, hv]) rfl ⟨by rw [HN.out]; rfl, rfl⟩
 by_cases h116 : c = 116
 ·have hn : saidOf c = some 9 := by rw [h116]; rfl
  have HN := Lib.hid hn;have hv : ((c.toNat : Nat) : Int) = 116 := by rw [h116]; rfl
  clear hn h34 h92 h47 h98 h102 h110 h114 h116;go_enter Tryz.func189, Tryz.ntmps189;go_wp2;exact bodyPost_ret (v := .tuple #[.int .u8 9, .bool true]) (by simp [results, Tryz.results189, go_sem, hv]) rfl ⟨by rw [HN.out]; rfl, rfl⟩
 have hn : saidOf c = none := by simp [saidOf, h34, h92, h47, h98, h102, h110, h114, h116]
 have HN := Lib.hid hn;obtain ⟨n34, m34, k34⟩ := byte_ne3 (c := c) (n := 34) h34 rfl;obtain ⟨n92, m92, k92⟩ := byte_ne3 (c := c) (n := 92) h92 rfl;obtain ⟨n47, m47, k47⟩ := byte_ne3 (c := c) (n := 47) h47 rfl;obtain ⟨n98, m98, k98⟩ := byte_ne3 (c := c) (n := 98) h98 rfl;obtain ⟨n102, m102, k102⟩ := byte_ne3 (c := c) (n := 102) h102 rfl;obtain ⟨n110, m110, k110⟩ := byte_ne3 (c := c) (n := 110) h110 rfl;obtain ⟨n114, m114, k114⟩ := byte_ne3 (c := c) (n := 114) h114 rfl;obtain ⟨n116, m116, k116⟩ := byte_ne3 (c := c) (n := 116) h116 rfl;clear hn h34 h92 h47 h98 h102 h110 h114 h116;go_enter Tryz.func189, Tryz.ntmps189;go_wp2;exact bodyPost_ret (v := .tuple #[.int .u8 0, .bool false]) (by simp [results, Tryz.results189, go_sem]) rfl ⟨by rw [HN.out]; rfl, rfl⟩
section
def WinN (s e : Nat) (w : World) (v : Value) (n : Nat) (cs : List Value) : Prop := cs.length = n * s ∧ ((v = .slice none 0 0 ∧ n = 0) ∨
 ∃ g off cap cur, v = .slice (some ⟨g, off, none⟩) n cap ∧ w.heap[g]? = some (.cells cur e (0, 0)) ∧ n ≤ cap ∧ off + cap * s ≤ cur.size ∧ cap ≤ maxLen ∧ ∀ (j : Nat) (u : Value), cs[j]? = some u → cur[off + j]? = some u)
def ElemN (t e s bytes : Nat) : Prop := Tryz.prog.underlying t = some (.slice e) ∧ 0 < s ∧ ∃ i z, Tryz.prog.info? e = some i ∧ i.zero = some z ∧ i.size = s ∧ i.bytes = bytes ∧ z.cells.size = s
theorem setCells_block (g : Nat) : ∀ (news : List Value) (o : Nat) (w : World) (cur : Array Value) (T : TypeId), w.heap[g]? = some (.cells cur T (0, 0)) →
 ∃ cur', (w.setCells g o news).heap[g]? = some (.cells cur' T (0, 0)) ∧ cur'.size = cur.size ∧ (∀ j u, news[j]? = some u → o + j < cur.size → cur'[o + j]? = some u) ∧ (∀ k, k < o → cur'[k]? = cur[k]?) ∧ Keeps (fun k => k = g) w (w.setCells g o news) := by
 intro news
 induction news with
 | nil => intro o w cur T h; exact ⟨cur, h, rfl, fun j u hj => by simp at hj, fun _ _ => rfl, Keeps.refl _ _⟩
 | cons x news ih =>
  intro o w cur T h;obtain ⟨cur', h1, h2, h3, h4, h5⟩ := ih (o + 1) (w.setCell ⟨g, o, none⟩ x) _ T (set_at h x);refine ⟨cur', h1, by rw [h2]; simp, ?_, ?_, ((Keeps.refl (fun k => k = g) w).setCell (p := ⟨g, o, none⟩) (.inl rfl) x).same h5⟩
  ·intro j u hj hlt;cases j with
   | zero =>
    simp at hj; subst hj;rw [Nat.add_zero, h4 o (by omega), Array.getElem?_setIfInBounds, if_pos rfl, if_pos (by omega)]
   | succ j =>
    have := h3 j u (by simpa using hj) (by simp; omega);rw [show o + (j + 1) = o + 1 + j by omega]; exact this
  ·intro k hk;rw [h4 k (by omega), Array.getElem?_setIfInBounds, if_neg (by omega)]
section
variable {s e : Nat} {w : World} {v : Value} {n : Nat} {cs : List Value}
theorem WinN.nil (s e : Nat) (w : World) : WinN s e w (.slice none 0 0) 0 [] := ⟨by simp, .inl ⟨rfl, rfl⟩⟩
theorem WinN.keeps {F : Nat → Prop} {w' : World} (h : WinN s e w v n cs) (hk : Keeps F w w') (hF : ∀ k, v.ownBlock = some k → ¬ F k) : WinN s e w' v n cs := by
 refine ⟨h.1, ?_⟩;rcases h.2 with hn | ⟨g, off, cap, cur, rfl, hg, rest⟩
 ·exact .inl hn
 ·exact .inr ⟨g, off, cap, cur, rfl, hk.blk hg (hF g rfl), rest⟩
theorem WinN.shape (h : WinN s e w v n cs) : ∃ a c, v = .slice a n c := by
 rcases h.2 with ⟨rfl, rfl⟩ | ⟨g, off, cap, cur, rfl, _⟩
 ·exact ⟨none, 0, rfl⟩
 ·exact ⟨_, _, rfl⟩
theorem WinN.lt (h : WinN s e w v n cs) {k : Nat} (hk : v.ownBlock = some k) : k < w.heap.size := by
 rcases h.2 with ⟨rfl, _⟩ | ⟨g, off, cap, cur, rfl, hg, _⟩
 ·cases hk
 ·cases hk; exact lt_of_block hg
theorem WinN.ne (h : WinN s e w v n cs) {b : Nat} {c : Array Value} {T : TypeId} (hb : w.heap[b]? = some (.cells c T (0, 0))) (hT : T ≠ e) : v.ownBlock ≠ some b := by
 rcases h.2 with ⟨rfl, _⟩ | ⟨g, off, cap, cur, rfl, hg, _⟩
 ·simp [Value.ownBlock]
 ·intro hc;simp only [Value.ownBlock, Option.some.injEq] at hc;subst hc;rw [hb] at hg;simp only [Option.some.injEq, Obj.cells.injEq] at hg;exact hT hg.2.1
theorem WinN.cell {g off cap : Nat} (h : WinN s e w (.slice (some ⟨g, off, none⟩) n cap) n cs) {j : Nat} {u : Value} (hx : cs[j]? = some u) : w.cell? ⟨g, off + j, none⟩ = some u := by
 rcases h.2 with ⟨hv, _⟩ | ⟨g', off', cap', cur, hv, hg, hc, ho, hm, hi⟩
 ·cases hv
 ·cases hv;rw [cell_at hg]; exact hi j u hx
theorem WinN.of_own {B : Nat} (h : w.ownsRow B e s v n cs) : WinN s e w v n cs ∧ ∀ k, v.ownBlock = some k → B ≤ k := by
 rcases h.2 with ⟨rfl, rfl⟩ | ⟨g, cap, cur, rfl, hB, hg, hc, hm, hs, ht⟩
 ·exact ⟨⟨h.1, .inl ⟨rfl, rfl⟩⟩, fun k hk => by cases hk⟩
 ·refine ⟨⟨h.1, .inr ⟨g, 0, cap, cur, rfl, hg, hc, by omega, hm, fun j u hj => ?_⟩⟩, fun k hk => by cases hk; exact hB⟩;have hlt : j < cs.length := (List.getElem?_eq_some_iff.1 hj).1;have := congrArg (fun x => x[j]?) ht;rw [h.1] at hlt;simp only [List.getElem?_take, if_pos hlt, Array.getElem?_toList, hj] at this
  simpa using this
theorem append_winN {t bytes : Nat} {ops : Array Oper} {rest : List Oper} {o : Oper} {a : Act} {Q : Exit → Act → World → Prop} (E : ElemN t e s bytes) (hgd : o.guard = none) (so x : Operand)
 (ho : o.op = .call { callee := .builtin .append, args := #[so, x], argTypes := #[t, t] }) (hs : a.eval so = v) (hown : WinN s e w v n cs) (ad : Addr) (m c : Nat) (news : List Value) (hx : a.eval x = .slice (some ad) m c) (hnl : news.length = m * s)
 (hnews : ∀ j u, news[j]? = some u → w.cell? (ad.add j) = some u) (h1 : ∀ u ∈ news, u.oneCell' = true) (hm1 : 1 ≤ m) (hb : (n + m) * bytes ≤ 140737488355328) (hm : n + m ≤ maxLen)
 (h : ∀ g off cap w', WinN s e w' (.slice (some ⟨g, off, none⟩) (n + m) cap) (n + m) (cs ++ news) → (v.ownBlock = some g ∨ (w.heap.size ≤ g ∧ g < w'.heap.size)) → Keeps (fun k => v.ownBlock = some k) w w' → wpList Tryz.prog ops Q rest (a.put o.dst (.slice (some ⟨g, off, none⟩) (n + m) cap)) w') :
 wpList Tryz.prog ops Q (o :: rest) a w := by
 obtain ⟨ht, hs0, i, z, hi, hz, hsz, hby, hzs⟩ := E;have hgk : ∀ {w' : World} {row : Option Nat}, w.grownBy w' row → (∀ k, row = some k → v.ownBlock = some k) → Keeps (fun k => v.ownBlock = some k) w w' := fun hg hr => (Keeps.refl _ w).grown hg (fun k e => .inl (hr k e))
 have hfin : ∀ v' w', w'.ownsRow w.heap.size e s v' (n + m) (cs ++ news) → w.grownBy w' none → wpList Tryz.prog ops Q rest (a.put o.dst v') w' := by
  intro v' w' hrow hgr;obtain ⟨hw, hB⟩ := WinN.of_own hrow;rcases hrow.2 with ⟨_, hn⟩ | ⟨g, cap, cur, rfl, hb', hg, _⟩
  ·omega
  ·exact h g 0 cap w' hw (.inr ⟨hb', lt_of_block hg⟩) (hgk hgr (fun k e => by cases e))
 obtain ⟨hlen, hown⟩ := hown;rcases hown with ⟨rfl, rfl⟩ | ⟨g, off, cap, cur, rfl, hg, hc, hof, hcm, hcell⟩
 ·exact wpList_append_grows w hgd so x t ho e i z s bytes ht hi hz hsz hby hzs hs0 none 0 0 cs hs (fun _ => ⟨rfl, rfl⟩) hlen (fun b hb => by cases hb) ad m c news hx hnl hnews h1 (by omega) hm hb hfin
 ·refine wpList_append_arg w hgd so x t ho e i z s bytes ht hi hz hsz hby hzs hs0 g off n cap cs hs hlen (fun j u hj => by rw [cell_at hg]; exact hcell j u hj) ad m c news hx hnl hnews h1 ?_ hm hb ?_ (fun _ => hfin)
  ·intro hroom j hj;have hle : (n + m) * s ≤ cap * s := Nat.mul_le_mul_right s hroom;rw [Nat.add_mul] at hle;rw [hnl] at hj;refine ⟨?_, free_at hg _⟩;rw [cell_at hg, Array.getElem?_eq_getElem (by omega)]; rfl
  ·intro hroom;have hle : (n + m) * s ≤ cap * s := Nat.mul_le_mul_right s hroom;rw [Nat.add_mul] at hle;obtain ⟨cur', h1', h2', h3', h4', h5'⟩ := setCells_block g news (off + n * s) w cur e hg;refine h g off cap _ ⟨by rw [List.length_append, hlen, hnl, Nat.add_mul], .inr ⟨g, off, cap, cur', rfl, h1', hroom, by omega, hcm, ?_⟩⟩ (.inl rfl) (h5'.mono (fun k e => by rw [e]; rfl));intro j u hj
   by_cases hjl : j < cs.length
   ·rw [List.getElem?_append_left hjl] at hj;rw [h4' _ (by omega)];exact hcell j u hj
   ·rw [List.getElem?_append_right (by omega)] at hj;have hjn := (List.getElem?_eq_some_iff.1 hj).1;have := h3' (j - cs.length) u hj (by omega);rw [show off + n * s + (j - cs.length) = off + j by omega] at this;exact this
theorem run_append_winN {t ty bytes : Nat} (E : ElemN t e s bytes) (hown : WinN s e w v n cs) (ad : Addr) (m c : Nat) (news : List Value) (hnl : news.length = m * s)
 (hnews : ∀ j u, news[j]? = some u → w.cell? (ad.add j) = some u) (h1 : ∀ u ∈ news, u.oneCell' = true) (hm1 : 1 ≤ m) (hb : (n + m) * bytes ≤ 140737488355328) (hm : n + m ≤ maxLen) :
 ∃ g off cap w', (Builtin.append_ #[t, t] ty #[v, .slice (some ad) m c]).run Tryz.prog w = .ok (.slice (some ⟨g, off, none⟩) (n + m) cap) w' ∧ WinN s e w' (.slice (some ⟨g, off, none⟩) (n + m) cap) (n + m) (cs ++ news) ∧ (v.ownBlock = some g ∨ (w.heap.size ≤ g ∧ g < w'.heap.size)) ∧ Keeps (fun k => v.ownBlock = some k) w w' := by
 obtain ⟨ht, hs0, i, z, hi, hz, hsz, hby, hzs⟩ := E;have hgk : ∀ {w' : World} {row : Option Nat}, w.grownBy w' row → (∀ k, row = some k → v.ownBlock = some k) → Keeps (fun k => v.ownBlock = some k) w w' := fun hg hr => (Keeps.refl _ w).grown hg (fun k e => .inl (hr k e))
 have hfin : ∀ v' w', w'.ownsRow w.heap.size e s v' (n + m) (cs ++ news) → (∀ k, v'.ownBlock = some k → True) → w.grownBy w' none → ∃ g cap, v' = .slice (some ⟨g, 0, none⟩) (n + m) cap ∧ WinN s e w' (.slice (some ⟨g, 0, none⟩) (n + m) cap) (n + m) (cs ++ news) ∧ (v.ownBlock = some g ∨ (w.heap.size ≤ g ∧ g < w'.heap.size)) ∧ Keeps (fun k => v.ownBlock = some k) w w' := by
  intro v' w' hrow _ hgr;obtain ⟨hw, hB⟩ := WinN.of_own hrow;rcases hrow.2 with ⟨_, hn⟩ | ⟨g, cap, cur, rfl, hb', hg, _⟩
  ·omega
  ·exact ⟨g, cap, rfl, hw, .inr ⟨hb', lt_of_block hg⟩, hgk hgr (fun k e => by cases e)⟩
 obtain ⟨hlen, hown⟩ := hown;rcases hown with ⟨rfl, rfl⟩ | ⟨g, off, cap, cur, rfl, hg, hc, hof, hcm, hcell⟩
 ·obtain rfl : cs = [] := List.eq_nil_of_length_eq_zero (by simpa using hlen);obtain ⟨v', w', hrun, r1, r2, _⟩ := run_append_own (P := Tryz.prog) w w.heap.size t ty e i z s bytes ht hi hz hsz hby hzs hs0 (.slice none 0 0) 0 [] (World.ownsRow_nil w _ e s) ad m c news hnl hnews h1 hm hb (Nat.le_refl _);obtain ⟨g, cap, rfl, h2, h3, h4⟩ := hfin v' w' r1 (fun _ _ => trivial) r2;exact ⟨g, 0, cap, w', hrun, h2, h3, h4⟩
 ·by_cases hr : n + m ≤ cap
  ·subst hsz;have hle : (n + m) * i.size ≤ cap * i.size := Nat.mul_le_mul_right _ hr;rw [Nat.add_mul] at hle
   have hspare : ∀ j, j < news.length → (w.cell? ⟨g, off + n * i.size + j, none⟩).isSome = true := by
    intro j hj;rw [hnl] at hj;rw [cell_at hg, Array.getElem?_eq_getElem (by omega)]; rfl
   have hrun := run_append_room_cells (P := Tryz.prog) w t ty e i ht hi g off n cap ad m c news hnl hnews h1 hr hspare (fun j _ => free_at hg _);obtain ⟨cur', h1', h2', h3', h4', h5'⟩ := setCells_block g news (off + n * i.size) w cur e hg;refine ⟨g, off, cap, _, hrun, ⟨by rw [List.length_append, hlen, hnl, Nat.add_mul], .inr ⟨g, off, cap, cur', rfl, h1', hr, by omega, hcm, ?_⟩⟩, .inl rfl, h5'.mono (fun k e => by rw [e]; rfl)⟩;intro j u hj
   by_cases hjl : j < cs.length
   ·rw [List.getElem?_append_left hjl] at hj;rw [h4' _ (by omega)];exact hcell j u hj
   ·rw [List.getElem?_append_right (by omega)] at hj;have hjn := (List.getElem?_eq_some_iff.1 hj).1;have := h3' (j - cs.length) u hj (by omega);rw [show off + n * i.size + (j - cs.length) = off + j by omega] at this;exact this
  ·obtain ⟨v', w', hrun, r1, r2⟩ := run_append_arg_grows (P := Tryz.prog) w t ty e i z s bytes ht hi hz hsz hby hzs hs0 ⟨g, off, none⟩ n cap cs hlen (fun j u hj => by rw [Addr.add_lit, cell_at hg]; exact hcell j u hj) ad m c news hnl hnews (by omega) hm hb;obtain ⟨g', cap', rfl, h2, h3, h4⟩ := hfin v' w' r1 (fun _ _ => trivial) r2;exact ⟨g', 0, cap', w', hrun, h2, h3, h4⟩
theorem step_append_winN {t bytes : Nat} {ops : Array Oper} {o : Oper} {a : Act} {K : Act → World → Prop} {Q : Exit → Act → World → Prop} {D : Prop} (E : ElemN t e s bytes) (hgd : o.guard = none) (so x : Operand)
 (ho : o.op = .call { callee := .builtin .append, args := #[so, x], argTypes := #[t, t] }) (hs : a.eval so = v) (hown : WinN s e w v n cs) (ad : Addr) (m c : Nat) (news : List Value) (hx : a.eval x = .slice (some ad) m c) (hnl : news.length = m * s)
 (hnews : ∀ j u, news[j]? = some u → w.cell? (ad.add j) = some u) (h1 : ∀ u ∈ news, u.oneCell' = true) (hm1 : 1 ≤ m) (hb : (n + m) * bytes ≤ 140737488355328) (hm : n + m ≤ maxLen)
 (h : ∀ g off cap w', WinN s e w' (.slice (some ⟨g, off, none⟩) (n + m) cap) (n + m) (cs ++ news) → (v.ownBlock = some g ∨ (w.heap.size ≤ g ∧ g < w'.heap.size)) → Keeps (fun k => v.ownBlock = some k) w w' → K (a.put o.dst (.slice (some ⟨g, off, none⟩) (n + m) cap)) w') :
 if Region.wanted o (yielded ops a.tmps) = true then Oper.wp Tryz.prog o a w K Q else D := by
 have hw : Region.wanted o (yielded ops a.tmps) = true := by simp [Region.wanted, hgd]
 rw [if_pos hw];obtain ⟨g, off, cap, w', hrun, h2, h3, h4⟩ := run_append_winN (ty := o.type) E hown ad m c news hnl hnews h1 hm1 hb hm;unfold Oper.wp execOp;simp only [ho, resolve, invoke, builtin, Sem.run_bind, Sem.run_pure, Result.andThen_ok, List.map_toArray, List.map_cons, List.map_nil, hs, hx, hrun];exact h g off cap w' h2 h3 h4
theorem firstNone' (w : World) (k : Nat) (A : Option Addr) (c : Nat) : (Builtin.firstCells k 0 (.slice A 0 c)).run Tryz.prog w = .ok #[] w := by
 cases A with
 | none => simp [Builtin.firstCells]
 | some ad =>
  have h := run_loadCells_list (P := Tryz.prog) w ad [] (fun j v hj => by simp at hj)
  simpa [Builtin.firstCells] using h
theorem append_winN0 {t bytes : Nat} {ops : Array Oper} {rest : List Oper} {o : Oper} {a : Act} {Q : Exit → Act → World → Prop} (E : ElemN t e s bytes) (hgd : o.guard = none) (so x : Operand)
 (ho : o.op = .call { callee := .builtin .append, args := #[so, x], argTypes := #[t, t] }) (hs : a.eval so = v) (hown : WinN s e w v n cs) (A : Option Addr) (c : Nat) (hx : a.eval x = .slice A 0 c)
 (h : wpList Tryz.prog ops Q rest (a.put o.dst v) w) :
 wpList Tryz.prog ops Q (o :: rest) a w := by
 obtain ⟨ht, hs0, i, z, hi, hz, hsz, hby, hzs⟩ := E
 obtain ⟨b0, L, C, hv, hle⟩ : ∃ b0 L C, v = .slice b0 L C ∧ L ≤ C := by
  rcases hown.2 with ⟨rfl, _⟩ | ⟨g, off, cap, cur, rfl, hg, hc, _⟩
  ·exact ⟨_, _, _, rfl, Nat.le_refl _⟩
  ·exact ⟨_, _, _, rfl, hc⟩
 subst hv;have hsrc : Src Tryz.prog i.size t (.slice A 0 c) 0 [] w := ⟨.inl ⟨e, ht⟩, fun w' => by simp [Builtin.lenOf], firstNone' w _ A c, firstNone' w.drew _ A c, by simp, fun u hu => by simp at hu⟩;have hrun := run_append_nothing (P := Tryz.prog) w t t o.type e i ht hi b0 L C hle (.slice A 0 c) hsrc;refine wpList_plain hgd fun K hK => ?_
 unfold Oper.wp;simp [execOp, ho, resolve, invoke, builtin, hs, hx, hrun, Result.andThen];exact hK _ _ h
theorem step_append_winN0 {t bytes : Nat} {ops : Array Oper} {o : Oper} {a : Act} {K : Act → World → Prop} {Q : Exit → Act → World → Prop} {D : Prop} (E : ElemN t e s bytes) (hgd : o.guard = none) (so x : Operand)
 (ho : o.op = .call { callee := .builtin .append, args := #[so, x], argTypes := #[t, t] }) (hs : a.eval so = v) (hown : WinN s e w v n cs) (A : Option Addr) (c : Nat) (hx : a.eval x = .slice A 0 c)
 (h : K (a.put o.dst v) w) :
 if Region.wanted o (yielded ops a.tmps) = true then Oper.wp Tryz.prog o a w K Q else D := by
 have hw : Region.wanted o (yielded ops a.tmps) = true := by simp [Region.wanted, hgd]
 rw [if_pos hw];obtain ⟨ht, hs0, i, z, hi, hz, hsz, hby, hzs⟩ := E
 obtain ⟨b0, L, C, hv, hle⟩ : ∃ b0 L C, v = .slice b0 L C ∧ L ≤ C := by
  rcases hown.2 with ⟨rfl, _⟩ | ⟨g, off, cap, cur, rfl, hg, hc, _⟩
  ·exact ⟨_, _, _, rfl, Nat.le_refl _⟩
  ·exact ⟨_, _, _, rfl, hc⟩
 subst hv;have hsrc : Src Tryz.prog i.size t (.slice A 0 c) 0 [] w := ⟨.inl ⟨e, ht⟩, fun w' => by simp [Builtin.lenOf], firstNone' w _ A c, firstNone' w.drew _ A c, by simp, fun u hu => by simp at hu⟩;have hrun := run_append_nothing (P := Tryz.prog) w t t o.type e i ht hi b0 L C hle (.slice A 0 c) hsrc;unfold Oper.wp execOp;simp only [ho, resolve, invoke, builtin, Sem.run_bind, Sem.run_pure, Result.andThen_ok, List.map_toArray, List.map_cons, List.map_nil, hs, hx, hrun];exact h
end
theorem Win.toN {α : Type} {e : Nat} {enc : α → Value} {w : World} {v : Value} {l : List α} (h : Win e enc w v l) : WinN 1 e w v l.length (l.map enc) := by
 refine ⟨by simp, ?_⟩;rcases h with ⟨rfl, rfl⟩ | ⟨g, off, cap, cur, rfl, hg, hc, ho, hm, hi⟩
 ·exact .inl ⟨rfl, rfl⟩
 ·refine .inr ⟨g, off, cap, cur, rfl, hg, hc, by omega, hm, fun j u hj => ?_⟩;rw [List.getElem?_map] at hj;cases hl : l[j]? with
  | none => rw [hl] at hj; cases hj
  | some x => rw [hl] at hj; simp at hj; subst hj; exact hi j x hl
theorem WinN.toWin {α : Type} {e n : Nat} {enc : α → Value} {w : World} {v : Value} {l : List α} (h : WinN 1 e w v n (l.map enc)) : Win e enc w v l := by
 obtain ⟨h0, h⟩ := h;have hn : l.length = n := by simpa using h0
 subst hn;rcases h with ⟨rfl, hl⟩ | ⟨g, off, cap, cur, rfl, hg, hc, ho, hm, hi⟩
 ·exact .inl ⟨rfl, List.eq_nil_of_length_eq_zero hl⟩
 ·exact .inr ⟨g, off, cap, cur, rfl, hg, hc, by omega, hm, fun i x hx => hi i (enc x) (by rw [List.getElem?_map, hx]; rfl)⟩
end
def dmlV (d : Dml) : Value := .agg #[.bool d.neg, .string ⟨d.digits.toArray⟩, .int .i64 d.exp]
theorem stripped_any (neg : Bool) (ds : ByteArray) (e : Int) (w : World) (hs : ds.size ≤ 1073741824) (he : -4611686018427387904 ≤ e) (he2 : e ≤ 4611686018427387904) :
 Calls Tryz.prog 229 #[.agg #[.bool neg, .string ds, .int .i64 e]] w fun r w' => r = .returned (dmlV (stripOf neg ds.data.toList e)) ∧ Below w.heap.size w w' := by
 have C1 := fun w => Tryz.strings_TrimLeft_one ds 48 (by decide) w
 have hl1 : (Lib.trimLeftB ds.data.toList 48).length ≤ ds.size := by
  have := (List.dropWhile_sublist (fun x : UInt8 => x == 48) (l := ds.data.toList)).length_le;rw [Array.length_toList] at this; exact this
 unfold stripOf;generalize Lib.trimLeftB ds.data.toList 48 = T at *;obtain ⟨t, ht⟩ : ∃ t : ByteArray, (⟨T.toArray⟩ : ByteArray) = t := ⟨_, rfl⟩;have htT : T = t.data.toList := by rw [← ht]
 simp only [ht] at C1;clear ht;subst htT;have hts : t.data.toList.length = t.size := Array.length_toList;have htl : t.size ≤ ds.size := by omega
 have C2 := fun w => Tryz.strings_TrimRight_one t 48 (by decide) w (by omega)
 have hl2 : (Lib.trimRightB t.data.toList 48).length ≤ t.size := by
  unfold Lib.trimRightB;rw [List.length_reverse];have := (List.dropWhile_sublist (fun x : UInt8 => x == 48) (l := t.data.toList.reverse)).length_le;rw [List.length_reverse, Array.length_toList] at this; exact this
 generalize Lib.trimRightB t.data.toList 48 = U at *;obtain ⟨u, hu⟩ : ∃ u : ByteArray, (⟨U.toArray⟩ : ByteArray) = u := ⟨_, rfl⟩;have huU : U = u.data.toList := by rw [← hu]
 simp only [hu] at C2;clear hu;subst huU;have hus : u.data.toList.length = u.size := Array.length_toList;have hul : u.size ≤ t.size := by omega
 rw [hts, hus];have D1 := Lib.hid C1;have D2 := Lib.hid C2;clear hus hts hl1 hl2 C1 C2;obtain ⟨g1, g2, hb⟩ := new2 w (.cells #[.bool neg, .string ds, .int .i64 e] 339) (.cells #[.bool false, .string ⟨#[]⟩, .int .i64 0] 339);have HB := Lib.hid hb;clear hb g1 g2
 by_cases hu0 : u.data.toList = []
 ·have hie : u.toList.isEmpty = true := by rw [Lib.toList_data, hu0]; rfl
  rw [if_pos hu0];clear hu0;go_enter Tryz.func229, Tryz.ntmps229;go_wp2_with fail;refine (D1.out _).mono ?_;rintro r w1 ⟨rfl, rfl⟩;go_wp2_with fail;refine (D2.out _).mono ?_;rintro r w1 ⟨rfl, rfl⟩;go_wp2_with fail;exact bodyPost_ret (v := dmlV ⟨false, [], 0⟩) (by simp [results, Tryz.results229, go_sem, dmlV]) rfl ⟨rfl, (HB.out)⟩
 ·have hie : u.toList.isEmpty = false := by
   rw [Lib.toList_data];cases hc : u.data.toList with
   | nil => exact absurd hc hu0
   | cons x r => rfl
  rw [if_neg hu0];clear hu0;have hw1 : IntKind.i64.wrap (e + (t.size : Int)) = e + (t.size : Int) := by rw [IntKind.wrap_i64]; omega
  have hw2 : IntKind.i64.wrap (e + (t.size : Int) - (u.size : Int)) = e + (t.size : Int) - (u.size : Int) := by rw [IntKind.wrap_i64]; omega
  go_enter Tryz.func229, Tryz.ntmps229;go_wp2_with fail;refine (D1.out _).mono ?_;rintro r w1 ⟨rfl, rfl⟩;go_wp2_with fail;refine (D2.out _).mono ?_;rintro r w1 ⟨rfl, rfl⟩;go_wp2_with fail;exact bodyPost_ret (v := dmlV ⟨neg, u.data.toList, e + t.size - u.size⟩) (by simp [results, Tryz.results229, go_sem, dmlV]) rfl ⟨rfl, (new2 _ _ _).2.2⟩
theorem exp_far {a : Nat} (h : 35184372088832 ≤ a) (l : List UInt8) : l.foldl expStep a = a := by
 induction l with
 | nil => rfl
 | cons c l ih => rw [List.foldl_cons, show expStep a c = a from if_neg (by omega)]; exact ih
theorem exp_bound {a : Nat} {l : List UInt8} (ha : a ≤ 351843720888329) (hl : ∀ c ∈ l, c.toNat ≤ 57) : l.foldl expStep a ≤ 351843720888329 := by
 induction l generalizing a with
 | nil => exact ha
 | cons c l ih =>
  rw [List.foldl_cons];refine ih ?_ (fun x hx => hl x (by simp [hx]));have := hl c (by simp);unfold expStep; split <;> omega
theorem exp_take {l : List UInt8} {i : Nat} (h : i < l.length) : (l.take (i + 1)).foldl expStep 0 = expStep ((l.take i).foldl expStep 0) l[i] := by
 rw [List.take_add_one, List.getElem?_eq_getElem h, List.foldl_append]; rfl
theorem bare_any (neg under : Bool) (wh be ex : ByteArray) (w : World) (hs : wh.size + be.size ≤ 1073741824) (hx : ∀ c ∈ ex.data.toList, 48 ≤ c.toNat ∧ c.toNat ≤ 57) (hxl : ex.size ≤ 1073741824) :
 Calls Tryz.prog 209 #[.agg #[.bool neg, .string wh, .string be, .bool under, .string ex]] w fun r w' => r = .returned (dmlV (bareOf ⟨neg, wh.data.toList, be.data.toList, under, ex.data.toList⟩)) ∧ Below w.heap.size w w' := by
 have HX := Lib.hid hx;clear hx;go_enter Tryz.func209, Tryz.ntmps209;go_wp2_with fail
 go_loop [3, 4] (fun a i => ∃ k : Nat, k ≤ ex.size ∧ i = .int .i64 k ∧ a = .int .i64 ((ex.data.toList.take k).foldl expStep 0 : Nat)) (fun _ i => ex.size - (intOf i).toNat)
 case atStart => exact ⟨0, by omega, rfl, rfl⟩
 case round =>
  obtain ⟨k, hk, rfl, rfl⟩ := hrel;have hb := exp_bound (a := 0) (l := ex.data.toList.take k) (by omega) (fun c hc => (HX.out c (List.mem_of_mem_take hc)).2)
  by_cases hk2 : k < ex.size
  ·by_cases hfar : (ex.data.toList.take k).foldl expStep 0 < 35184372088832
   ·have hd := HX.out ex[k] (Array.getElem_mem_toList hk2)
    have hst : (((ex.data.toList.take (k + 1)).foldl expStep 0 : Nat) : Int) = 10 * (((ex.data.toList.take k).foldl expStep 0 : Nat) : Int) + (((ex[k].toNat : Nat) : Int) - 48) := by
     rw [exp_take (by rw [Array.length_toList]; exact hk2), expStep, if_pos hfar];have : (ex.data.toList[k]'(by rw [Array.length_toList]; exact hk2)) = ex[k] := rfl;rw [this]; omega
    have HST := Lib.hid hst;clear hst;obtain ⟨a, ha⟩ : ∃ a, (ex.data.toList.take k).foldl expStep 0 = a := ⟨_, rfl⟩;simp only [ha] at *;clear ha;have hfar2 : (a : Int) < 35184372088832 := by omega
    obtain ⟨dg, hdg⟩ : ∃ d, ex[k].toNat = d := ⟨_, rfl⟩;simp only [hdg] at hd HST;go_wp2_with fail;refine ⟨⟨k + 1, by omega, by go_num, congrArg (Value.int .i64) HST.out.symm⟩, by simp [intOf]; omega⟩
   ·have hE : expOf ex.data.toList = (ex.data.toList.take k).foldl expStep 0 := by
     unfold expOf
     conv => lhs; rw [← List.take_append_drop k ex.data.toList, List.foldl_append]
     exact exp_far (by omega) _
    have HE := Lib.hid hE;clear hE;obtain ⟨a, ha⟩ : ∃ a, (ex.data.toList.take k).foldl expStep 0 = a := ⟨_, rfl⟩;simp only [ha] at *;clear ha;have hfar2 : ¬ (a : Int) < 35184372088832 := by omega
    cases under with
    | false =>
     have hw1 : IntKind.i64.wrap ((a : Int) - (be.size : Int)) = (a : Int) - (be.size : Int) := by rw [IntKind.wrap_i64]; omega
     go_wp2_with fail;have hcat : (wh ++ be).data.toList = wh.data.toList ++ be.data.toList := by simp
     have hres : stripOf neg (wh ++ be).data.toList ((a : Int) - (be.size : Int)) = bareOf ⟨neg, wh.data.toList, be.data.toList, false, ex.data.toList⟩ := by
      rw [hcat]; unfold bareOf; simp only [HE.out, Array.length_toList]; rfl
     have HC := fun w => (stripped_any neg (wh ++ be) ((a : Int) - (be.size : Int)) w (by rw [ByteArray.size_append]; omega) (by omega) (by omega))
     simp only [hres] at HC;clear hcat hres;obtain ⟨⟨dn, dd, de⟩, hD⟩ : ∃ d, bareOf ⟨neg, wh.data.toList, be.data.toList, false, ex.data.toList⟩ = d := ⟨_, rfl⟩;simp only [hD] at HC;have HD := Lib.hid hD;clear hD;refine (HC _).mono ?_;rintro r w2 ⟨rfl, hb⟩;obtain ⟨h1, h2, hbw, hsz⟩ := after2 hb;obtain ⟨c0, c1, c2, cf⟩ := cells3 h2;clear h1 h2 hb;unfold dmlV;go_wp2_with fail;exact bodyPost_ret (v := dmlV ⟨dn, dd, de⟩) (by simp [results, Tryz.results209, go_sem, dmlV, c0, c1, c2]) rfl ⟨by rw [HD.out], ((hbw.setCell (Nat.le_succ _) _).setCell (Nat.le_succ _) _).setCell (Nat.le_succ _) _⟩
    | true =>
     have hw0 : IntKind.i64.wrap (-(a : Int)) = -(a : Int) := by rw [IntKind.wrap_i64]; omega
     have hw1 : IntKind.i64.wrap (-(a : Int) - (be.size : Int)) = -(a : Int) - (be.size : Int) := by rw [IntKind.wrap_i64]; omega
     go_wp2_with fail;have hcat : (wh ++ be).data.toList = wh.data.toList ++ be.data.toList := by simp
     have hres : stripOf neg (wh ++ be).data.toList (-(a : Int) - (be.size : Int)) = bareOf ⟨neg, wh.data.toList, be.data.toList, true, ex.data.toList⟩ := by
      rw [hcat]; unfold bareOf; simp only [HE.out, Array.length_toList]; rfl
     have HC := fun w => (stripped_any neg (wh ++ be) (-(a : Int) - (be.size : Int)) w (by rw [ByteArray.size_append]; omega) (by omega) (by omega))
     simp only [hres] at HC;clear hcat hres;obtain ⟨⟨dn, dd, de⟩, hD⟩ : ∃ d, bareOf ⟨neg, wh.data.toList, be.data.toList, true, ex.data.toList⟩ = d := ⟨_, rfl⟩;simp only [hD] at HC;have HD := Lib.hid hD;clear hD;refine (HC _).mono ?_;rintro r w2 ⟨rfl, hb⟩;obtain ⟨h1, h2, hbw, hsz⟩ := after2 hb;obtain ⟨c0, c1, c2, cf⟩ := cells3 h2;clear h1 h2 hb;unfold dmlV;go_wp2_with fail;exact bodyPost_ret (v := dmlV ⟨dn, dd, de⟩) (by simp [results, Tryz.results209, go_sem, dmlV, c0, c1, c2]) rfl ⟨by rw [HD.out], ((hbw.setCell (Nat.le_succ _) _).setCell (Nat.le_succ _) _).setCell (Nat.le_succ _) _⟩
  ·have hE : expOf ex.data.toList = (ex.data.toList.take k).foldl expStep 0 := by
    rw [List.take_of_length_le (by rw [Array.length_toList]; exact Nat.not_lt.1 hk2)]; rfl
   have HE := Lib.hid hE;clear hE;obtain ⟨a, ha⟩ : ∃ a, (ex.data.toList.take k).foldl expStep 0 = a := ⟨_, rfl⟩;simp only [ha] at *;clear ha;cases under with
   | false =>
    have hw1 : IntKind.i64.wrap ((a : Int) - (be.size : Int)) = (a : Int) - (be.size : Int) := by rw [IntKind.wrap_i64]; omega
    go_wp2_with fail;have hcat : (wh ++ be).data.toList = wh.data.toList ++ be.data.toList := by simp
    have hres : stripOf neg (wh ++ be).data.toList ((a : Int) - (be.size : Int)) = bareOf ⟨neg, wh.data.toList, be.data.toList, false, ex.data.toList⟩ := by
     rw [hcat]; unfold bareOf; simp only [HE.out, Array.length_toList]; rfl
    have HC := fun w => (stripped_any neg (wh ++ be) ((a : Int) - (be.size : Int)) w (by rw [ByteArray.size_append]; omega) (by omega) (by omega))
    simp only [hres] at HC;clear hcat hres;obtain ⟨⟨dn, dd, de⟩, hD⟩ : ∃ d, bareOf ⟨neg, wh.data.toList, be.data.toList, false, ex.data.toList⟩ = d := ⟨_, rfl⟩;simp only [hD] at HC;have HD := Lib.hid hD;clear hD;refine (HC _).mono ?_;rintro r w2 ⟨rfl, hb⟩;obtain ⟨h1, h2, hbw, hsz⟩ := after2 hb;obtain ⟨c0, c1, c2, cf⟩ := cells3 h2;clear h1 h2 hb;unfold dmlV;go_wp2_with fail;exact bodyPost_ret (v := dmlV ⟨dn, dd, de⟩) (by simp [results, Tryz.results209, go_sem, dmlV, c0, c1, c2]) rfl ⟨by rw [HD.out], ((hbw.setCell (Nat.le_succ _) _).setCell (Nat.le_succ _) _).setCell (Nat.le_succ _) _⟩
   | true =>
    have hw0 : IntKind.i64.wrap (-(a : Int)) = -(a : Int) := by rw [IntKind.wrap_i64]; omega
    have hw1 : IntKind.i64.wrap (-(a : Int) - (be.size : Int)) = -(a : Int) - (be.size : Int) := by rw [IntKind.wrap_i64]; omega
    go_wp2_with fail;have hcat : (wh ++ be).data.toList = wh.data.toList ++ be.data.toList := by simp
    have hres : stripOf neg (wh ++ be).data.toList (-(a : Int) - (be.size : Int)) = bareOf ⟨neg, wh.data.toList, be.data.toList, true, ex.data.toList⟩ := by
     rw [hcat]; unfold bareOf; simp only [HE.out, Array.length_toList]; rfl
    have HC := fun w => (stripped_any neg (wh ++ be) (-(a : Int) - (be.size : Int)) w (by rw [ByteArray.size_append]; omega) (by omega) (by omega))
    simp only [hres] at HC;clear hcat hres;obtain ⟨⟨dn, dd, de⟩, hD⟩ : ∃ d, bareOf ⟨neg, wh.data.toList, be.data.toList, true, ex.data.toList⟩ = d := ⟨_, rfl⟩;simp only [hD] at HC;have HD := Lib.hid hD;clear hD;refine (HC _).mono ?_;rintro r w2 ⟨rfl, hb⟩;obtain ⟨h1, h2, hbw, hsz⟩ := after2 hb;obtain ⟨c0, c1, c2, cf⟩ := cells3 h2;clear h1 h2 hb;unfold dmlV;go_wp2_with fail;exact bodyPost_ret (v := dmlV ⟨dn, dd, de⟩) (by simp [results, Tryz.results209, go_sem, dmlV, c0, c1, c2]) rfl ⟨by rw [HD.out], ((hbw.setCell (Nat.le_succ _) _).setCell (Nat.le_succ _) _).setCell (Nat.le_succ _) _⟩
end Go.Proofs.YtakkmiomhackiaaGreatDoor
