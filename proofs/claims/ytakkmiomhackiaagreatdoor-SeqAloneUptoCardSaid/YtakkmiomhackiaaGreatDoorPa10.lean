/-
  The program, one part of its walk: Lx3, Wn, Cc1. Conditions: none.
-/
import Derived.Test.YtakkmiomhackiaaGreatDoorPa09
import Derived.Test.YtakkmiomhackiaaGreatDoorPa03
import Derived.Deep.Upon
import Derived.Lib.AppendZerosOnto
import Derived.Test.YtakkmiomhackiaaGreatDoorPa00
set_option linter.all false
set_option maxRecDepth 100000
set_option maxHeartbeats 16000000
open Go.Proofs.Tryz
namespace Go.Proofs.YtakkmiomhackiaaGreatDoor
open Go.RowKit
theorem numEnds_any (s : Nat) (hs : s ≤ 8) (w : World) : Calls prog 109 #[.int .i64 (s : Int)] w fun e w' => e = .returned (.bool (numEnds s)) ∧ w' = w := by
 have hc : s = 0 ∨ s = 1 ∨ s = 2 ∨ s = 3 ∨ s = 4 ∨ s = 5 ∨ s = 6 ∨ s = 7 ∨ s = 8 := by omega
 rcases hc with rfl | rfl | rfl | rfl | rfl | rfl | rfl | rfl | rfl
 ·rw [show numEnds 0 = false from rfl];simp only [Int.natCast_zero, Int.natCast_one, Int.cast_ofNat_Int];go_enter func109, ntmps109;go_wp2;go_ret;exact ⟨rfl, rfl⟩
 ·rw [show numEnds 1 = false from rfl];simp only [Int.natCast_zero, Int.natCast_one, Int.cast_ofNat_Int];go_enter func109, ntmps109;go_wp2;go_ret;exact ⟨rfl, rfl⟩
 ·rw [show numEnds 2 = true from rfl];simp only [Int.natCast_zero, Int.natCast_one, Int.cast_ofNat_Int];go_enter func109, ntmps109;go_wp2;go_ret;exact ⟨rfl, rfl⟩
 ·rw [show numEnds 3 = true from rfl];simp only [Int.natCast_zero, Int.natCast_one, Int.cast_ofNat_Int];go_enter func109, ntmps109;go_wp2;go_ret;exact ⟨rfl, rfl⟩
 ·rw [show numEnds 4 = false from rfl];simp only [Int.natCast_zero, Int.natCast_one, Int.cast_ofNat_Int];go_enter func109, ntmps109;go_wp2;go_ret;exact ⟨rfl, rfl⟩
 ·rw [show numEnds 5 = true from rfl];simp only [Int.natCast_zero, Int.natCast_one, Int.cast_ofNat_Int];go_enter func109, ntmps109;go_wp2;go_ret;exact ⟨rfl, rfl⟩
 ·rw [show numEnds 6 = false from rfl];simp only [Int.natCast_zero, Int.natCast_one, Int.cast_ofNat_Int];go_enter func109, ntmps109;go_wp2;go_ret;exact ⟨rfl, rfl⟩
 ·rw [show numEnds 7 = false from rfl];simp only [Int.natCast_zero, Int.natCast_one, Int.cast_ofNat_Int];go_enter func109, ntmps109;go_wp2;go_ret;exact ⟨rfl, rfl⟩
 ·rw [show numEnds 8 = true from rfl];simp only [Int.natCast_zero, Int.natCast_one, Int.cast_ofNat_Int];go_enter func109, ntmps109;go_wp2;go_ret;exact ⟨rfl, rfl⟩
theorem blank_any (c : UInt8) (w : World) : Calls prog 134 #[.int .u8 ((c.toNat : Nat) : Int)] w fun e w' => e = .returned (.bool (isBlank c)) ∧ w' = w := by
 by_cases h32 : c = 32
 ·have hn : isBlank c = true := by rw [h32]; rfl
  have HN := hZ hn;have hv : ((c.toNat : Nat) : Int) = 32 := by rw [h32]; rfl
  clear hn h32;go_enter func134, ntmps134;go_wp2;go_ret;exact ⟨by rw [HN.out]; rfl, rfl⟩
 by_cases h9 : c = 9
 ·have hn : isBlank c = true := by rw [h9]; rfl
  have HN := hZ hn;have hv : ((c.toNat : Nat) : Int) = 9 := by rw [h9]; rfl
  clear hn h32 h9;go_enter func134, ntmps134;go_wp2;go_ret;exact ⟨by rw [HN.out]; rfl, rfl⟩
 by_cases h10 : c = 10
 ·have hn : isBlank c = true := by rw [h10]; rfl
  have HN := hZ hn;have hv : ((c.toNat : Nat) : Int) = 10 := by rw [h10]; rfl
  clear hn h32 h9 h10;go_enter func134, ntmps134;go_wp2;go_ret;exact ⟨by rw [HN.out]; rfl, rfl⟩
 by_cases h13 : c = 13
 ·have hn : isBlank c = true := by rw [h13]; rfl
  have HN := hZ hn;have hv : ((c.toNat : Nat) : Int) = 13 := by rw [h13]; rfl
  clear hn h32 h9 h10 h13;go_enter func134, ntmps134;go_wp2;go_ret;exact ⟨by rw [HN.out]; rfl, rfl⟩
 have hn : isBlank c = false := by simp [isBlank, h32, h9, h10, h13]
 have HN := hZ hn;obtain ⟨n32, m32, k32⟩ := byte_ne3 (c := c) (n := 32) h32 rfl;obtain ⟨n9, m9, k9⟩ := byte_ne3 (c := c) (n := 9) h9 rfl;obtain ⟨n10, m10, k10⟩ := byte_ne3 (c := c) (n := 10) h10 rfl;obtain ⟨n13, m13, k13⟩ := byte_ne3 (c := c) (n := 13) h13 rfl;clear hn h32 h9 h10 h13;go_enter func134, ntmps134;go_wp2;go_ret;exact ⟨by rw [HN.out]; rfl, rfl⟩
theorem lexWord_any (c : UInt8) (w : World) : Calls prog 140 #[.int .u8 ((c.toNat : Nat) : Int)] w fun e w' => e = .returned (.string ⟨(wordOf c).toArray⟩) ∧ w' = w := by
 by_cases h110 : c = 110
 ·have hn : wordOf c = [110, 117, 108, 108] := by rw [h110]; rfl
  have HN := hZ hn;have hv : ((c.toNat : Nat) : Int) = 110 := by rw [h110]; rfl
  clear hn h110;go_enter func140, ntmps140;go_wp2;go_ret;exact ⟨by rw [HN.out]; rfl, rfl⟩
 by_cases h116 : c = 116
 ·have hn : wordOf c = [116, 114, 117, 101] := by rw [h116]; rfl
  have HN := hZ hn;have hv : ((c.toNat : Nat) : Int) = 116 := by rw [h116]; rfl
  clear hn h110 h116;go_enter func140, ntmps140;go_wp2;go_ret;exact ⟨by rw [HN.out]; rfl, rfl⟩
 by_cases h102 : c = 102
 ·have hn : wordOf c = [102, 97, 108, 115, 101] := by rw [h102]; rfl
  have HN := hZ hn;have hv : ((c.toNat : Nat) : Int) = 102 := by rw [h102]; rfl
  clear hn h110 h116 h102;go_enter func140, ntmps140;go_wp2;go_ret;exact ⟨by rw [HN.out]; rfl, rfl⟩
 have hn : wordOf c = [] := by simp [wordOf, h110, h116, h102]
 have HN := hZ hn;obtain ⟨n110, m110, k110⟩ := byte_ne3 (c := c) (n := 110) h110 rfl;obtain ⟨n116, m116, k116⟩ := byte_ne3 (c := c) (n := 116) h116 rfl;obtain ⟨n102, m102, k102⟩ := byte_ne3 (c := c) (n := 102) h102 rfl;clear hn h110 h116 h102;go_enter func140, ntmps140;go_wp2;go_ret;exact ⟨by rw [HN.out]; rfl, rfl⟩
def saidRet (o : Option UInt8) (e : Ending) : Prop := match o with
 | some b => e = .returned (.tuple #[.int .u8 ((b.toNat : Nat) : Int), .bool true])
 | none => e = .returned (.tuple #[.int .u8 0, .bool false])
theorem said_any (c : UInt8) (w : World) : Calls prog 189 #[.int .u8 ((c.toNat : Nat) : Int)] w fun e w' => saidRet (saidOf c) e ∧ w' = w := by
 by_cases h34 : c = 34
 ·have hn : saidOf c = some 34 := by rw [h34]; rfl
  have HN := hZ hn;have hv : ((c.toNat : Nat) : Int) = 34 := by rw [h34]; rfl
  clear hn h34;go_enter func189, ntmps189;go_wp2;exact bodyPost_ret (v := .tuple #[.int .u8 34, .bool true]) (by simp [results, results189, go_sem, hv]) rfl ⟨by rw [HN.out]; rfl, rfl⟩
 by_cases h92 : c = 92
 ·have hn : saidOf c = some 92 := by rw [h92]; rfl
  have HN := hZ hn;have hv : ((c.toNat : Nat) : Int) = 92 := by rw [h92]; rfl
  clear hn h34 h92;go_enter func189, ntmps189;go_wp2;exact bodyPost_ret (v := .tuple #[.int .u8 92, .bool true]) (by simp [results, results189, go_sem, hv]) rfl ⟨by rw [HN.out]; rfl, rfl⟩
 by_cases h47 : c = 47
 ·have hn : saidOf c = some 47 := by rw [h47]; rfl
  have HN := hZ hn;have hv : ((c.toNat : Nat) : Int) = 47 := by rw [h47]; rfl
  clear hn h34 h92 h47;go_enter func189, ntmps189;go_wp2;exact bodyPost_ret (v := .tuple #[.int .u8 47, .bool true]) (by simp [results, results189, go_sem, hv]) rfl ⟨by rw [HN.out]; rfl, rfl⟩
 by_cases h98 : c = 98
 ·have hn : saidOf c = some 8 := by rw [h98]; rfl
  have HN := hZ hn;have hv : ((c.toNat : Nat) : Int) = 98 := by rw [h98]; rfl
  clear hn h34 h92 h47 h98;go_enter func189, ntmps189;go_wp2;exact bodyPost_ret (v := .tuple #[.int .u8 8, .bool true]) (by simp [results, results189, go_sem, hv]) rfl ⟨by rw [HN.out]; rfl, rfl⟩
 by_cases h102 : c = 102
 ·have hn : saidOf c = some 12 := by rw [h102]; rfl
  have HN := hZ hn;have hv : ((c.toNat : Nat) : Int) = 102 := by rw [h102]; rfl
  clear hn h34 h92 h47 h98 h102;go_enter func189, ntmps189;go_wp2;exact bodyPost_ret (v := .tuple #[.int .u8 12, .bool true]) (by simp [results, results189, go_sem, hv]) rfl ⟨by rw [HN.out]; rfl, rfl⟩
 by_cases h110 : c = 110
 ·have hn : saidOf c = some 10 := by rw [h110]; rfl
  have HN := hZ hn;have hv : ((c.toNat : Nat) : Int) = 110 := by rw [h110]; rfl
  clear hn h34 h92 h47 h98 h102 h110;go_enter func189, ntmps189;go_wp2;exact bodyPost_ret (v := .tuple #[.int .u8 10, .bool true]) (by simp [results, results189, go_sem, hv]) rfl ⟨by rw [HN.out]; rfl, rfl⟩
 by_cases h114 : c = 114
 ·have hn : saidOf c = some 13 := by rw [h114]; rfl
  have HN := hZ hn;have hv : ((c.toNat : Nat) : Int) = 114 := by rw [h114]; rfl
  clear hn h34 h92 h47 h98 h102 h110 h114;go_enter func189, ntmps189;go_wp2;exact bodyPost_ret (v := .tuple #[.int .u8 13, .bool true]) (by simp [results, results189, go_sem, hv]) rfl ⟨by rw [HN.out]; rfl, rfl⟩
 by_cases h116 : c = 116
 ·have hn : saidOf c = some 9 := by rw [h116]; rfl
  have HN := hZ hn;have hv : ((c.toNat : Nat) : Int) = 116 := by rw [h116]; rfl
  clear hn h34 h92 h47 h98 h102 h110 h114 h116;go_enter func189, ntmps189;go_wp2;exact bodyPost_ret (v := .tuple #[.int .u8 9, .bool true]) (by simp [results, results189, go_sem, hv]) rfl ⟨by rw [HN.out]; rfl, rfl⟩
 have hn : saidOf c = none := by simp [saidOf, h34, h92, h47, h98, h102, h110, h114, h116]
 have HN := hZ hn;obtain ⟨n34, m34, k34⟩ := byte_ne3 (c := c) (n := 34) h34 rfl;obtain ⟨n92, m92, k92⟩ := byte_ne3 (c := c) (n := 92) h92 rfl;obtain ⟨n47, m47, k47⟩ := byte_ne3 (c := c) (n := 47) h47 rfl;obtain ⟨n98, m98, k98⟩ := byte_ne3 (c := c) (n := 98) h98 rfl;obtain ⟨n102, m102, k102⟩ := byte_ne3 (c := c) (n := 102) h102 rfl;obtain ⟨n110, m110, k110⟩ := byte_ne3 (c := c) (n := 110) h110 rfl;obtain ⟨n114, m114, k114⟩ := byte_ne3 (c := c) (n := 114) h114 rfl;obtain ⟨n116, m116, k116⟩ := byte_ne3 (c := c) (n := 116) h116 rfl;clear hn h34 h92 h47 h98 h102 h110 h114 h116;go_enter func189, ntmps189;go_wp2;exact bodyPost_ret (v := .tuple #[.int .u8 0, .bool false]) (by simp [results, results189, go_sem]) rfl ⟨by rw [HN.out]; rfl, rfl⟩
section
def WinN (s e : Nat) (w : World) (v : Value) (n : Nat) (cs : List Value) : Prop := cs.length = n * s ∧ ((v = .slice none 0 0 ∧ n = 0) ∨
 ∃ g off cap cur, v = .slice (some ⟨g, off, none⟩) n cap ∧ w.heap[g]? = some (.cells cur e (0, 0)) ∧ n ≤ cap ∧ off + cap * s ≤ cur.size ∧ cap ≤ maxLen ∧ ∀ (j : Nat) (u : Value), cs[j]? = some u → cur[off + j]? = some u)
def ElemN (t e s bytes : Nat) : Prop := prog.underlying t = some (.slice e) ∧ 0 < s ∧ ∃ i z, prog.info? e = some i ∧ i.zero = some z ∧ i.size = s ∧ i.bytes = bytes ∧ z.cells.size = s
theorem setCells_block (g : Nat) : ∀ (news : List Value) (o : Nat) (w : World) (cur : Array Value) (T : TypeId), w.heap[g]? = some (.cells cur T (0, 0)) →
 ∃ cur', (w.setCells g o news).heap[g]? = some (.cells cur' T (0, 0)) ∧ cur'.size = cur.size ∧ (∀ j u, news[j]? = some u → o + j < cur.size → cur'[o + j]? = some u) ∧ (∀ k, k < o → cur'[k]? = cur[k]?) ∧ Keeps (fun k => k = g) w (w.setCells g o news) := by
 intro news
 induction news with
 | nil => intro o w cur T h; exact ⟨cur, h, rfl, fun j u hj => by simp at hj, fun _ _ => rfl, Keeps.refl _ _⟩
 | cons x news ih =>
  intro o w cur T h;obtain ⟨cur', h1, h2, h3, h4, h5⟩ := ih (o + 1) (w.setCell ⟨g, o, none⟩ x) _ T (set_at h x);refine ⟨cur', h1, by rw [h2]; simp, ?_, ?_, ((Keeps.refl (fun k => k = g) w).setCell (p := ⟨g, o, none⟩) (.inl rfl) x).same h5⟩
  ·intro j u hj hlt;cases j with
   | zero =>
    simp at hj; subst hj;rw [Nat.add_zero, h4 o (by omega), Array.getElem?_setIfInBounds, if_pos rfl, if_pos (by omega)]
   | succ j =>
    have := h3 j u (by simpa using hj) (by simp; omega);rw [show o + (j + 1) = o + 1 + j by omega]; exact this
  ·intro k hk;rw [h4 k (by omega), Array.getElem?_setIfInBounds, if_neg (by omega)]
section
variable {s e : Nat} {w : World} {v : Value} {n : Nat} {cs : List Value}
theorem WinN.nil (s e : Nat) (w : World) : WinN s e w (.slice none 0 0) 0 [] := ⟨by simp, .inl ⟨rfl, rfl⟩⟩
theorem WinN.keeps {F : Nat → Prop} {w' : World} (h : WinN s e w v n cs) (hk : Keeps F w w') (hF : ∀ k, v.ownBlock = some k → ¬ F k) : WinN s e w' v n cs := by
 refine ⟨h.1, ?_⟩;rcases h.2 with hn | ⟨g, off, cap, cur, rfl, hg, rest⟩
 ·exact .inl hn
 ·exact .inr ⟨g, off, cap, cur, rfl, hk.blk hg (hF g rfl), rest⟩
theorem WinN.shape (h : WinN s e w v n cs) : ∃ a c, v = .slice a n c := by
 rcases h.2 with ⟨rfl, rfl⟩ | ⟨g, off, cap, cur, rfl, _⟩
 ·exact ⟨none, 0, rfl⟩
 ·exact ⟨_, _, rfl⟩
theorem WinN.lt (h : WinN s e w v n cs) {k : Nat} (hk : v.ownBlock = some k) : k < w.heap.size := by
 rcases h.2 with ⟨rfl, _⟩ | ⟨g, off, cap, cur, rfl, hg, _⟩
 ·cases hk
 ·cases hk; exact lt_of_block hg
theorem WinN.ne (h : WinN s e w v n cs) {b : Nat} {c : Array Value} {T : TypeId} (hb : w.heap[b]? = some (.cells c T (0, 0))) (hT : T ≠ e) : v.ownBlock ≠ some b := by
 rcases h.2 with ⟨rfl, _⟩ | ⟨g, off, cap, cur, rfl, hg, _⟩
 ·simp [Value.ownBlock]
 ·intro hc;simp only [Value.ownBlock, Option.some.injEq] at hc;subst hc;rw [hb] at hg;simp only [Option.some.injEq, Obj.cells.injEq] at hg;exact hT hg.2.1
theorem WinN.cell {g off cap : Nat} (h : WinN s e w (.slice (some ⟨g, off, none⟩) n cap) n cs) {j : Nat} {u : Value} (hx : cs[j]? = some u) : w.cell? ⟨g, off + j, none⟩ = some u := by
 rcases h.2 with ⟨hv, _⟩ | ⟨g', off', cap', cur, hv, hg, hc, ho, hm, hi⟩
 ·cases hv
 ·cases hv;rw [cell_at hg]; exact hi j u hx
theorem WinN.of_own {B : Nat} (h : w.ownsRow B e s v n cs) : WinN s e w v n cs ∧ ∀ k, v.ownBlock = some k → B ≤ k := by
 rcases h.2 with ⟨rfl, rfl⟩ | ⟨g, cap, cur, rfl, hB, hg, hc, hm, hs, ht⟩
 ·exact ⟨⟨h.1, .inl ⟨rfl, rfl⟩⟩, fun k hk => by cases hk⟩
 ·refine ⟨⟨h.1, .inr ⟨g, 0, cap, cur, rfl, hg, hc, by omega, hm, fun j u hj => ?_⟩⟩, fun k hk => by cases hk; exact hB⟩;have hlt : j < cs.length := (List.getElem?_eq_some_iff.1 hj).1;have := congrArg (fun x => x[j]?) ht;rw [h.1] at hlt;simp only [List.getElem?_take, if_pos hlt, Array.getElem?_toList, hj] at this
  simpa using this
theorem append_winN {t bytes : Nat} {ops : Array Oper} {rest : List Oper} {o : Oper} {a : Act} {Q : Exit → Act → World → Prop} (E : ElemN t e s bytes) (hgd : o.guard = none) (so x : Operand)
 (ho : o.op = .call { callee := .builtin .append, args := #[so, x], argTypes := #[t, t] }) (hs : a.eval so = v) (hown : WinN s e w v n cs) (ad : Addr) (m c : Nat) (news : List Value) (hx : a.eval x = .slice (some ad) m c) (hnl : news.length = m * s)
 (hnews : ∀ j u, news[j]? = some u → w.cell? (ad.add j) = some u) (h1 : ∀ u ∈ news, u.oneCell' = true) (hm1 : 1 ≤ m) (hb : (n + m) * bytes ≤ 140737488355328) (hm : n + m ≤ maxLen)
 (h : ∀ g off cap w', WinN s e w' (.slice (some ⟨g, off, none⟩) (n + m) cap) (n + m) (cs ++ news) → (v.ownBlock = some g ∨ (w.heap.size ≤ g ∧ g < w'.heap.size)) → Keeps (fun k => v.ownBlock = some k) w w' → wpList prog ops Q rest (a.put o.dst (.slice (some ⟨g, off, none⟩) (n + m) cap)) w') :
 wpList prog ops Q (o :: rest) a w := by
 obtain ⟨ht, hs0, i, z, hi, hz, hsz, hby, hzs⟩ := E;have hgk : ∀ {w' : World} {row : Option Nat}, w.grownBy w' row → (∀ k, row = some k → v.ownBlock = some k) → Keeps (fun k => v.ownBlock = some k) w w' := fun hg hr => (Keeps.refl _ w).grown hg (fun k e => .inl (hr k e))
 have hfin : ∀ v' w', w'.ownsRow w.heap.size e s v' (n + m) (cs ++ news) → w.grownBy w' none → wpList prog ops Q rest (a.put o.dst v') w' := by
  intro v' w' hrow hgr;obtain ⟨hw, hB⟩ := WinN.of_own hrow;rcases hrow.2 with ⟨_, hn⟩ | ⟨g, cap, cur, rfl, hb', hg, _⟩
  ·omega
  ·exact h g 0 cap w' hw (.inr ⟨hb', lt_of_block hg⟩) (hgk hgr (fun k e => by cases e))
 obtain ⟨hlen, hown⟩ := hown;rcases hown with ⟨rfl, rfl⟩ | ⟨g, off, cap, cur, rfl, hg, hc, hof, hcm, hcell⟩
 ·exact wpList_append_grows w hgd so x t ho e i z s bytes ht hi hz hsz hby hzs hs0 none 0 0 cs hs (fun _ => ⟨rfl, rfl⟩) hlen (fun b hb => by cases hb) ad m c news hx hnl hnews h1 (by omega) hm hb hfin
 ·refine wpList_append_arg w hgd so x t ho e i z s bytes ht hi hz hsz hby hzs hs0 g off n cap cs hs hlen (fun j u hj => by rw [cell_at hg]; exact hcell j u hj) ad m c news hx hnl hnews h1 ?_ hm hb ?_ (fun _ => hfin)
  ·intro hroom j hj;have hle : (n + m) * s ≤ cap * s := Nat.mul_le_mul_right s hroom;rw [Nat.add_mul] at hle;rw [hnl] at hj;refine ⟨?_, free_at hg _⟩;rw [cell_at hg, Array.getElem?_eq_getElem (by omega)]; rfl
  ·intro hroom;have hle : (n + m) * s ≤ cap * s := Nat.mul_le_mul_right s hroom;rw [Nat.add_mul] at hle;obtain ⟨cur', h1', h2', h3', h4', h5'⟩ := setCells_block g news (off + n * s) w cur e hg;refine h g off cap _ ⟨by rw [List.length_append, hlen, hnl, Nat.add_mul], .inr ⟨g, off, cap, cur', rfl, h1', hroom, by omega, hcm, ?_⟩⟩ (.inl rfl) (h5'.mono (fun k e => by rw [e]; rfl));intro j u hj
   by_cases hjl : j < cs.length
   ·rw [List.getElem?_append_left hjl] at hj;rw [h4' _ (by omega)];exact hcell j u hj
   ·rw [List.getElem?_append_right (by omega)] at hj;have hjn := (List.getElem?_eq_some_iff.1 hj).1;have := h3' (j - cs.length) u hj (by omega);rw [show off + n * s + (j - cs.length) = off + j by omega] at this;exact this
theorem run_append_winN {t ty bytes : Nat} (E : ElemN t e s bytes) (hown : WinN s e w v n cs) (ad : Addr) (m c : Nat) (news : List Value) (hnl : news.length = m * s)
 (hnews : ∀ j u, news[j]? = some u → w.cell? (ad.add j) = some u) (h1 : ∀ u ∈ news, u.oneCell' = true) (hm1 : 1 ≤ m) (hb : (n + m) * bytes ≤ 140737488355328) (hm : n + m ≤ maxLen) :
 ∃ g off cap w', (Builtin.append_ #[t, t] ty #[v, .slice (some ad) m c]).run prog w = .ok (.slice (some ⟨g, off, none⟩) (n + m) cap) w' ∧ WinN s e w' (.slice (some ⟨g, off, none⟩) (n + m) cap) (n + m) (cs ++ news) ∧ (v.ownBlock = some g ∨ (w.heap.size ≤ g ∧ g < w'.heap.size)) ∧ Keeps (fun k => v.ownBlock = some k) w w' := by
 obtain ⟨ht, hs0, i, z, hi, hz, hsz, hby, hzs⟩ := E;have hgk : ∀ {w' : World} {row : Option Nat}, w.grownBy w' row → (∀ k, row = some k → v.ownBlock = some k) → Keeps (fun k => v.ownBlock = some k) w w' := fun hg hr => (Keeps.refl _ w).grown hg (fun k e => .inl (hr k e))
 have hfin : ∀ v' w', w'.ownsRow w.heap.size e s v' (n + m) (cs ++ news) → (∀ k, v'.ownBlock = some k → True) → w.grownBy w' none → ∃ g cap, v' = .slice (some ⟨g, 0, none⟩) (n + m) cap ∧ WinN s e w' (.slice (some ⟨g, 0, none⟩) (n + m) cap) (n + m) (cs ++ news) ∧ (v.ownBlock = some g ∨ (w.heap.size ≤ g ∧ g < w'.heap.size)) ∧ Keeps (fun k => v.ownBlock = some k) w w' := by
  intro v' w' hrow _ hgr;obtain ⟨hw, hB⟩ := WinN.of_own hrow;rcases hrow.2 with ⟨_, hn⟩ | ⟨g, cap, cur, rfl, hb', hg, _⟩
  ·omega
  ·exact ⟨g, cap, rfl, hw, .inr ⟨hb', lt_of_block hg⟩, hgk hgr (fun k e => by cases e)⟩
 obtain ⟨hlen, hown⟩ := hown;rcases hown with ⟨rfl, rfl⟩ | ⟨g, off, cap, cur, rfl, hg, hc, hof, hcm, hcell⟩
 ·obtain rfl : cs = [] := List.eq_nil_of_length_eq_zero (by simpa using hlen);obtain ⟨v', w', hrun, r1, r2, _⟩ := run_append_own (P := prog) w w.heap.size t ty e i z s bytes ht hi hz hsz hby hzs hs0 (.slice none 0 0) 0 [] (World.ownsRow_nil w _ e s) ad m c news hnl hnews h1 hm hb (Nat.le_refl _);obtain ⟨g, cap, rfl, h2, h3, h4⟩ := hfin v' w' r1 (fun _ _ => trivial) r2;exact ⟨g, 0, cap, w', hrun, h2, h3, h4⟩
 ·by_cases hr : n + m ≤ cap
  ·subst hsz;have hle : (n + m) * i.size ≤ cap * i.size := Nat.mul_le_mul_right _ hr;rw [Nat.add_mul] at hle
   have hspare : ∀ j, j < news.length → (w.cell? ⟨g, off + n * i.size + j, none⟩).isSome = true := by
    intro j hj;rw [hnl] at hj;rw [cell_at hg, Array.getElem?_eq_getElem (by omega)]; rfl
   have hrun := run_append_room_cells (P := prog) w t ty e i ht hi g off n cap ad m c news hnl hnews h1 hr hspare (fun j _ => free_at hg _);obtain ⟨cur', h1', h2', h3', h4', h5'⟩ := setCells_block g news (off + n * i.size) w cur e hg;refine ⟨g, off, cap, _, hrun, ⟨by rw [List.length_append, hlen, hnl, Nat.add_mul], .inr ⟨g, off, cap, cur', rfl, h1', hr, by omega, hcm, ?_⟩⟩, .inl rfl, h5'.mono (fun k e => by rw [e]; rfl)⟩;intro j u hj
   by_cases hjl : j < cs.length
   ·rw [List.getElem?_append_left hjl] at hj;rw [h4' _ (by omega)];exact hcell j u hj
   ·rw [List.getElem?_append_right (by omega)] at hj;have hjn := (List.getElem?_eq_some_iff.1 hj).1;have := h3' (j - cs.length) u hj (by omega);rw [show off + n * i.size + (j - cs.length) = off + j by omega] at this;exact this
  ·obtain ⟨v', w', hrun, r1, r2⟩ := run_append_arg_grows (P := prog) w t ty e i z s bytes ht hi hz hsz hby hzs hs0 ⟨g, off, none⟩ n cap cs hlen (fun j u hj => by rw [Addr.add_lit, cell_at hg]; exact hcell j u hj) ad m c news hnl hnews (by omega) hm hb;obtain ⟨g', cap', rfl, h2, h3, h4⟩ := hfin v' w' r1 (fun _ _ => trivial) r2;exact ⟨g', 0, cap', w', hrun, h2, h3, h4⟩
theorem step_append_winN {t bytes : Nat} {ops : Array Oper} {o : Oper} {a : Act} {K : Act → World → Prop} {Q : Exit → Act → World → Prop} {D : Prop} (E : ElemN t e s bytes) (hgd : o.guard = none) (so x : Operand)
 (ho : o.op = .call { callee := .builtin .append, args := #[so, x], argTypes := #[t, t] }) (hs : a.eval so = v) (hown : WinN s e w v n cs) (ad : Addr) (m c : Nat) (news : List Value) (hx : a.eval x = .slice (some ad) m c) (hnl : news.length = m * s)
 (hnews : ∀ j u, news[j]? = some u → w.cell? (ad.add j) = some u) (h1 : ∀ u ∈ news, u.oneCell' = true) (hm1 : 1 ≤ m) (hb : (n + m) * bytes ≤ 140737488355328) (hm : n + m ≤ maxLen)
 (h : ∀ g off cap w', WinN s e w' (.slice (some ⟨g, off, none⟩) (n + m) cap) (n + m) (cs ++ news) → (v.ownBlock = some g ∨ (w.heap.size ≤ g ∧ g < w'.heap.size)) → Keeps (fun k => v.ownBlock = some k) w w' → K (a.put o.dst (.slice (some ⟨g, off, none⟩) (n + m) cap)) w') :
 if Region.wanted o (yielded ops a.tmps) = true then Oper.wp prog o a w K Q else D := by
 have hw : Region.wanted o (yielded ops a.tmps) = true := by simp [Region.wanted, hgd]
 rw [if_pos hw];obtain ⟨g, off, cap, w', hrun, h2, h3, h4⟩ := run_append_winN (ty := o.type) E hown ad m c news hnl hnews h1 hm1 hb hm;unfold Oper.wp execOp;simp only [ho, resolve, invoke, builtin, Sem.run_bind, Sem.run_pure, Result.andThen_ok, List.map_toArray, List.map_cons, List.map_nil, hs, hx, hrun];exact h g off cap w' h2 h3 h4
theorem firstNone' (w : World) (k : Nat) (A : Option Addr) (c : Nat) : (Builtin.firstCells k 0 (.slice A 0 c)).run prog w = .ok #[] w := by
 cases A with
 | none => simp [Builtin.firstCells]
 | some ad =>
  have h := run_loadCells_list (P := prog) w ad [] (fun j v hj => by simp at hj)
  simpa [Builtin.firstCells] using h
theorem append_winN0 {t bytes : Nat} {ops : Array Oper} {rest : List Oper} {o : Oper} {a : Act} {Q : Exit → Act → World → Prop} (E : ElemN t e s bytes) (hgd : o.guard = none) (so x : Operand)
 (ho : o.op = .call { callee := .builtin .append, args := #[so, x], argTypes := #[t, t] }) (hs : a.eval so = v) (hown : WinN s e w v n cs) (A : Option Addr) (c : Nat) (hx : a.eval x = .slice A 0 c)
 (h : wpList prog ops Q rest (a.put o.dst v) w) :
 wpList prog ops Q (o :: rest) a w := by
 obtain ⟨ht, hs0, i, z, hi, hz, hsz, hby, hzs⟩ := E
 obtain ⟨b0, L, C, hv, hle⟩ : ∃ b0 L C, v = .slice b0 L C ∧ L ≤ C := by
  rcases hown.2 with ⟨rfl, _⟩ | ⟨g, off, cap, cur, rfl, hg, hc, _⟩
  ·exact ⟨_, _, _, rfl, Nat.le_refl _⟩
  ·exact ⟨_, _, _, rfl, hc⟩
 subst hv;have hsrc : Src prog i.size t (.slice A 0 c) 0 [] w := ⟨.inl ⟨e, ht⟩, fun w' => by simp [Builtin.lenOf], firstNone' w _ A c, firstNone' w.drew _ A c, by simp, fun u hu => by simp at hu⟩;have hrun := run_append_nothing (P := prog) w t t o.type e i ht hi b0 L C hle (.slice A 0 c) hsrc;refine wpList_plain hgd fun K hK => ?_
 unfold Oper.wp;simp [execOp, ho, resolve, invoke, builtin, hs, hx, hrun, Result.andThen];exact hK _ _ h
theorem step_append_winN0 {t bytes : Nat} {ops : Array Oper} {o : Oper} {a : Act} {K : Act → World → Prop} {Q : Exit → Act → World → Prop} {D : Prop} (E : ElemN t e s bytes) (hgd : o.guard = none) (so x : Operand)
 (ho : o.op = .call { callee := .builtin .append, args := #[so, x], argTypes := #[t, t] }) (hs : a.eval so = v) (hown : WinN s e w v n cs) (A : Option Addr) (c : Nat) (hx : a.eval x = .slice A 0 c)
 (h : K (a.put o.dst v) w) :
 if Region.wanted o (yielded ops a.tmps) = true then Oper.wp prog o a w K Q else D := by
 have hw : Region.wanted o (yielded ops a.tmps) = true := by simp [Region.wanted, hgd]
 rw [if_pos hw];obtain ⟨ht, hs0, i, z, hi, hz, hsz, hby, hzs⟩ := E
 obtain ⟨b0, L, C, hv, hle⟩ : ∃ b0 L C, v = .slice b0 L C ∧ L ≤ C := by
  rcases hown.2 with ⟨rfl, _⟩ | ⟨g, off, cap, cur, rfl, hg, hc, _⟩
  ·exact ⟨_, _, _, rfl, Nat.le_refl _⟩
  ·exact ⟨_, _, _, rfl, hc⟩
 subst hv;have hsrc : Src prog i.size t (.slice A 0 c) 0 [] w := ⟨.inl ⟨e, ht⟩, fun w' => by simp [Builtin.lenOf], firstNone' w _ A c, firstNone' w.drew _ A c, by simp, fun u hu => by simp at hu⟩;have hrun := run_append_nothing (P := prog) w t t o.type e i ht hi b0 L C hle (.slice A 0 c) hsrc;unfold Oper.wp execOp;simp only [ho, resolve, invoke, builtin, Sem.run_bind, Sem.run_pure, Result.andThen_ok, List.map_toArray, List.map_cons, List.map_nil, hs, hx, hrun];exact h
end
theorem Win.toN {α : Type} {e : Nat} {enc : α → Value} {w : World} {v : Value} {l : List α} (h : Win e enc w v l) : WinN 1 e w v l.length (l.map enc) := by
 refine ⟨by simp, ?_⟩;rcases h with ⟨rfl, rfl⟩ | ⟨g, off, cap, cur, rfl, hg, hc, ho, hm, hi⟩
 ·exact .inl ⟨rfl, rfl⟩
 ·refine .inr ⟨g, off, cap, cur, rfl, hg, hc, by omega, hm, fun j u hj => ?_⟩;rw [List.getElem?_map] at hj;cases hl : l[j]? with
  | none => rw [hl] at hj; cases hj
  | some x => rw [hl] at hj; simp at hj; subst hj; exact hi j x hl
theorem WinN.toWin {α : Type} {e n : Nat} {enc : α → Value} {w : World} {v : Value} {l : List α} (h : WinN 1 e w v n (l.map enc)) : Win e enc w v l := by
 obtain ⟨h0, h⟩ := h;have hn : l.length = n := by simpa using h0
 subst hn;rcases h with ⟨rfl, hl⟩ | ⟨g, off, cap, cur, rfl, hg, hc, ho, hm, hi⟩
 ·exact .inl ⟨rfl, List.eq_nil_of_length_eq_zero hl⟩
 ·exact .inr ⟨g, off, cap, cur, rfl, hg, hc, by omega, hm, fun i x hx => hi i (enc x) (by rw [List.getElem?_map, hx]; rfl)⟩
end
theorem elemB1 : ElemN 22 5 1 1 := ⟨underlying22, by decide, by
 have h : (prog.info? 5).map (fun i => (i.zero, i.size, i.bytes)) = some (some (.int .u8 0), 1, 1) := by kernel_rfl
 obtain ⟨i, h1, h2, h3, h4⟩ := info_parts h;exact ⟨i, _, h1, h2, h3, h4, rfl⟩⟩
theorem under3 : prog.underlying 3 = some (.int .i64) := by kernel_rfl
def Bs (w : World) (v : Value) (l : List UInt8) : Prop := ∃ a cap, v = .slice a l.length cap ∧ l.length ≤ cap ∧ cap ≤ maxLen ∧ (l = [] ∨ ∃ g off, a = some ⟨g, off, none⟩ ∧ ∀ i x, l[i]? = some x → w.cell? ⟨g, off + i, none⟩ = some (encB x))
def GrowRet (w : World) (n : Nat) (e : Ending) (w' : World) : Prop := ∃ v, e = .returned v ∧ WinN 1 5 w' v 0 [] ∧ (∀ k, v.ownBlock = some k → w.heap.size ≤ k) ∧ Below w.heap.size w w'
theorem grow_nil (w : World) (n : Nat) (hn : n ≤ 1073741824) : Calls prog 71 #[.slice none 0 0, .int .i64 n] w fun e w' => GrowRet w n e w' := by
 by_cases h0 : n = 0
 ·subst h0;go_enter func71, ntmps71;go_wp2;exact bodyPost_ret (v := .slice none 0 0) (by simp [results, results71, go_sem]) rfl ⟨_, rfl, .nil _ _ _, fun k h => (by cases h), Below.refl _ _⟩
 ·have hz : (prog.info? 5).map (fun i => (i.zero, i.size, i.bytes)) = some (some (.int .u8 0), 1, 1) := by kernel_rfl
  obtain ⟨i0, hi0, hz0, hs0, hb0⟩ := info_parts hz;have hrun := Lib.run_append_grow_zeros (P := prog) w 22 3 22 5 i0 (.int .u8 0) .i64 .i64 underlying22 under3 hi0 hz0 none 0 0 [] (by rw [hs0]; exact run_firstCells_none w.drew 1 0 0 0) n (by omega) (by omega) (by omega) (by omega) (by rw [hb0]; omega) (by rw [hb0]; exact growslice_fits (by omega) (by omega));rw [Nat.zero_add] at hrun;obtain ⟨G, hG⟩ : ∃ G, G = grownCap w n 0 5 := ⟨_, rfl⟩;have hGn : n ≤ G := by rw [hG]; exact grownCap_ge w _ _ _
  have hGm : G ≤ maxLen := by rw [hG]; exact grownCap_le_maxLen w n 0 5 (by unfold maxLen; omega)
  rw [← hG] at hrun;obtain ⟨cs, hcs⟩ : ∃ cs : Array Value, (([] : List Value).toArray ++ Builtin.zeroCells (Value.cells (.int .u8 0)) n ++ Builtin.zeroCells (Value.cells (.int .u8 0)) (G - n)) = cs := ⟨_, rfl⟩
  have hcl : G ≤ cs.size := by
   rw [← hcs];simp [Builtin.zeroCells, Value.cells];omega
  rw [hcs] at hrun;have HRUN := hZ hrun;have j1 : (0 : Int) < (n : Int) := by omega
  have j2 : (n : Int) ≤ 1073741824 := by omega
  have j3 : (G : Int) ≤ 9223372036854775807 := by unfold maxLen at hGm; omega
  clear hrun hcs hG hGm;go_enter func71, ntmps71
  go_wp2_with (at_builtin; refine Lib.wpList_append_run _ rfl _ _ _ _ rfl _ _ rfl rfl _ _ HRUN.out ?_)
  exact bodyPost_ret (v := .slice (some ⟨w.heap.size, 0, none⟩) 0 G) (by simp [results, results71, go_sem]) rfl ⟨_, rfl, ⟨rfl, .inr ⟨_, 0, G, cs, rfl, heap_alloc_new w.drew _, Nat.zero_le _, by omega, by unfold maxLen; omega, fun j u h => by simp at h⟩⟩, fun k h => (by cases h; exact Nat.le_refl _), ((Below.refl w.heap.size w).drew).alloc (Nat.le_refl _) _⟩
def catOf (bs : List (List UInt8)) (i : Nat) : List UInt8 := (bs.take i).flatten
theorem catOf_next {bs : List (List UInt8)} {i : Nat} {b : List UInt8} (h : bs[i]? = some b) : catOf bs (i + 1) = catOf bs i ++ b := by
 unfold catOf;rw [List.take_add_one, h];simp
theorem catOf_le (bs : List (List UInt8)) (i : Nat) : (catOf bs i).length ≤ bs.flatten.length := by
 have : bs.flatten = (bs.take i).flatten ++ (bs.drop i).flatten := by rw [← List.flatten_append, List.take_append_drop]
 rw [this, List.length_append];exact Nat.le_add_right _ _
def CatAt (w : World) (bs : List (List UInt8)) (i : Nat) (v : Value) (wr : World) : Prop :=
 WinN 1 5 wr v (catOf bs i).length ((catOf bs i).map encB) ∧ (∀ k, v.ownBlock = some k → w.heap.size ≤ k) ∧ Below w.heap.size w wr
theorem concat_any (w : World) (g off n c : Nat) (vs : List Value) (bs : List (List UInt8)) (hn : vs.length = n) (hbl : bs.length = n) (hcell : ∀ (i : Nat) v, vs[i]? = some v → w.cell? ⟨g, off + i, none⟩ = some v)
 (hv : ∀ (i : Nat) v b, vs[i]? = some v → bs[i]? = some b → Bs w v b) (htot : bs.flatten.length ≤ 1073741824) (hnn : n ≤ 1073741824) :
 Calls prog 46 #[.slice (some ⟨g, off, none⟩) n c] w fun e w' => ∃ v, e = .returned v ∧ WinN 1 5 w' v bs.flatten.length (bs.flatten.map encB) ∧ (∀ k, v.ownBlock = some k → w.heap.size ≤ k) ∧ Below w.heap.size w w' := by
 have HV := hZ (fun (wr : World) (hb : Below w.heap.size w wr) (i : Nat) (hi : i < n) => (show ∃ a b cap, bs[i]? = some b ∧ wr.cell? ⟨g, off + i, none⟩ = some (.slice a b.length cap) ∧ Bs wr (.slice a b.length cap) b from by
  have h1 : vs[i]? = some (vs[i]'(by omega)) := List.getElem?_eq_getElem _;have h2 : bs[i]? = some (bs[i]'(by omega)) := List.getElem?_eq_getElem _;obtain ⟨a, cap, e1, e2, e3, e4⟩ := hv i _ _ h1 h2;have hc := hcell i _ h1;rw [e1] at hc;refine ⟨a, _, cap, h2, (hb.cell (World.block_lt_of_cell? w _ hc)).trans hc, a, cap, rfl, e2, e3, e4.imp id ?_⟩;rintro ⟨g', off', f1, f2⟩;exact ⟨g', off', f1, fun j x hj => (hb.cell (World.block_lt_of_cell? w _ (f2 j x hj))).trans (f2 j x hj)⟩))
 have HLE := hZ (catOf_le bs);have HG := hZ (fun w1 => grow_nil w1 (catOf bs n).length (Nat.le_trans (catOf_le bs n) htot));have HALL : Hid (catOf bs n = bs.flatten) := hZ (by unfold catOf; rw [← hbl, List.take_length]);have HTOT := hZ htot;clear hcell hv hn hbl;go_enter func46, ntmps46;go_wp2_with fail
 go_loopw [3, 11] (fun s v wr => ∃ i : Nat, v = .int .i64 i ∧ s = .int .i64 (catOf bs i).length ∧ i ≤ n ∧ w = wr) (fun _ v _ => n - (intOf v).toNat)
 case atStart => exact ⟨0, rfl, rfl, Nat.zero_le _, rfl⟩
 case round =>
  obtain ⟨i, rfl, rfl, hi, rfl⟩ := hrel
  by_cases hlt : i < n
  ·obtain ⟨a, b, cap, hb, hc, hbs⟩ := HV.out w (Below.refl _ _) i hlt;have hnx := catOf_next hb;have hle := HLE.out (i + 1);have ht := HTOT.out;rw [hnx, List.length_append] at hle;have j1 : IntKind.i64.wrap (((catOf bs i).length : Int) + (b.length : Int)) = ((catOf bs i).length : Int) + (b.length : Int) := by rw [IntKind.wrap_i64]; omega
   have j2 : ¬ ((catOf bs i).length : Int) + (b.length : Int) < 0 := by omega
   clear hbs ht hle hb;go_wp2_with fail
   go_roundw
   case rel => exact ⟨i + 1, by go_num, by rw [hnx, List.length_append]; rfl, by omega, trivial⟩
   case measure => simp [intOf]; omega
  ·obtain rfl : i = n := by omega
   go_wp2_with fail;refine (HG.out _).mono ?_;rintro e w1 ⟨v0, rfl, hw0, ho0, hb0⟩;have H0 : Hid (CatAt w bs 0 v0 w1) := hZ ⟨hw0, ho0, hb0⟩;clear hw0 ho0 hb0;go_wp2_with fail
   go_loopw [6, 27] (fun ov v wr => ∃ i2 : Nat, v = .int .i64 i2 ∧ i2 ≤ i ∧ Hid (CatAt w bs i2 ov wr)) (fun _ v _ => i - (intOf v).toNat)
   case atStart => exact ⟨0, rfl, Nat.zero_le _, H0⟩
   case round =>
    obtain ⟨k, rfl, hk, HC⟩ := hrel
    by_cases hlt2 : k < i
    ·obtain ⟨a, b, cap, hb, hc, hbs⟩ := HV.out wr HC.out.2.2 k hlt2;have hnx := catOf_next hb;have hle := HLE.out (k + 1);have ht := HTOT.out;rw [hnx, List.length_append] at hle;have HNX := hZ hnx;have HW := hZ HC.out.1
     by_cases hb0 : b = []
     ·subst hb0;clear hbs ht hle hb hnx
      go_wp2_with (at_builtin; refine append_winN0 elemB1 rfl _ _ rfl rfl HW.out a cap rfl ?_)
      go_roundw
      case rel => exact ⟨k + 1, by go_num, by omega, hZ ⟨by rw [HNX.out, List.append_nil]; exact HW.out, HC.out.2.1, HC.out.2.2⟩⟩
      case measure => simp [intOf]; omega
     ·obtain ⟨a', cap', e1, e2, e3, e4⟩ := hbs;injection e1 with e1 _ e5
      subst e1 e5;obtain ⟨g', off', rfl, hcc⟩ := e4.resolve_left hb0;have hpos : 1 ≤ b.length := List.length_pos_iff.2 hb0
      have HN := hZ (show ∀ j u, (b.map encB)[j]? = some u → wr.cell? ((⟨g', off', none⟩ : Addr).add j) = some u from fun j u hj => by
       rw [List.getElem?_map] at hj;cases hlj : b[j]? with
       | none => rw [hlj] at hj; cases hj
       | some x =>
        rw [hlj] at hj;simp at hj;subst hj;rw [show (⟨g', off', none⟩ : Addr).add j = ⟨g', off' + j, none⟩ by unfold Addr.add; split <;> simp_all];exact hcc j x hlj)
      have HHLE := hZ hle;have HPOS := hZ hpos;clear ht hle hb hnx hcc e2 e3 e4 hb0 hpos
      go_wp2_with (at_builtin; refine append_winN elemB1 rfl _ _ rfl rfl HW.out ⟨g', off', none⟩ b.length cap (b.map encB) rfl ?_ HN.out ?_ HPOS.out ?_ ?_ ?_)
      ·intro x _; rfl
      ·have := HHLE.out; have := HTOT.out; omega
      ·have := HHLE.out; have := HTOT.out; unfold maxLen; omega
      intro g2 off2 cap2 w3 hw3 hg3 hk3;have HW3 := hZ hw3;have HG3 := hZ hg3;have HK3 := hZ hk3;clear hw3 hg3 hk3;go_wp2_with fail
      go_roundw
      case rel =>
       refine ⟨k + 1, by go_num, by omega, hZ ⟨?_, ?_, ?_⟩⟩
       ·rw [HNX.out, List.map_append, List.length_append]; exact HW3.out
       ·intro x hx;cases hx;rcases HG3.out with h | h
        ·exact HC.out.2.1 _ h
        ·exact Nat.le_trans HC.out.2.2.size h.1
       ·exact HC.out.2.2.trans (HK3.out.toBelow HC.out.2.2.size (fun x h => HC.out.2.1 x h))
      case measure => simp [intOf]; omega
    ·obtain rfl : k = i := by omega
     have HR := hZ HC.out;have hallk := HALL.out;go_wp2_with fail
     obtain ⟨a, cc, hov⟩ : ∃ a cc, u6 = .slice a (catOf bs k).length cc := by
      obtain ⟨a, cc, e⟩ := HR.out.1.shape;exact ⟨a, cc, e⟩
     refine bodyPost_ret (v := u6) (by simp [results, results46, go_sem]) rfl ⟨_, rfl, ?_, HR.out.2.1, HR.out.2.2⟩;rw [← hallk];exact HR.out.1
end Go.Proofs.YtakkmiomhackiaaGreatDoor
