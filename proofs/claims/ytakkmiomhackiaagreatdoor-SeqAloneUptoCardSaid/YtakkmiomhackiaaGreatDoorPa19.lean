/-
  The program, one part of its walk: Sm1, Mp, Dc6. Conditions: none.
-/
import Derived.Test.YtakkmiomhackiaaGreatDoorPa15
import Derived.Maps.OwnSet
import Derived.Test.YtakkmiomhackiaaGreatDoorPa18
import Derived.Test.YtakkmiomhackiaaGreatDoorPa00
set_option linter.all false
set_option maxRecDepth 100000
set_option maxHeartbeats 16000000
open Go.Proofs.Tryz
namespace Go.Proofs.YtakkmiomhackiaaGreatDoor
open Go.RowKit
theorem sort_null (w : World) : Calls prog 344 #[.agg #[]] w fun e w' => e = .returned (.int .i64 1) ∧ Below w.heap.size w w' := by
 go_enter func344, ntmps344;go_wp2;go_ret;exact ⟨rfl, (Below.refl _ _).alloc (Nat.le_refl _) _⟩
theorem refSort_null (w : World) : Calls prog 124 #[.agg #[.iface 177 (.agg #[])]] w fun e w' => e = .returned (.int .i64 1) ∧ Below w.heap.size w w' := by
 have hm : ∀ w : World, (method 565 177 (.agg #[]) "affidavit/node.sort").run prog w = .ok (344, .agg #[]) w := fun _ => by kernel_rfl
 have HB := hZ ((Below.refl w.heap.size w).alloc (Nat.le_refl _) (.cells #[.iface 177 (.agg #[])] 99));have HS := hZ (fun w => sort_null w);go_enter func124, ntmps124;go_wp2_with fail;refine (HS.out _).mono ?_;rintro e w1 ⟨rfl, hb⟩;have HB1 := hZ (chain HB.out hb);clear hb;go_wp2_with fail;go_ret;exact ⟨rfl, HB1.out⟩
theorem refItems_null (w : World) : Calls prog 127 #[.agg #[.iface 177 (.agg #[])]] w fun e w' => e = .returned (.slice none 0 0) ∧ Below w.heap.size w w' := by
 have ta1 : ∀ w : World, (Instr.typeAssert (.iface 177 (.agg #[])) 97 181 true).run prog w = .ok (.tuple #[.pointer none, .bool false]) w := fun _ => by kernel_rfl
 have ta2 : ∀ w : World, (Instr.typeAssert (.iface 177 (.agg #[])) 97 187 true).run prog w = .ok (.tuple #[.pointer none, .bool false]) w := fun _ => by kernel_rfl
 have HB := hZ ((Below.refl w.heap.size w).alloc (Nat.le_refl _) (.cells #[.iface 177 (.agg #[])] 99));go_enter func127, ntmps127;go_wp2_with fail;go_ret;exact ⟨rfl, HB.out⟩
theorem refKeys_null (w : World) : Calls prog 126 #[.agg #[.iface 177 (.agg #[])]] w fun e w' => e = .returned (.slice none 0 0) ∧ Below w.heap.size w w' := by
 have ta2 : ∀ w : World, (Instr.typeAssert (.iface 177 (.agg #[])) 97 187 true).run prog w = .ok (.tuple #[.pointer none, .bool false]) w := fun _ => by kernel_rfl
 have HB := hZ ((Below.refl w.heap.size w).alloc (Nat.le_refl _) (.cells #[.iface 177 (.agg #[])] 99));go_enter func126, ntmps126;go_wp2_with fail;go_ret;exact ⟨rfl, HB.out⟩
theorem refLen_null (w : World) : Calls prog 125 #[.agg #[.iface 177 (.agg #[])]] w fun e w' => e = .returned (.int .i64 0) ∧ Below w.heap.size w w' := by
 have HB := hZ ((Below.refl w.heap.size w).alloc (Nat.le_refl _) (.cells #[.iface 177 (.agg #[])] 99));have HS := hZ (fun w => refItems_null w);go_enter func125, ntmps125;go_wp2_with fail;refine (HS.out _).mono ?_;rintro e w1 ⟨rfl, hb⟩;have HB1 := hZ (chain HB.out hb);clear hb;go_wp2_with fail;go_ret;exact ⟨rfl, HB1.out⟩
theorem sort_flag (w : World) (c : Bool) : Calls prog 346 #[.bool c] w fun e w' => e = .returned (.int .i64 2) ∧ Below w.heap.size w w' := by
 go_enter func346, ntmps346;go_wp2;go_ret;exact ⟨rfl, Below.refl _ _⟩
theorem refSort_flag (w : World) (c : Bool) : Calls prog 124 #[.agg #[.iface 178 (.bool c)]] w fun e w' => e = .returned (.int .i64 2) ∧ Below w.heap.size w w' := by
 have hm : ∀ w : World, (method 565 178 (.bool c) "affidavit/node.sort").run prog w = .ok (346, .bool c) w := fun _ => by kernel_rfl
 have HB := hZ ((Below.refl w.heap.size w).alloc (Nat.le_refl _) (.cells #[.iface 178 (.bool c)] 99));have HS := hZ (fun w => sort_flag w c);go_enter func124, ntmps124;go_wp2_with fail;refine (HS.out _).mono ?_;rintro e w1 ⟨rfl, hb⟩;have HB1 := hZ (chain HB.out hb);clear hb;go_wp2_with fail;go_ret;exact ⟨rfl, HB1.out⟩
theorem refItems_flag (w : World) (c : Bool) : Calls prog 127 #[.agg #[.iface 178 (.bool c)]] w fun e w' => e = .returned (.slice none 0 0) ∧ Below w.heap.size w w' := by
 have ta1 : ∀ w : World, (Instr.typeAssert (.iface 178 (.bool c)) 97 181 true).run prog w = .ok (.tuple #[.pointer none, .bool false]) w := fun _ => by kernel_rfl
 have ta2 : ∀ w : World, (Instr.typeAssert (.iface 178 (.bool c)) 97 187 true).run prog w = .ok (.tuple #[.pointer none, .bool false]) w := fun _ => by kernel_rfl
 have HB := hZ ((Below.refl w.heap.size w).alloc (Nat.le_refl _) (.cells #[.iface 178 (.bool c)] 99));go_enter func127, ntmps127;go_wp2_with fail;go_ret;exact ⟨rfl, HB.out⟩
theorem refKeys_flag (w : World) (c : Bool) : Calls prog 126 #[.agg #[.iface 178 (.bool c)]] w fun e w' => e = .returned (.slice none 0 0) ∧ Below w.heap.size w w' := by
 have ta2 : ∀ w : World, (Instr.typeAssert (.iface 178 (.bool c)) 97 187 true).run prog w = .ok (.tuple #[.pointer none, .bool false]) w := fun _ => by kernel_rfl
 have HB := hZ ((Below.refl w.heap.size w).alloc (Nat.le_refl _) (.cells #[.iface 178 (.bool c)] 99));go_enter func126, ntmps126;go_wp2_with fail;go_ret;exact ⟨rfl, HB.out⟩
theorem refLen_flag (w : World) (c : Bool) : Calls prog 125 #[.agg #[.iface 178 (.bool c)]] w fun e w' => e = .returned (.int .i64 0) ∧ Below w.heap.size w w' := by
 have HB := hZ ((Below.refl w.heap.size w).alloc (Nat.le_refl _) (.cells #[.iface 178 (.bool c)] 99));have HS := hZ (fun w => refItems_flag w c);go_enter func125, ntmps125;go_wp2_with fail;refine (HS.out _).mono ?_;rintro e w1 ⟨rfl, hb⟩;have HB1 := hZ (chain HB.out hb);clear hb;go_wp2_with fail;go_ret;exact ⟨rfl, HB1.out⟩
theorem sort_num (w : World) (x : Nat) : Calls prog 348 #[.float .f64 x] w fun e w' => e = .returned (.int .i64 3) ∧ Below w.heap.size w w' := by
 go_enter func348, ntmps348;go_wp2;go_ret;exact ⟨rfl, Below.refl _ _⟩
theorem refSort_num (w : World) (x : Nat) : Calls prog 124 #[.agg #[.iface 179 (.float .f64 x)]] w fun e w' => e = .returned (.int .i64 3) ∧ Below w.heap.size w w' := by
 have hm : ∀ w : World, (method 565 179 (.float .f64 x) "affidavit/node.sort").run prog w = .ok (348, .float .f64 x) w := fun _ => by kernel_rfl
 have HB := hZ ((Below.refl w.heap.size w).alloc (Nat.le_refl _) (.cells #[.iface 179 (.float .f64 x)] 99));have HS := hZ (fun w => sort_num w x);go_enter func124, ntmps124;go_wp2_with fail;refine (HS.out _).mono ?_;rintro e w1 ⟨rfl, hb⟩;have HB1 := hZ (chain HB.out hb);clear hb;go_wp2_with fail;go_ret;exact ⟨rfl, HB1.out⟩
theorem refItems_num (w : World) (x : Nat) : Calls prog 127 #[.agg #[.iface 179 (.float .f64 x)]] w fun e w' => e = .returned (.slice none 0 0) ∧ Below w.heap.size w w' := by
 have ta1 : ∀ w : World, (Instr.typeAssert (.iface 179 (.float .f64 x)) 97 181 true).run prog w = .ok (.tuple #[.pointer none, .bool false]) w := fun _ => by kernel_rfl
 have ta2 : ∀ w : World, (Instr.typeAssert (.iface 179 (.float .f64 x)) 97 187 true).run prog w = .ok (.tuple #[.pointer none, .bool false]) w := fun _ => by kernel_rfl
 have HB := hZ ((Below.refl w.heap.size w).alloc (Nat.le_refl _) (.cells #[.iface 179 (.float .f64 x)] 99));go_enter func127, ntmps127;go_wp2_with fail;go_ret;exact ⟨rfl, HB.out⟩
theorem refKeys_num (w : World) (x : Nat) : Calls prog 126 #[.agg #[.iface 179 (.float .f64 x)]] w fun e w' => e = .returned (.slice none 0 0) ∧ Below w.heap.size w w' := by
 have ta2 : ∀ w : World, (Instr.typeAssert (.iface 179 (.float .f64 x)) 97 187 true).run prog w = .ok (.tuple #[.pointer none, .bool false]) w := fun _ => by kernel_rfl
 have HB := hZ ((Below.refl w.heap.size w).alloc (Nat.le_refl _) (.cells #[.iface 179 (.float .f64 x)] 99));go_enter func126, ntmps126;go_wp2_with fail;go_ret;exact ⟨rfl, HB.out⟩
theorem refLen_num (w : World) (x : Nat) : Calls prog 125 #[.agg #[.iface 179 (.float .f64 x)]] w fun e w' => e = .returned (.int .i64 0) ∧ Below w.heap.size w w' := by
 have HB := hZ ((Below.refl w.heap.size w).alloc (Nat.le_refl _) (.cells #[.iface 179 (.float .f64 x)] 99));have HS := hZ (fun w => refItems_num w x);go_enter func125, ntmps125;go_wp2_with fail;refine (HS.out _).mono ?_;rintro e w1 ⟨rfl, hb⟩;have HB1 := hZ (chain HB.out hb);clear hb;go_wp2_with fail;go_ret;exact ⟨rfl, HB1.out⟩
theorem sort_text (w : World) (s : ByteArray) : Calls prog 350 #[.string s] w fun e w' => e = .returned (.int .i64 4) ∧ Below w.heap.size w w' := by
 go_enter func350, ntmps350;go_wp2;go_ret;exact ⟨rfl, Below.refl _ _⟩
theorem refSort_text (w : World) (s : ByteArray) : Calls prog 124 #[.agg #[.iface 180 (.string s)]] w fun e w' => e = .returned (.int .i64 4) ∧ Below w.heap.size w w' := by
 have hm : ∀ w : World, (method 565 180 (.string s) "affidavit/node.sort").run prog w = .ok (350, .string s) w := fun _ => by kernel_rfl
 have HB := hZ ((Below.refl w.heap.size w).alloc (Nat.le_refl _) (.cells #[.iface 180 (.string s)] 99));have HS := hZ (fun w => sort_text w s);go_enter func124, ntmps124;go_wp2_with fail;refine (HS.out _).mono ?_;rintro e w1 ⟨rfl, hb⟩;have HB1 := hZ (chain HB.out hb);clear hb;go_wp2_with fail;go_ret;exact ⟨rfl, HB1.out⟩
theorem refItems_text (w : World) (s : ByteArray) : Calls prog 127 #[.agg #[.iface 180 (.string s)]] w fun e w' => e = .returned (.slice none 0 0) ∧ Below w.heap.size w w' := by
 have ta1 : ∀ w : World, (Instr.typeAssert (.iface 180 (.string s)) 97 181 true).run prog w = .ok (.tuple #[.pointer none, .bool false]) w := fun _ => by kernel_rfl
 have ta2 : ∀ w : World, (Instr.typeAssert (.iface 180 (.string s)) 97 187 true).run prog w = .ok (.tuple #[.pointer none, .bool false]) w := fun _ => by kernel_rfl
 have HB := hZ ((Below.refl w.heap.size w).alloc (Nat.le_refl _) (.cells #[.iface 180 (.string s)] 99));go_enter func127, ntmps127;go_wp2_with fail;go_ret;exact ⟨rfl, HB.out⟩
theorem refKeys_text (w : World) (s : ByteArray) : Calls prog 126 #[.agg #[.iface 180 (.string s)]] w fun e w' => e = .returned (.slice none 0 0) ∧ Below w.heap.size w w' := by
 have ta2 : ∀ w : World, (Instr.typeAssert (.iface 180 (.string s)) 97 187 true).run prog w = .ok (.tuple #[.pointer none, .bool false]) w := fun _ => by kernel_rfl
 have HB := hZ ((Below.refl w.heap.size w).alloc (Nat.le_refl _) (.cells #[.iface 180 (.string s)] 99));go_enter func126, ntmps126;go_wp2_with fail;go_ret;exact ⟨rfl, HB.out⟩
theorem refLen_text (w : World) (s : ByteArray) : Calls prog 125 #[.agg #[.iface 180 (.string s)]] w fun e w' => e = .returned (.int .i64 0) ∧ Below w.heap.size w w' := by
 have HB := hZ ((Below.refl w.heap.size w).alloc (Nat.le_refl _) (.cells #[.iface 180 (.string s)] 99));have HS := hZ (fun w => refItems_text w s);go_enter func125, ntmps125;go_wp2_with fail;refine (HS.out _).mono ?_;rintro e w1 ⟨rfl, hb⟩;have HB1 := hZ (chain HB.out hb);clear hb;go_wp2_with fail;go_ret;exact ⟨rfl, HB1.out⟩
theorem sort_list (w : World) (b : Nat) : Calls prog 352 #[.pointer (some ⟨b, 0, none⟩)] w fun e w' => e = .returned (.int .i64 5) ∧ Below w.heap.size w w' := by
 go_enter func352, ntmps352;go_wp2;go_ret;exact ⟨rfl, Below.refl _ _⟩
theorem refSort_list (w : World) (b : Nat) : Calls prog 124 #[.agg #[.iface 181 (.pointer (some ⟨b, 0, none⟩))]] w fun e w' => e = .returned (.int .i64 5) ∧ Below w.heap.size w w' := by
 have hm : ∀ w : World, (method 565 181 (.pointer (some ⟨b, 0, none⟩)) "affidavit/node.sort").run prog w = .ok (352, .pointer (some ⟨b, 0, none⟩)) w := fun _ => by kernel_rfl
 have HB := hZ ((Below.refl w.heap.size w).alloc (Nat.le_refl _) (.cells #[.iface 181 (.pointer (some ⟨b, 0, none⟩))] 99));have HS := hZ (fun w => sort_list w b);go_enter func124, ntmps124;go_wp2_with fail;refine (HS.out _).mono ?_;rintro e w1 ⟨rfl, hb⟩;have HB1 := hZ (chain HB.out hb);clear hb;go_wp2_with fail;go_ret;exact ⟨rfl, HB1.out⟩
theorem refItems_list (w : World) (b : Nat) (a : Option Addr) (n c : Nat) (z0 z1 z2 : Value) (h : w.heap[b]? = some (.cells #[z0, z1, z2, .slice a n c] 186 (0, 0))) : Calls prog 127 #[.agg #[.iface 181 (.pointer (some ⟨b, 0, none⟩))]] w fun e w' => e = .returned (.slice a n c) ∧ Below w.heap.size w w' := by
 have ta1 : ∀ w : World, (Instr.typeAssert (.iface 181 (.pointer (some ⟨b, 0, none⟩))) 97 181 true).run prog w = .ok (.tuple #[.pointer (some ⟨b, 0, none⟩), .bool true]) w := fun _ => by kernel_rfl
 have ta2 : ∀ w : World, (Instr.typeAssert (.iface 181 (.pointer (some ⟨b, 0, none⟩))) 97 187 true).run prog w = .ok (.tuple #[.pointer none, .bool false]) w := fun _ => by kernel_rfl
 have hb := (Below.refl w.heap.size w).alloc (Nat.le_refl _) (.cells #[.iface 181 (.pointer (some ⟨b, 0, none⟩))] 99);have hc : (w.alloc (.cells #[.iface 181 (.pointer (some ⟨b, 0, none⟩))] 99)).cell? ⟨b, 3, none⟩ = some (.slice a n c) := cell_at (keep h hb);have HB := hZ hb;clear h hb;go_enter func127, ntmps127;go_wp2_with fail;go_ret;exact ⟨rfl, HB.out⟩
theorem refKeys_list (w : World) (b : Nat) : Calls prog 126 #[.agg #[.iface 181 (.pointer (some ⟨b, 0, none⟩))]] w fun e w' => e = .returned (.slice none 0 0) ∧ Below w.heap.size w w' := by
 have ta2 : ∀ w : World, (Instr.typeAssert (.iface 181 (.pointer (some ⟨b, 0, none⟩))) 97 187 true).run prog w = .ok (.tuple #[.pointer none, .bool false]) w := fun _ => by kernel_rfl
 have hb := (Below.refl w.heap.size w).alloc (Nat.le_refl _) (.cells #[.iface 181 (.pointer (some ⟨b, 0, none⟩))] 99);have HB := hZ hb;clear hb;go_enter func126, ntmps126;go_wp2_with fail;go_ret;exact ⟨rfl, HB.out⟩
theorem refLen_list (w : World) (b : Nat) (a : Option Addr) (n c : Nat) (z0 z1 z2 : Value) (h : w.heap[b]? = some (.cells #[z0, z1, z2, .slice a n c] 186 (0, 0))) : Calls prog 125 #[.agg #[.iface 181 (.pointer (some ⟨b, 0, none⟩))]] w fun e w' => e = .returned (.int .i64 n) ∧ Below w.heap.size w w' := by
 have hb := (Below.refl w.heap.size w).alloc (Nat.le_refl _) (.cells #[.iface 181 (.pointer (some ⟨b, 0, none⟩))] 99);have HS := hZ (refItems_list (w.alloc (.cells #[.iface 181 (.pointer (some ⟨b, 0, none⟩))] 99)) b a n c z0 z1 z2 (keep h hb));have HB := hZ hb;clear h hb;go_enter func125, ntmps125;go_wp2_with fail;refine (HS.out).mono ?_;rintro e w1 ⟨rfl, hb⟩;have HB1 := hZ (chain HB.out hb);clear hb;go_wp2_with fail;go_ret;exact ⟨rfl, HB1.out⟩
theorem sort_object (w : World) (b : Nat) : Calls prog 353 #[.pointer (some ⟨b, 0, none⟩)] w fun e w' => e = .returned (.int .i64 6) ∧ Below w.heap.size w w' := by
 go_enter func353, ntmps353;go_wp2;go_ret;exact ⟨rfl, Below.refl _ _⟩
theorem refSort_object (w : World) (b : Nat) : Calls prog 124 #[.agg #[.iface 187 (.pointer (some ⟨b, 0, none⟩))]] w fun e w' => e = .returned (.int .i64 6) ∧ Below w.heap.size w w' := by
 have hm : ∀ w : World, (method 565 187 (.pointer (some ⟨b, 0, none⟩)) "affidavit/node.sort").run prog w = .ok (353, .pointer (some ⟨b, 0, none⟩)) w := fun _ => by kernel_rfl
 have HB := hZ ((Below.refl w.heap.size w).alloc (Nat.le_refl _) (.cells #[.iface 187 (.pointer (some ⟨b, 0, none⟩))] 99));have HS := hZ (fun w => sort_object w b);go_enter func124, ntmps124;go_wp2_with fail;refine (HS.out _).mono ?_;rintro e w1 ⟨rfl, hb⟩;have HB1 := hZ (chain HB.out hb);clear hb;go_wp2_with fail;go_ret;exact ⟨rfl, HB1.out⟩
theorem refItems_object (w : World) (b : Nat) (a : Option Addr) (n c : Nat) (ka : Option Addr) (kn kc : Nat) (z0 z1 z2 : Value) (h : w.heap[b]? = some (.cells #[z0, z1, z2, .slice ka kn kc, .slice a n c] 189 (0, 0))) : Calls prog 127 #[.agg #[.iface 187 (.pointer (some ⟨b, 0, none⟩))]] w fun e w' => e = .returned (.slice a n c) ∧ Below w.heap.size w w' := by
 have ta1 : ∀ w : World, (Instr.typeAssert (.iface 187 (.pointer (some ⟨b, 0, none⟩))) 97 181 true).run prog w = .ok (.tuple #[.pointer none, .bool false]) w := fun _ => by kernel_rfl
 have ta2 : ∀ w : World, (Instr.typeAssert (.iface 187 (.pointer (some ⟨b, 0, none⟩))) 97 187 true).run prog w = .ok (.tuple #[.pointer (some ⟨b, 0, none⟩), .bool true]) w := fun _ => by kernel_rfl
 have hb := (Below.refl w.heap.size w).alloc (Nat.le_refl _) (.cells #[.iface 187 (.pointer (some ⟨b, 0, none⟩))] 99);have hc : (w.alloc (.cells #[.iface 187 (.pointer (some ⟨b, 0, none⟩))] 99)).cell? ⟨b, 4, none⟩ = some (.slice a n c) := cell_at (keep h hb);have HB := hZ hb;clear h hb;go_enter func127, ntmps127;go_wp2_with fail;go_ret;exact ⟨rfl, HB.out⟩
theorem refKeys_object (w : World) (b : Nat) (a : Option Addr) (n c : Nat) (ka : Option Addr) (kn kc : Nat) (z0 z1 z2 : Value) (h : w.heap[b]? = some (.cells #[z0, z1, z2, .slice ka kn kc, .slice a n c] 189 (0, 0))) : Calls prog 126 #[.agg #[.iface 187 (.pointer (some ⟨b, 0, none⟩))]] w fun e w' => e = .returned (.slice ka kn kc) ∧ Below w.heap.size w w' := by
 have ta2 : ∀ w : World, (Instr.typeAssert (.iface 187 (.pointer (some ⟨b, 0, none⟩))) 97 187 true).run prog w = .ok (.tuple #[.pointer (some ⟨b, 0, none⟩), .bool true]) w := fun _ => by kernel_rfl
 have hb := (Below.refl w.heap.size w).alloc (Nat.le_refl _) (.cells #[.iface 187 (.pointer (some ⟨b, 0, none⟩))] 99);have hc : (w.alloc (.cells #[.iface 187 (.pointer (some ⟨b, 0, none⟩))] 99)).cell? ⟨b, 3, none⟩ = some (.slice ka kn kc) := cell_at (keep h hb);clear h;have HB := hZ hb;clear hb;go_enter func126, ntmps126;go_wp2_with fail;go_ret;exact ⟨rfl, HB.out⟩
theorem refLen_object (w : World) (b : Nat) (a : Option Addr) (n c : Nat) (ka : Option Addr) (kn kc : Nat) (z0 z1 z2 : Value) (h : w.heap[b]? = some (.cells #[z0, z1, z2, .slice ka kn kc, .slice a n c] 189 (0, 0))) : Calls prog 125 #[.agg #[.iface 187 (.pointer (some ⟨b, 0, none⟩))]] w fun e w' => e = .returned (.int .i64 n) ∧ Below w.heap.size w w' := by
 have hb := (Below.refl w.heap.size w).alloc (Nat.le_refl _) (.cells #[.iface 187 (.pointer (some ⟨b, 0, none⟩))] 99);have HS := hZ (refItems_object (w.alloc (.cells #[.iface 187 (.pointer (some ⟨b, 0, none⟩))] 99)) b a n c ka kn kc z0 z1 z2 (keep h hb));have HB := hZ hb;clear h hb;go_enter func125, ntmps125;go_wp2_with fail;refine (HS.out).mono ?_;rintro e w1 ⟨rfl, hb⟩;have HB1 := hZ (chain HB.out hb);clear hb;go_wp2_with fail;go_ret;exact ⟨rfl, HB1.out⟩
theorem keyed9 : Maps.Keyed prog 9 := Maps.string_keyed underlying9
theorem key9 (k : List UInt8) (h : k.length ≤ maxLen) : keyOf prog 9 (encS k) = some (.string k) := by
 have hs : (⟨k.toArray⟩ : ByteArray).size ≤ maxLen := by show k.toArray.size ≤ _; simpa using h
 have e := WideMaps.keyOf_string_mk (P := prog) underlying9 hs;unfold encS
 simpa using e
def idxD : List (List UInt8) → DataW Unit
 | [] => .map []
 | k :: r => (idxD r).put (.string k) (.lit (.int .i64 r.length))
def metD : List (List UInt8) → DataW Unit
 | [] => .map []
 | k :: r => (metD r).put (.string k) (.agg [])
theorem idxD_map : ∀ r, Maps.IsMap (idxD r)
 | [] => Maps.isMap_empty
 | k :: r => (idxD_map r).put _ _
theorem metD_map : ∀ r, Maps.IsMap (metD r)
 | [] => Maps.isMap_empty
 | k :: r => (metD_map r).put _ _
theorem has_idxD (k : List UInt8) : ∀ r, Maps.has (idxD r) (.string k) = decide (k ∈ r)
 | [] => rfl
 | x :: r => by
  unfold idxD
  by_cases h : k = x
  ·subst h;rw [Maps.has_put_same (idxD_map r) (show WideAt.IsKeyLit (.string _) from trivial)];simp
  ·rw [Maps.has_put_other (by simpa using h), has_idxD k r];simp [h]
theorem has_metD (k : List UInt8) : ∀ r, Maps.has (metD r) (.string k) = decide (k ∈ r)
 | [] => rfl
 | x :: r => by
  unfold metD
  by_cases h : k = x
  ·subst h;rw [Maps.has_put_same (metD_map r) (show WideAt.IsKeyLit (.string _) from trivial)];simp
  ·rw [Maps.has_put_other (by simpa using h), has_metD k r];simp [h]
theorem at_idxD {k : List UInt8} (z : DataW Unit) : ∀ (r : List (List UInt8)), r.Nodup → ∀ i : Nat, r.reverse[i]? = some k → (idxD r).atKey (.string k) z = .lit (.int .i64 i)
 | [], _, i, h => by simp at h
 | x :: r, hnd, i, h => by
  have hn := List.nodup_cons.1 hnd;unfold idxD;rw [List.reverse_cons] at h
  by_cases hi : i < r.reverse.length
  ·rw [List.getElem?_append_left hi] at h
   have hm : k ∈ r := by
    have := List.mem_of_getElem? h
    simpa using this
   have hne : k ≠ x := fun e => hn.1 (e ▸ hm)
   rw [Maps.atKey_put_other (by simpa using hne)];exact at_idxD z r hn.2 i h
  ·rw [List.getElem?_append_right (by omega)] at h;have hl := (List.getElem?_eq_some_iff.1 h).1;simp at hl;have e : i = r.length := by simp at hi; omega
   subst e;simp at h;subst h;rw [Maps.atKey_put_same (idxD_map r) (show WideAt.IsKeyLit (.string _) from trivial)]
def IdxMap (w : World) (b : Nat) (r : List (List UInt8)) : Prop := w.ownsMap prog 9 (plainElem prog 3) b r.length (idxD r)
def MetMap (w : World) (b : Nat) (r : List (List UInt8)) : Prop := w.ownsMap prog 9 unitElem b r.length (metD r)
theorem zero3 (w : World) : (zeroValue 3).run prog w = .ok (.int .i64 0) w := by kernel_rfl
theorem IdxMap.look {w : World} {b : Nat} {r : List (List UInt8)} (h : IdxMap w b r) {k : List UInt8} (hk : k.length ≤ maxLen) : ∃ c : Int, (Instr.lookup 263 (.map (some b)) (encS k) true).run prog w = .ok (.tuple #[.int .i64 c, .bool (decide (k ∈ r))]) w := by
 obtain ⟨v, ps, hrun, hv⟩ := World.ownsMap.look_ok h keyed9 underlying263 (zero3 w) (plainElem_int underlying3 (by decide)) (key9 k hk);obtain ⟨c, rfl, _, _⟩ := plainElem_int_inv underlying3 hv;rw [has_idxD] at hrun;exact ⟨c, hrun⟩
theorem IdxMap.get {w : World} {b : Nat} {r : List (List UInt8)} (h : IdxMap w b r) (hnd : r.Nodup) {k : List UInt8} (hk : k.length ≤ maxLen) {i : Nat} (hi : r.reverse[i]? = some k) : (Instr.lookup 263 (.map (some b)) (encS k) false).run prog w = .ok (.int .i64 i) w := by
 obtain ⟨c, hrun, hat, _⟩ := World.ownsMap.lookup_int h keyed9 underlying263 underlying3 (zero3 w) (key9 k hk);rw [at_idxD _ r hnd i hi] at hat;cases hat;exact hrun
theorem wf64 (n : Nat) (h : n ≤ 4194304) : (Lit.int .i64 n).wf = true := by simp [Lit.wf, IntKind.min, IntKind.max, IntKind.bits, IntKind.signed]; omega
theorem IdxMap.put {w : World} {b : Nat} {r : List (List UInt8)} (h : IdxMap w b r) (hl : r.length ≤ 4194304) {k : List UInt8} (hk : k.length ≤ maxLen) : ∃ w', (Instr.mapUpdate 263 (.map (some b)) (encS k) (.int .i64 r.length)).run prog w = .ok () w' ∧ IdxMap w' b (k :: r) ∧ w.mapTurned w' b :=
 World.ownsMap.store h keyed9 underlying263 (by unfold maxLen; omega) (key9 k hk) (plainElem_int underlying3 (wf64 _ (by omega)))
theorem zeroUnit (w : World) : (zeroValue 101).run prog w = .ok (.agg #[]) w := by kernel_rfl
theorem MetMap.look {w : World} {b : Nat} {r : List (List UInt8)} (h : MetMap w b r) {k : List UInt8} (hk : k.length ≤ maxLen) : (Instr.lookup 276 (.map (some b)) (encS k) true).run prog w = .ok (.tuple #[.agg #[], .bool (decide (k ∈ r))]) w := by
 obtain ⟨v, ps, hrun, hv⟩ := World.ownsMap.look_ok h keyed9 underlying276 (zeroUnit w) unitElem_mk (key9 k hk);obtain ⟨rfl, _⟩ := unitElem_inv hv;rw [has_metD] at hrun;exact hrun
theorem MetMap.put {w : World} {b : Nat} {r : List (List UInt8)} (h : MetMap w b r) (hl : r.length ≤ 4194304) {k : List UInt8} (hk : k.length ≤ maxLen) : ∃ w', (Instr.mapUpdate 276 (.map (some b)) (encS k) (.agg #[])).run prog w = .ok () w' ∧ MetMap w' b (k :: r) ∧ w.mapTurned w' b :=
 World.ownsMap.store h keyed9 underlying276 (by unfold maxLen; omega) (key9 k hk) unitElem_mk
theorem IdxMap.made (w : World) : IdxMap (w.alloc (.map #[] 0)) w.heap.size [] := World.ownsMap_made w _ _ _
theorem MetMap.made (w : World) : MetMap (w.alloc (.map #[] 0)) w.heap.size [] := World.ownsMap_made w _ _ _
theorem IdxMap.keeps {F : Nat → Prop} {w w' : World} {b : Nat} {r : List (List UInt8)} (h : IdxMap w b r) (hk : Keeps F w w') (hb : ¬ F b) : IdxMap w' b r := by
 obtain ⟨es, clock, h1, h2⟩ := h;exact ⟨es, clock, hk.blk h1 hb, h2⟩
theorem MetMap.keeps {F : Nat → Prop} {w w' : World} {b : Nat} {r : List (List UInt8)} (h : MetMap w b r) (hk : Keeps F w w') (hb : ¬ F b) : MetMap w' b r := by
 obtain ⟨es, clock, h1, h2⟩ := h;exact ⟨es, clock, hk.blk h1 hb, h2⟩
theorem turned_keeps {w w' : World} {b : Nat} (h : w.mapTurned w' b) : Keeps (fun k => k = b) w w' := by
 have g := h.grown;exact ⟨g.os, g.tape, g.output, g.size, fun k hk hn => g.block k hk (fun e => hn (by cases e; rfl))⟩
theorem tw_isD (l : List UInt8) : ∀ c ∈ l.takeWhile isD, isD c = true := fun c hc => by
 induction l with
 | nil => cases hc
 | cons x l ih =>
  by_cases h : isD x = true
  ·rw [List.takeWhile_cons_of_pos h] at hc;rcases List.mem_cons.1 hc with rfl | hc
   ·exact h
   ·exact ih hc
  ·rw [List.takeWhile_cons_of_neg h] at hc; cases hc
theorem tw_len (l : List UInt8) : (l.takeWhile isD).length + (l.dropWhile isD).length = l.length := by
 have := congrArg List.length (List.takeWhile_append_dropWhile (p := isD) (l := l))
 rwa [List.length_append] at this
def LitOk (l : Lit) (n : Nat) : Prop := (∀ c ∈ l.whole, isD c = true) ∧ (∀ c ∈ l.behind, isD c = true) ∧ (∀ c ∈ l.exp, isD c = true) ∧ l.whole.length + l.behind.length + l.exp.length ≤ n
theorem ten_ok {neg : Bool} {wh be r : List UInt8} {l : Lit} (h : readTen neg wh be r = some l) (h1 : ∀ c ∈ wh, isD c = true) (h2 : ∀ c ∈ be, isD c = true) : LitOk l (wh.length + be.length + r.length) := by
 cases r with
 | nil => simp only [readTen, Option.some.injEq] at h; subst h; exact ⟨h1, h2, (fun c hc => by cases hc), by simp⟩
 | cons e t =>
  simp only [readTen] at h;split at h
  ·split at h
   ·cases h
   ·simp only [Option.some.injEq] at h;subst h;refine ⟨h1, h2, tw_isD _, ?_⟩;have a := tw_len (readSign t).2
    have b : (readSign t).2.length ≤ t.length := by
     cases t with
     | nil => exact Nat.le_refl _
     | cons c t' => simp only [readSign]; split <;> simp
    simp only [List.length_cons];omega
  ·cases h
theorem point_ok {neg : Bool} {wh r : List UInt8} {l : Lit} (h : readPoint neg wh r = some l) (h1 : ∀ c ∈ wh, isD c = true) : LitOk l (wh.length + r.length) := by
 cases r with
 | nil => have := ten_ok (be := []) (r := []) h h1 (fun c hc => by cases hc); simpa using this
 | cons c t =>
  simp only [readPoint] at h;split at h
  ·split at h
   ·cases h
   ·obtain ⟨a, b, c', d⟩ := ten_ok h h1 (tw_isD _);refine ⟨a, b, c', Nat.le_trans d ?_⟩;have := tw_len t;simp only [List.length_cons]; omega
  ·have := ten_ok (be := []) h h1 (fun c hc => by cases hc); simpa using this
theorem whole_ok {neg : Bool} {r : List UInt8} {l : Lit} (h : readWhole neg r = some l) : LitOk l r.length := by
 cases r with
 | nil => cases h
 | cons c t =>
  simp only [readWhole] at h;split at h
  ·rename_i hd;split at h
   ·have := point_ok h (by intro x hx; simp at hx; subst hx; rfl); simpa [Nat.add_comm] using this
   ·obtain ⟨a, b, c', d⟩ := point_ok h (tw_isD _);exact ⟨a, b, c', Nat.le_trans d (by rw [tw_len]; exact Nat.le_refl _)⟩
  ·cases h
theorem read_ok {s : List UInt8} {l : Lit} (h : readOf s = some l) : LitOk l s.length := by
 cases s with
 | nil => cases h
 | cons c t =>
  simp only [readOf] at h;split at h
  ·obtain ⟨a, b, c', d⟩ := whole_ok h;exact ⟨a, b, c', Nat.le_trans d (by simp)⟩
  ·exact whole_ok h
def parsedRet (o : Option Lit) (e : Ending) : Prop := match o with
 | some l => e = .returned (.tuple #[dmlV (bareOf l), .nilIface])
 | none => ∃ i : Nat, e = .returned (.tuple #[dmlV ⟨false, [], 0⟩, .iface 151 (.agg #[.int .i64 40, .int .i64 i])])
theorem parsed_any (s : ByteArray) (w : World) (hs : s.size ≤ 1073741824) : Calls prog 194 #[.string s] w fun e w' => parsedRet (readOf s.data.toList) e ∧ Below w.heap.size w w' := by
 have hsz : s.data.toList.length = s.size := Array.length_toList;cases hr : readOf s.data.toList with
 | none =>
  have HR := fun w => read_any s w hs
  simp only [hr] at HR;clear hr;go_enter func194, ntmps194;go_wp2_with fail;refine (HR _).mono ?_;rintro e w1 ⟨⟨i, rfl⟩, hb⟩;obtain ⟨h1, hbw, hsz⟩ := after1 hb;have hlt := lt_of_block h1;have hi0 : (0 : Int) ≤ (i : Int) := by omega
  unfold noLit;obtain ⟨d0, d1, d2, df⟩ := cells3 h1;have h3 : (((w1.setCell ⟨w.heap.size, 0, none⟩ (.bool false)).setCell ⟨w.heap.size, 1, none⟩ (.string ⟨#[]⟩)).setCell ⟨w.heap.size, 2, none⟩ (.int .i64 0)).heap[w.heap.size]? = some (.cells #[.bool false, .string ⟨#[]⟩, .int .i64 0] 339 (0, 0)) := set_at (set_at (set_at h1 _) _) _;have h4 := (Below.heap_alloc _ (.cells #[.bool false, .string ⟨#[]⟩, .string ⟨#[]⟩, .bool false, .string ⟨#[]⟩] 354) _ (lt_of_block h3)).trans h3;obtain ⟨c0, c1, c2, cf⟩ := cells3 h4;have HB := hZ ((((hbw.setCell (p := ⟨w.heap.size, 0, none⟩) (Nat.le_refl _) (.bool false)).setCell (p := ⟨w.heap.size, 1, none⟩) (Nat.le_refl _) (.string ⟨#[]⟩)).setCell (p := ⟨w.heap.size, 2, none⟩) (Nat.le_refl _) (.int .i64 0)).alloc (Nat.le_of_lt (lt_of_block h3)) (.cells #[.bool false, .string ⟨#[]⟩, .string ⟨#[]⟩, .bool false, .string ⟨#[]⟩] 354));clear h3 h4;clear h1 hb hbw;go_wp2_with fail;exact bodyPost_ret (v := .tuple #[dmlV ⟨false, [], 0⟩, .iface 151 (.agg #[.int .i64 40, .int .i64 i])]) (by simp [results, results194, go_sem, dmlV, c0, c1, c2, d0, d1, d2]) rfl ⟨⟨i, rfl⟩, HB.out⟩
 | some l =>
  obtain ⟨o1, o2, o3, o4⟩ := read_ok hr;have HR := fun w => read_any s w hs
  simp only [hr] at HR;have hD : ∀ c ∈ l.exp, 48 ≤ c.toNat ∧ c.toNat ≤ 57 := fun c hc => by have := o3 c hc; simpa [isD] using this
  have HB := fun w => bare_any l.neg l.under ⟨l.whole.toArray⟩ ⟨l.behind.toArray⟩ ⟨l.exp.toArray⟩ w (by show l.whole.toArray.size + l.behind.toArray.size ≤ _; simp; omega) (by simpa using hD) (by show l.exp.toArray.size ≤ _; simp; omega)
  clear hr o1 o2 o3 o4 hD;obtain ⟨neg, wh, be, un, ex⟩ := l;obtain ⟨⟨dn, dd, de⟩, hd⟩ : ∃ d, bareOf ⟨neg, wh, be, un, ex⟩ = d := ⟨_, rfl⟩;simp only [hd] at HB;have HD := hZ hd;clear hd;go_enter func194, ntmps194;go_wp2_with fail;refine (HR _).mono ?_;rintro e w1 ⟨rfl, hb⟩;unfold litV;obtain ⟨h1, hbw, hsz⟩ := after1 hb;go_wp2_with fail;refine (HB _).mono ?_;rintro e w2 ⟨rfl, hb2⟩;have hb3 : Below w1.heap.size w1 w2 := ((Below.refl w1.heap.size w1).alloc (Nat.le_refl _) _).trans (hb2.mono (by simp));have h2 := keep h1 hb3;obtain ⟨c0, c1, c2, cf⟩ := cells3 h2;have HBF := hZ (chain hbw hb3);clear hb hb2 hb3 h1 h2 hbw;unfold dmlV;go_wp2_with fail;exact bodyPost_ret (v := .tuple #[dmlV ⟨dn, dd, de⟩, .nilIface]) (by simp [results, results194, go_sem, dmlV, c0, c1, c2]) rfl ⟨by rw [← HD.out]; rfl, ((HBF.out.setCell (Nat.le_refl _) _).setCell (Nat.le_refl _) _).setCell (Nat.le_refl _) _⟩
end Go.Proofs.YtakkmiomhackiaaGreatDoor
