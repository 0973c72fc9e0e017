/-
  The program, one part of its walk: Sm1, Lx22. Conditions: none.
-/
import Derived.Test.YtakkmiomhackiaaGreatDoorPc16
import Derived.Test.YtakkmiomhackiaaGreatDoorPc19
import Derived.Test.YtakkmiomhackiaaGreatDoorPc13
import Derived.Test.YtakkmiomhackiaaGreatDoorPc12
set_option linter.all false
set_option maxRecDepth 100000
set_option maxHeartbeats 16000000
namespace Go.Proofs.YtakkmiomhackiaaGreatDoor
open Go.RowKit
theorem sort_null (w : World) : Calls Tryz.prog 344 #[.agg #[]] w fun e w' => e = .returned (.int .i64 1) ∧ Below w.heap.size w w' := by
 go_enter Tryz.func344, Tryz.ntmps344;go_wp2;go_ret;exact ⟨rfl, (Below.refl _ _).alloc (Nat.le_refl _) _⟩
theorem refSort_null (w : World) : Calls Tryz.prog 124 #[.agg #[.iface 177 (.agg #[])]] w fun e w' => e = .returned (.int .i64 1) ∧ Below w.heap.size w w' := by
 have hm : ∀ w : World, (method 565 177 (.agg #[]) "affidavit/node.sort").run Tryz.prog w = .ok (344, .agg #[]) w := fun _ => by kernel_rfl
 have HB := Lib.hid ((Below.refl w.heap.size w).alloc (Nat.le_refl _) (.cells #[.iface 177 (.agg #[])] 99));have HS := Lib.hid (fun w => sort_null w);go_enter Tryz.func124, Tryz.ntmps124;go_wp2_with fail;refine (HS.out _).mono ?_;rintro e w1 ⟨rfl, hb⟩;have HB1 := Lib.hid (chain HB.out hb);clear hb;go_wp2_with fail;go_ret;exact ⟨rfl, HB1.out⟩
theorem refItems_null (w : World) : Calls Tryz.prog 127 #[.agg #[.iface 177 (.agg #[])]] w fun e w' => e = .returned (.slice none 0 0) ∧ Below w.heap.size w w' := by
 have ta1 : ∀ w : World, (Instr.typeAssert (.iface 177 (.agg #[])) 97 181 true).run Tryz.prog w = .ok (.tuple #[.pointer none, .bool false]) w := fun _ => by kernel_rfl
 have ta2 : ∀ w : World, (Instr.typeAssert (.iface 177 (.agg #[])) 97 187 true).run Tryz.prog w = .ok (.tuple #[.pointer none, .bool false]) w := fun _ => by kernel_rfl
 have HB := Lib.hid ((Below.refl w.heap.size w).alloc (Nat.le_refl _) (.cells #[.iface 177 (.agg #[])] 99));go_enter Tryz.func127, Tryz.ntmps127;go_wp2_with fail;go_ret;exact ⟨rfl, HB.out⟩
theorem refKeys_null (w : World) : Calls Tryz.prog 126 #[.agg #[.iface 177 (.agg #[])]] w fun e w' => e = .returned (.slice none 0 0) ∧ Below w.heap.size w w' := by
 have ta2 : ∀ w : World, (Instr.typeAssert (.iface 177 (.agg #[])) 97 187 true).run Tryz.prog w = .ok (.tuple #[.pointer none, .bool false]) w := fun _ => by kernel_rfl
 have HB := Lib.hid ((Below.refl w.heap.size w).alloc (Nat.le_refl _) (.cells #[.iface 177 (.agg #[])] 99));go_enter Tryz.func126, Tryz.ntmps126;go_wp2_with fail;go_ret;exact ⟨rfl, HB.out⟩
theorem refLen_null (w : World) : Calls Tryz.prog 125 #[.agg #[.iface 177 (.agg #[])]] w fun e w' => e = .returned (.int .i64 0) ∧ Below w.heap.size w w' := by
 have HB := Lib.hid ((Below.refl w.heap.size w).alloc (Nat.le_refl _) (.cells #[.iface 177 (.agg #[])] 99));have HS := Lib.hid (fun w => refItems_null w);go_enter Tryz.func125, Tryz.ntmps125;go_wp2_with fail;refine (HS.out _).mono ?_;rintro e w1 ⟨rfl, hb⟩;have HB1 := Lib.hid (chain HB.out hb);clear hb;go_wp2_with fail;go_ret;exact ⟨rfl, HB1.out⟩
theorem sort_flag (w : World) (c : Bool) : Calls Tryz.prog 346 #[.bool c] w fun e w' => e = .returned (.int .i64 2) ∧ Below w.heap.size w w' := by
 go_enter Tryz.func346, Tryz.ntmps346;go_wp2;go_ret;exact ⟨rfl, Below.refl _ _⟩
theorem refSort_flag (w : World) (c : Bool) : Calls Tryz.prog 124 #[.agg #[.iface 178 (.bool c)]] w fun e w' => e = .returned (.int .i64 2) ∧ Below w.heap.size w w' := by
 have hm : ∀ w : World, (method 565 178 (.bool c) "affidavit/node.sort").run Tryz.prog w = .ok (346, .bool c) w := fun _ => by kernel_rfl
 have HB := Lib.hid ((Below.refl w.heap.size w).alloc (Nat.le_refl _) (.cells #[.iface 178 (.bool c)] 99));have HS := Lib.hid (fun w => sort_flag w c);go_enter Tryz.func124, Tryz.ntmps124;go_wp2_with fail;refine (HS.out _).mono ?_;rintro e w1 ⟨rfl, hb⟩;have HB1 := Lib.hid (chain HB.out hb);clear hb;go_wp2_with fail;go_ret;exact ⟨rfl, HB1.out⟩
theorem refItems_flag (w : World) (c : Bool) : Calls Tryz.prog 127 #[.agg #[.iface 178 (.bool c)]] w fun e w' => e = .returned (.slice none 0 0) ∧ Below w.heap.size w w' := by
 have ta1 : ∀ w : World, (Instr.typeAssert (.iface 178 (.bool c)) 97 181 true).run Tryz.prog w = .ok (.tuple #[.pointer none, .bool false]) w := fun _ => by kernel_rfl
 have ta2 : ∀ w : World, (Instr.typeAssert (.iface 178 (.bool c)) 97 187 true).run Tryz.prog w = .ok (.tuple #[.pointer none, .bool false]) w := fun _ => by kernel_rfl
 have HB := Lib.hid ((Below.refl w.heap.size w).alloc (Nat.le_refl _) (.cells #[.iface 178 (.bool c)] 99));go_enter Tryz.func127, Tryz.ntmps127;go_wp2_with fail;go_ret;exact ⟨rfl, HB.out⟩
theorem refKeys_flag (w : World) (c : Bool) : Calls Tryz.prog 126 #[.agg #[.iface 178 (.bool c)]] w fun e w' => e = .returned (.slice none 0 0) ∧ Below w.heap.size w w' := by
 have ta2 : ∀ w : World, (Instr.typeAssert (.iface 178 (.bool c)) 97 187 true).run Tryz.prog w = .ok (.tuple #[.pointer none, .bool false]) w := fun _ => by kernel_rfl
 have HB := Lib.hid ((Below.refl w.heap.size w).alloc (Nat.le_refl _) (.cells #[.iface 178 (.bool c)] 99));go_enter Tryz.func126, Tryz.ntmps126;go_wp2_with fail;go_ret;exact ⟨rfl, HB.out⟩
theorem refLen_flag (w : World) (c : Bool) : Calls Tryz.prog 125 #[.agg #[.iface 178 (.bool c)]] w fun e w' => e = .returned (.int .i64 0) ∧ Below w.heap.size w w' := by
 have HB := Lib.hid ((Below.refl w.heap.size w).alloc (Nat.le_refl _) (.cells #[.iface 178 (.bool c)] 99));have HS := Lib.hid (fun w => refItems_flag w c);go_enter Tryz.func125, Tryz.ntmps125;go_wp2_with fail;refine (HS.out _).mono ?_;rintro e w1 ⟨rfl, hb⟩;have HB1 := Lib.hid (chain HB.out hb);clear hb;go_wp2_with fail;go_ret;exact ⟨rfl, HB1.out⟩
theorem sort_num (w : World) (x : Nat) : Calls Tryz.prog 348 #[.float .f64 x] w fun e w' => e = .returned (.int .i64 3) ∧ Below w.heap.size w w' := by
 go_enter Tryz.func348, Tryz.ntmps348;go_wp2;go_ret;exact ⟨rfl, Below.refl _ _⟩
theorem refSort_num (w : World) (x : Nat) : Calls Tryz.prog 124 #[.agg #[.iface 179 (.float .f64 x)]] w fun e w' => e = .returned (.int .i64 3) ∧ Below w.heap.size w w' := by
 have hm : ∀ w : World, (method 565 179 (.float .f64 x) "affidavit/node.sort").run Tryz.prog w = .ok (348, .float .f64 x) w := fun _ => by kernel_rfl
 have HB := Lib.hid ((Below.refl w.heap.size w).alloc (Nat.le_refl _) (.cells #[.iface 179 (.float .f64 x)] 99));have HS := Lib.hid (fun w => sort_num w x);go_enter Tryz.func124, Tryz.ntmps124;go_wp2_with fail;refine (HS.out _).mono ?_;rintro e w1 ⟨rfl, hb⟩;have HB1 := Lib.hid (chain HB.out hb);clear hb;go_wp2_with fail;go_ret;exact ⟨rfl, HB1.out⟩
theorem refItems_num (w : World) (x : Nat) : Calls Tryz.prog 127 #[.agg #[.iface 179 (.float .f64 x)]] w fun e w' => e = .returned (.slice none 0 0) ∧ Below w.heap.size w w' := by
 have ta1 : ∀ w : World, (Instr.typeAssert (.iface 179 (.float .f64 x)) 97 181 true).run Tryz.prog w = .ok (.tuple #[.pointer none, .bool false]) w := fun _ => by kernel_rfl
 have ta2 : ∀ w : World, (Instr.typeAssert (.iface 179 (.float .f64 x)) 97 187 true).run Tryz.prog w = .ok (.tuple #[.pointer none, .bool false]) w := fun _ => by kernel_rfl
 have HB := Lib.hid ((Below.refl w.heap.size w).alloc (Nat.le_refl _) (.cells #[.iface 179 (.float .f64 x)] 99));go_enter Tryz.func127, Tryz.ntmps127;go_wp2_with fail;go_ret;exact ⟨rfl, HB.out⟩
theorem refKeys_num (w : World) (x : Nat) : Calls Tryz.prog 126 #[.agg #[.iface 179 (.float .f64 x)]] w fun e w' => e = .returned (.slice none 0 0) ∧ Below w.heap.size w w' := by
 have ta2 : ∀ w : World, (Instr.typeAssert (.iface 179 (.float .f64 x)) 97 187 true).run Tryz.prog w = .ok (.tuple #[.pointer none, .bool false]) w := fun _ => by kernel_rfl
 have HB := Lib.hid ((Below.refl w.heap.size w).alloc (Nat.le_refl _) (.cells #[.iface 179 (.float .f64 x)] 99));go_enter Tryz.func126, Tryz.ntmps126;go_wp2_with fail;go_ret;exact ⟨rfl, HB.out⟩
theorem refLen_num (w : World) (x : Nat) : Calls Tryz.prog 125 #[.agg #[.iface 179 (.float .f64 x)]] w fun e w' => e = .returned (.int .i64 0) ∧ Below w.heap.size w w' := by
 have HB := Lib.hid ((Below.refl w.heap.size w).alloc (Nat.le_refl _) (.cells #[.iface 179 (.float .f64 x)] 99));have HS := Lib.hid (fun w => refItems_num w x);go_enter Tryz.func125, Tryz.ntmps125;go_wp2_with fail;refine (HS.out _).mono ?_;rintro e w1 ⟨rfl, hb⟩;have HB1 := Lib.hid (chain HB.out hb);clear hb;go_wp2_with fail;go_ret;exact ⟨rfl, HB1.out⟩
theorem sort_text (w : World) (s : ByteArray) : Calls Tryz.prog 350 #[.string s] w fun e w' => e = .returned (.int .i64 4) ∧ Below w.heap.size w w' := by
 go_enter Tryz.func350, Tryz.ntmps350;go_wp2;go_ret;exact ⟨rfl, Below.refl _ _⟩
theorem refSort_text (w : World) (s : ByteArray) : Calls Tryz.prog 124 #[.agg #[.iface 180 (.string s)]] w fun e w' => e = .returned (.int .i64 4) ∧ Below w.heap.size w w' := by
 have hm : ∀ w : World, (method 565 180 (.string s) "affidavit/node.sort").run Tryz.prog w = .ok (350, .string s) w := fun _ => by kernel_rfl
 have HB := Lib.hid ((Below.refl w.heap.size w).alloc (Nat.le_refl _) (.cells #[.iface 180 (.string s)] 99));have HS := Lib.hid (fun w => sort_text w s);go_enter Tryz.func124, Tryz.ntmps124;go_wp2_with fail;refine (HS.out _).mono ?_;rintro e w1 ⟨rfl, hb⟩;have HB1 := Lib.hid (chain HB.out hb);clear hb;go_wp2_with fail;go_ret;exact ⟨rfl, HB1.out⟩
theorem refItems_text (w : World) (s : ByteArray) : Calls Tryz.prog 127 #[.agg #[.iface 180 (.string s)]] w fun e w' => e = .returned (.slice none 0 0) ∧ Below w.heap.size w w' := by
 have ta1 : ∀ w : World, (Instr.typeAssert (.iface 180 (.string s)) 97 181 true).run Tryz.prog w = .ok (.tuple #[.pointer none, .bool false]) w := fun _ => by kernel_rfl
 have ta2 : ∀ w : World, (Instr.typeAssert (.iface 180 (.string s)) 97 187 true).run Tryz.prog w = .ok (.tuple #[.pointer none, .bool false]) w := fun _ => by kernel_rfl
 have HB := Lib.hid ((Below.refl w.heap.size w).alloc (Nat.le_refl _) (.cells #[.iface 180 (.string s)] 99));go_enter Tryz.func127, Tryz.ntmps127;go_wp2_with fail;go_ret;exact ⟨rfl, HB.out⟩
theorem refKeys_text (w : World) (s : ByteArray) : Calls Tryz.prog 126 #[.agg #[.iface 180 (.string s)]] w fun e w' => e = .returned (.slice none 0 0) ∧ Below w.heap.size w w' := by
 have ta2 : ∀ w : World, (Instr.typeAssert (.iface 180 (.string s)) 97 187 true).run Tryz.prog w = .ok (.tuple #[.pointer none, .bool false]) w := fun _ => by kernel_rfl
 have HB := Lib.hid ((Below.refl w.heap.size w).alloc (Nat.le_refl _) (.cells #[.iface 180 (.string s)] 99));go_enter Tryz.func126, Tryz.ntmps126;go_wp2_with fail;go_ret;exact ⟨rfl, HB.out⟩
theorem refLen_text (w : World) (s : ByteArray) : Calls Tryz.prog 125 #[.agg #[.iface 180 (.string s)]] w fun e w' => e = .returned (.int .i64 0) ∧ Below w.heap.size w w' := by
 have HB := Lib.hid ((Below.refl w.heap.size w).alloc (Nat.le_refl _) (.cells #[.iface 180 (.string s)] 99));have HS := Lib.hid (fun w => refItems_text w s);go_enter Tryz.func125, Tryz.ntmps125;go_wp2_with fail;refine (HS.out _).mono ?_;rintro e w1 ⟨rfl, hb⟩;have HB1 := Lib.hid (chain HB.out hb);clear hb;go_wp2_with fail;go_ret;exact ⟨rfl, HB1.out⟩
theorem sort_list (w : World) (b : Nat) : Calls Tryz.prog 352 #[.pointer (some ⟨b, 0, none⟩)] w fun e w' => e = .returned (.int .i64 5) ∧ Below w.heap.size w w' := by
 go_enter Tryz.func352, Tryz.ntmps352;go_wp2;go_ret;exact ⟨rfl, Below.refl _ _⟩
theorem refSort_list (w : World) (b : Nat) : Calls Tryz.prog 124 #[.agg #[.iface 181 (.pointer (some ⟨b, 0, none⟩))]] w fun e w' => e = .returned (.int .i64 5) ∧ Below w.heap.size w w' := by
 have hm : ∀ w : World, (method 565 181 (.pointer (some ⟨b, 0, none⟩)) "affidavit/node.sort").run Tryz.prog w = .ok (352, .pointer (some ⟨b, 0, none⟩)) w := fun _ => by kernel_rfl
 have HB := Lib.hid ((Below.refl w.heap.size w).alloc (Nat.le_refl _) (.cells #[.iface 181 (.pointer (some ⟨b, 0, none⟩))] 99));have HS := Lib.hid (fun w => sort_list w b);go_enter Tryz.func124, Tryz.ntmps124;go_wp2_with fail;refine (HS.out _).mono ?_;rintro e w1 ⟨rfl, hb⟩;have HB1 := Lib.hid (chain HB.out hb);clear hb;go_wp2_with fail;go_ret;exact ⟨rfl, HB1.out⟩
theorem refItems_list (w : World) (b : Nat) (a : Option Addr) (n c : Nat) (z0 z1 z2 : Value) (h : w.heap[b]? = some (.cells #[z0, z1, z2, .slice a n c] 186 (0, 0))) : Calls Tryz.prog 127 #[.agg #[.iface 181 (.pointer (some ⟨b, 0, none⟩))]] w fun e w' => e = .returned (.slice a n c) ∧ Below w.heap.size w w' := by
 have ta1 : ∀ w : World, (Instr.typeAssert (.iface 181 (.pointer (some ⟨b, 0, none⟩))) 97 181 true).run Tryz.prog w = .ok (.tuple #[.pointer (some ⟨b, 0, none⟩), .bool true]) w := fun _ => by kernel_rfl
 have ta2 : ∀ w : World, (Instr.typeAssert (.iface 181 (.pointer (some ⟨b, 0, none⟩))) 97 187 true).run Tryz.prog w = .ok (.tuple #[.pointer none, .bool false]) w := fun _ => by kernel_rfl
 have hb := (Below.refl w.heap.size w).alloc (Nat.le_refl _) (.cells #[.iface 181 (.pointer (some ⟨b, 0, none⟩))] 99);have hc : (w.alloc (.cells #[.iface 181 (.pointer (some ⟨b, 0, none⟩))] 99)).cell? ⟨b, 3, none⟩ = some (.slice a n c) := cell_at (keep h hb);have HB := Lib.hid hb;clear h hb;go_enter Tryz.func127, Tryz.ntmps127;go_wp2_with fail;go_ret;exact ⟨rfl, HB.out⟩
theorem refKeys_list (w : World) (b : Nat) : Calls Tryz.prog 126 #[.agg #[.iface 181 (.pointer (some ⟨b, 0, none⟩))]] w fun e w' => e = .returned (.slice none 0 0) ∧ Below w.heap.size w w' := by
 have ta2 : ∀ w : World, (Instr.typeAssert (.iface 181 (.pointer (some ⟨b, 0, none⟩))) 97 187 true).run Tryz.prog w = .ok (.tuple #[.pointer none, .bool false]) w := fun _ => by kernel_rfl
 have hb := (Below.refl w.heap.size w).alloc (Nat.le_refl _) (.cells #[.iface 181 (.pointer (some ⟨b, 0, none⟩))] 99);have HB := Lib.hid hb;clear hb;go_enter Tryz.func126, Tryz.ntmps126;go_wp2_with fail;go_ret;exact ⟨rfl, HB.out⟩
theorem refLen_list (w : World) (b : Nat) (a : Option Addr) (n c : Nat) (z0 z1 z2 : Value) (h : w.heap[b]? = some (.cells #[z0, z1, z2, .slice a n c] 186 (0, 0))) : Calls Tryz.prog 125 #[.agg #[.iface 181 (.pointer (some ⟨b, 0, none⟩))]] w fun e w' => e = .returned (.int .i64 n) ∧ Below w.heap.size w w' := by
 have hb := (Below.refl w.heap.size w).alloc (Nat.le_refl _) (.cells #[.iface 181 (.pointer (some ⟨b, 0, none⟩))] 99);have HS := Lib.hid (refItems_list (w.alloc (.cells #[.iface 181 (.pointer (some ⟨b, 0, none⟩))] 99)) b a n c z0 z1 z2 (keep h hb));have HB := Lib.hid hb;clear h hb;go_enter Tryz.func125, Tryz.ntmps125;go_wp2_with fail;refine (HS.out).mono ?_;rintro e w1 ⟨rfl, hb⟩;have HB1 := Lib.hid (chain HB.out hb);clear hb;go_wp2_with fail;go_ret;exact ⟨rfl, HB1.out⟩
theorem sort_object (w : World) (b : Nat) : Calls Tryz.prog 353 #[.pointer (some ⟨b, 0, none⟩)] w fun e w' => e = .returned (.int .i64 6) ∧ Below w.heap.size w w' := by
 go_enter Tryz.func353, Tryz.ntmps353;go_wp2;go_ret;exact ⟨rfl, Below.refl _ _⟩
theorem refSort_object (w : World) (b : Nat) : Calls Tryz.prog 124 #[.agg #[.iface 187 (.pointer (some ⟨b, 0, none⟩))]] w fun e w' => e = .returned (.int .i64 6) ∧ Below w.heap.size w w' := by
 have hm : ∀ w : World, (method 565 187 (.pointer (some ⟨b, 0, none⟩)) "affidavit/node.sort").run Tryz.prog w = .ok (353, .pointer (some ⟨b, 0, none⟩)) w := fun _ => by kernel_rfl
 have HB := Lib.hid ((Below.refl w.heap.size w).alloc (Nat.le_refl _) (.cells #[.iface 187 (.pointer (some ⟨b, 0, none⟩))] 99));have HS := Lib.hid (fun w => sort_object w b);go_enter Tryz.func124, Tryz.ntmps124;go_wp2_with fail;refine (HS.out _).mono ?_;rintro e w1 ⟨rfl, hb⟩;have HB1 := Lib.hid (chain HB.out hb);clear hb;go_wp2_with fail;go_ret;exact ⟨rfl, HB1.out⟩
theorem refItems_object (w : World) (b : Nat) (a : Option Addr) (n c : Nat) (ka : Option Addr) (kn kc : Nat) (z0 z1 z2 : Value) (h : w.heap[b]? = some (.cells #[z0, z1, z2, .slice ka kn kc, .slice a n c] 189 (0, 0))) : Calls Tryz.prog 127 #[.agg #[.iface 187 (.pointer (some ⟨b, 0, none⟩))]] w fun e w' => e = .returned (.slice a n c) ∧ Below w.heap.size w w' := by
 have ta1 : ∀ w : World, (Instr.typeAssert (.iface 187 (.pointer (some ⟨b, 0, none⟩))) 97 181 true).run Tryz.prog w = .ok (.tuple #[.pointer none, .bool false]) w := fun _ => by kernel_rfl
 have ta2 : ∀ w : World, (Instr.typeAssert (.iface 187 (.pointer (some ⟨b, 0, none⟩))) 97 187 true).run Tryz.prog w = .ok (.tuple #[.pointer (some ⟨b, 0, none⟩), .bool true]) w := fun _ => by kernel_rfl
 have hb := (Below.refl w.heap.size w).alloc (Nat.le_refl _) (.cells #[.iface 187 (.pointer (some ⟨b, 0, none⟩))] 99);have hc : (w.alloc (.cells #[.iface 187 (.pointer (some ⟨b, 0, none⟩))] 99)).cell? ⟨b, 4, none⟩ = some (.slice a n c) := cell_at (keep h hb);have HB := Lib.hid hb;clear h hb;go_enter Tryz.func127, Tryz.ntmps127;go_wp2_with fail;go_ret;exact ⟨rfl, HB.out⟩
theorem refKeys_object (w : World) (b : Nat) (a : Option Addr) (n c : Nat) (ka : Option Addr) (kn kc : Nat) (z0 z1 z2 : Value) (h : w.heap[b]? = some (.cells #[z0, z1, z2, .slice ka kn kc, .slice a n c] 189 (0, 0))) : Calls Tryz.prog 126 #[.agg #[.iface 187 (.pointer (some ⟨b, 0, none⟩))]] w fun e w' => e = .returned (.slice ka kn kc) ∧ Below w.heap.size w w' := by
 have ta2 : ∀ w : World, (Instr.typeAssert (.iface 187 (.pointer (some ⟨b, 0, none⟩))) 97 187 true).run Tryz.prog w = .ok (.tuple #[.pointer (some ⟨b, 0, none⟩), .bool true]) w := fun _ => by kernel_rfl
 have hb := (Below.refl w.heap.size w).alloc (Nat.le_refl _) (.cells #[.iface 187 (.pointer (some ⟨b, 0, none⟩))] 99);have hc : (w.alloc (.cells #[.iface 187 (.pointer (some ⟨b, 0, none⟩))] 99)).cell? ⟨b, 3, none⟩ = some (.slice ka kn kc) := cell_at (keep h hb);clear h;have HB := Lib.hid hb;clear hb;go_enter Tryz.func126, Tryz.ntmps126;go_wp2_with fail;go_ret;exact ⟨rfl, HB.out⟩
theorem refLen_object (w : World) (b : Nat) (a : Option Addr) (n c : Nat) (ka : Option Addr) (kn kc : Nat) (z0 z1 z2 : Value) (h : w.heap[b]? = some (.cells #[z0, z1, z2, .slice ka kn kc, .slice a n c] 189 (0, 0))) : Calls Tryz.prog 125 #[.agg #[.iface 187 (.pointer (some ⟨b, 0, none⟩))]] w fun e w' => e = .returned (.int .i64 n) ∧ Below w.heap.size w w' := by
 have hb := (Below.refl w.heap.size w).alloc (Nat.le_refl _) (.cells #[.iface 187 (.pointer (some ⟨b, 0, none⟩))] 99);have HS := Lib.hid (refItems_object (w.alloc (.cells #[.iface 187 (.pointer (some ⟨b, 0, none⟩))] 99)) b a n c ka kn kc z0 z1 z2 (keep h hb));have HB := Lib.hid hb;clear h hb;go_enter Tryz.func125, Tryz.ntmps125;go_wp2_with fail;refine (HS.out).mono ?_;rintro e w1 ⟨rfl, hb⟩;have HB1 := Lib.hid (chain HB.out hb);clear hb;go_wp2_with fail;go_ret;exact ⟨rfl, HB1.out⟩
def EncRet (w : World) (l : List UInt8) (e : Ending) (w' : World) : Prop :=
 ∃ g cap, e = .returned (.tuple #[.slice (some ⟨g, 0, none⟩) l.length cap, .nilIface]) ∧ (∀ i x, l[i]? = some x → w'.cell? ⟨g, i, none⟩ = some (encB x)) ∧ Below w.heap.size w w'
theorem encode_any (r : Nat) (hr : IsRune r) (w : World) : Calls Tryz.prog 224 #[.int .i32 r] w fun e w' => EncRet w (runeBytes r) e w' := by
 have HC := Lib.hid (character_any r hr)
 have hcv : ∀ w, (convert 21 9 (.int .i32 r)).run Tryz.prog w = .ok (.string ⟨(runeBytes r).toArray⟩) w := fun w => by
  rw [run_convert_int_string w 21 9 .i32 r (by kernel_rfl) Tryz.underlying9, encode_rune hr]
 obtain ⟨s, hs⟩ : ∃ s : ByteArray, (⟨(runeBytes r).toArray⟩ : ByteArray) = s := ⟨_, rfl⟩;rw [hs] at hcv;have hconv := fun w => run_bytes_of_string (P := Tryz.prog) w 9 22 5 s Tryz.underlying9 Tryz.underlying22 Tryz.underlying5
 have hl : (runeBytes r) = s.data.toList := by rw [← hs]
 rw [hl];have hsz : s.data.toList.length = s.size := Array.length_toList;clear hs hl hr;go_enter Tryz.func224, Tryz.ntmps224;go_wp2_with fail;refine (HC.out _).mono ?_;rintro e w1 ⟨rfl, rfl⟩;go_wp2_with fail;refine bodyPost_ret (v := .tuple #[.slice (some ⟨w1.heap.size, 0, none⟩) s.size (grownCap w1 s.size 0 5), .nilIface]) (by simp [results, Tryz.results224, go_sem]) rfl ?_;refine ⟨w1.heap.size, grownCap w1 s.size 0 5, by rw [hsz], fun i x hx => ?_, ?_⟩
 ·have hlt : i < s.data.size := by have := (List.getElem?_eq_some_iff.1 hx).1; simpa using this
  have hxx : s.data[i] = x := by
   rw [List.getElem?_eq_getElem (by simpa using hlt)] at hx
   simpa using hx
  have hh := heap_alloc_new w1 (.cells (bytesRow s (grownCap w1 s.size 0 5)) 5 ((bytesRow s (grownCap w1 s.size 0 5)).size, (bytesRow s (grownCap w1 s.size 0 5)).size + 1))
  show (w1.alloc _).cell? ⟨w1.heap.size, i, none⟩ = _
  rw [cell_any hh, bytesRow_at s _ i hlt, hxx]
 ·exact ((Below.refl _ _).alloc (Nat.le_refl _) _).drew
def TextRet (w : World) (b : Nat) (saysV : Value) (l : List UInt8) (c : Value → Array Value) (e : Ending) (w' : World) : Prop := e = .returned (.tuple #[]) ∧ ∃ g off cap, w'.heap[b]? = some (.cells (c (.slice (some ⟨g, off, none⟩) l.length cap)) 228 (0, 0)) ∧
 Win 5 encB w' (.slice (some ⟨g, off, none⟩) l.length cap) l ∧ (saysV.ownBlock = some g ∨ w.heap.size ≤ g) ∧ Keeps (fun k => k = b ∨ saysV.ownBlock = some k) w w'
theorem whole_high (w : World) (b dg cd' : Nat) (v0 v1 v2 v3 v4 v5 v6 v7 v8 v9 vd : Value) (h : w.heap[b]? = some (.cells #[v0, v1, v2, v3, v4, v5, v6, v7, v8, v9, .int .i64 dg, .int .i32 cd', .int .i32 0, vd] 228 (0, 0))) (h1 : 55296 ≤ cd') (h2 : cd' ≤ 56319) :
 Calls Tryz.prog 204 #[.pointer (some ⟨b, 0, none⟩)] w fun e w' => e = .returned (.tuple #[]) ∧ w'.heap[b]? = some (.cells #[v0, v1, v2, .func (.func 223) #[] #[], v4, v5, v6, v7, v8, v9, .int .i64 dg, .int .i32 cd', .int .i32 cd', vd] 228 (0, 0)) ∧ Keeps (fun k => k = b) w w' := by
 obtain ⟨c0, c1, c2, c3, c4, c5, c6, c7, c8, c9, ca, cb, cc, cd, cf⟩ := cells14 h;have H := Lib.hid h;have e1 : (55296 : Int) ≤ (cd' : Int) := by omega
 have e2 : (cd' : Int) ≤ 56319 := by omega
 clear h;go_enter Tryz.func204, Tryz.ntmps204;go_wp2_with fail;exact bodyPost_ret (results_none rfl _ _ _) rfl ⟨rfl, set_at (set_at H.out _) _, ((Keeps.refl (fun k => k = b) w).setCell (p := ⟨b, 12, none⟩) (.inl rfl) _).setCell (p := ⟨b, 3, none⟩) (.inl rfl) _⟩
theorem elemB1 : ElemN 22 5 1 1 := ⟨Tryz.underlying22, by decide, by
 have h : (Tryz.prog.info? 5).map (fun i => (i.zero, i.size, i.bytes)) = some (some (.int .u8 0), 1, 1) := by kernel_rfl
 obtain ⟨i, h1, h2, h3, h4⟩ := info_parts h;exact ⟨i, _, h1, h2, h3, h4, rfl⟩⟩
theorem whole_one (w : World) (b dg cd' : Nat) (v0 v1 v2 v3 v4 v5 v6 v7 v8 saysV vd : Value) (l : List UInt8) (h : w.heap[b]? = some (.cells #[v0, v1, v2, v3, v4, v5, v6, v7, v8, saysV, .int .i64 dg, .int .i32 cd', .int .i32 0, vd] 228 (0, 0))) (hn : ¬ (55296 ≤ cd' ∧ cd' ≤ 56319)) (hr : IsRune cd')
 (hw : Win 5 encB w saysV l) (hl : l.length ≤ 1073741824) :
 Calls Tryz.prog 204 #[.pointer (some ⟨b, 0, none⟩)] w fun e w' => TextRet w b saysV (l ++ runeBytes cd') (fun v => #[v0, v1, v2, .func (.func 138) #[] #[], v4, v5, v6, v7, v8, v, .int .i64 dg, .int .i32 cd', .int .i32 0, vd]) e w' := by
 obtain ⟨c0, c1, c2, c3, c4, c5, c6, c7, c8, c9, ca, cb, cc, cd, cf⟩ := cells14 h;have hlt := lt_of_block h;obtain ⟨ta, tc, htv⟩ := hw.shape;have HNE := Lib.hid (hw.ne h (by decide));have H := Lib.hid h;have HW := Lib.hid hw.toN;have HE := Lib.hid (encode_any cd' hr);have HSZ := Lib.hid (Nat.le_refl w.heap.size);have HK0 := Lib.hid (Keeps.refl (fun k => k = b ∨ saysV.ownBlock = some k) w);have hlen := runeBytes_len cd';obtain ⟨R, hR⟩ : ∃ R, runeBytes cd' = R := ⟨_, rfl⟩;rw [hR] at HE hlen ⊢;obtain ⟨m, hm⟩ : ∃ m, R.length = m + 1 := ⟨R.length - 1, by omega⟩;have hm3 : m ≤ 3 := by omega
 have HM := Lib.hid hm;have HL := Lib.hid hl;have hcase : (cd' : Int) < 55296 ∨ ((55296 : Int) ≤ (cd' : Int) ∧ ¬ (cd' : Int) ≤ 56319) := by unfold IsRune at hr; omega
 clear h hw hr hR hlen hm hl hn;subst htv;rcases hcase with hcase | ⟨hcase, hcase2⟩
 ·have hcase3 : ¬ (55296 : Int) ≤ (cd' : Int) := by omega
  go_enter Tryz.func204, Tryz.ntmps204;go_wp2_with fail;refine (HE.out _).mono ?_;rintro e w1 ⟨g1, cap1, rfl, hcell, hb1⟩;have hb' := keep H.out hb1;obtain ⟨d0, d1, d2, d3, d4, d5, d6, d7, d8, d9, da, db, dc, dd, df⟩ := cells14 hb';have HB1 := Lib.hid hb';have HBE := Lib.hid hb1;have HW1 := Lib.hid (HW.out.keeps (F := fun _ => False) (Keeps.of_below _ hb1) (fun _ _ => id));have HCELL := Lib.hid hcell;rw [HM.out];clear hb' hb1 hcell c0 c1 c2 c3 c4 c5 c6 c7 c8 c9 ca cb cc cd cf
  go_wp2_with (at_builtin; refine append_winN elemB1 rfl _ _ rfl rfl HW1.out ⟨g1, 0, none⟩ (m + 1) cap1 (R.map encB) rfl ?_ ?_ ?_ ?_ ?_ ?_ ?_)
  ·rw [List.length_map, HM.out]; omega
  ·intro j u hj;rw [List.getElem?_map] at hj;cases hlj : R[j]? with
   | none => rw [hlj] at hj; cases hj
   | some y =>
    rw [hlj] at hj;simp at hj;subst hj;have hp : (⟨g1, 0, none⟩ : Addr).add j = ⟨g1, j, none⟩ := by unfold Addr.add; split <;> simp_all
    rw [hp];exact HCELL.out j y hlj
  ·intro u hu;rw [List.mem_map] at hu;obtain ⟨y, _, rfl⟩ := hu;rfl
  ·omega
  ·have := HL.out; omega
  ·have := HL.out; unfold maxLen; omega
  intro g off cap w2 hw2 hg2 hk2;have hwin := hw2;rw [← List.map_append] at hwin;have hwin := hwin.toWin;have hbb := hk2.blk HB1.out (fun e => HNE.out e);have HWN := Lib.hid hwin;have HNG := Lib.hid (hw2.ne hbb (by decide));have HG2 := Lib.hid hg2;have HK2 := Lib.hid hk2;have HB2 := Lib.hid hbb;obtain ⟨q0, q1, q2, q3, q4, q5, q6, q7, q8, q9, qa, qb, qc, qd, qf⟩ := cells14 hbb;clear hw2 hwin hbb hg2 hk2 d0 d1 d2 d3 d4 d5 d6 d7 d8 d9 da db dc dd df;go_wp2_with fail
  go_end0
  have hks : Keeps (fun k => k = b) w2 ((w2.setCell ⟨b, 9, none⟩ (.slice (some ⟨g, off, none⟩) (l.length + (m + 1)) cap)).setCell ⟨b, 3, none⟩ (.func (.func 138) #[] #[])) := ((Keeps.refl (fun k => k = b) w2).setCell (p := ⟨b, 9, none⟩) (.inl rfl) _).setCell (p := ⟨b, 3, none⟩) (.inl rfl) _;have hlen : (l ++ R).length = l.length + (m + 1) := by rw [List.length_append, HM.out]
  refine ⟨rfl, g, off, cap, ?_, ?_, HG2.out.imp id (fun h => Nat.le_trans HSZ.out (Nat.le_trans HBE.out.size h.1)), ?_⟩
  ·rw [hlen];exact set_at (set_at HB2.out _) _
  ·rw [hlen];exact HWN.out.keeps hks (fun k e hk => HNG.out (e.trans (congrArg some hk)))
  ·exact ((HK0.out.same (Keeps.of_below _ HBE.out)).same (HK2.out.mono (fun k h => .inr h))).same (hks.mono (fun k h => .inl h))
 ·go_enter Tryz.func204, Tryz.ntmps204;go_wp2_with fail;refine (HE.out _).mono ?_;rintro e w1 ⟨g1, cap1, rfl, hcell, hb1⟩;have hb' := keep H.out hb1;obtain ⟨d0, d1, d2, d3, d4, d5, d6, d7, d8, d9, da, db, dc, dd, df⟩ := cells14 hb';have HB1 := Lib.hid hb';have HBE := Lib.hid hb1;have HW1 := Lib.hid (HW.out.keeps (F := fun _ => False) (Keeps.of_below _ hb1) (fun _ _ => id));have HCELL := Lib.hid hcell;rw [HM.out];clear hb' hb1 hcell c0 c1 c2 c3 c4 c5 c6 c7 c8 c9 ca cb cc cd cf
  go_wp2_with (at_builtin; refine append_winN elemB1 rfl _ _ rfl rfl HW1.out ⟨g1, 0, none⟩ (m + 1) cap1 (R.map encB) rfl ?_ ?_ ?_ ?_ ?_ ?_ ?_)
  ·rw [List.length_map, HM.out]; omega
  ·intro j u hj;rw [List.getElem?_map] at hj;cases hlj : R[j]? with
   | none => rw [hlj] at hj; cases hj
   | some y =>
    rw [hlj] at hj;simp at hj;subst hj;have hp : (⟨g1, 0, none⟩ : Addr).add j = ⟨g1, j, none⟩ := by unfold Addr.add; split <;> simp_all
    rw [hp];exact HCELL.out j y hlj
  ·intro u hu;rw [List.mem_map] at hu;obtain ⟨y, _, rfl⟩ := hu;rfl
  ·omega
  ·have := HL.out; omega
  ·have := HL.out; unfold maxLen; omega
  intro g off cap w2 hw2 hg2 hk2;have hwin := hw2;rw [← List.map_append] at hwin;have hwin := hwin.toWin;have hbb := hk2.blk HB1.out (fun e => HNE.out e);have HWN := Lib.hid hwin;have HNG := Lib.hid (hw2.ne hbb (by decide));have HG2 := Lib.hid hg2;have HK2 := Lib.hid hk2;have HB2 := Lib.hid hbb;obtain ⟨q0, q1, q2, q3, q4, q5, q6, q7, q8, q9, qa, qb, qc, qd, qf⟩ := cells14 hbb;clear hw2 hwin hbb hg2 hk2 d0 d1 d2 d3 d4 d5 d6 d7 d8 d9 da db dc dd df;go_wp2_with fail
  go_end0
  have hks : Keeps (fun k => k = b) w2 ((w2.setCell ⟨b, 9, none⟩ (.slice (some ⟨g, off, none⟩) (l.length + (m + 1)) cap)).setCell ⟨b, 3, none⟩ (.func (.func 138) #[] #[])) := ((Keeps.refl (fun k => k = b) w2).setCell (p := ⟨b, 9, none⟩) (.inl rfl) _).setCell (p := ⟨b, 3, none⟩) (.inl rfl) _;have hlen : (l ++ R).length = l.length + (m + 1) := by rw [List.length_append, HM.out]
  refine ⟨rfl, g, off, cap, ?_, ?_, HG2.out.imp id (fun h => Nat.le_trans HSZ.out (Nat.le_trans HBE.out.size h.1)), ?_⟩
  ·rw [hlen];exact set_at (set_at HB2.out _) _
  ·rw [hlen];exact HWN.out.keeps hks (fun k e hk => HNG.out (e.trans (congrArg some hk)))
  ·exact ((HK0.out.same (Keeps.of_below _ HBE.out)).same (HK2.out.mono (fun k h => .inr h))).same (hks.mono (fun k h => .inl h))
theorem whole_pair (w : World) (b dg cd' hi : Nat) (v0 v1 v2 v3 v4 v5 v6 v7 v8 saysV vd : Value) (l : List UInt8) (h : w.heap[b]? = some (.cells #[v0, v1, v2, v3, v4, v5, v6, v7, v8, saysV, .int .i64 dg, .int .i32 cd', .int .i32 hi, vd] 228 (0, 0))) (h1 : 55296 ≤ hi) (h2 : hi ≤ 56319) (h3 : 56320 ≤ cd') (h4 : cd' ≤ 57343)
 (hw : Win 5 encB w saysV l) (hl : l.length ≤ 1073741824) :
 Calls Tryz.prog 204 #[.pointer (some ⟨b, 0, none⟩)] w fun e w' => TextRet w b saysV (l ++ runeBytes (65536 + (hi - 55296) * 1024 + cd' - 56320)) (fun v => #[v0, v1, v2, .func (.func 138) #[] #[], v4, v5, v6, v7, v8, v, .int .i64 dg, .int .i32 cd', .int .i32 0, vd]) e w' := by
 obtain ⟨c0, c1, c2, c3, c4, c5, c6, c7, c8, c9, ca, cb, cc, cd, cf⟩ := cells14 h;have hlt := lt_of_block h;obtain ⟨ta, tc, htv⟩ := hw.shape;have hr : IsRune (65536 + (hi - 55296) * 1024 + cd' - 56320) := .inr (by omega);have h' := set_at h (o := 12) (.int .i32 0);simp only [List.setIfInBounds_toArray, List.set_cons_zero, List.set_cons_succ] at h';have HNE := Lib.hid (hw.ne h (by decide));have H := Lib.hid (show ((w.setCell ⟨b, 12, none⟩ (.int .i32 0)).drew).heap[b]? = _ from h');have hk0 : Keeps (fun k => k = b) w (w.setCell ⟨b, 12, none⟩ (.int .i32 0)).drew := ((Keeps.refl (fun k => k = b) w).setCell (p := ⟨b, 12, none⟩) (.inl rfl) _).drew;have HW := Lib.hid (hw.keeps hk0 (fun k e hk => HNE.out (e.trans (congrArg some hk)))).toN;have HE := Lib.hid (encode_any _ hr);have HSZ := Lib.hid hk0.size;have HK0 := Lib.hid (hk0.mono (G := fun k => k = b ∨ saysV.ownBlock = some k) (fun k e => .inl e));have hlen := runeBytes_len (65536 + (hi - 55296) * 1024 + cd' - 56320);obtain ⟨R, hR⟩ : ∃ R, runeBytes (65536 + (hi - 55296) * 1024 + cd' - 56320) = R := ⟨_, rfl⟩;rw [hR] at HE hlen ⊢;obtain ⟨m, hm⟩ : ∃ m, R.length = m + 1 := ⟨R.length - 1, by omega⟩;have hm3 : m ≤ 3 := by omega
 have HM := Lib.hid hm;have HL := Lib.hid hl;have HR := Lib.hid hR;obtain ⟨n1, n2, n3⟩ := nat_ne3 (n := hi) (k := 0) (by omega)
 have HWR := Lib.hid (show wrap32 (wrap32 (wrap32 (65536 + wrap32 (wrap32 ((hi : Int) - 55296) * 1024)) + (cd' : Int)) - 56320) = ((65536 + (hi - 55296) * 1024 + cd' - 56320 : Nat) : Int) by
  unfold wrap32;omega)
 obtain ⟨rr, hrr⟩ : ∃ rr, 65536 + (hi - 55296) * 1024 + cd' - 56320 = rr := ⟨_, rfl⟩;rw [hrr] at HE HWR;clear h h' hk0 hw hr hR hlen hm hl h1 h2 h3 h4 hrr;subst htv;go_enter Tryz.func204, Tryz.ntmps204;go_wp2_with fail;go_region;rw [HWR.out];go_wp2_with fail;refine (HE.out _).mono ?_;rintro e w1 ⟨g1, cap1, rfl, hcell, hb1⟩;have hb' := keep H.out hb1;obtain ⟨d0, d1, d2, d3, d4, d5, d6, d7, d8, d9, da, db, dc, dd, df⟩ := cells14 hb';have HB1 := Lib.hid hb';have HBE := Lib.hid hb1;have HW1 := Lib.hid (HW.out.keeps (F := fun _ => False) (Keeps.of_below _ hb1) (fun _ _ => id));have HCELL := Lib.hid hcell;rw [HM.out];clear hb' hb1 hcell c0 c1 c2 c3 c4 c5 c6 c7 c8 c9 ca cb cc cd cf
 go_wp2_with (at_builtin; refine append_winN elemB1 rfl _ _ rfl rfl HW1.out ⟨g1, 0, none⟩ (m + 1) cap1 (R.map encB) rfl ?_ ?_ ?_ ?_ ?_ ?_ ?_)
 ·rw [List.length_map, HM.out]; omega
 ·intro j u hj;rw [List.getElem?_map] at hj;cases hlj : R[j]? with
  | none => rw [hlj] at hj; cases hj
  | some y =>
   rw [hlj] at hj;simp at hj;subst hj;have hp : (⟨g1, 0, none⟩ : Addr).add j = ⟨g1, j, none⟩ := by unfold Addr.add; split <;> simp_all
   rw [hp];exact HCELL.out j y hlj
 ·intro u hu;rw [List.mem_map] at hu;obtain ⟨y, _, rfl⟩ := hu;rfl
 ·omega
 ·have := HL.out; omega
 ·have := HL.out; unfold maxLen; omega
 intro g off cap w2 hw2 hg2 hk2;have hwin := hw2;rw [← List.map_append] at hwin;have hwin := hwin.toWin;have hbb := hk2.blk HB1.out (fun e => HNE.out e);have HWN := Lib.hid hwin;have HNG := Lib.hid (hw2.ne hbb (by decide));have HG2 := Lib.hid hg2;have HK2 := Lib.hid hk2;have HB2 := Lib.hid hbb;obtain ⟨q0, q1, q2, q3, q4, q5, q6, q7, q8, q9, qa, qb, qc, qd, qf⟩ := cells14 hbb;clear hw2 hwin hbb hg2 hk2 d0 d1 d2 d3 d4 d5 d6 d7 d8 d9 da db dc dd df;go_wp2_with fail
 go_end0
 have hks : Keeps (fun k => k = b) w2 ((w2.setCell ⟨b, 9, none⟩ (.slice (some ⟨g, off, none⟩) (l.length + (m + 1)) cap)).setCell ⟨b, 3, none⟩ (.func (.func 138) #[] #[])) := ((Keeps.refl (fun k => k = b) w2).setCell (p := ⟨b, 9, none⟩) (.inl rfl) _).setCell (p := ⟨b, 3, none⟩) (.inl rfl) _;have hlen : (l ++ R).length = l.length + (m + 1) := by rw [List.length_append, HM.out]
 refine ⟨rfl, g, off, cap, ?_, ?_, HG2.out.imp id (fun h => Nat.le_trans HSZ.out (Nat.le_trans HBE.out.size h.1)), ?_⟩
 ·rw [hlen];exact set_at (set_at HB2.out _) _
 ·rw [hlen];exact HWN.out.keeps hks (fun k e hk => HNG.out (e.trans (congrArg some hk)))
 ·exact ((HK0.out.same (Keeps.of_below _ HBE.out)).same (HK2.out.mono (fun k h => .inr h))).same (hks.mono (fun k h => .inl h))
end Go.Proofs.YtakkmiomhackiaaGreatDoor
