/-
  Several texts in one, each under its own head. Conditions: none.
-/
import Derived.Test.YtakkmiomhackiaaGreatDoorLa15
import Derived.Test.YtakkmiomhackiaaGreatDoorLa08
import Derived.StillTailTactics
set_option linter.all false

/-
  Package parse, seventh part: the tokens that no word, no escape and no object needs; what holds of a parser between two tokens.
-/
namespace Go.Proofs.YtakkmiomhackiaaGreatDoor
open Go.RowKit
set_option maxRecDepth 100000

/-- Tokens of the documents that have no words, no escapes, no objects and no ends of lists. -/
def OkTok : Tok → Prop
  | .mark _ s => s = 91
  | .term .. => False
  | .num _ _ b => Finite b
  | .str _ _ t => rightOf t = true ∧ t.length ≤ 1073741824
structure PsOk (x : Ps) (n : Nat) : Prop where
  depth : x.depth ≤ 512
  pile : x.pile.length ≤ x.depth
  nodes : x.nodes ≤ 65536
  bytes : x.bytes ≤ 2097152
  items : x.items.length ≤ 65536
  want : x.want = 0 ∨ x.want = 1 ∨ x.want = 5 ∨ x.want = 6
  many : ∀ m, Fr.list m ∈ x.pile → m ≤ n
theorem PsOk.pileOk {x : Ps} {n : Nat} (h : PsOk x n) (hn : n ≤ 1073741824) : PileOk x 1073741824 := ⟨fun m hm => Nat.le_trans (h.many m hm) hn, by have := h.pile; have := h.depth; omega⟩
theorem PsOk.mono {x : Ps} {n n' : Nat} (h : PsOk x n) (hn : n ≤ n') : PsOk x n' := ⟨h.depth, h.pile, h.nodes, h.bytes, h.items, h.want, fun m hm => Nat.le_trans (h.many m hm) hn⟩
theorem more_len (l : List Fr) : (more l).length = l.length := by
  unfold more
  rcases getLast_cases l with rfl | ⟨i, fr, rfl⟩
  · rfl
  · cases fr <;> simp
theorem more_many {l : List Fr} {n : Nat} (h : ∀ m, Fr.list m ∈ l → m ≤ n) : ∀ m, Fr.list m ∈ more l → m ≤ n + 1 := by
  unfold more
  rcases getLast_cases l with rfl | ⟨i, fr, rfl⟩
  · intro m hm; exact Nat.le_succ_of_le (h m hm)
  · cases fr with
    | list k =>
      simp only [List.getLast?_append, List.getLast?_singleton, Option.some_or, List.dropLast_concat]
      intro m hm
      rcases List.mem_append.1 hm with h1 | h1
      · exact Nat.le_succ_of_le (h m (List.mem_append_left _ h1))
      · simp at h1; subst h1
        exact Nat.succ_le_succ (h k (by simp))
    | object k =>
      simp only [List.getLast?_append, List.getLast?_singleton, Option.some_or]
      intro m hm; exact Nat.le_succ_of_le (h m hm)
theorem putScalar_len (items : List Tr) (t : Tr) (h : items.length ≤ 65536) : (putScalar items t).length ≤ 65536 := by
  unfold putScalar putItem
  split
  · exact h
  · split
    · simp; omega
    · exact h
theorem PsOk.put {x : Ps} {n : Nat} (h : PsOk x n) : PsOk x.put (n + 1) := by
  refine ⟨h.depth, by unfold Ps.put; simp [more_len]; exact h.pile, h.nodes, h.bytes, h.items, ?_, more_many h.many⟩
  unfold Ps.put
  simp only []
  split <;> simp
theorem PsOk.value {x y : Ps} {n at_ : Nat} (h : PsOk x n) (hv : x.value at_ = .ok y) : PsOk y n ∧ (x.want = 0 ∨ x.want = 1) ∧ y.pile = x.pile ∧ x.pile.length < x.depth ∧ y.depth = x.depth := by
  unfold Ps.value at hv
  split at hv
  · cases hv
  · rename_i h1
    split at hv
    · cases hv
    · rename_i h2
      split at hv
      · cases hv
      · rename_i h3
        cases hv
        exact ⟨⟨h.depth, h.pile, by have := h.nodes; simp; omega, h.bytes, h.items, h.want, h.many⟩, by omega, rfl, by have := h.pile; omega, rfl⟩
section
variable (po : List Tr → List (List UInt8) → List Tr)
theorem PsOk.token {x y : Ps} {n : Nat} (h : PsOk x n) {t : Tok} (ht : OkTok t) (hy : x.token po t = .ok y) : PsOk y (n + 1) := by
  cases t with
  | mark a s =>
    obtain rfl : s = 91 := ht
    have hm : x.mark po a 91 = (x.value a).map fun p => { p with pile := p.pile ++ [.list 0], want := 1 } := by unfold Ps.mark; rw [if_pos rfl]
    simp only [Ps.token] at hy
    rw [hm] at hy
    cases hv : x.value a with
    | error e => rw [hv] at hy; cases hy
    | ok z =>
      rw [hv] at hy
      simp only [Except.map] at hy
      cases hy
      obtain ⟨hz, _, hpi, hpl, hd⟩ := h.value hv
      refine ⟨hz.depth, by simp [hpi, hd]; omega, hz.nodes, hz.bytes, hz.items, .inr (.inl rfl), ?_⟩
      intro m hm
      rcases List.mem_append.1 hm with h1 | h1
      · exact Nat.le_succ_of_le (hz.many m h1)
      · simp at h1; omega
  | term a b c => exact ht.elim
  | num a b c =>
    simp only [Ps.token] at hy
    cases hy
    exact PsOk.put (x := { x with items := putNum x.items c }) ⟨h.depth, h.pile, h.nodes, h.bytes, putScalar_len _ _ h.items, h.want, h.many⟩
  | str a b c =>
    simp only [Ps.token] at hy
    unfold Ps.text at hy
    rw [if_pos (by rcases h.want with h | h | h | h <;> omega)] at hy
    unfold Ps.weigh at hy
    split at hy
    · cases hy
    · simp only [Except.map] at hy
      cases hy
      refine PsOk.put (x := { x with bytes := x.bytes + c.length, items := putText x.items c }) ⟨h.depth, h.pile, h.nodes, by simp; omega, ?_, h.want, h.many⟩
      show (putText x.items c).length ≤ 65536
      unfold putText
      split
      · exact putScalar_len _ _ h.items
      · exact h.items
theorem Ps.drain_cons (x : Ps) (t : Tok) (l : List Tok) : x.drain po (t :: l) = (x.token po t).bind fun y => y.drain po l := rfl
theorem Ps.drain_nil (x : Ps) : x.drain po [] = .ok x := rfl
end

theorem num_value (w : World) (a n b : Nat) : Calls Tryz.prog 357 #[.agg #[.int .i64 a, .int .i64 n, .int .u64 b]] w fun e w' => e = .returned (.iface 107 (.float .f64 b)) ∧ Below w.heap.size w w' := by
  have h1 := f64from_run b
  go_enter Tryz.func357, Tryz.ntmps357
  go_wp2
  go_ret
  exact ⟨rfl, (Below.refl _ _).alloc (Nat.le_refl _) _⟩

/-- How many tokens the parser's lexer has that were not told. -/
def tokLeft (w : World) (p : Nat) : Nat := match w.cell? ⟨p, 2, none⟩ with
  | some (.pointer (some a)) => match w.cell? ⟨a.block, 13, none⟩ with
    | some (.slice _ n _) => n
    | _ => 0
  | _ => 0
theorem LexIs.left {F : Nat → Prop} {w : World} {b : Nat} {toks : List Tok} {s : LS} (h : LexIs F w b toks s) : ∃ a c, w.cell? ⟨b, 13, none⟩ = some (.slice a toks.length c) := by
  cases s with
  | at_ x dn =>
    obtain ⟨hF, hlt, rawV, chV, saysV, tokV, hb, hw, hs⟩ := h
    obtain ⟨a, c, rfl⟩ := hw.1.shape
    refine ⟨a, c, ?_⟩
    rw [cell_at hb]
    simp
  | dead pl st errV =>
    obtain ⟨hF, hlt, v2, v3, v4, v6, v7, v8, v9, va, vb, vc, tokV, hb, hw⟩ := h
    obtain ⟨a, c, rfl⟩ := hw.1.shape
    refine ⟨a, c, ?_⟩
    rw [cell_at hb]
    simp
theorem ParAt.left {F : Nat → Prop} {w : World} {p : Nat} {x : Ps} {s : LS} {toks : List Tok} (h : ParAt F w p x s toks) : tokLeft w p = toks.length := by
  obtain ⟨hlt, FL, FM, FP, lb, mb, pileV, vals, hp, hb, hL, hM, hP⟩ := h
  obtain ⟨a, c, hc⟩ := hL.left
  have h2 : w.cell? ⟨p, 2, none⟩ = some (.pointer (some ⟨lb, 0, none⟩)) := by rw [cell_at hb]; rfl
  unfold tokLeft
  rw [h2]
  simp only [hc]
/-- Next, of a parser's lexer. -/
theorem par_next (F : Nat → Prop) (w : World) (p : Nat) (x : Ps) (s : LS) (t : Tok) (toks : List Tok) (h : ParAt F w p x s (t :: toks)) (hl : toks.length ≤ 999) : ∃ lb, w.cell? ⟨p, 2, none⟩ = some (.pointer (some ⟨lb, 0, none⟩)) ∧
    Calls Tryz.prog 111 #[.pointer (some ⟨lb, 0, none⟩)] w fun e w' => e = .returned (.tuple #[tokEnc t, .bool true]) ∧ Keeps F w w' ∧ ParAt (Since F w w') w' p x s toks := by
  obtain ⟨hlt, FL, FM, FP, lb, mb, pileV, vals, hp, hb, hL, hM, hP⟩ := h
  refine ⟨lb, by rw [cell_at hb]; rfl, (nextTok_any FL w lb t toks s hL hl).mono ?_⟩
  rintro e w' ⟨rfl, hL', hk⟩
  have hd : ∀ (Q : Nat → Prop), ¬ Q lb → ∀ k, Q k → ¬ k = lb := fun Q h1 k hk e => h1 (e ▸ hk)
  have hkF : Keeps F w w' := hk.mono fun k e => e ▸ hp.lex lb hL.block
  refine ⟨rfl, hkF, since_lt hlt hkF.size, FL, FM, FP, lb, mb, pileV, vals, hp.since, hk.blk hb (fun e => hp.self.2.1 (e ▸ hL.block)), hL', hM.apart hk (hd FM (fun h => hp.lm lb hL.block h)), hP.keeps hk (hd FP (fun h => hp.lp lb hL.block h))⟩
theorem par_none (F : Nat → Prop) (w : World) (p : Nat) (x : Ps) (s : LS) (h : ParAt F w p x s []) : ∃ lb, w.cell? ⟨p, 2, none⟩ = some (.pointer (some ⟨lb, 0, none⟩)) ∧
    Calls Tryz.prog 111 #[.pointer (some ⟨lb, 0, none⟩)] w fun e w' => e = .returned (.tuple #[.nilIface, .bool false]) ∧ w' = w := by
  obtain ⟨hlt, FL, FM, FP, lb, mb, pileV, vals, hp, hb, hL, hM, hP⟩ := h
  exact ⟨lb, by rw [cell_at hb]; rfl, nextNone_any FL w lb s hL⟩
end Go.Proofs.YtakkmiomhackiaaGreatDoor

/-
  Package parse, eighth part: drain.
-/
namespace Go.Proofs.YtakkmiomhackiaaGreatDoor
open Go.RowKit
set_option maxRecDepth 100000

theorem tok_iface (t : Tok) : ∃ T u, tokEnc t = .iface T u := by cases t <;> exact ⟨_, _, rfl⟩
section
variable (po : List Tr → List (List UInt8) → List Tr)
/-- Between two rounds of drain. -/
def DrainInv (F : Nat → Prop) (w : World) (p : Nat) (s : LS) (out : Out) (t ok : Value) (wr : World) : Prop :=
  ∃ y m, Keeps F w wr ∧ PsOk y m ∧ ∃ rest, ParAt (Since F w wr) wr p y s rest ∧ (∀ t ∈ rest, OkTok t) ∧ rest.length ≤ 998 ∧
    ((∃ tk, m + rest.length + 2 ≤ 1073741824 ∧ t = tokEnc tk ∧ ok = .bool true ∧ OkTok tk ∧ y.drain po (tk :: rest) = out) ∨ (t = .nilIface ∧ ok = .bool false ∧ rest = [] ∧ out = .ok y))
def drainLeft (p : Nat) (ok : Value) (w : World) : Nat := match ok with
  | .bool true => 1 + tokLeft w p
  | _ => 0
/-- A token was done, in a world in which a box more lies. -/
theorem tok_step {F : Nat → Prop} {w wr W1 : World} {p : Nat} {y : Ps} {m : Nat} {s : LS} {rest : List Tok} {tk : Tok} {out o : Out} {f : Nat} {args : Array Value} (hlt : ∀ k, F k → k < w.heap.size) (hkr : Keeps F w wr) (hal : Keeps (fun _ => False) wr W1) (hy : PsOk y m) (htk : OkTok tk) (ho : y.token po tk = o) (hout : y.drain po (tk :: rest) = out)
    (hcall : Calls Tryz.prog f args W1 fun e w' => Plainly e ∧ ParPost (Since F w wr) W1 p s rest o e w') :
    Calls Tryz.prog f args W1 fun e w' => Keeps F w w' ∧ ((∃ e2 : Nat × Nat, e = failE e2.1 e2.2 ∧ ParDead w' p ∧ out = .error e2) ∨ (∃ z, e = .returned (.tuple #[]) ∧ PsOk z (m + 1) ∧ ParAt (Since F w w') w' p z s rest ∧ z.drain po rest = out)) := by
  refine hcall.mono fun e w' ⟨_, hk, hpost⟩ => ?_
  have hkw : Keeps F w w' := (hkr.andThen (hal.mono fun _ h => h.elim)).trans hk (fun k h => h.elim .inl (fun h => .inr h.1))
  refine ⟨hkw, ?_⟩
  rw [Ps.drain_cons, ho] at hout
  cases o with
  | error e2 =>
    obtain ⟨no, at_⟩ := e2
    exact .inl ⟨(no, at_), hpost.1, hpost.2, hout.symm⟩
  | ok z =>
    refine .inr ⟨z, hpost.1, hy.token po htk ho, ?_, hout⟩
    exact hpost.2.mono (fun k h => h.elim (fun h => h.mono_r (Nat.le_trans hal.size hk.size)) (fun h => .inr ⟨Nat.le_trans hkr.size (Nat.le_trans hal.size h.1), h.2⟩)) (since_lt hlt hkw.size)

theorem measure_none {G : Nat → Prop} {w3 wr : World} {p : Nat} {z : Ps} {s : LS} (_h : ParAt G w3 p z s []) : drainLeft p (.bool false) w3 < drainLeft p (.bool true) wr := by
  show 0 < 1 + tokLeft wr p
  omega
theorem measure_some {G G' : Nat → Prop} {w4 wr : World} {p : Nat} {y z : Ps} {s s' : LS} {t : Tok} {rest : List Tok} (h : ParAt G' wr p y s' (t :: rest)) (h4 : ParAt G w4 p z s rest) : drainLeft p (.bool true) w4 < drainLeft p (.bool true) wr := by
  show 1 + tokLeft w4 p < 1 + tokLeft wr p
  rw [h.left, h4.left, List.length_cons]
  omega

set_option maxHeartbeats 8000000 in
theorem drain_any (F : Nat → Prop) (w : World) (p : Nat) (x : Ps) (s : LS) (toks : List Tok) (n : Nat) (h : ParAt F w p x s toks) (hok : ∀ t ∈ toks, OkTok t) (hx : PsOk x n) (hn : n + toks.length + 1 ≤ 1073741824) (hl : toks.length ≤ 999) :
    Calls Tryz.prog 79 #[.pointer (some ⟨p, 0, none⟩)] w fun e w' => Plainly e ∧ ParPost F w p s [] (x.drain po toks) e w' := by
  have hlt := h.lt
  have HLT := Lib.hid hlt
  obtain ⟨out, hout⟩ : ∃ out, x.drain po toks = out := ⟨_, rfl⟩
  rw [hout]
  have hstart : ∃ lb t ok, w.cell? ⟨p, 2, none⟩ = some (.pointer (some ⟨lb, 0, none⟩)) ∧ (∃ okb, ok = .bool okb) ∧ (t = .nilIface ∨ ∃ T u, t = .iface T u) ∧ Calls Tryz.prog 111 #[.pointer (some ⟨lb, 0, none⟩)] w fun e w' => e = .returned (.tuple #[t, ok]) ∧ DrainInv po F w p s out t ok w' := by
    cases toks with
    | nil =>
      obtain ⟨lb, hc, hnx⟩ := par_none F w p x s h
      refine ⟨lb, .nilIface, .bool false, hc, ⟨_, rfl⟩, .inl rfl, hnx.mono ?_⟩
      rintro e w' ⟨rfl, rfl⟩
      exact ⟨rfl, x, n, Keeps.refl _ _, hx, [], h.mono (fun k h => .inl h) (since_lt hlt (Nat.le_refl _)), fun _ h => by simp at h, by simp, .inr ⟨rfl, rfl, rfl, hout.symm⟩⟩
    | cons t rest =>
      obtain ⟨lb, hc, hnx⟩ := par_next F w p x s t rest h (by simp at hl; omega)
      refine ⟨lb, tokEnc t, .bool true, hc, ⟨_, rfl⟩, .inr (tok_iface t), hnx.mono ?_⟩
      rintro e w' ⟨rfl, hk, hp⟩
      exact ⟨rfl, x, n, hk, hx, rest, hp, fun t h => hok t (List.mem_cons_of_mem _ h), by simp at hl; omega, .inl ⟨t, by simp at hn; omega, rfl, rfl, hok t (List.mem_cons_self ..), hout⟩⟩
  obtain ⟨lb, t0, ok0, hc2, ⟨okb, rfl⟩, hti, hnx⟩ := hstart
  have HNX := Lib.hid hnx
  clear h hok hx hn hl hout hlt hnx
  rcases hti with rfl | ⟨T0, u0, rfl⟩
  all_goals
    go_enter Tryz.func79, Tryz.ntmps79
    go_wp2_with fail
    refine (HNX.out).mono ?_
    rintro e w1 ⟨rfl, hinv⟩
    have HINV := Lib.hid hinv
    clear hinv
    go_wp2_with fail
    go_loopw [2, 3] (fun t ok wr => Hid (DrainInv po F w p s out t ok wr)) (fun _ ok wr => drainLeft p ok wr)
    case atStart => exact HINV.out.elim fun y h => Lib.hid ⟨y, h⟩
    case round =>
      obtain ⟨y, m, hkr, hy, rest, hpar, hokr, hb2, hcase⟩ := hrel.out
      clear hrel
      have HPAR := Lib.hid hpar
      have HKR := Lib.hid hkr
      rcases hcase with ⟨tk, hb1, rfl, rfl, htk, hout⟩ | ⟨rfl, rfl, rfl, hout⟩
      · have HB1 := Lib.hid hb1
        have HB2 := Lib.hid hb2
        have HOKR := Lib.hid hokr
        cases tk with
        | mark a sg =>
           have hsg : sg = 91 := htk
           subst hsg
           rw [show tokEnc (.mark a 91) = .iface 238 (.agg #[.int .i64 a, .int .i64 1, .int .u8 91]) from rfl]
           have hta : ∀ w : World, (Instr.typeAssert (.iface 238 (.agg #[.int .i64 a, .int .i64 1, .int .u8 91])) 232 238 true).run Tryz.prog w = .ok (.tuple #[.agg #[.int .i64 a, .int .i64 1, .int .u8 91], .bool true]) w := fun _ => by kernel_rfl
           have hal : Keeps (fun _ => False) wr (wr.alloc (.cells #[.int .i64 a, .int .i64 1, .int .u8 91] 238)) := (Keeps.refl _ wr).alloc _
           have hcall := mark_open _ _ p y s rest a (hpar.apart hal (fun _ _ => id)) hy.nodes (by have := hy.pile; have := hy.depth; omega)
           have hmk : y.mark po a 91 = (y.value a).map fun p => { p with pile := p.pile ++ [.list 0], want := 1 } := by unfold Ps.mark; rw [if_pos rfl]
           rw [← hmk] at hcall
           have HC := Lib.hid (tok_step po (tk := .mark a 91) HLT.out hkr hal hy htk rfl hout hcall)
           clear hmk
           clear hpar hkr hy hokr hb1 hb2 hc2 hcall htk hout hal
           go_wp2_with fail
           refine (HC.out).mono ?_
           rintro e w3 ⟨hkt, hout⟩
           have hout : (∃ e2 : Nat × Nat, e = failE e2.1 e2.2 ∧ ParDead w3 p ∧ out = .error e2) ∨ (∃ z, e = .returned (.tuple #[]) ∧ PsOk z (m + 1) ∧ ParAt (Since F w w3) w3 p z s rest ∧ z.drain po rest = out) := hout
           rcases hout with ⟨e2, he, hdead, hoe⟩ | ⟨z, he, hzz, hpz, hoz⟩
           · have HOE := Lib.hid hoe
             have HKT := Lib.hid hkt
             have HD := Lib.hid hdead
             clear hoe hkt hdead
             unfold failE at he
             subst he
             go_wp2_with fail
             rw [HOE.out]
             exact ⟨rfl, .inr ⟨_, _, rfl⟩, HKT.out, rfl, HD.out⟩
           · subst he
             cases rest with
             | nil =>
               obtain ⟨lb2, hc2b, hnx⟩ := par_none _ w3 p z s hpz
               have HKT := Lib.hid hkt
               have HNX := Lib.hid hnx
               have HZZ := Lib.hid hzz
               have HPZ := Lib.hid hpz
               have HOZ := Lib.hid hoz
               clear hkt hnx hzz hpz hoz
               go_wp2_with fail
               refine (HNX.out).mono ?_
               rintro e w4 ⟨rfl, rfl⟩
               go_wp2_with fail
               go_roundw
               case rel => exact Lib.hid ⟨z, m + 1, HKT.out, HZZ.out, [], HPZ.out, fun _ h => by simp at h, by simp, .inr ⟨rfl, rfl, rfl, HOZ.out.symm⟩⟩
               case measure => exact measure_none HPZ.out
             | cons t2 rest2 =>
               obtain ⟨lb2, hc2b, hnx⟩ := par_next _ w3 p z s t2 rest2 hpz (by have := HB2.out; simp at this; omega)
               have HKT := Lib.hid hkt
               have HNX := Lib.hid hnx
               have HZZ := Lib.hid hzz
               have HPZ := Lib.hid hpz
               have HOZ := Lib.hid hoz
               obtain ⟨T2, u2, ht2⟩ := tok_iface t2
               rw [ht2] at HNX
               have HT2 := Lib.hid ht2
               clear hkt hnx hzz hpz hoz ht2
               go_wp2_with fail
               refine (HNX.out).mono ?_
               rintro e w4 ⟨rfl, hk4, hp4⟩
               have HK4 := Lib.hid hk4
               have HP4 := Lib.hid hp4
               clear hk4 hp4
               go_wp2_with fail
               go_roundw
               case rel => exact Lib.hid ⟨z, m + 1, HKT.out.andThen HK4.out, HZZ.out, rest2, HP4.out.mono (fun k h => h.trans HKT.out.size HK4.out.size) (fun k h => by exact (since_lt HLT.out (HKT.out.andThen HK4.out).size) k h), fun t h => HOKR.out t (List.mem_cons_of_mem _ h), by have := HB2.out; simp at this; omega, .inl ⟨t2, by have := HB1.out; simp at this; omega, HT2.out.symm, rfl, HOKR.out t2 (List.mem_cons_self ..), HOZ.out⟩⟩
               case measure => exact measure_some HPAR.out HP4.out
        | term a b c => exact htk.elim
        | num a sz bt =>
           have hta : ∀ w : World, (Instr.typeAssert (.iface 271 (.agg #[.int .i64 a, .int .i64 sz, .int .u64 bt])) 232 238 true).run Tryz.prog w = .ok (.tuple #[.agg #[.int .i64 0, .int .i64 0, .int .u8 0], .bool false]) w := fun _ => by kernel_rfl
           have hta2 : ∀ w : World, (Instr.typeAssert (.iface 271 (.agg #[.int .i64 a, .int .i64 sz, .int .u64 bt])) 232 241 true).run Tryz.prog w = .ok (.tuple #[.agg #[.int .i64 0, .int .i64 0, .string ⟨#[]⟩], .bool false]) w := fun _ => by kernel_rfl
           have hta3 : ∀ w : World, (Instr.typeAssert (.iface 271 (.agg #[.int .i64 a, .int .i64 sz, .int .u64 bt])) 232 244 true).run Tryz.prog w = .ok (.tuple #[.iface 271 (.agg #[.int .i64 a, .int .i64 sz, .int .u64 bt]), .bool true]) w := fun _ => by kernel_rfl
           have hm : ∀ w : World, (method 565 271 (.agg #[.int .i64 a, .int .i64 sz, .int .u64 bt]) "Value").run Tryz.prog w = .ok (357, .agg #[.int .i64 a, .int .i64 sz, .int .u64 bt]) w := fun _ => by kernel_rfl
           rw [show tokEnc (.num a sz bt) = .iface 271 (.agg #[.int .i64 a, .int .i64 sz, .int .u64 bt]) from rfl]
           have HNV := Lib.hid (num_value wr a sz bt)
           have HCC := Lib.hid (fun W1 (hal : Keeps (fun _ => False) wr W1) => tok_step po (tk := .num a sz bt) HLT.out hkr hal hy htk rfl hout ((scalar_num _ W1 p y s rest bt htk (hpar.apart hal (fun _ _ => id)) (hy.pileOk (by omega)) (by have := hy.items; omega)).mono fun e w' h => ⟨.inl h.1, h.2.1, h.1, h.2.2⟩))
           clear hpar hkr hy hokr hb1 hb2 hc2 htk hout
           go_wp2_with fail
           refine (HNV.out).mono ?_
           rintro e w2 ⟨rfl, hb2⟩
           have HC := Lib.hid (HCC.out w2 (Keeps.of_below _ hb2))
           clear hb2
           go_wp2_with fail
           refine (HC.out).mono ?_
           rintro e w3 ⟨hkt, hout⟩
           have hout : (∃ e2 : Nat × Nat, e = failE e2.1 e2.2 ∧ ParDead w3 p ∧ out = .error e2) ∨ (∃ z, e = .returned (.tuple #[]) ∧ PsOk z (m + 1) ∧ ParAt (Since F w w3) w3 p z s rest ∧ z.drain po rest = out) := hout
           rcases hout with ⟨e2, he, hdead, hoe⟩ | ⟨z, he, hzz, hpz, hoz⟩
           · have HOE := Lib.hid hoe
             have HKT := Lib.hid hkt
             have HD := Lib.hid hdead
             clear hoe hkt hdead
             unfold failE at he
             subst he
             go_wp2_with fail
             rw [HOE.out]
             exact ⟨rfl, .inr ⟨_, _, rfl⟩, HKT.out, rfl, HD.out⟩
           · subst he
             cases rest with
             | nil =>
               obtain ⟨lb2, hc2b, hnx⟩ := par_none _ w3 p z s hpz
               have HKT := Lib.hid hkt
               have HNX := Lib.hid hnx
               have HZZ := Lib.hid hzz
               have HPZ := Lib.hid hpz
               have HOZ := Lib.hid hoz
               clear hkt hnx hzz hpz hoz
               go_wp2_with fail
               refine (HNX.out).mono ?_
               rintro e w4 ⟨rfl, rfl⟩
               go_wp2_with fail
               go_roundw
               case rel => exact Lib.hid ⟨z, m + 1, HKT.out, HZZ.out, [], HPZ.out, fun _ h => by simp at h, by simp, .inr ⟨rfl, rfl, rfl, HOZ.out.symm⟩⟩
               case measure => exact measure_none HPZ.out
             | cons t2 rest2 =>
               obtain ⟨lb2, hc2b, hnx⟩ := par_next _ w3 p z s t2 rest2 hpz (by have := HB2.out; simp at this; omega)
               have HKT := Lib.hid hkt
               have HNX := Lib.hid hnx
               have HZZ := Lib.hid hzz
               have HPZ := Lib.hid hpz
               have HOZ := Lib.hid hoz
               obtain ⟨T2, u2, ht2⟩ := tok_iface t2
               rw [ht2] at HNX
               have HT2 := Lib.hid ht2
               clear hkt hnx hzz hpz hoz ht2
               go_wp2_with fail
               refine (HNX.out).mono ?_
               rintro e w4 ⟨rfl, hk4, hp4⟩
               have HK4 := Lib.hid hk4
               have HP4 := Lib.hid hp4
               clear hk4 hp4
               go_wp2_with fail
               go_roundw
               case rel => exact Lib.hid ⟨z, m + 1, HKT.out.andThen HK4.out, HZZ.out, rest2, HP4.out.mono (fun k h => h.trans HKT.out.size HK4.out.size) (fun k h => by exact (since_lt HLT.out (HKT.out.andThen HK4.out).size) k h), fun t h => HOKR.out t (List.mem_cons_of_mem _ h), by have := HB2.out; simp at this; omega, .inl ⟨t2, by have := HB1.out; simp at this; omega, HT2.out.symm, rfl, HOKR.out t2 (List.mem_cons_self ..), HOZ.out⟩⟩
               case measure => exact measure_some HPAR.out HP4.out
        | str a sz l =>
           obtain ⟨sv, hsv⟩ : ∃ sv : ByteArray, (⟨l.toArray⟩ : ByteArray) = sv := ⟨_, rfl⟩
           have hte : tokEnc (.str a sz l) = .iface 241 (.agg #[.int .i64 a, .int .i64 sz, .string sv]) := by rw [← hsv]; rfl
           have hta : ∀ w : World, (Instr.typeAssert (.iface 241 (.agg #[.int .i64 a, .int .i64 sz, .string sv])) 232 238 true).run Tryz.prog w = .ok (.tuple #[.agg #[.int .i64 0, .int .i64 0, .int .u8 0], .bool false]) w := fun _ => by kernel_rfl
           have hta2 : ∀ w : World, (Instr.typeAssert (.iface 241 (.agg #[.int .i64 a, .int .i64 sz, .string sv])) 232 241 true).run Tryz.prog w = .ok (.tuple #[.agg #[.int .i64 a, .int .i64 sz, .string sv], .bool true]) w := fun _ => by kernel_rfl
           have hal : Keeps (fun _ => False) wr (wr.alloc (.cells #[.int .i64 a, .int .i64 sz, .string sv] 241)) := (Keeps.refl _ wr).alloc _
           have hcall := text_value _ _ p y s rest a sz l htk.1 htk.2 (hpar.apart hal (fun _ _ => id)) (hy.pileOk (by omega)) (by have := hy.items; omega) (by have := hy.bytes; omega) (by have := hy.want; omega)
           rw [hsv] at hcall
           have HC := Lib.hid (tok_step po (tk := .str a sz l) HLT.out hkr hal hy htk rfl hout hcall)
           rw [hte]
           clear hsv hte
           clear hpar hkr hy hokr hb1 hb2 hc2 hcall htk hout hal
           go_wp2_with fail
           refine (HC.out).mono ?_
           rintro e w3 ⟨hkt, hout⟩
           have hout : (∃ e2 : Nat × Nat, e = failE e2.1 e2.2 ∧ ParDead w3 p ∧ out = .error e2) ∨ (∃ z, e = .returned (.tuple #[]) ∧ PsOk z (m + 1) ∧ ParAt (Since F w w3) w3 p z s rest ∧ z.drain po rest = out) := hout
           rcases hout with ⟨e2, he, hdead, hoe⟩ | ⟨z, he, hzz, hpz, hoz⟩
           · have HOE := Lib.hid hoe
             have HKT := Lib.hid hkt
             have HD := Lib.hid hdead
             clear hoe hkt hdead
             unfold failE at he
             subst he
             go_wp2_with fail
             rw [HOE.out]
             exact ⟨rfl, .inr ⟨_, _, rfl⟩, HKT.out, rfl, HD.out⟩
           · subst he
             cases rest with
             | nil =>
               obtain ⟨lb2, hc2b, hnx⟩ := par_none _ w3 p z s hpz
               have HKT := Lib.hid hkt
               have HNX := Lib.hid hnx
               have HZZ := Lib.hid hzz
               have HPZ := Lib.hid hpz
               have HOZ := Lib.hid hoz
               clear hkt hnx hzz hpz hoz
               go_wp2_with fail
               refine (HNX.out).mono ?_
               rintro e w4 ⟨rfl, rfl⟩
               go_wp2_with fail
               go_roundw
               case rel => exact Lib.hid ⟨z, m + 1, HKT.out, HZZ.out, [], HPZ.out, fun _ h => by simp at h, by simp, .inr ⟨rfl, rfl, rfl, HOZ.out.symm⟩⟩
               case measure => exact measure_none HPZ.out
             | cons t2 rest2 =>
               obtain ⟨lb2, hc2b, hnx⟩ := par_next _ w3 p z s t2 rest2 hpz (by have := HB2.out; simp at this; omega)
               have HKT := Lib.hid hkt
               have HNX := Lib.hid hnx
               have HZZ := Lib.hid hzz
               have HPZ := Lib.hid hpz
               have HOZ := Lib.hid hoz
               obtain ⟨T2, u2, ht2⟩ := tok_iface t2
               rw [ht2] at HNX
               have HT2 := Lib.hid ht2
               clear hkt hnx hzz hpz hoz ht2
               go_wp2_with fail
               refine (HNX.out).mono ?_
               rintro e w4 ⟨rfl, hk4, hp4⟩
               have HK4 := Lib.hid hk4
               have HP4 := Lib.hid hp4
               clear hk4 hp4
               go_wp2_with fail
               go_roundw
               case rel => exact Lib.hid ⟨z, m + 1, HKT.out.andThen HK4.out, HZZ.out, rest2, HP4.out.mono (fun k h => h.trans HKT.out.size HK4.out.size) (fun k h => by exact (since_lt HLT.out (HKT.out.andThen HK4.out).size) k h), fun t h => HOKR.out t (List.mem_cons_of_mem _ h), by have := HB2.out; simp at this; omega, .inl ⟨t2, by have := HB1.out; simp at this; omega, HT2.out.symm, rfl, HOKR.out t2 (List.mem_cons_self ..), HOZ.out⟩⟩
               case measure => exact measure_some HPAR.out HP4.out
      · clear hpar hkr hy hokr hb2 hc2
        have HOUT := Lib.hid hout
        clear hout
        go_wp2_with fail
        go_end0
        rw [HOUT.out]
        exact ⟨.inl rfl, HKR.out, rfl, HPAR.out⟩
end
end Go.Proofs.YtakkmiomhackiaaGreatDoor

/-
  Package parse, ninth part: the tokens that the lexer tells are such as the parser's walk takes.
-/
namespace Go.Proofs.YtakkmiomhackiaaGreatDoor
open Go.RowKit
set_option maxRecDepth 100000

/-- The bytes of the documents that have no words, no escapes, no objects, no ends of lists, no commas. -/
def PlainC (c : UInt8) : Prop := PlainB c ∧ (isMark c = true → c = 91)
def CharsOk (x : Lx) : Prop := x.st = .within → feedAll [] x.says = some x.held
theorem outside_ok {x : Lx} {c : UInt8} (hc : PlainC c) : (∀ t ∈ (outsideStep x c).toks, OkTok t) ∧ (x.st = .outside → CharsOk (outsideStep x c).lx) := by
  unfold outsideStep
  by_cases hbl : isBlank c = true
  · rw [if_pos hbl]
    exact ⟨fun t ht => by simp at ht, fun hst h => by rw [hst] at h; cases h⟩
  rw [if_neg hbl]
  simp only []
  by_cases hm : isMark c = true
  · rw [if_pos hm]
    refine ⟨fun t ht => ?_, fun _ h => by cases h⟩
    simp at ht
    subst ht
    exact hc.2 hm
  rw [if_neg hm]
  by_cases hq : c = 34
  · rw [if_pos hq]
    exact ⟨fun t ht => by simp at ht, fun _ _ => rfl⟩
  rw [if_neg hq]
  by_cases hnum : c = 45 ∨ isD c = true
  · rw [if_pos hnum]
    unfold numFirst
    cases hnx : numNext 0 c with
    | none => exact ⟨fun t ht => by simp at ht, fun _ h => by simp at h⟩
    | some s' => exact ⟨fun t ht => by simp at ht, fun _ h => by simp at h⟩
  rw [if_neg hnum, if_neg (by simp [hc.1.1])]
  exact ⟨fun t ht => by simp at ht, fun hst h => by simp [hst] at h⟩
theorem step_ok {x : Lx} {c : UInt8} (hst : PlainSt x.st) (hg : x.Good) (hch : CharsOk x) (hc : PlainC c) : (∀ t ∈ (x.step c).toks, OkTok t) ∧ CharsOk (x.step c).lx := by
  rcases hst with hst | hst | hst
  · have he : x.step c = outsideStep x c := by unfold Lx.step; rw [hst]
    rw [he]
    exact ⟨(outside_ok hc).1, (outside_ok hc).2 hst⟩
  · have he : x.step c = numeralStep x c := by unfold Lx.step; rw [hst]
    rw [he]
    unfold numeralStep
    cases hnx : numNext x.number c with
    | some s' => exact ⟨fun t ht => by simp at ht, fun h => by simp [hst] at h⟩
    | none =>
      simp only []
      by_cases hen : numEnds x.number = true
      · rw [if_pos hen]
        unfold Lx.finish
        cases hb : bitsOf x.raw with
        | none => exact ⟨fun t ht => by simp at ht, fun h => by simp [hst] at h⟩
        | some v =>
          simp only [Option.map_some]
          refine ⟨fun t ht => ?_, (outside_ok hc).2 rfl⟩
          rcases List.mem_cons.1 ht with rfl | ht
          · exact bitsOf_finite hb
          · exact (outside_ok hc).1 t ht
      · rw [if_neg hen]
        exact ⟨fun t ht => by simp at ht, fun h => by simp [hst] at h⟩
  · have he : x.step c = withinStep x c := by unfold Lx.step; rw [hst]
    rw [he]
    unfold withinStep
    by_cases h1 : x.held = [] ∧ c = 34
    · rw [if_pos h1]
      refine ⟨fun t ht => ?_, fun h => by simp [Lx.told] at h⟩
      simp at ht
      subst ht
      refine ⟨?_, Nat.le_trans (hg.within (.inl hst)) (Nat.le_trans hg.place (by decide))⟩
      unfold rightOf
      rw [hch hst, h1.1]
      rfl
    rw [if_neg h1, if_neg (fun h => hc.1.2 h.2)]
    by_cases h3 : x.held = [] ∧ c.toNat < 32
    · rw [if_pos h3]; exact ⟨fun t ht => by simp at ht, hch⟩
    rw [if_neg h3]
    cases hfo : feedOne x.held c with
    | none => exact ⟨fun t ht => by simp at ht, hch⟩
    | some h' =>
      refine ⟨fun t ht => by simp at ht, fun _ => ?_⟩
      show feedAll [] (x.says ++ [c]) = some h'
      have := hch hst
      unfold feedAll at this ⊢
      rw [List.foldl_append, this]
      exact hfo
theorem take_ok {x : Lx} {c : UInt8} (hst : PlainSt x.st) (hg : x.Good) (hch : CharsOk x) (hc : PlainC c) : (∀ t ∈ (x.take c).2.1, OkTok t) ∧ CharsOk (x.take c).1 := by
  unfold Lx.take
  split
  · exact ⟨fun t ht => by simp at ht, hch⟩
  · simp only []
    obtain ⟨h1, h2⟩ := step_ok hst hg hch hc
    split
    · exact ⟨h1, h2⟩
    · exact ⟨h1, h2⟩
theorem ended_ok {x : Lx} : ∀ t ∈ x.ended.2.1, OkTok t := by
  unfold Lx.ended
  split
  · intro t ht; simp at ht
  · split
    · intro t ht; simp at ht
    · unfold Lx.finish
      cases hb : bitsOf x.raw with
      | none => intro t ht; simp at ht
      | some v => intro t ht; simp at ht; subst ht; exact bitsOf_finite hb
end Go.Proofs.YtakkmiomhackiaaGreatDoor

/-
  Package parse: take of a byte.
-/
namespace Go.Proofs.YtakkmiomhackiaaGreatDoor
open Go.RowKit
set_option maxRecDepth 100000

section
variable (po : List Tr → List (List UInt8) → List Tr)
/-- A parser that came so far. -/
structure ParOk (x : Ps) (n : Nat) : Prop where
  ps : PsOk x n
  good : x.lex.Good
  st : PlainSt x.lex.st
  chars : CharsOk x.lex
  place : x.place = x.lex.place

def takePost (F : Nat → Prop) (w : World) (p : Nat) (o : Out) (e : Ending) (w' : World) : Prop :=
  Keeps F w w' ∧ match o with
  | .error (no, at_) => e = failE no at_ ∧ ParDead w' p
  | .ok y => e = .returned (.tuple #[]) ∧ ParAt (Since F w w') w' p y (.at_ y.lex false) []

/-- Feed of one byte to a parser's lexer. -/
theorem par_feed (F : Nat → Prop) (w : World) (p : Nat) (x : Ps) (g off : Nat) (c : UInt8) (h : ParAt F w p x (.at_ x.lex false) []) (hg : x.lex.Good) (hst : PlainSt x.lex.st) (hc : w.cell? ⟨g, off, none⟩ = some (.int .u8 ((c.toNat : Nat) : Int))) :
    ∃ lb, w.cell? ⟨p, 2, none⟩ = some (.pointer (some ⟨lb, 0, none⟩)) ∧ Calls Tryz.prog 82 #[.pointer (some ⟨lb, 0, none⟩), .slice (some ⟨g, off, none⟩) 1 1] w fun e w' => Keeps F w w' ∧ w'.cell? ⟨p, 2, none⟩ = some (.pointer (some ⟨lb, 0, none⟩)) ∧
      ((x.lex.take c).2.2.1 = 0 → e = .returned .nilIface ∧ ParAt (Since F w w') w' p x (.at_ (x.lex.take c).1 false) (x.lex.take c).2.1) ∧
      ((x.lex.take c).2.2.1 ≠ 0 → e = .returned (spotV (x.lex.take c).2.2.1 (x.lex.take c).2.2.2) ∧ ∃ s, ParAt (Since F w w') w' p x s (x.lex.take c).2.1) := by
  obtain ⟨hlt, FL, FM, FP, lb, mb, pileV, vals, hp, hb, hL, hM, hP⟩ := h
  have hcl : w.cell? ⟨p, 2, none⟩ = some (.pointer (some ⟨lb, 0, none⟩)) := by rw [cell_at hb]; rfl
  refine ⟨lb, hcl, (lexFeed_plain FL w lb g off x.lex [] c hL hc hg hst (by simp)).mono ?_⟩
  rintro e w' ⟨hk, hgd, hbd⟩
  have hkF : Keeps F w w' := hk.mono hp.lex
  have hM' := hM.apart hk (fun k h e => hp.lm k e h)
  have hP' := hP.keeps hk (fun k h e => hp.lp k e h)
  have hps := hp.lexSince (w := w) (w' := w') (hlt p hp.self.1) hM.2.1 hP.lt
  refine ⟨hkF, hk.cell hcl hp.self.2.1, fun hn => ?_, fun hn => ?_⟩
  · obtain ⟨rfl, hl⟩ := hgd hn
    exact ⟨rfl, since_lt hlt hkF.size, _, FM, FP, lb, mb, pileV, vals, hps, hk.blk hb hp.self.2.1, hl, hM', hP'⟩
  · obtain ⟨rfl, pl, st, hl⟩ := hbd hn
    exact ⟨rfl, .dead pl st _, since_lt hlt hkF.size, _, FM, FP, lb, mb, pileV, vals, hps, hk.blk hb hp.self.2.1, hl, hM', hP'⟩
/-- How many bytes the token in hand has. -/
theorem par_held (F : Nat → Prop) (w : World) (p : Nat) (x : Ps) (l : Lx) (toks : List Tok) (h : ParAt F w p x (.at_ l false) toks) (hg : l.Good) :
    ∃ lb, w.cell? ⟨p, 2, none⟩ = some (.pointer (some ⟨lb, 0, none⟩)) ∧ Calls Tryz.prog 83 #[.pointer (some ⟨lb, 0, none⟩)] w fun e w' => e = .returned (.int .i64 (l.heldNow : Int)) ∧ Below w.heap.size w w' := by
  obtain ⟨hlt, FL, FM, FP, lb, mb, pileV, vals, hp, hb, hL, hM, hP⟩ := h
  obtain ⟨hF, hlt2, rawV, chV, saysV, tokV, hlb, hw, hs⟩ := hL
  refine ⟨lb, by rw [cell_at hb]; rfl, heldNow_any w lb l.place l.start l.isIn _ _ _ _ _ _ _ _ _ hlb hg.start (Nat.le_trans hg.place (by decide))⟩

end
end Go.Proofs.YtakkmiomhackiaaGreatDoor

/-
  Package parse: take.
-/
namespace Go.Proofs.YtakkmiomhackiaaGreatDoor
open Go.RowKit
set_option maxRecDepth 100000

section
variable (po : List Tr → List (List UInt8) → List Tr)
theorem value_lex {x y : Ps} {at_ : Nat} (h : x.value at_ = .ok y) : y.lex = x.lex ∧ y.place = x.place := by
  unfold Ps.value at h
  repeat' (split at h)
  all_goals first | (cases h; exact ⟨rfl, rfl⟩) | cases h
theorem weigh_lex {x y : Ps} {l : List UInt8} {at_ : Nat} (h : x.weigh l at_ = .ok y) : y.lex = x.lex ∧ y.place = x.place := by
  unfold Ps.weigh at h
  split at h
  · cases h
  · cases h; exact ⟨rfl, rfl⟩
theorem begins_lex {x y : Ps} {c : UInt8} (h : x.begins c = .ok y) : y.lex = x.lex ∧ y.place = x.place := by
  unfold Ps.begins at h
  split at h
  · cases h; exact ⟨rfl, rfl⟩
  · exact value_lex h
theorem put_lex (x : Ps) : x.put.lex = x.lex ∧ x.put.place = x.place := ⟨rfl, rfl⟩
theorem finishOpen_lex (x : Ps) : (x.finishOpen po).lex = x.lex ∧ (x.finishOpen po).place = x.place := by
  unfold Ps.finishOpen
  split <;> exact ⟨rfl, rfl⟩
theorem token_lex {x y : Ps} {t : Tok} (h : x.token po t = .ok y) : y.lex = x.lex ∧ y.place = x.place := by
  cases t with
  | mark a s =>
    simp only [Ps.token] at h
    unfold Ps.mark at h
    split at h
    · cases hv : x.value a with
      | error e => rw [hv] at h; cases h
      | ok z => rw [hv] at h; simp only [Except.map] at h; cases h; have hz := value_lex hv; exact ⟨hz.1, hz.2⟩
    · split at h
      · cases hv : x.value a with
        | error e => rw [hv] at h; cases h
        | ok z => rw [hv] at h; simp only [Except.map] at h; cases h; have hz := value_lex hv; exact ⟨hz.1, hz.2⟩
      · split at h
        · cases h; exact ⟨rfl, rfl⟩
        · split at h
          · cases h; exact ⟨rfl, rfl⟩
          · split at h
            · cases h; exact finishOpen_lex po x
            · cases h
  | term a b c => simp only [Ps.token] at h; cases h; exact ⟨rfl, rfl⟩
  | num a b c => simp only [Ps.token] at h; cases h; exact ⟨rfl, rfl⟩
  | str a b c =>
    simp only [Ps.token] at h
    unfold Ps.text at h
    split at h
    · cases hv : x.weigh c a with
      | error e => rw [hv] at h; cases h
      | ok z => rw [hv] at h; simp only [Except.map] at h; cases h; have hz := weigh_lex hv; exact ⟨hz.1, hz.2⟩
    · split at h
      · cases h
      · cases hv : Ps.weigh { x with pile := x.pile.dropLast ++ [.object (lastKeys x.pile ++ [c])] } c a with
        | error e => rw [hv] at h; cases h
        | ok z => rw [hv] at h; simp only [Except.map] at h; cases h; have hz := weigh_lex (x := { x with pile := x.pile.dropLast ++ [.object (lastKeys x.pile ++ [c])] }) hv; exact ⟨hz.1, hz.2⟩
theorem drain_lex {toks : List Tok} : ∀ {x y : Ps}, x.drain po toks = .ok y → y.lex = x.lex ∧ y.place = x.place := by
  induction toks with
  | nil => intro x y h; cases h; exact ⟨rfl, rfl⟩
  | cons t toks ih =>
    intro x y h
    rw [Ps.drain_cons] at h
    cases hv : x.token po t with
    | error e => rw [hv] at h; cases h
    | ok z =>
      rw [hv] at h
      have h1 := ih h
      have h2 := token_lex po hv
      exact ⟨h1.1.trans h2.1, h1.2.trans h2.2⟩
theorem drain_ok {toks : List Tok} : ∀ {x y : Ps} {n : Nat}, PsOk x n → (∀ t ∈ toks, OkTok t) → x.drain po toks = .ok y → PsOk y (n + toks.length) := by
  induction toks with
  | nil => intro x y n hx _ h; cases h; exact hx
  | cons t toks ih =>
    intro x y n hx ht h
    rw [Ps.drain_cons] at h
    cases hv : x.token po t with
    | error e => rw [hv] at h; cases h
    | ok z =>
      rw [hv] at h
      have := ih (hx.token po (ht t (List.mem_cons_self ..)) hv) (fun t h => ht t (List.mem_cons_of_mem _ h)) h
      rw [List.length_cons]
      exact this.mono (by omega)

/-- What a byte comes to: r, what the lexer said; d, what its tokens did. -/
def takeOut (c : UInt8) (r : Lx × List Tok × Nat × Nat) (d : Out) : Out := match d with
  | .error e => .error e
  | .ok q => if r.2.2.1 ≠ 0 then .error (lexNo r.2.2.1, r.2.2.2) else match (if r.1.heldNow = 1 then q.begins c else .ok q) with
    | .error e => .error e
    | .ok q => .ok { q with place := q.place + 1 }
/-- The place of the byte is counted. -/
theorem par_place {G : Nat → Prop} {w : World} {p : Nat} {x : Ps} {s : LS} {toks : List Tok} (h : ParAt G w p x s toks) : ParAt G (w.setCell ⟨p, 1, none⟩ (.int .i64 ((x.place : Int) + 1))) p { x with place := x.place + 1 } s toks := by
  obtain ⟨hlt, FL, FM, FP, lb, mb, pileV, vals, hp, hb, hL, hM, hP⟩ := h
  have hk : Keeps (fun k => k = p) w (w.setCell ⟨p, 1, none⟩ (.int .i64 ((x.place : Int) + 1))) := (Keeps.refl (fun k => k = p) w).setCell (p := ⟨p, 1, none⟩) (.inl rfl) _
  exact ⟨fun k h => Nat.lt_of_lt_of_le (hlt k h) hk.size, FL, FM, FP, lb, mb, pileV, vals, hp, set_at hb _, hL.apart hk (fun k h e => hp.self.2.1 (e ▸ h)), hM.apart hk (fun k h e => hp.self.2.2.1 (e ▸ h)), hP.keeps hk (fun k h e => hp.self.2.2.2 (e ▸ h))⟩
theorem close_take2 {F : Nat → Prop} {w w3 : World} {p pl : Nat} {q : Ps} {l : Lx} (hlt : ∀ k, F k → k < w.heap.size) (hk3 : Keeps F w w3) (hp : ParAt (Since F w w3) (w3.setCell ⟨p, 1, none⟩ (.int .i64 ((pl : Int) + 1))) p { q with place := pl + 1 } (.at_ l false) []) (hl : q.lex = l) :
    Plainly (.returned (.tuple #[])) ∧ takePost F w p (.ok { q with place := pl + 1 }) (.returned (.tuple #[])) (w3.setCell ⟨p, 1, none⟩ (.int .i64 ((pl : Int) + 1))) := by
  have hk4 : Keeps F w (w3.setCell ⟨p, 1, none⟩ (.int .i64 ((pl : Int) + 1))) := hk3.setCell (p := ⟨p, 1, none⟩) (hp.self.elim .inl (fun h => .inr h.1)) _
  refine ⟨.inl rfl, hk4, rfl, ?_⟩
  show ParAt _ _ p { q with place := pl + 1 } (.at_ q.lex false) []
  rw [hl]
  exact hp.mono (fun k h => h.mono_r (by simp [World.setCell])) (since_lt hlt hk4.size)
theorem close_take {F : Nat → Prop} {w w3 w4 : World} {p pl : Nat} {q : Ps} {l : Lx} (hlt : ∀ k, F k → k < w.heap.size) (hk3 : Keeps F w w3) (hk4 : Keeps (Since F w w3) w3 w4) (hp : ParAt (Since (Since F w w3) w3 w4) (w4.setCell ⟨p, 1, none⟩ (.int .i64 ((pl : Int) + 1))) p { q with place := pl + 1 } (.at_ l false) []) (hl : q.lex = l) :
    Plainly (.returned (.tuple #[])) ∧ takePost F w p (.ok { q with place := pl + 1 }) (.returned (.tuple #[])) (w4.setCell ⟨p, 1, none⟩ (.int .i64 ((pl : Int) + 1))) :=
  close_take2 hlt (hk3.andThen hk4) (hp.mono (fun k h => h.trans hk3.size hk4.size) (fun k h => Nat.lt_of_lt_of_le (since_lt hlt (Nat.le_trans hk3.size hk4.size) k h) (by simp [World.setCell]))) hl
/-- What was drained, given up: the error leaves. -/
theorem chain_dead {F : Nat → Prop} {w w1 w2 : World} (h1 : Keeps F w w1) (h2 : Keeps (Since F w w1) w1 w2) : Keeps F w w2 := h1.andThen h2

set_option maxHeartbeats 8000000 in
theorem par_take (F : Nat → Prop) (w : World) (p : Nat) (x : Ps) (n g off : Nat) (c : UInt8) (h : ParAt F w p x (.at_ x.lex false) []) (hok : ParOk x n) (hn : n + 3 ≤ 1073741824) (hpc : PlainC c) (hc : w.cell? ⟨g, off, none⟩ = some (.int .u8 ((c.toNat : Nat) : Int))) (hgF : ¬ F g) :
    Calls Tryz.prog 56 #[.pointer (some ⟨p, 0, none⟩), .slice (some ⟨g, off, none⟩) 1 1] w fun e w' => Plainly e ∧ takePost F w p (x.take po c) e w' := by
  have hlt := h.lt
  have HLT := Lib.hid hlt
  have HSF := Lib.hid h.self
  have hgl : g < w.heap.size := World.block_lt_of_cell? w _ hc
  obtain ⟨lb, hc2, hfd⟩ := par_feed F w p x g off c h hok.good hok.st hc
  obtain ⟨htk, hch⟩ := take_ok hok.st hok.good hok.chars hpc
  have htl := take_toks x.lex c
  have hgt := good_take hok.good hok.st c hpc.1
  obtain ⟨r, hr⟩ : ∃ r, x.lex.take c = r := ⟨_, rfl⟩
  rw [hr] at hfd htk htl hgt hch
  obtain ⟨d, hd⟩ : ∃ d, Ps.drain po { x with lex := r.1 } r.2.1 = d := ⟨_, rfl⟩
  have htake : x.take po c = takeOut c r d := by rw [← hd, ← hr]; rfl
  have hps : PsOk { x with lex := r.1 } n := ⟨hok.ps.depth, hok.ps.pile, hok.ps.nodes, hok.ps.bytes, hok.ps.items, hok.ps.want, hok.ps.many⟩
  have HDR := Lib.hid (fun (G : Nat → Prop) (w1 : World) (s : LS) (h1 : ParAt G w1 p x s r.2.1) => drain_any po G w1 p { x with lex := r.1 } s r.2.1 n h1 htk hps (by omega) (by omega))
  rw [hd] at HDR
  have HFD := Lib.hid hfd
  have HGF := Lib.hid hgF
  have HGL := Lib.hid hgl
  have hpla : x.place ≤ 16777216 := by rw [hok.place]; exact hok.good.place
  have HC := Lib.hid hc
  by_cases hno : r.2.2.1 = 0
  · cases d with
    | error er =>
      obtain ⟨no, at_⟩ := er
      rw [htake]
      clear htake hps htk hch htl hgt hd hr h hok hlt hgF hgl hfd hc hpla
      go_enter Tryz.func56, Tryz.ntmps56
      go_wp2_with fail
      refine (HFD.out).mono ?_
      rintro e w1 ⟨hk1, hc2a, hgood, hbad⟩
      obtain ⟨rfl, hp1⟩ := hgood hno
      have HDC := Lib.hid (HDR.out _ w1 _ hp1)
      have HK1 := Lib.hid hk1
      clear hgood hbad hp1 hk1 hno
      go_wp2_with fail
      refine (HDC.out).mono ?_
      rintro e w2 ⟨hpl, hk2, he, hdead⟩
      have HK2 := Lib.hid hk2
      have HD := Lib.hid hdead
      clear hpl hk2 hdead
      unfold failE at he
      subst he
      go_wp2_with fail
      exact ⟨rfl, .inr ⟨_, _, rfl⟩, HK1.out.andThen HK2.out, rfl, HD.out⟩
    | ok q =>
      simp only [takeOut] at htake
      rw [if_neg (fun h => h hno)] at htake
      have hql := drain_lex po hd
      have hqo := drain_ok po hps htk hd
      have hgr := hgt hno
      have HQL := Lib.hid hql.1
      have hqp : q.place = x.place := hql.2
      have HQO := Lib.hid hqo
      have HGR := Lib.hid hgr.1
      have HAFT := Lib.hid (fun (G : Nat → Prop) (w2 : World) (h2 : ParAt G w2 p q (.at_ r.1 false) []) => par_held G w2 p q r.1 [] h2 hgr.1)
      by_cases hh : r.1.heldNow = 1
      · rw [if_pos hh] at htake
        have HBG := Lib.hid (fun (G : Nat → Prop) (w3 : World) (h3 : ParAt G w3 p q (.at_ r.1 false) []) => begins_par G w3 p q (.at_ r.1 false) [] c h3 hqo.nodes (by have := hqo.want; omega))
        rw [hh] at HAFT
        cases hbg : q.begins c with
        | error er =>
          obtain ⟨no, at_⟩ := er
          rw [hbg] at htake HBG
          rw [htake]
          clear htake hps htk hch htl hgt hd hr h hok hlt hgF hgl hfd hc hql hqo hgr hh hbg hpla
          go_enter Tryz.func56, Tryz.ntmps56
          go_wp2_with fail
          refine (HFD.out).mono ?_
          rintro e w1 ⟨hk1, hc2a, hgood, hbad⟩
          obtain ⟨rfl, hp1⟩ := hgood hno
          have HDC := Lib.hid (HDR.out _ w1 _ hp1)
          have HK1 := Lib.hid hk1
          clear hgood hbad hp1 hk1 hno
          go_wp2_with fail
          refine (HDC.out).mono ?_
          rintro e w2 ⟨hpl, hk2, he, hp2⟩
          subst he
          have hk12 := HK1.out.andThen hk2
          obtain ⟨lb2, hc2b, hheld⟩ := HAFT.out _ w2 hp2
          have HHE := Lib.hid hheld
          have HP2 := Lib.hid hp2
          have HK12 := Lib.hid hk12
          have HSZ := Lib.hid (And.intro HK1.out.size hk2.size)
          clear hpl hk2 hp2 hk12 hheld hc2a
          go_wp2_with fail
          refine (lexed_nil _).mono ?_
          rintro e w2x ⟨rfl, rfl⟩
          go_wp2_with fail
          refine (HHE.out).mono ?_
          rintro e w3 ⟨rfl, hb3⟩
          have hk3 : Keeps F w w3 := HK12.out.below hb3
          have hp3 : ParAt (Since F w w3) w3 p q (.at_ r.1 false) [] := (HP2.out.apart (Keeps.of_below (fun _ => False) hb3) (fun _ _ => id)).mono (fun k h => (h.trans HSZ.out.1 HSZ.out.2).mono_r hb3.size) (since_lt HLT.out hk3.size)
          have HK3 := Lib.hid hk3
          have hcg : w3.cell? ⟨g, off, none⟩ = some (.int .u8 ((c.toNat : Nat) : Int)) := hk3.cell HC.out HGF.out
          have HBC := Lib.hid (HBG.out _ w3 hp3)
          clear hb3 hk3 hp3 hc2b
          go_wp2_with fail
          refine (HBC.out).mono ?_
          rintro e w4 ⟨hpl4, hk4, he4, hdead4⟩
          have HK4 := Lib.hid hk4
          have HD4 := Lib.hid hdead4
          clear hpl4 hk4 hdead4
          unfold failE at he4
          subst he4
          go_wp2_with fail
          exact ⟨rfl, .inr ⟨_, _, rfl⟩, HK3.out.andThen HK4.out, rfl, HD4.out⟩
        | ok q2 =>
          rw [hbg] at htake HBG
          rw [htake]
          have hq2 := begins_lex hbg
          have HQ2 := Lib.hid (hq2.1.trans hql.1)
          have hq2p : q2.place = x.place := hq2.2.trans hqp
          clear htake hps htk hch htl hgt hd hr h hok hlt hgF hgl hfd hc hql hqo hgr hh hbg hq2
          go_enter Tryz.func56, Tryz.ntmps56
          go_wp2_with fail
          refine (HFD.out).mono ?_
          rintro e w1 ⟨hk1, hc2a, hgood, hbad⟩
          obtain ⟨rfl, hp1⟩ := hgood hno
          have HDC := Lib.hid (HDR.out _ w1 _ hp1)
          have HK1 := Lib.hid hk1
          clear hgood hbad hp1 hk1 hno
          go_wp2_with fail
          refine (HDC.out).mono ?_
          rintro e w2 ⟨hpl, hk2, he, hp2⟩
          subst he
          have hk12 := HK1.out.andThen hk2
          obtain ⟨lb2, hc2b, hheld⟩ := HAFT.out _ w2 hp2
          have HHE := Lib.hid hheld
          have HP2 := Lib.hid hp2
          have HK12 := Lib.hid hk12
          have HSZ := Lib.hid (And.intro HK1.out.size hk2.size)
          clear hpl hk2 hp2 hk12 hheld hc2a
          go_wp2_with fail
          refine (lexed_nil _).mono ?_
          rintro e w2x ⟨rfl, rfl⟩
          go_wp2_with fail
          refine (HHE.out).mono ?_
          rintro e w3 ⟨rfl, hb3⟩
          have hk3 : Keeps F w w3 := HK12.out.below hb3
          have hp3 : ParAt (Since F w w3) w3 p q (.at_ r.1 false) [] := (HP2.out.apart (Keeps.of_below (fun _ => False) hb3) (fun _ _ => id)).mono (fun k h => (h.trans HSZ.out.1 HSZ.out.2).mono_r hb3.size) (since_lt HLT.out hk3.size)
          have HK3 := Lib.hid hk3
          have hcg : w3.cell? ⟨g, off, none⟩ = some (.int .u8 ((c.toNat : Nat) : Int)) := hk3.cell HC.out HGF.out
          have HBC := Lib.hid (HBG.out _ w3 hp3)
          clear hb3 hk3 hp3 hc2b
          go_wp2_with fail
          refine (HBC.out).mono ?_
          rintro e w4 ⟨hpl4, hk4, he4, hpar4⟩
          subst he4
          have HK4 := Lib.hid hk4
          have HP4 := Lib.hid hpar4
          obtain ⟨hlt4, FL, FM, FP, lb4, mb4, pileV4, vals4, hp4, hb4, hL4, hM4, hP4⟩ := hpar4
          obtain ⟨d0, d1, d2, d3, d4, d5, d6, d7, d8, d9, df⟩ := cells10 hb4
          have HPC := Lib.hid (par_place (HP4.out))
          rw [hq2p] at d1 HPC
          clear hpl4 hk4 hlt4 hp4 hb4 hL4 hM4 hP4
          go_wp2_with fail
          go_end0
          rw [hq2p]
          exact close_take HLT.out HK3.out HK4.out HPC.out HQ2.out
      · rw [if_neg hh] at htake
        rw [htake]
        obtain ⟨hv, hvn⟩ : ∃ hv, r.1.heldNow = hv := ⟨_, rfl⟩
        rw [hvn] at HAFT hh
        have hne1 : ((hv : Int) == 1) = false := by simp; omega
        clear htake hps htk hch htl hgt hd hr h hok hlt hgF hgl hfd hc hql hqo hgr hh hvn
        go_enter Tryz.func56, Tryz.ntmps56
        go_wp2_with fail
        refine (HFD.out).mono ?_
        rintro e w1 ⟨hk1, hc2a, hgood, hbad⟩
        obtain ⟨rfl, hp1⟩ := hgood hno
        have HDC := Lib.hid (HDR.out _ w1 _ hp1)
        have HK1 := Lib.hid hk1
        clear hgood hbad hp1 hk1 hno
        go_wp2_with fail
        refine (HDC.out).mono ?_
        rintro e w2 ⟨hpl, hk2, he, hp2⟩
        subst he
        have hk12 := HK1.out.andThen hk2
        obtain ⟨lb2, hc2b, hheld⟩ := HAFT.out _ w2 hp2
        have HHE := Lib.hid hheld
        have HP2 := Lib.hid hp2
        have HK12 := Lib.hid hk12
        have HSZ := Lib.hid (And.intro HK1.out.size hk2.size)
        clear hpl hk2 hp2 hk12 hheld hc2a
        go_wp2_with fail
        refine (lexed_nil _).mono ?_
        rintro e w2x ⟨rfl, rfl⟩
        go_wp2_with fail
        refine (HHE.out).mono ?_
        rintro e w3 ⟨rfl, hb3⟩
        have hk3 : Keeps F w w3 := HK12.out.below hb3
        have hp3 : ParAt (Since F w w3) w3 p q (.at_ r.1 false) [] := (HP2.out.apart (Keeps.of_below (fun _ => False) hb3) (fun _ _ => id)).mono (fun k h => (h.trans HSZ.out.1 HSZ.out.2).mono_r hb3.size) (since_lt HLT.out hk3.size)
        have HK3 := Lib.hid hk3
        clear hb3 hk3 hc2b
        have HP3 := Lib.hid hp3
        obtain ⟨hlt4, FL, FM, FP, lb4, mb4, pileV4, vals4, hp4, hb4, hL4, hM4, hP4⟩ := hp3
        obtain ⟨d0, d1, d2, d3, d4, d5, d6, d7, d8, d9, df⟩ := cells10 hb4
        have HPC := Lib.hid (par_place (HP3.out))
        rw [hqp] at d1 HPC
        clear hlt4 hp4 hb4 hL4 hM4 hP4
        go_wp2_with fail
        go_end0
        rw [hqp]
        exact close_take2 HLT.out HK3.out HPC.out HQL.out
  · cases d with
    | error er =>
      obtain ⟨no, at_⟩ := er
      rw [htake]
      clear htake hps htk hch htl hgt hd hr h hok hlt hgF hgl hfd hc hpla
      go_enter Tryz.func56, Tryz.ntmps56
      go_wp2_with fail
      refine (HFD.out).mono ?_
      rintro e w1 ⟨hk1, hc2a, hgood, hbad⟩
      obtain ⟨rfl, s, hp1⟩ := hbad hno
      have HDC := Lib.hid (HDR.out _ w1 _ hp1)
      have HK1 := Lib.hid hk1
      clear hgood hbad hp1 hk1 hno
      go_wp2_with fail
      refine (HDC.out).mono ?_
      rintro e w2 ⟨hpl, hk2, he, hdead⟩
      have HK2 := Lib.hid hk2
      have HD := Lib.hid hdead
      clear hpl hk2 hdead
      unfold failE at he
      subst he
      go_wp2_with fail
      exact ⟨rfl, .inr ⟨_, _, rfl⟩, HK1.out.andThen HK2.out, rfl, HD.out⟩
    | ok q =>
      simp only [takeOut] at htake
      rw [if_pos hno] at htake
      rw [htake]
      clear htake hps htk hch htl hgt hd hr h hok hlt hgF hgl hfd hc hpla
      go_enter Tryz.func56, Tryz.ntmps56
      go_wp2_with fail
      refine (HFD.out).mono ?_
      rintro e w1 ⟨hk1, hc2a, hgood, hbad⟩
      obtain ⟨rfl, s, hp1⟩ := hbad hno
      have HDC := Lib.hid (HDR.out _ w1 _ hp1)
      have HK1 := Lib.hid hk1
      have HLX := Lib.hid (fun w => lexed_spot w r.2.2.1 r.2.2.2)
      clear hgood hbad hp1 hk1 hno
      go_wp2_with fail
      refine (HDC.out).mono ?_
      rintro e w2 ⟨hpl, hk2, he, hpar⟩
      subst he
      have HK2 := Lib.hid hk2
      have HD := Lib.hid hpar.dead
      clear hpl hk2 hpar
      go_wp2_with fail
      refine (HLX.out _).mono ?_
      rintro e w3 ⟨he, hb3⟩
      have HB3 := Lib.hid hb3
      clear hb3
      unfold failE at he
      subst he
      go_wp2_with fail
      exact ⟨rfl, .inr ⟨_, _, rfl⟩, (HK1.out.andThen HK2.out).below HB3.out, rfl, HD.out.keeps (Keeps.of_below (fun _ => False) HB3.out) id⟩
theorem parOk_take {x y : Ps} {n : Nat} {c : UInt8} (hok : ParOk x n) (hpc : PlainC c) (h : x.take po c = .ok y) : ParOk y (n + 2) := by
  obtain ⟨htk, hch⟩ := take_ok hok.st hok.good hok.chars hpc
  have htl := take_toks x.lex c
  have hgt := good_take hok.good hok.st c hpc.1
  have hpl : (x.lex.take c).2.2.1 = 0 → (x.lex.take c).1.place = x.lex.place + 1 := by
    unfold Lx.take
    split
    · intro h; cases h
    · simp only []
      split
      · intro _; rfl
      · intro h; exact absurd h ‹_›
  have htake : x.take po c = takeOut c (x.lex.take c) (Ps.drain po { x with lex := (x.lex.take c).1 } (x.lex.take c).2.1) := rfl
  obtain ⟨r, hr⟩ : ∃ r, x.lex.take c = r := ⟨_, rfl⟩
  rw [hr] at htk htl hgt hch hpl htake
  have hps : PsOk { x with lex := r.1 } n := ⟨hok.ps.depth, hok.ps.pile, hok.ps.nodes, hok.ps.bytes, hok.ps.items, hok.ps.want, hok.ps.many⟩
  rw [htake] at h
  cases hd : Ps.drain po { x with lex := r.1 } r.2.1 with
  | error e => rw [hd] at h; cases h
  | ok q =>
    rw [hd] at h
    simp only [takeOut] at h
    by_cases hno : r.2.2.1 = 0
    · rw [if_neg (fun h => h hno)] at h
      have hq := drain_ok po hps htk hd
      have hql := drain_lex po hd
      have hgr := hgt hno
      have fin : ∀ z : Ps, PsOk z (n + r.2.1.length) → z.lex = r.1 → z.place = x.place → ParOk { z with place := z.place + 1 } (n + 2) := fun z hz hl hp =>
        ⟨⟨hz.depth, hz.pile, hz.nodes, hz.bytes, hz.items, hz.want, fun m hm => Nat.le_trans (hz.many m hm) (by omega)⟩, by show z.lex.Good; rw [hl]; exact hgr.1, by show PlainSt z.lex.st; rw [hl]; exact hgr.2, by show CharsOk z.lex; rw [hl]; exact hch, by show z.place + 1 = z.lex.place; rw [hl, hpl hno, hp, hok.place]⟩
      by_cases hh : r.1.heldNow = 1
      · rw [if_pos hh] at h
        cases hb : q.begins c with
        | error e => rw [hb] at h; cases h
        | ok z =>
          rw [hb] at h
          simp only [Except.ok.injEq] at h
          subst h
          have hz : PsOk z (n + r.2.1.length) := by
            unfold Ps.begins at hb
            split at hb
            · cases hb; exact hq
            · exact (hq.value hb).1
          have hl := begins_lex hb
          exact fin z hz (hl.1.trans hql.1) (hl.2.trans hql.2)
      · rw [if_neg hh] at h
        simp only [Except.ok.injEq] at h
        subst h
        exact fin q hq hql.1 hql.2
    · rw [if_pos hno] at h; cases h
end
end Go.Proofs.YtakkmiomhackiaaGreatDoor

/-
  What package parse computes of a number and blanks behind it, and of the works' three records: plain, no program in sight.
-/
namespace Go.Proofs.YtakkmiomhackiaaGreatDoor

section
variable (po : List Tr → List (List UInt8) → List Tr)
/-- Outside of tokens, behind the document's value: blanks are counted alone. -/
theorem take_blank (p : Ps) (hst : p.lex.st = .outside) (hin : p.lex.isIn = false) (hp : p.lex.place < 16777216) (c : UInt8) (hc : isBlank c = true) :
    p.take po c = .ok { p with lex := { p.lex with place := p.lex.place + 1 }, place := p.place + 1 } := by
  have hstep : p.lex.step c = ⟨p.lex, [], 0⟩ := by unfold Lx.step; rw [hst]; simp [outsideStep, hc]
  have hne : ¬ p.lex.place = 16777216 := by omega
  simp [Ps.take, Lx.take, hne, hstep, Ps.drain, Lx.heldNow, hin, pure, Except.pure]
theorem feed_blanks (l : List UInt8) (hl : ∀ c ∈ l, isBlank c = true) : ∀ (p : Ps), p.lex.st = .outside → p.lex.isIn = false → p.lex.place + l.length ≤ 16777216 →
    p.feed po l = .ok { p with lex := { p.lex with place := p.lex.place + l.length }, place := p.place + l.length } := by
  induction l with
  | nil => intro p _ _ _; rfl
  | cons c l ih =>
    intro p h1 h2 h3
    simp only [List.length_cons] at h3
    unfold Ps.feed
    rw [List.foldlM_cons, take_blank po p h1 h2 (by omega) c (hl c (by simp))]
    show Ps.feed po _ l = _
    rw [ih (fun c hc => hl c (List.mem_cons_of_mem _ hc)) { p with lex := { p.lex with place := p.lex.place + 1 }, place := p.place + 1 } h1 h2 (by simp; omega)]
    simp [Nat.add_assoc, Nat.add_comm 1]

theorem feed_append (p : Ps) (a b : List UInt8) : p.feed po (a ++ b) = (p.feed po a).bind fun q => q.feed po b := by
  unfold Ps.feed
  rw [List.foldlM_append]
  rfl
/-- The tree of a document, or what is wrong. -/
def readOut (l : List UInt8) (depth : Nat) : Except (Nat × Nat) (List Tr) := (Ps.read po l depth).map fun p => p.items
theorem feed_seven (d : Nat) (hd : 1 ≤ d) : (Ps.new d).feed po [55, 32] = .ok ⟨d, 2, { Lx.new with place := 2, number := 3, raw := [55] }, [.num 4619567317775286272], [], 6, 1, 0⟩ := by
  have hb : bitsOf [55] = some 4619567317775286272 := by decide
  have h0 : ¬ 0 = d := by omega
  simp [Ps.feed, Ps.take, Ps.new, Lx.new, Lx.take, Lx.step, outsideStep, isBlank, isMark, isD, numFirst, numNext, Ps.drain, Lx.heldNow, Ps.begins, Ps.value, h0, pure, Except.pure, bind, Except.bind,
    numeralStep, numEnds, Lx.finish, hb, Lx.told, Ps.token, Ps.put, putNum, putScalar, putItem, zeroed, Tr.sized, Sz.within, more]
theorem feed_sevenEnd (d : Nat) (hd : 1 ≤ d) : (Ps.new d).feed po [55, 10] = .ok ⟨d, 2, { Lx.new with place := 2, number := 3, raw := [55] }, [.num 4619567317775286272], [], 6, 1, 0⟩ := by
  have hb : bitsOf [55] = some 4619567317775286272 := by decide
  have h0 : ¬ 0 = d := by omega
  simp [Ps.feed, Ps.take, Ps.new, Lx.new, Lx.take, Lx.step, outsideStep, isBlank, isMark, isD, numFirst, numNext, Ps.drain, Lx.heldNow, Ps.begins, Ps.value, h0, pure, Except.pure, bind, Except.bind,
    numeralStep, numEnds, Lx.finish, hb, Lx.told, Ps.token, Ps.put, putNum, putScalar, putItem, zeroed, Tr.sized, Sz.within, more]
theorem read_sevens (l : List UInt8) (hl : ∀ c ∈ l, isBlank c = true) (c : UInt8) (hc : c = 32 ∨ c = 10) (d : Nat) (hd : 1 ≤ d) (h : l.length + 2 ≤ 16777216) : readOut po (55 :: c :: l) d = .ok [.num 4619567317775286272] := by
  have h1 : (Ps.new d).feed po [55, c] = .ok ⟨d, 2, { Lx.new with place := 2, number := 3, raw := [55] }, [.num 4619567317775286272], [], 6, 1, 0⟩ := by
    rcases hc with rfl | rfl
    · exact feed_seven po d hd
    · exact feed_sevenEnd po d hd
  unfold readOut Ps.read
  rw [show 55 :: c :: l = [55, c] ++ l from rfl, feed_append, h1]
  show Except.map _ (match Ps.feed po _ l with | .error e => .error e | .ok p => p.finish po) = _
  rw [feed_blanks po l hl _ rfl rfl (by simp; omega)]
  simp [Ps.finish, Lx.ended, Lx.new, Ps.drain, pure, Except.pure, Except.map]
theorem read_one (d : Nat) (hd : 1 ≤ d) : readOut po [49, 10] d = .ok [.num 4607182418800017408] := by
  have hb : bitsOf [49] = some 4607182418800017408 := by decide
  have h0 : ¬ 0 = d := by omega
  simp [readOut, Ps.read, Ps.feed, Ps.take, Ps.new, Lx.new, Lx.take, Lx.step, outsideStep, isBlank, isMark, isD, numFirst, numNext, Ps.drain, Lx.heldNow, Ps.begins, Ps.value, h0, pure, Except.pure, bind, Except.bind,
    numeralStep, numEnds, Lx.finish, hb, Lx.told, Ps.token, Ps.put, putNum, putScalar, putItem, zeroed, Tr.sized, Sz.within, more, Ps.finish, Lx.ended, Except.map]
theorem read_open (d : Nat) (hd : 1 ≤ d) : readOut po [91, 10] d = .error (95, 2) := by
  have h0 : ¬ 0 = d := by omega
  simp [readOut, Ps.read, Ps.feed, Ps.take, Ps.new, Lx.new, Lx.take, Lx.step, outsideStep, isBlank, isMark, Ps.drain, Lx.heldNow, Ps.value, h0, pure, Except.pure, bind, Except.bind,
    Lx.told, Ps.token, Ps.mark, Ps.finish, Lx.ended, Except.map]
theorem read_text (d : Nat) (hd : 1 ≤ d) : readOut po [34, 97, 34, 10] d = .ok [.text [97]] := by
  have h0 : ¬ 0 = d := by omega
  have hf : feedOne [] 97 = some [] := by decide
  have hr : rightOf [97] = true := by decide
  simp [readOut, Ps.read, Ps.feed, Ps.take, Ps.new, Lx.new, Lx.take, Lx.step, outsideStep, withinStep, hf, hr, isBlank, isMark, Ps.drain, Lx.heldNow, Ps.begins, Ps.value, h0, pure, Except.pure, bind, Except.bind,
    Lx.told, Ps.token, Ps.text, Ps.weigh, Ps.put, putText, putScalar, putItem, Tr.sized, Sz.within, more, Ps.finish, Lx.ended, Except.map]
end
end Go.Proofs.YtakkmiomhackiaaGreatDoor

/-
  Package parse: Feed's loop.
-/
namespace Go.Proofs.YtakkmiomhackiaaGreatDoor
open Go.RowKit
set_option maxRecDepth 100000

section
variable (po : List Tr → List (List UInt8) → List Tr)
theorem feed_take {x : Ps} {l : List UInt8} {k : Nat} (h : k < l.length) : x.feed po (l.take (k + 1)) = (x.feed po (l.take k)).bind fun y => y.take po l[k] := by
  unfold Ps.feed
  rw [List.take_succ_eq_append_getElem h, List.foldlM_append]
  cases List.foldlM (fun p c => Ps.take po p c) x (l.take k) with
  | error e => rfl
  | ok y =>
    show List.foldlM _ y [l[k]] = y.take po l[k]
    simp only [List.foldlM_cons, List.foldlM_nil]
    cases y.take po l[k] <;> rfl
theorem feed_dead {x : Ps} {l : List UInt8} {k : Nat} {e : Nat × Nat} (h : x.feed po (l.take k) = .error e) : x.feed po l = .error e := by
  rw [← List.take_append_drop k l, feed_append, h]
  rfl
/-- Bytes in memory, apart from F. -/
def BytesIn (F : Nat → Prop) (w : World) (v : Value) (l : List UInt8) : Prop := ∃ a cap, v = .slice a l.length cap ∧ l.length ≤ cap ∧ cap ≤ maxLen ∧ (l = [] ∨ ∃ g off, a = some ⟨g, off, none⟩ ∧ ¬ F g ∧ ∀ i x, l[i]? = some x → w.cell? ⟨g, off + i, none⟩ = some (.int .u8 ((x.toNat : Nat) : Int)))

/-- Between two bytes. -/
def FeedInv (F : Nat → Prop) (w : World) (p : Nat) (x : Ps) (l : List UInt8) (k : Nat) (wr : World) : Prop := Keeps F w wr ∧ ∃ y, x.feed po (l.take k) = .ok y ∧ ParAt (Since F w wr) wr p y (.at_ y.lex false) [] ∧ ParOk y (2 * k)

theorem Keeps.undrew {F : Nat → Prop} {w w2 : World} (h : Keeps F w.drew w2) : Keeps F w w2 := ⟨h.os, h.tape, h.output, h.size, h.block⟩
set_option maxHeartbeats 8000000 in
theorem feedLoop_any (F : Nat → Prop) (w : World) (p B1 B2 : Nat) (x : Ps) (l : List UInt8) (v : Value) (h : ParAt F w p x (.at_ x.lex false) []) (hok : ParOk x 0) (hv : BytesIn F w v l) (hl : l.length ≤ 134217728) (hpc : ∀ c ∈ l, PlainC c)
    (h1 : w.heap[B1]? = some (.cells #[v] 22 (0, 0))) (h2 : w.heap[B2]? = some (.cells #[.pointer (some ⟨p, 0, none⟩)] 43 (0, 0))) (hB1 : ¬ F B1) (hB2 : ¬ F B2) :
    Calls Tryz.prog 55 #[.pointer (some ⟨B1, 0, none⟩), .pointer (some ⟨B2, 0, none⟩)] w fun e w' => Plainly e ∧ takePost F w p (x.feed po l) e w' := by
  have HLT := Lib.hid h.lt
  obtain ⟨out, hout⟩ : ∃ out, x.feed po l = out := ⟨_, rfl⟩
  rw [hout]
  have HOUT := Lib.hid hout
  clear hout
  have hc1 := cell_of_one h1
  have hl1 := lt_of_block h1
  have hl2 := lt_of_block h2
  have HB := Lib.hid (fun (wr : World) (hk : Keeps F w wr) => And.intro (cell_of_one (hk.blk h1 hB1)) (cell_of_one (hk.blk h2 hB2)))
  have HINV := Lib.hid (show FeedInv po F w p x l 0 w from ⟨Keeps.refl _ _, x, rfl, h.mono (fun k h => .inl h) (since_lt h.lt (Nat.le_refl _)), hok⟩)
  obtain ⟨a, cap, rfl, hcap, hcm, hcells⟩ := hv
  have HCELLS := Lib.hid hcells
  have HPC := Lib.hid hpc
  have hcm2 : cap ≤ 9223372036854775807 := by unfold maxLen at hcm; omega
  clear h hok h1 h2 hB1 hB2 hcells hpc hcm
  go_enter Tryz.func55, Tryz.ntmps55
  go_wp2_with fail
  go_loopw [5] (fun i wr => ∃ k : Nat, k ≤ l.length ∧ i = .int .i64 k ∧ Hid (FeedInv po F w p x l k wr)) (fun i _ => l.length - (intOf i).toNat)
  case atStart => exact ⟨0, by omega, rfl, HINV⟩
  case round =>
    obtain ⟨k, hk, rfl, hinv⟩ := hrel
    obtain ⟨hkr, y, hy, hpar, hyo⟩ := hinv.out
    clear hinv HINV
    have HKR := Lib.hid hkr
    have HY := Lib.hid hy
    have HPAR := Lib.hid hpar
    have HYO := Lib.hid hyo
    obtain ⟨c1, c2⟩ := HB.out wr hkr
    by_cases hkl : k < l.length
    · obtain ⟨g, off, rfl, hgF, hcell⟩ := HCELLS.out.resolve_left (fun e => by subst e; simp at hkl)
      have hck := hcell k l[k] (List.getElem?_eq_getElem hkl)
      have hgl : g < w.heap.size := World.block_lt_of_cell? w _ hck
      have hgS : ¬ Since F w wr g := fun h => h.elim hgF (fun h => absurd hgl (Nat.not_lt.2 h.1))
      have hcr : wr.cell? ⟨g, off + k, none⟩ = some (.int .u8 ((l[k].toNat : Nat) : Int)) := hkr.cell hck hgF
      have htk := par_take po (Since F w wr) wr.drew p y (2 * k) g (off + k) l[k] (hpar.apart ((Keeps.refl (fun _ => False) wr).drew) (fun _ _ => id)) hyo (by omega) (HPC.out _ (List.getElem_mem hkl)) hcr hgS
      have hft := feed_take po (x := x) hkl
      rw [hy] at hft
      have hft : x.feed po (l.take (k + 1)) = y.take po l[k] := hft
      have HFT := Lib.hid hft
      have hyo2 := fun z (h : y.take po l[k] = .ok z) => parOk_take po hyo (HPC.out _ (List.getElem_mem hkl)) h
      have HYO2 := Lib.hid hyo2
      obtain ⟨o, ho⟩ : ∃ o, y.take po l[k] = o := ⟨_, rfl⟩
      rw [ho] at htk
      have HO := Lib.hid ho
      have HTK := Lib.hid htk
      clear hkr hy hpar hyo hck hgF hcell hgS hcr htk hft hyo2 ho hc1
      go_wp2_with fail
      have hi1 : IntKind.i64.wrap ((k : Int) + 1) = (k : Int) + 1 := by rw [IntKind.wrap_i64]; omega
      have hb1 : (0 : Int) ≤ (k : Int) + 1 := by omega
      have hb2 : (k : Int) + 1 ≤ (cap : Int) := by omega
      cases o with
      | error er =>
        obtain ⟨no, at_⟩ := er
        obtain rfl : out = .error (no, at_) := HOUT.out.symm.trans (feed_dead po (HFT.out.trans HO.out))
        go_still_tail 8, (by kernel_rfl)
        trace_state
        go_wp2_with fail
        refine (HTK.out).mono ?_
        rintro e w2 ⟨hpl2, hk2, he2, hdead2⟩
        clear hpl2
        have HK2 := Lib.hid hk2.undrew
        have HD2 := Lib.hid hdead2
        clear hk2 hdead2
        unfold failE at he2
        subst he2
        go_wp2_with fail
        exact ⟨rfl, .inr ⟨_, _, rfl⟩, HKR.out.andThen HK2.out, rfl, HD2.out⟩
      | ok z =>
        go_region_with (go_at_call 56; refine (HTK.out).mono ?_; rintro e w2 ⟨hpl2, hk2, he2, hpar2⟩; clear hpl2; have HK2 := Lib.hid hk2.undrew; have HP2 := Lib.hid hpar2; clear hk2 hpar2; subst he2)
        all_goals
          go_wp2_with fail
          go_roundw
          case rel => exact ⟨k + 1, by omega, by go_num, Lib.hid ⟨HKR.out.andThen HK2.out, z, HFT.out.trans HO.out, HP2.out.mono (fun k h => h.trans HKR.out.size HK2.out.size) (since_lt HLT.out (HKR.out.andThen HK2.out).size), HYO2.out z HO.out⟩⟩
          case measure => simp [intOf]; omega
    · have hke : k = l.length := by omega
      subst hke
      have hy2 := HY.out
      rw [List.take_length] at hy2
      have HY2 := Lib.hid hy2
      clear hkr hy hpar hyo hy2 hc1
      go_wp2_with fail
      go_end0
      obtain rfl : out = .ok y := HOUT.out.symm.trans HY2.out
      exact ⟨.inl rfl, HKR.out, rfl, HPAR.out⟩
end
end Go.Proofs.YtakkmiomhackiaaGreatDoor

/-
  Package parse: caught.
-/
namespace Go.Proofs.YtakkmiomhackiaaGreatDoor
open Go.RowKit
set_option maxRecDepth 100000

/-- What is caught: nothing, or what was given up. -/
def CaughtPost (w : World) (Q : Ending → World → Prop) (e : Ending) (w' : World) : Prop :=
  ∃ w1, (Q (.returned (.tuple #[])) w1 ∧ e = .returned .nilIface ∧ w' = w1.setCell ⟨w.heap.size, 0, none⟩ .nilIface) ∨ (∃ no at_, Q (failE no at_) w1 ∧ e = .returned (spotV no at_) ∧ w' = w1.setCell ⟨w.heap.size, 0, none⟩ (spotV no at_))

set_option maxHeartbeats 4000000 in
theorem caught_feed (w : World) (B1 B2 : Nat) (Q : Ending → World → Prop) (hcall : Calls Tryz.prog 55 #[.pointer (some ⟨B1, 0, none⟩), .pointer (some ⟨B2, 0, none⟩)] (w.alloc (.cells #[.nilIface] 26)) fun e w' => Plainly e ∧ Q e w') (hR : ∀ e w', Q e w' → w'.heap[w.heap.size]? = some (.cells #[.nilIface] 26 (0, 0))) :
    Calls Tryz.prog 52 #[.func (.func 55) #[] #[.pointer (some ⟨B1, 0, none⟩), .pointer (some ⟨B2, 0, none⟩)]] w (CaughtPost w Q) := by
  have hmf : ∀ (fn : Fn) (first cap : Array Value) (w : World), (Instr.makeFunc fn first cap).run Tryz.prog w = .ok (.func fn first cap) w := fun _ _ _ _ => rfl
  have HC := Lib.hid hcall
  have HR := Lib.hid hR
  clear hcall hR
  go_enter_defers Tryz.func52, Tryz.ntmps52
  go_wp2_with fail
  refine (HC.out).mono ?_
  rintro e w1 ⟨rfl | ⟨no, at_, he⟩, hq⟩
  · have hr := HR.out _ _ hq
    have hc0 := cell_of_one hr
    have hf0 := free_of_one hr
    have hcs : (w1.setCell ⟨w.heap.size, 0, none⟩ .nilIface).cell? ⟨w.heap.size, 0, none⟩ = some .nilIface := by rw [cell_at (set_at hr _)]; rfl
    have HQ := Lib.hid hq
    clear hq hr
    go_wp2_with fail
    refine leaves_cons (f := 77) (args := #[.pointer (some ⟨w.heap.size, 0, none⟩)]) (by simp) (by simp [go_sem]) ?_
    refine (catch_idle ⟨w.heap.size, 0, none⟩ _).mono ?_
    rintro e u' w'' ⟨rfl, rfl, rfl⟩
    have hend : CaughtPost w Q (.returned .nilIface) (w1.setCell ⟨w.heap.size, 0, none⟩ .nilIface) := ⟨w1, .inl ⟨HQ.out, rfl, rfl⟩⟩
    simp [Leaves, settle, results, Tryz.results52, go_sem, hcs]
    exact hend
  · have hr := HR.out _ _ hq
    have hc0 := cell_of_one hr
    have hf0 := free_of_one hr
    have hcs : (w1.setCell ⟨w.heap.size, 0, none⟩ (.iface 151 (.agg #[.int .i64 no, .int .i64 at_]))).cell? ⟨w.heap.size, 0, none⟩ = some (.iface 151 (.agg #[.int .i64 no, .int .i64 at_])) := by rw [cell_at (set_at hr _)]; rfl
    have HQ := Lib.hid hq
    have HE := Lib.hid he
    clear hq hr
    unfold failE spotV at he
    subst he
    go_wp2_with fail
    refine leaves_cons (f := 77) (args := #[.pointer (some ⟨w.heap.size, 0, none⟩)]) (by simp) (by simp [go_sem]) ?_
    refine (catch_spot ⟨w.heap.size, 0, none⟩ .nilIface no at_ [] _ hc0 hf0).mono ?_
    rintro e u' w'' ⟨rfl, rfl, rfl⟩
    have hend : CaughtPost w Q (.returned (spotV no at_)) (w1.setCell ⟨w.heap.size, 0, none⟩ (spotV no at_)) := ⟨w1, .inr ⟨no, at_, HQ.out, rfl, rfl⟩⟩
    simp [Leaves, settle, results, Tryz.results52, go_sem, hcs]
    exact hend

set_option maxHeartbeats 4000000 in
theorem caught_finish (w : World) (p : Nat) (Q : Ending → World → Prop) (hcall : Calls Tryz.prog 53 #[.pointer (some ⟨p, 0, none⟩)] (w.alloc (.cells #[.nilIface] 26)) fun e w' => Plainly e ∧ Q e w') (hR : ∀ e w', Q e w' → w'.heap[w.heap.size]? = some (.cells #[.nilIface] 26 (0, 0))) :
    Calls Tryz.prog 52 #[.func (.func 53) #[.pointer (some ⟨p, 0, none⟩)] #[]] w (CaughtPost w Q) := by
  have hmf : ∀ (fn : Fn) (first cap : Array Value) (w : World), (Instr.makeFunc fn first cap).run Tryz.prog w = .ok (.func fn first cap) w := fun _ _ _ _ => rfl
  have HC := Lib.hid hcall
  have HR := Lib.hid hR
  clear hcall hR
  go_enter_defers Tryz.func52, Tryz.ntmps52
  go_wp2_with fail
  refine (HC.out).mono ?_
  rintro e w1 ⟨rfl | ⟨no, at_, he⟩, hq⟩
  · have hr := HR.out _ _ hq
    have hc0 := cell_of_one hr
    have hf0 := free_of_one hr
    have hcs : (w1.setCell ⟨w.heap.size, 0, none⟩ .nilIface).cell? ⟨w.heap.size, 0, none⟩ = some .nilIface := by rw [cell_at (set_at hr _)]; rfl
    have HQ := Lib.hid hq
    clear hq hr
    go_wp2_with fail
    refine leaves_cons (f := 77) (args := #[.pointer (some ⟨w.heap.size, 0, none⟩)]) (by simp) (by simp [go_sem]) ?_
    refine (catch_idle ⟨w.heap.size, 0, none⟩ _).mono ?_
    rintro e u' w'' ⟨rfl, rfl, rfl⟩
    have hend : CaughtPost w Q (.returned .nilIface) (w1.setCell ⟨w.heap.size, 0, none⟩ .nilIface) := ⟨w1, .inl ⟨HQ.out, rfl, rfl⟩⟩
    simp [Leaves, settle, results, Tryz.results52, go_sem, hcs]
    exact hend
  · have hr := HR.out _ _ hq
    have hc0 := cell_of_one hr
    have hf0 := free_of_one hr
    have hcs : (w1.setCell ⟨w.heap.size, 0, none⟩ (.iface 151 (.agg #[.int .i64 no, .int .i64 at_]))).cell? ⟨w.heap.size, 0, none⟩ = some (.iface 151 (.agg #[.int .i64 no, .int .i64 at_])) := by rw [cell_at (set_at hr _)]; rfl
    have HQ := Lib.hid hq
    have HE := Lib.hid he
    clear hq hr
    unfold failE spotV at he
    subst he
    go_wp2_with fail
    refine leaves_cons (f := 77) (args := #[.pointer (some ⟨w.heap.size, 0, none⟩)]) (by simp) (by simp [go_sem]) ?_
    refine (catch_spot ⟨w.heap.size, 0, none⟩ .nilIface no at_ [] _ hc0 hf0).mono ?_
    rintro e u' w'' ⟨rfl, rfl, rfl⟩
    have hend : CaughtPost w Q (.returned (spotV no at_)) (w1.setCell ⟨w.heap.size, 0, none⟩ (spotV no at_)) := ⟨w1, .inr ⟨no, at_, HQ.out, rfl, rfl⟩⟩
    simp [Leaves, settle, results, Tryz.results52, go_sem, hcs]
    exact hend

end Go.Proofs.YtakkmiomhackiaaGreatDoor
