/-
  What holds of a parser behind a token, behind a byte, at the end: a document that is read is one value. Plain.
-/
import Derived.Test.YtakkmiomhackiaaGreatDoorPa25
import Derived.Test.YtakkmiomhackiaaGreatDoorPa00
set_option linter.all false
set_option maxRecDepth 100000
set_option maxHeartbeats 16000000
open Go.Proofs.Tryz
namespace Go.Proofs.YtakkmiomhackiaaGreatDoor
open Go.RowKit
def isMk : Tok → Prop
 | .mark _ _ => True
 | _ => False
def TokFit (q want : Nat) : Tok → Prop
 | .mark _ _ => q = 0
 | .str _ _ _ => q = 1 ∨ (q = 0 ∧ (want = 2 ∨ want = 3))
 | _ => q = 1
def TokFits (q want : Nat) : List Tok → Prop
 | [] => True
 | t :: rest => TokFit q want t ∧ ∀ u ∈ rest, isMk u
theorem TokFits.marks {want : Nat} {l : List Tok} (h : ∀ u ∈ l, isMk u) : TokFits 0 want l := by
 cases l with
 | nil => trivial
 | cons t l =>
  refine ⟨?_, fun u hu => h u (List.mem_cons_of_mem _ hu)⟩;have ht := h t (List.mem_cons_self ..);cases t with
  | mark a s => rfl
  | term a b c => exact ht.elim
  | num a b c => exact ht.elim
  | str a b c => exact ht.elim
theorem TokFits.tail {q want want' : Nat} {t : Tok} {l : List Tok} (h : TokFits q want (t :: l)) : TokFits 0 want' l := .marks h.2
theorem Stand.colon {D want : Nat} {pile : List Fr} {items : List Tr} (h : Stand D want pile items) (hw : want = 4) : Stand D 0 pile items := by
 cases h with
 | new => exact .new
 | done t hd => omega
 | list s _ h hd hw => exact .list s 0 h hd (.inl rfl)
 | object k s _ h hd hk => exact .object k s 0 h hd (.inr ⟨.inr rfl, by omega⟩)
theorem Stand.comma {D want : Nat} {pile : List Fr} {items : List Tr} (h : Stand D want pile items) (hw : want = 5) : Stand D (if isObj pile = true then 3 else 0) pile items := by
 cases h with
 | new => omega
 | done t hd => omega
 | @list ini its s _ h hd hw =>
  have : isObj (ini ++ [.list s.length]) = false := by unfold isObj; simp
  rw [this, if_neg (by decide)];exact .list s 0 h hd (.inl rfl)
 | @object ini its k s _ h hd hk =>
  have : isObj (ini ++ [.object k]) = true := by unfold isObj; simp
  rw [this, if_pos rfl];exact .object k s 3 h hd (.inl ⟨.inr (.inl rfl), by omega⟩)
theorem Stand.key {D want : Nat} {pile : List Fr} {items : List Tr} (h : Stand D want pile items) (hw : want = 2 ∨ want = 3) (key : List UInt8) :
 ∃ ini k, pile = ini ++ [.object k] ∧ lastKeys pile = k ∧ pile.dropLast = ini ∧ Stand D 4 (ini ++ [.object (k ++ [key])]) items := by
 cases h with
 | new => omega
 | done t hd => omega
 | list s _ h hd hw => omega
 | @object ini its k s _ h hd hk => exact ⟨ini, k, rfl, by unfold lastKeys; simp, by simp, .object (k ++ [key]) s 4 h hd (.inr ⟨.inl rfl, by simp; omega⟩)⟩
section
variable {x y : Ps} {q : Nat}
theorem nameTr_sized (n : List UInt8) : (nameTr n).sized = ⟨1, 0, 1⟩ := by
 unfold nameTr;split
 ·simp [Tr.sized]
 ·simp [Tr.sized]
theorem PsOk.token {t : Tok} (h : PsOk x q) (ht : StrOk t) (hf : TokFit q x.want t) (hy : x.token po t = .ok y) : PsOk y 0 := by
 cases t with
 | mark a s =>
  obtain rfl : q = 0 := hf;simp only [Ps.token] at hy;unfold Ps.mark at hy;split at hy
  ·cases hv : x.value a with
   | error e => rw [hv] at hy; cases hy
   | ok z =>
    rw [hv] at hy;simp only [Except.map] at hy;cases hy;exact (h.value hv).1.push (.list 0) (.inl ⟨rfl, rfl⟩) rfl
  ·split at hy
   ·cases hv : x.value a with
    | error e => rw [hv] at hy; cases hy
    | ok z =>
     rw [hv] at hy;simp only [Except.map] at hy;cases hy;exact (h.value hv).1.push (.object []) (.inr ⟨rfl, rfl⟩) rfl
   ·split at hy
    ·rename_i hc;cases hy;exact ⟨h.depth, h.room, h.nodes, h.bytes, h.cnt, h.byt, h.stand.colon hc.2, h.keys, .inl rfl⟩
    ·split at hy
     ·rename_i hc;cases hy;exact ⟨h.depth, h.room, h.nodes, h.bytes, h.cnt, h.byt, h.stand.comma hc.2, h.keys, .inl rfl⟩
     ·split at hy
      ·rename_i hc;cases hy;exact h.close hc
      ·cases hy
 | term a b c =>
  obtain rfl : q = 1 := hf;simp only [Ps.token] at hy;cases hy;have hs := h.scalar (t := nameTr c) (b := 0) (nameTr_sized c) (by have := h.byt; omega);unfold Ps.scalar;rw [hs.1];exact hs.2
 | num a b c =>
  obtain rfl : q = 1 := hf;simp only [Ps.token] at hy;cases hy;have hs := h.scalar (t := .num (zeroed c)) (b := 0) (by simp [Tr.sized]) (by have := h.byt; omega);unfold putNum;rw [hs.1];exact hs.2
 | str a b c =>
  simp only [Ps.token] at hy;unfold Ps.text at hy;rcases hf with rfl | ⟨rfl, hw⟩
  ·have hp := h.pend;rw [if_pos (by omega)] at hy;unfold Ps.weigh at hy;split at hy
   ·cases hy
   ·rename_i hle;simp only [Except.map] at hy;cases hy;have h2 : PsOk { x with bytes := x.bytes + c.length } 1 := ⟨h.depth, h.room, h.nodes, by show x.bytes + c.length ≤ 2097152; omega, h.cnt, by have := h.byt; show sumB x.items + keysB x.pile ≤ x.bytes + c.length; omega, h.stand, h.keys, h.pend⟩;have hs := h2.scalar (t := .text c) (b := c.length) (by simp [Tr.sized]) (by have := h.byt; show _ ≤ x.bytes + c.length; show sumB x.items + c.length + keysB x.pile ≤ _; omega);have hpt : putText x.items c = x.items ++ [.text c] := by unfold putText; rw [if_pos ht.1]; exact hs.1
    rw [hpt];exact hs.2
  ·rw [if_neg (by omega)] at hy;split at hy
   ·cases hy
   ·rename_i hnm;obtain ⟨ini, k, hp, hlk, hdl, hst⟩ := h.stand.key hw c;rw [hlk] at hy hnm;rw [hdl] at hy;unfold Ps.weigh at hy;simp only at hy;split at hy
    ·cases hy
    ·rename_i hle;simp only [Except.map] at hy;cases hy;have hc := h.cnt;have hr := h.room;have hb := h.byt;rw [hp] at hc hr hb;rw [keysB_append, keysB_one] at hb;refine ⟨h.depth, ?_, h.nodes, by show x.bytes + c.length ≤ 2097152; omega, ?_, ?_, hst, ?_, .inl rfl⟩
     ·simpa using hr
     ·simpa using hc
     ·show sumB x.items + keysB (ini ++ [.object (k ++ [c])]) ≤ x.bytes + c.length
      rw [keysB_append, keysB_one];have e1 : frB (.object (k ++ [c])) = keysLen k + c.length := keysLen_snoc k c;have e2 : frB (.object k) = keysLen k := rfl;omega
     ·intro k2 hk2;have hk2 : Fr.object k2 ∈ ini ++ [.object (k ++ [c])] := hk2;rcases List.mem_append.1 hk2 with hk2 | hk2
      ·exact h.keys k2 (by rw [hp]; exact List.mem_append_left _ hk2)
      ·simp at hk2;subst hk2;obtain ⟨h1, h2⟩ := h.keys k (by rw [hp]; simp);refine ⟨?_, fun s hs => ?_⟩
       ·rw [List.nodup_append];exact ⟨h1, by simp, fun u hu v hv => by simp at hv; subst hv; exact fun e => hnm (e ▸ hu)⟩
       ·rcases List.mem_append.1 hs with hs | hs
        ·exact h2 s hs
        ·simp at hs; subst hs; exact ht.1
theorem drain_cons' (t : Tok) (toks : List Tok) : x.drain po (t :: toks) = (x.token po t).bind fun z => z.drain po toks := by
 unfold Ps.drain;rw [List.foldlM_cons];cases x.token po t <;> rfl
theorem drain_ok' {toks : List Tok} : ∀ {x y : Ps} {q : Nat}, PsOk x q → (∀ t ∈ toks, StrOk t) → TokFits q x.want toks → x.drain po toks = .ok y → PsOk y (if toks = [] then q else 0) ∧ (toks = [] → y = x) := by
 induction toks with
 | nil => intro x y q hx _ _ h; cases h; exact ⟨hx, fun _ => rfl⟩
 | cons t toks ih =>
  intro x y q hx ht hf h;rw [drain_cons'] at h;cases hv : x.token po t with
  | error e => rw [hv] at h; cases h
  | ok z =>
   rw [hv] at h;have h1 := hx.token (ht t (List.mem_cons_self ..)) hf.1 hv;have h2 := ih h1 (fun t h => ht t (List.mem_cons_of_mem _ h)) hf.tail h;rw [if_neg (by simp)];exact ⟨by simpa using h2.1, fun e => by simp at e⟩
end
def isScalarTok : Tok → Prop
 | .term _ _ _ => True
 | .num _ _ _ => True
 | _ => False
def TokShape (x : Lx) (toks : List Tok) : Prop :=
 (x.isIn = false ∧ ∀ u ∈ toks, isMk u) ∨
 (x.isIn = true ∧ ∃ t rest, toks = t :: rest ∧ (∀ u ∈ rest, isMk u) ∧ ((isText x.st = true ∧ ∃ a n s, t = .str a n s) ∨ (isText x.st = false ∧ isScalarTok t)))
def tokAt : Tok → Nat
 | .mark a _ => a
 | .term a _ _ => a
 | .num a _ _ => a
 | .str a _ _ => a
theorem outside_shape (x : Lx) (c : UInt8) (hin : x.isIn = false) : (∀ u ∈ (outsideStep x c).toks, isMk u ∧ tokAt u ≤ x.place) ∧
 ((outsideStep x c).lx.isIn = true → (outsideStep x c).lx.start = x.place ∧ (c = 34 → (outsideStep x c).no = 0 → isText (outsideStep x c).lx.st = true)) ∧ ((outsideStep x c).no ≠ 0 → (outsideStep x c).no ≠ 41) := by
 unfold outsideStep;split
 ·exact ⟨fun u hu => by simp at hu, fun h => by simp [hin] at h, fun h => absurd rfl h⟩
 ·simp only [];split
  ·refine ⟨fun u hu => ?_, fun h => by simp [Lx.told] at h, fun h => absurd rfl h⟩;simp at hu;subst hu;exact ⟨trivial, Nat.le_refl _⟩
  ·split
   ·exact ⟨fun u hu => by simp at hu, fun _ => ⟨rfl, fun _ _ => rfl⟩, fun h => absurd rfl h⟩
   ·rename_i hq;split
    ·unfold numFirst;split
     ·exact ⟨fun u hu => by simp at hu, fun _ => ⟨rfl, fun h => absurd h hq⟩, fun h => absurd rfl h⟩
     ·exact ⟨fun u hu => by simp at hu, fun _ => ⟨rfl, fun h => absurd h hq⟩, fun _ => (show (94 : Nat) ≠ 41 by decide)⟩
    ·split
     ·exact ⟨fun u hu => by simp at hu, fun _ => ⟨rfl, fun h => absurd h hq⟩, fun h => absurd rfl h⟩
     ·exact ⟨fun u hu => by simp at hu, fun _ => ⟨rfl, fun h => absurd h hq⟩, fun _ => (show (94 : Nat) ≠ 41 by decide)⟩
def StepShape (x : Lx) (c : UInt8) (r : LxOut) : Prop :=
 ((x.isIn = true ∧ r.toks = [] ∧ (r.no = 0 → r.lx.isIn = true ∧ r.lx.start = x.start ∧ (isText x.st = true → isText r.lx.st = true))) ∨
  (TokShape x r.toks ∧ (r.no = 0 → r.lx.isIn = true → r.lx.start = x.place ∧ (c = 34 → isText r.lx.st = true)))) ∧ (∀ t ∈ r.toks, tokAt t ≤ x.place) ∧ (r.no = 41 → r.lx.start ≤ x.place)
theorem StepShape.goes {x y : Lx} {c : UInt8} {no : Nat} (hin : x.isIn = true) (hs : x.start ≤ x.place) (h1 : y.isIn = true) (h2 : y.start = x.start) (h3 : isText x.st = true → isText y.st = true) : StepShape x c ⟨y, [], no⟩ :=
 ⟨.inl ⟨hin, rfl, fun _ => ⟨h1, h2, h3⟩⟩, fun t ht => by simp at ht, fun _ => by show y.start ≤ _; omega⟩
theorem step_shape {x : Lx} (hf : x.Fine) (c : UInt8) : StepShape x c (x.step c) := by
 have hs := hf.start;have hI := hf.isIn;unfold Lx.step;cases hst : x.st with
 | outside =>
  have hin : x.isIn = false := by rw [hI, hst]; rfl
  obtain ⟨h1, h2, h3⟩ := outside_shape x c hin;exact ⟨.inr ⟨.inl ⟨hin, fun u hu => (h1 u hu).1⟩, fun hn hi => ⟨(h2 hi).1, fun hc => (h2 hi).2 hc hn⟩⟩, fun t ht => (h1 t ht).2, fun hn => absurd hn (h3 (by rw [hn]; decide))⟩
 | letter =>
  have hin : x.isIn = true := by rw [hI, hst]; rfl
  have hx : isText x.st = false := by rw [hst]; rfl
  have hm : ¬ isText x.st = true := by rw [hx]; decide
  simp only [letterStep];split
  ·split
   ·refine ⟨.inr ⟨.inr ⟨hin, _, [], rfl, fun u hu => by simp at hu, .inr ⟨hx, trivial⟩⟩, fun _ h => by simp [Lx.told] at h⟩, fun t ht => ?_, fun h => by simp at h⟩;simp at ht;subst ht;exact hs
   ·exact .goes hin hs hin rfl (fun h => absurd h hm)
  ·exact .goes hin hs hin rfl (fun h => absurd h hm)
 | numeral =>
  have hin : x.isIn = true := by rw [hI, hst]; rfl
  have hx : isText x.st = false := by rw [hst]; rfl
  have hm : ¬ isText x.st = true := by rw [hx]; decide
  simp only [numeralStep];cases hnx : numNext x.number c with
  | some s => exact .goes hin hs hin rfl (fun h => absurd h hm)
  | none =>
   simp only [];split
   ·unfold Lx.finish;cases hb : bitsOf x.raw with
    | none => exact .goes hin hs hin rfl (fun h => absurd h hm)
    | some v =>
     simp only [Option.map_some];obtain ⟨h1, h2, h3⟩ := outside_shape x.told c rfl;refine ⟨.inr ⟨.inr ⟨hin, _, _, rfl, fun u hu => (h1 u hu).1, .inr ⟨hx, trivial⟩⟩, fun hn hi => ⟨(h2 hi).1, fun hc => (h2 hi).2 hc hn⟩⟩, fun t ht => ?_, fun hn => absurd hn (h3 (by rw [hn]; decide))⟩;rcases List.mem_cons.1 ht with rfl | ht
     ·exact hs
     ·exact (h1 t ht).2
   ·exact .goes hin hs hin rfl (fun h => absurd h hm)
 | within =>
  have hin : x.isIn = true := by rw [hI, hst]; rfl
  have hx : isText x.st = true := by rw [hst]; rfl
  simp only [withinStep];split
  ·refine ⟨.inr ⟨.inr ⟨hin, _, [], rfl, fun u hu => by simp at hu, .inl ⟨hx, _, _, _, rfl⟩⟩, fun _ h => by simp [Lx.told] at h⟩, fun t ht => ?_, fun h => by simp at h⟩;simp at ht;subst ht;exact hs
  ·split
   ·exact .goes hin hs hin rfl (fun _ => rfl)
   ·split
    ·exact .goes hin hs hin rfl id
    ·split
     ·exact .goes hin hs hin rfl id
     ·exact .goes hin hs hin rfl id
 | escape =>
  have hin : x.isIn = true := by rw [hI, hst]; rfl
  simp only [escapeStep];split
  ·exact .goes hin hs hin rfl (fun _ => rfl)
  ·split
   ·exact .goes hin hs hin rfl id
   ·exact .goes hin hs hin rfl (fun _ => rfl)
 | digit =>
  have hin : x.isIn = true := by rw [hI, hst]; rfl
  simp only [digitStep];split
  ·exact .goes hin hs hin rfl id
  ·split
   ·exact .goes hin hs hin rfl id
   ·split
    ·unfold Lx.whole;split
     ·exact .goes hin hs hin rfl (fun _ => rfl)
     ·split
      ·exact .goes hin hs hin rfl (fun _ => rfl)
      ·exact .goes hin hs hin rfl (fun _ => rfl)
    ·exact .goes hin hs hin rfl id
 | slash =>
  have hin : x.isIn = true := by rw [hI, hst]; rfl
  simp only [slashStep];split
  ·exact .goes hin hs hin rfl (fun _ => rfl)
  ·exact .goes hin hs hin rfl id
 | letterU =>
  have hin : x.isIn = true := by rw [hI, hst]; rfl
  simp only [letterUStep];split
  ·exact .goes hin hs hin rfl (fun _ => rfl)
  ·exact .goes hin hs hin rfl id
def TakeShape (x : Lx) (c : UInt8) (r : Lx × List Tok × Nat × Nat) : Prop :=
 ((x.isIn = true ∧ r.2.1 = [] ∧ (r.2.2.1 = 0 → r.1.isIn = true ∧ r.1.start = x.start ∧ (isText x.st = true → isText r.1.st = true))) ∨
  (TokShape x r.2.1 ∧ (r.2.2.1 = 0 → r.1.isIn = true → r.1.start = x.place ∧ (c = 34 → isText r.1.st = true)))) ∧ (∀ t ∈ r.2.1, tokAt t ≤ x.place) ∧ (r.2.2.1 ≠ 0 → r.2.2.2 ≤ x.place) ∧ (r.2.2.1 = 0 → r.1.place = x.place + 1)
theorem take_shape {x : Lx} (hf : x.Fine) (c : UInt8) : TakeShape x c (x.take c) := by
 unfold Lx.take;split
 ·refine ⟨?_, fun t ht => by simp at ht, fun _ => Nat.le_refl _, fun h => by simp at h⟩;cases hi : x.isIn with
  | true => exact .inl ⟨rfl, rfl, fun h => by simp at h⟩
  | false => exact .inr ⟨.inl ⟨hi, fun u hu => by simp at hu⟩, fun h => by simp at h⟩
 ·have h := step_shape hf c;simp only [];split
  ·rename_i h0;refine ⟨?_, h.2.1, fun h => absurd rfl h, fun _ => rfl⟩;rcases h.1 with ⟨h1, h2, h3⟩ | ⟨h1, h2⟩
   ·exact .inl ⟨h1, h2, fun _ => h3 h0⟩
   ·exact .inr ⟨h1, fun _ => h2 h0⟩
  ·rename_i h0;refine ⟨?_, h.2.1, fun _ => ?_, fun h => absurd h h0⟩
   ·rcases h.1 with ⟨h1, h2, h3⟩ | ⟨h1, h2⟩
    ·exact .inl ⟨h1, h2, fun h => absurd h h0⟩
    ·exact .inr ⟨h1, fun h => absurd h h0⟩
   ·show (if _ then _ else _) ≤ _
    split
    ·rename_i h41; exact h.2.2 h41
    ·exact Nat.le_refl _
def pendOf (x : Ps) : Nat := if x.lex.isIn = true ∧ (x.want = 0 ∨ x.want = 1) then 1 else 0
structure ParOk (x : Ps) : Prop where
 ps : PsOk x (pendOf x)
 fine : x.lex.Fine
 tok : x.lex.isIn = true → x.lex.start < x.lex.place ∧ ((x.want = 0 ∨ x.want = 1) ∨ ((x.want = 2 ∨ x.want = 3) ∧ isText x.lex.st = true))
 place : x.place = x.lex.place
theorem PsOk.lex {x : Ps} {q : Nat} (h : PsOk x q) (l : Lx) : PsOk { x with lex := l } q := ⟨h.depth, h.room, h.nodes, h.bytes, h.cnt, h.byt, h.stand, h.keys, h.pend⟩
theorem ParOk.fits {x : Ps} (h : ParOk x) {toks : List Tok} (ht : TokShape x.lex toks) : TokFits (pendOf x) x.want toks := by
 rcases ht with ⟨hi, hm⟩ | ⟨hi, t, rest, rfl, hm, hk⟩
 ·have : pendOf x = 0 := by unfold pendOf; rw [if_neg (by rw [hi]; simp)]
  rw [this];exact .marks hm
 ·refine ⟨?_, hm⟩;have hw := (h.tok hi).2;rcases hk with ⟨hx, a, n, s, rfl⟩ | ⟨hx, hs⟩
  ·rcases hw with hw | ⟨hw, _⟩
   ·exact .inl (by unfold pendOf; rw [if_pos ⟨hi, hw⟩])
   ·exact .inr ⟨by unfold pendOf; rw [if_neg (by omega)], hw⟩
  ·have hw2 : x.want = 0 ∨ x.want = 1 := by
    rcases hw with hw | ⟨_, hw⟩
    ·exact hw
    ·rw [hx] at hw; cases hw
   have hp : pendOf x = 1 := by unfold pendOf; rw [if_pos ⟨hi, hw2⟩]
   rw [hp];cases t with
   | mark a s => exact hs.elim
   | term a b c => rfl
   | num a b c => rfl
   | str a b c => exact hs.elim
theorem tokfits_take {x : Ps} (h : ParOk x) (c : UInt8) : TokFits (pendOf x) x.want (x.lex.take c).2.1 := by
 rcases (take_shape h.fine c).1 with ⟨_, h2, _⟩ | ⟨h2, _⟩
 ·rw [h2]; trivial
 ·exact h.fits h2
theorem value_keeps {x y : Ps} {at_ : Nat} (h : x.value at_ = .ok y) : y.lex = x.lex ∧ y.place = x.place ∧ y.want = x.want := by
 unfold Ps.value at h
 repeat' (split at h)
 all_goals first | (cases h; exact ⟨rfl, rfl, rfl⟩) | cases h
theorem weigh_keeps {x y : Ps} {l : List UInt8} {at_ : Nat} (h : x.weigh l at_ = .ok y) : y.lex = x.lex ∧ y.place = x.place := by
 unfold Ps.weigh at h;split at h
 ·cases h
 ·cases h; exact ⟨rfl, rfl⟩
theorem token_keeps {x y : Ps} {t : Tok} (h : x.token po t = .ok y) : y.lex = x.lex ∧ y.place = x.place := by
 cases t with
 | mark a s =>
  simp only [Ps.token] at h;unfold Ps.mark at h;split at h
  ·cases hv : x.value a with
   | error e => rw [hv] at h; cases h
   | ok z => rw [hv] at h; simp only [Except.map] at h; cases h; have hz := value_keeps hv; exact ⟨hz.1, hz.2.1⟩
  ·split at h
   ·cases hv : x.value a with
    | error e => rw [hv] at h; cases h
    | ok z => rw [hv] at h; simp only [Except.map] at h; cases h; have hz := value_keeps hv; exact ⟨hz.1, hz.2.1⟩
   ·split at h
    ·cases h; exact ⟨rfl, rfl⟩
    ·split at h
     ·cases h; exact ⟨rfl, rfl⟩
     ·split at h
      ·cases h;unfold Ps.finishOpen;split <;> exact ⟨rfl, rfl⟩
      ·cases h
 | term a b c => simp only [Ps.token] at h; cases h; exact ⟨rfl, rfl⟩
 | num a b c => simp only [Ps.token] at h; cases h; exact ⟨rfl, rfl⟩
 | str a b c =>
  simp only [Ps.token] at h;unfold Ps.text at h;split at h
  ·cases hv : x.weigh c a with
   | error e => rw [hv] at h; cases h
   | ok z => rw [hv] at h; simp only [Except.map] at h; cases h; have hz := weigh_keeps hv; exact ⟨hz.1, hz.2⟩
  ·split at h
   ·cases h
   ·cases hv : Ps.weigh { x with pile := x.pile.dropLast ++ [.object (lastKeys x.pile ++ [c])] } c a with
    | error e => rw [hv] at h; cases h
    | ok z => rw [hv] at h; simp only [Except.map] at h; cases h; have hz := weigh_keeps (x := { x with pile := x.pile.dropLast ++ [.object (lastKeys x.pile ++ [c])] }) hv; exact ⟨hz.1, hz.2⟩
theorem drain_keeps {toks : List Tok} : ∀ {x y : Ps}, x.drain po toks = .ok y → y.lex = x.lex ∧ y.place = x.place := by
 induction toks with
 | nil => intro x y h; cases h; exact ⟨rfl, rfl⟩
 | cons t toks ih =>
  intro x y h;rw [drain_cons'] at h;cases hv : x.token po t with
  | error e => rw [hv] at h; cases h
  | ok z =>
   rw [hv] at h;have h1 := ih h;have h2 := token_keeps hv;exact ⟨h1.1.trans h2.1, h1.2.trans h2.2⟩
def takeOut (c : UInt8) (r : Lx × List Tok × Nat × Nat) (d : Out) : Out := match d with
 | .error e => .error e
 | .ok q => if r.2.2.1 ≠ 0 then .error (lexNo r.2.2.1, r.2.2.2) else match (if r.1.heldNow = 1 then q.begins c else .ok q) with
  | .error e => .error e
  | .ok q => .ok { q with place := q.place + 1 }
theorem ParOk.take {x y : Ps} {c : UInt8} (hok : ParOk x) (h : x.take po c = .ok y) : ParOk y := by
 have hsh := take_shape hok.fine c;have hfi := fine_take hok.fine c;have htake : x.take po c = takeOut c (x.lex.take c) (Ps.drain po { x with lex := (x.lex.take c).1 } (x.lex.take c).2.1) := rfl;obtain ⟨r, hr⟩ : ∃ r, x.lex.take c = r := ⟨_, rfl⟩;rw [hr] at htake hsh hfi;rw [htake] at h;cases hd : Ps.drain po { x with lex := r.1 } r.2.1 with
 | error e => rw [hd] at h; cases h
 | ok z =>
  rw [hd] at h;simp only [takeOut] at h
  by_cases hno : r.2.2.1 = 0
  ·rw [if_neg (fun h => h hno)] at h;have hpl := hsh.2.2.2 hno;have hfine := hfi.1 hno;have hzl := drain_keeps hd;have hz1 : z.lex = r.1 := hzl.1;have hz2 : z.place = x.place := hzl.2;rcases hsh.1 with ⟨hin, htk, hgo⟩ | ⟨hts, hbeg⟩
   ·obtain ⟨g1, g2, g3⟩ := hgo hno;obtain ⟨hlt, hw⟩ := hok.tok hin;have hh : r.1.heldNow ≠ 1 := by unfold Lx.heldNow; rw [g1, if_pos rfl, hpl, g2]; omega
    rw [if_neg hh] at h;simp only [Except.ok.injEq] at h;subst h;rw [htk] at hd;cases hd;have hpd : pendOf { x with lex := r.1, place := x.place + 1 } = pendOf x := by unfold pendOf; simp only []; rw [g1, hin]
    refine ⟨?_, hfine, fun _ => ⟨by show r.1.start < r.1.place; rw [g2, hpl]; omega, ?_⟩, by show x.place + 1 = r.1.place; rw [hpl, hok.place]⟩
    ·show PsOk _ (pendOf { x with lex := r.1, place := x.place + 1 })
     rw [hpd];have hp := hok.ps;exact ⟨hp.depth, hp.room, hp.nodes, hp.bytes, hp.cnt, hp.byt, hp.stand, hp.keys, hp.pend⟩
    ·exact hw.imp id (fun h => ⟨h.1, g3 h.2⟩)
   ·have hps : PsOk { x with lex := r.1 } (pendOf x) := hok.ps.lex r.1;have hdr := drain_ok' hps hfi.2 (hok.fits hts) hd
    have hz : PsOk z 0 := by
     have h1 := hdr.1
     by_cases he : r.2.1 = []
     ·rw [if_pos he] at h1
      have hp0 : pendOf x = 0 := by
       rcases hts with ⟨hi, _⟩ | ⟨hi, t, rest, e, _⟩
       ·unfold pendOf; rw [if_neg (by rw [hi]; simp)]
       ·rw [he] at e; cases e
      rwa [hp0] at h1
     ·rwa [if_neg he] at h1
    cases hin : r.1.isIn with
    | false =>
     have hh : r.1.heldNow ≠ 1 := by unfold Lx.heldNow; rw [hin]; simp
     rw [if_neg hh] at h;simp only [Except.ok.injEq] at h;subst h;have hpd : pendOf { z with place := z.place + 1 } = 0 := by unfold pendOf; simp only []; rw [hz1, hin]; simp
     refine ⟨?_, by show z.lex.Fine; rw [hz1]; exact hfine, fun h => ?_, by show z.place + 1 = z.lex.place; rw [hz1, hz2, hpl, hok.place]⟩
     ·show PsOk _ (pendOf { z with place := z.place + 1 })
      rw [hpd];exact ⟨hz.depth, hz.room, hz.nodes, hz.bytes, hz.cnt, hz.byt, hz.stand, hz.keys, hz.pend⟩
     ·have h : z.lex.isIn = true := h;rw [hz1, hin] at h; cases h
    | true =>
     obtain ⟨b1, b2⟩ := hbeg hno hin;have hh : r.1.heldNow = 1 := by unfold Lx.heldNow; rw [hin, if_pos rfl, hpl, b1]; omega
     rw [if_pos hh] at h;cases hb : z.begins c with
     | error e => rw [hb] at h; cases h
     | ok v =>
      rw [hb] at h;simp only [Except.ok.injEq] at h;subst h;unfold Ps.begins at hb;split at hb
      ·rename_i hc;cases hb;have hpd : pendOf { z with place := z.place + 1 } = 0 := by unfold pendOf; rw [if_neg (by show ¬ (_ ∧ (z.want = 0 ∨ z.want = 1)); omega)]
       refine ⟨?_, by show z.lex.Fine; rw [hz1]; exact hfine, fun _ => ⟨by show z.lex.start < z.lex.place; rw [hz1, b1, hpl]; omega, .inr ⟨hc.2, by show isText z.lex.st = true; rw [hz1]; exact b2 hc.1⟩⟩, by show z.place + 1 = z.lex.place; rw [hz1, hz2, hpl, hok.place]⟩
       show PsOk _ (pendOf { z with place := z.place + 1 })
       rw [hpd];exact ⟨hz.depth, hz.room, hz.nodes, hz.bytes, hz.cnt, hz.byt, hz.stand, hz.keys, hz.pend⟩
      ·obtain ⟨hv1, hv2, hv3⟩ := hz.value hb;have hvk := value_keeps hb;have hv4 : v.lex = r.1 := hvk.1.trans hz1;have hpd : pendOf { v with place := v.place + 1 } = 1 := by unfold pendOf; rw [if_pos ⟨by show v.lex.isIn = true; rw [hv4, hin], by show v.want = 0 ∨ v.want = 1; rw [hvk.2.2]; exact hv2⟩]
       refine ⟨?_, by show v.lex.Fine; rw [hv4]; exact hfine, fun _ => ⟨by show v.lex.start < v.lex.place; rw [hv4, b1, hpl]; omega, .inl (by show v.want = 0 ∨ v.want = 1; rw [hvk.2.2]; exact hv2)⟩, by show v.place + 1 = v.lex.place; rw [hv4, hvk.2.1, hz2, hpl, hok.place]⟩
       show PsOk _ (pendOf { v with place := v.place + 1 })
       rw [hpd];exact ⟨hv1.depth, hv1.room, hv1.nodes, hv1.bytes, hv1.cnt, hv1.byt, hv1.stand, hv1.keys, hv1.pend⟩
  ·rw [if_pos hno] at h; cases h
theorem parOk_new (d : Nat) (h2 : d ≤ 512) : ParOk (Ps.new d) := ⟨⟨h2, Nat.zero_le _, Nat.zero_le _, Nat.zero_le _, Nat.zero_le _, Nat.zero_le _, .new, fun k h => (by cases h), .inl rfl⟩, fine_new, fun h => (by cases h), rfl⟩
theorem ParOk.feed {l : List UInt8} : ∀ {x y : Ps}, ParOk x → x.feed po l = .ok y → ParOk y := by
 induction l with
 | nil => intro x y hx h; cases h; exact hx
 | cons c l ih =>
  intro x y hx h;unfold Ps.feed at h;rw [List.foldlM_cons] at h;cases ht : x.take po c with
  | error e => rw [ht] at h; cases h
  | ok z =>
   rw [ht] at h;exact ih (hx.take ht) h
theorem ended_shape {x : Lx} (hf : x.Fine) : ((x.ended.2.1 = []) ∨ TokShape x x.ended.2.1) ∧ (∀ t ∈ x.ended.2.1, tokAt t ≤ x.place) ∧ x.ended.2.2.2 ≤ x.place ∧ (x.ended.2.2.1 = 0 → x.ended.1.isIn = false) ∧ (numEnds x.number = true → x.isIn = true → x.st = .numeral) := by
 have hnum : numEnds x.number = true → x.isIn = true → x.st = .numeral := by
  intro hn hi;cases hst : x.st with
  | numeral => rfl
  | outside => rw [hf.isIn, hst] at hi; cases hi
  | letter => rw [(hf.letter hst).1] at hn; cases hn
  | within => rw [(hf.text (by rw [hst]; rfl)).1] at hn; cases hn
  | escape => rw [(hf.text (by rw [hst]; rfl)).1] at hn; cases hn
  | digit => rw [(hf.text (by rw [hst]; rfl)).1] at hn; cases hn
  | slash => rw [(hf.text (by rw [hst]; rfl)).1] at hn; cases hn
  | letterU => rw [(hf.text (by rw [hst]; rfl)).1] at hn; cases hn
 refine ⟨?_, ?_, ?_, ?_, hnum⟩
 ·unfold Lx.ended;split
  ·exact .inl rfl
  ·rename_i hi;split
   ·exact .inl rfl
   ·rename_i hn;unfold Lx.finish;cases hb : bitsOf x.raw with
    | none => exact .inl rfl
    | some v =>
     have hi2 : x.isIn = true := by simpa using hi
     have hst := hnum (by simpa using hn) hi2;exact .inr (.inr ⟨hi2, _, [], rfl, fun u hu => by simp at hu, .inr ⟨by rw [hst]; rfl, trivial⟩⟩)
 ·unfold Lx.ended;split
  ·intro t ht; simp at ht
  ·split
   ·intro t ht; simp at ht
   ·unfold Lx.finish;cases hb : bitsOf x.raw with
    | none => intro t ht; simp at ht
    | some v => intro t ht; simp at ht; subst ht; exact hf.start
 ·unfold Lx.ended;split
  ·exact Nat.zero_le _
  ·split
   ·exact Nat.le_refl _
   ·unfold Lx.finish;cases hb : bitsOf x.raw with
    | none => exact hf.start
    | some v => exact Nat.zero_le _
 ·unfold Lx.ended;split
  ·rename_i hi; exact fun _ => hi
  ·split
   ·intro h; simp at h
   ·unfold Lx.finish;cases hb : bitsOf x.raw with
    | none => intro h; simp at h
    | some v => intro _; rfl
def finOut (r : Lx × List Tok × Nat × Nat) (d : Out) : Out := match d with
 | .error e => .error e
 | .ok q => if r.2.2.1 ≠ 0 then .error (lexNo r.2.2.1, r.2.2.2) else if q.want ≠ 6 then .error (95, q.place) else .ok q
theorem ParOk.fitsEnd {x : Ps} (h : ParOk x) : TokFits (pendOf x) x.want x.lex.ended.2.1 := by
 rcases (ended_shape h.fine).1 with he | he
 ·rw [he]; trivial
 ·exact h.fits he
theorem finish_one {x y : Ps} (h : ParOk x) (hy : x.finish po = .ok y) : ∃ t, y.items = [t] := by
 have htake : x.finish po = finOut x.lex.ended (Ps.drain po { x with lex := x.lex.ended.1 } x.lex.ended.2.1) := rfl;rw [htake] at hy;cases hd : Ps.drain po { x with lex := x.lex.ended.1 } x.lex.ended.2.1 with
 | error e => rw [hd] at hy; cases hy
 | ok z =>
  rw [hd] at hy;simp only [finOut] at hy;split at hy
  ·cases hy
  ·split at hy
   ·cases hy
   ·rename_i hw;cases hy;have hdr := drain_ok' (h.ps.lex x.lex.ended.1) (fun t ht => fine_ended t ht) h.fitsEnd hd;exact (hdr.1.stand.top.2.2.2 (by omega)).2
theorem value_place {x : Ps} {a no at_ : Nat} (h : x.value a = .error (no, at_)) : at_ = a := by
 unfold Ps.value at h
 repeat' (split at h)
 all_goals first | (cases h; rfl) | cases h
theorem weigh_place {x : Ps} {l : List UInt8} {a no at_ : Nat} (h : x.weigh l a = .error (no, at_)) : at_ = a := by
 unfold Ps.weigh at h;split at h
 ·cases h; rfl
 ·cases h
theorem token_place {x : Ps} {t : Tok} {no at_ : Nat} (h : x.token po t = .error (no, at_)) : at_ = tokAt t := by
 cases t with
 | mark a s =>
  simp only [Ps.token] at h;unfold Ps.mark at h;split at h
  ·cases hv : x.value a with
   | error e => obtain ⟨n2, a2⟩ := e; rw [hv] at h; simp only [Except.map] at h; cases h; exact value_place hv
   | ok z => rw [hv] at h; cases h
  ·split at h
   ·cases hv : x.value a with
    | error e => obtain ⟨n2, a2⟩ := e; rw [hv] at h; simp only [Except.map] at h; cases h; exact value_place hv
    | ok z => rw [hv] at h; cases h
   ·split at h
    ·cases h
    ·split at h
     ·cases h
     ·split at h
      ·cases h
      ·cases h; rfl
 | term a b c => simp only [Ps.token] at h; cases h
 | num a b c => simp only [Ps.token] at h; cases h
 | str a b c =>
  simp only [Ps.token] at h;unfold Ps.text at h;split at h
  ·cases hv : x.weigh c a with
   | error e => obtain ⟨n2, a2⟩ := e; rw [hv] at h; simp only [Except.map] at h; cases h; exact weigh_place hv
   | ok z => rw [hv] at h; cases h
  ·split at h
   ·cases h; rfl
   ·cases hv : Ps.weigh { x with pile := x.pile.dropLast ++ [.object (lastKeys x.pile ++ [c])] } c a with
    | error e => obtain ⟨n2, a2⟩ := e; rw [hv] at h; simp only [Except.map] at h; cases h; exact weigh_place hv
    | ok z => rw [hv] at h; cases h
theorem drain_place {toks : List Tok} {n : Nat} : ∀ {x : Ps} {no at_ : Nat}, (∀ t ∈ toks, tokAt t ≤ n) → x.drain po toks = .error (no, at_) → at_ ≤ n := by
 induction toks with
 | nil => intro x no at_ _ h; cases h
 | cons t toks ih =>
  intro x no at_ ht h;rw [drain_cons'] at h;cases hv : x.token po t with
  | error e =>
   obtain ⟨n2, a2⟩ := e;rw [hv] at h;cases h;rw [token_place hv];exact ht t (List.mem_cons_self ..)
  | ok z => rw [hv] at h; exact ih (fun t h => ht t (List.mem_cons_of_mem _ h)) h
theorem begins_place {x : Ps} {c : UInt8} {no at_ : Nat} (h : x.begins c = .error (no, at_)) : at_ = x.place := by
 unfold Ps.begins at h;split at h
 ·cases h
 ·exact value_place h
theorem ParOk.take_at {x : Ps} {c : UInt8} {no at_ : Nat} (hok : ParOk x) (h : x.take po c = .error (no, at_)) : at_ ≤ 16777216 := by
 have hsh := take_shape hok.fine c;have hpl := hok.fine.place;have htake : x.take po c = takeOut c (x.lex.take c) (Ps.drain po { x with lex := (x.lex.take c).1 } (x.lex.take c).2.1) := rfl;obtain ⟨r, hr⟩ : ∃ r, x.lex.take c = r := ⟨_, rfl⟩;rw [hr] at htake hsh;rw [htake] at h;cases hd : Ps.drain po { x with lex := r.1 } r.2.1 with
 | error e =>
  obtain ⟨n2, a2⟩ := e;rw [hd] at h;simp only [takeOut] at h;cases h;have := drain_place hsh.2.1 hd;omega
 | ok z =>
  rw [hd] at h;simp only [takeOut] at h;split at h
  ·rename_i hno;cases h;have := hsh.2.2.1 hno;omega
  ·split at h
   ·rename_i hb;split at hb
    ·cases h;have h1 := begins_place hb;have h2 : z.place = x.place := (drain_keeps hd).2;have h3 := hok.place;omega
    ·cases hb
   ·cases h
theorem feed_at {l : List UInt8} : ∀ {x : Ps} {no at_ : Nat}, ParOk x → x.feed po l = .error (no, at_) → at_ ≤ 16777216 := by
 induction l with
 | nil => intro x no at_ _ h; cases h
 | cons c l ih =>
  intro x no at_ hx h;unfold Ps.feed at h;rw [List.foldlM_cons] at h;cases ht : x.take po c with
  | error e =>
   obtain ⟨n2, a2⟩ := e;rw [ht] at h;cases h;exact hx.take_at ht
  | ok z =>
   rw [ht] at h;exact ih (hx.take ht) h
theorem finish_at {x : Ps} {no at_ : Nat} (h : ParOk x) (hy : x.finish po = .error (no, at_)) : at_ ≤ 16777216 := by
 have hsh := ended_shape h.fine;have hpl := h.fine.place;have htake : x.finish po = finOut x.lex.ended (Ps.drain po { x with lex := x.lex.ended.1 } x.lex.ended.2.1) := rfl;rw [htake] at hy;cases hd : Ps.drain po { x with lex := x.lex.ended.1 } x.lex.ended.2.1 with
 | error e =>
  obtain ⟨n2, a2⟩ := e;rw [hd] at hy;simp only [finOut] at hy;cases hy;have := drain_place hsh.2.1 hd;omega
 | ok z =>
  rw [hd] at hy;simp only [finOut] at hy;split at hy
  ·cases hy;have := hsh.2.2.1;omega
  ·split at hy
   ·cases hy;have h2 : z.place = x.place := (drain_keeps hd).2;have h3 := h.place;omega
   ·cases hy
theorem read_at {l : List UInt8} {d no at_ : Nat} (h2 : d ≤ 512) (h : Ps.read po l d = .error (no, at_)) : at_ ≤ 16777216 := by
 unfold Ps.read at h;cases hf : (Ps.new d).feed po l with
 | error e =>
  obtain ⟨n2, a2⟩ := e;rw [hf] at h;cases h;exact feed_at (parOk_new d h2) hf
 | ok z =>
  rw [hf] at h;exact finish_at ((parOk_new d h2).feed hf) h
end Go.Proofs.YtakkmiomhackiaaGreatDoor
