/- Part 2 of a proof by a proved abstract interpreter of the law's functions: the interpreter, and contracts of functions. No condition. -/
import Derived.Test.YtdpfhchmmlhhlaaAoA
import Derived.CallsIn
import Derived.RangeFuncRecord
import Derived.LoopN
import Derived.Laws.BitsLemmas
import Derived.RangeFuncSeq
/- One operation, whichever it is; what is known of a frame; the run of a piece of code. No condition. -/
namespace Go.AI
open Go Go.RowKit
set_option linter.unusedVariables false
variable (E : Env)

def opRun (st : St) (o : Oper) (K : KT) : Prop :=
  match o.op with
  | .move x => opMove st x K
  | .assign x => opMove st x K
  | .pick c x y => opPick st c x y K
  | .box _ x => opBox st x K
  | .alloc t => opAlloc E st t K
  | .build t ps => opBuild E st t ps.toList K
  | .buildSlice t n ps => opRow E st t n ps.toList K
  | .load t x => opLoad E st t x K
  | .store t x y => opStore E st t x y K
  | .fieldAddr s x f => opField E st s x f K
  | .indexAddr t x y => opIndex E st t x y K
  | .nilCheck x => opNil st x K
  | .binOp op t x y _ => opBinX E st op t x y K
  | .unOp op _ x => opUn st op x K
  | .convert s d x => match E.ti s with
    | some _ => opConv E st d x K
    | none => False
  | .field t x f => opPart E st t x f K
  | .extract x j => opExtract st x j K
  | .makeFunc f a b => opFunc st f a.toList b.toList K
  | .makeMap _ none => opMakeMap st K
  | .mapUpdate t m k v => opMapUpdate E st t m k v K
  | .lookup t m k true => opLookup E st t m k K
  | .range t m => opRange E st t m K
  | .entry x => opEntry st x K
  | .slice t x lo hi none => opSlice E st t x lo hi K
  | .makeSlice t l c => opMake E st t l c K
  | .call c => match c.callee with
    | .value f => opCall E st f c.args.toList K
    | .builtin .append => match c.args.toList with
      | [s, x] => match c.argTypes.toList with
        | [t, t'] => opAppend E st t t' s x K
        | _ => False
      | _ => False
    | .builtin .len => match c.args.toList with
      | [x] => match c.argTypes.toList with
        | [t] => match evA st x with
          | .map _ => isK E t 8 fun _ => opMapLen st x K
          | _ => opLen E st t x K
        | _ => False
      | _ => False
    | .builtin .clear => match c.args.toList with
      | [x] => match c.argTypes.toList with
        | [t] => opClear E st t x K
        | _ => False
      | _ => False
    | .builtin .min => opMM true st c.args.toList K
    | .builtin .max => opMM false st c.args.toList K
    | _ => False
  | _ => False

theorem underlying_some {P : Program} {t : Nat} {i : TI} (hT : TIOK P t i) : (P.underlying t).isSome = true := by
  cases h : P.underlying t with
  | some d => rfl
  | none =>
    have h1 := hT.agg default
    have h2 : (isAgg t).run P default = .halt (.stuck "no such type") default := by
      simp only [isAgg, underlying, program, stuck]
      rw [Sem.run_bind, Sem.run_bind]
      simp [Sem.run, h]
    rw [h1] at h2
    cases h2

theorem opRun_sound (hE : EnvOK E) {o : Oper} {st : St} {K : KT} (h : opRun E st o K) :
    ∃ r rd wr c, AEff E.P o (evA st) st.obf rd r wr st.nid c ∧ K r rd wr c := by
  unfold opRun at h
  split at h
  · rename_i x e; exact opMove_sound E (.inl e) h
  · rename_i x e; exact opMove_sound E (.inr e) h
  · rename_i c x y e; exact opPick_sound E e h
  · rename_i t x e; exact opBox_sound E e h
  · rename_i t e; exact opAlloc_sound E hE e h
  · rename_i t ps e; exact opBuild_sound E hE e h
  · rename_i t n ps e; exact opRow_sound E hE e h
  · rename_i t x e; exact opLoad_sound E hE e h
  · rename_i t x y e; exact opStore_sound E hE e h
  · rename_i s x f e; exact opField_sound E hE e h
  · rename_i t x y e; exact opIndex_sound E hE e h
  · rename_i x e; exact opNil_sound E e h
  · rename_i op t x y t' e; exact opBinX_sound E hE e h
  · rename_i op t x e; exact opUn_sound E e h
  · rename_i s d x e
    split at h
    · rename_i i ei; exact opConv_sound E hE e (underlying_some (hE.at ei)) h
    · exact h.elim
  · rename_i t x f e; exact opPart_sound E hE e h
  · rename_i x j e; exact opExtract_sound E e h
  · rename_i f a b e; exact opFunc_sound E e h
  · rename_i t e; exact opMakeMap_sound E e h
  · rename_i t m k v e; exact opMapUpdate_sound E hE e h
  · rename_i t m k e; exact opLookup_sound E hE e h
  · rename_i t m e; exact opRange_sound E hE e h
  · rename_i x e; exact opEntry_sound E e h
  · rename_i t x lo hi e; exact opSlice_sound E hE e h
  · rename_i t l c e; exact opMake_sound E hE e h
  · rename_i c e
    obtain ⟨callee, ⟨args⟩, ⟨ats⟩⟩ := c
    simp only at h
    split at h
    · rename_i f; exact opCall_sound E e h
    · split at h
      · split at h
        · exact opAppend_sound E hE e h
        · exact h.elim
      · exact h.elim
    · split at h
      · split at h
        · split at h
          · exact opMapLen_sound E hE e h
          · exact opLen_sound E hE e h
        · exact h.elim
      · exact h.elim
    · split at h
      · split at h
        · exact opClear_sound E hE e h
        · exact h.elim
      · exact h.elim
    · exact opMM_sound E (mn := true) e h
    · exact opMM_sound E (mn := false) e h
    · exact h.elim
  · exact h.elim

/-! ### what is known of a frame -/

inductive Ex where
  | normal
  | ret
  | exit (id : Nat)

def Ex.up : Ex → Exit
  | .normal => .normal
  | .ret => .ret
  | .exit id => .exit id

def St.after (st : St) (d : Option Nat) (r : AV) (wr : List (Nat × Option AO)) (c : Nat) : St :=
  { tm := match d with | some d => (d, r) :: st.tm | none => st.tm, ob := wr ++ st.ob, nid := st.nid + c }

structure Sat (B : Nat → Prop) (st : St) (w : World) (Z : Nat → Prop) (ρ : Nat → Option Loc) (a : Act) : Prop where
  o : SatO B w Z ρ st.obf
  t : ∀ t, Rel w Z ρ (st.get t) (a.tmps.getD t undef)
  n : ∀ id, st.nid ≤ id → ρ id = none
  sz : a.tmps.size = E.nt
  d : ∃ M, SatO M w Z ρ st.obf ∧ (∀ b, Z b → ¬ M b) ∧ a.defers.Nodup ∧ ∀ d ∈ a.defers, ∃ D, d = ⟨.collected D, #[]⟩ ∧ M D ∧ ¬ B D ∧ w.heap[D]? = some (.deferred (some []))
  b : ∀ id o, st.obf id = some o → id < st.nid
  f : ∀ id, id ∈ E.pin → ∃ L, E.loc id = some L ∧ ρ id = some L
  j : ∀ i, st.get E.nt = .ghost i → a.defers = [] ∧ ∃ G, E.J i w G ∧ SatO G w Z ρ st.obf ∧ (∀ b, Z b → ¬ G b) ∧ (∀ b, B b → ¬ G b) ∧ ∀ b, E.Z0 b → Z b

theorem obf_after (st : St) (d : Option Nat) (r : AV) (wr : List (Nat × Option AO)) (c : Nat) : (st.after d r wr c).obf = upd st.obf wr := by
  funext id
  unfold St.obf St.after
  simp only
  induction wr with
  | nil => rfl
  | cons x wr ih =>
    obtain ⟨k, o⟩ := x
    simp only [List.cons_append, assoc, upd]
    by_cases h : id = k
    · subst h
      rw [if_pos rfl]
      have : Nat.beq id id = true := Nat.beq_refl id
      rw [this]
    · rw [if_neg h, ← ih]
      have : Nat.beq k id = false := by rw [Bool.eq_false_iff]; intro h'; exact h (Nat.eq_of_beq_eq_true h').symm
      rw [this]

theorem get_after (st : St) (d : Nat) (r : AV) (wr : List (Nat × Option AO)) (c t : Nat) : (st.after (some d) r wr c).get t = if d = t then r else st.get t := by
  unfold St.get St.after
  simp only [assoc]
  by_cases h : d = t
  · subst h
    have : Nat.beq d d = true := Nat.beq_refl d
    rw [this, if_pos rfl]
  · have : Nat.beq d t = false := by rw [Bool.eq_false_iff]; intro h'; exact h (Nat.eq_of_beq_eq_true h')
    rw [this, if_neg h]

def dstOK : Option Nat → Bool
  | some d => Nat.blt d E.nt
  | none => true

theorem Act.put_size (a : Act) (d : Option Nat) (v : Value) : (a.put d v).tmps.size = a.tmps.size := by
  cases d <;> simp [Act.put]

theorem evA_rel {B : Nat → Prop} {st : St} {w : World} {Z : Nat → Prop} {ρ : Nat → Option Loc} {a : Act} (h : Sat E B st w Z ρ a) (x : Operand) : Rel w Z ρ (evA st x) (a.eval x) := by
  cases x with
  | tmp t => exact h.t t
  | const v =>
    simp only [evA, Act.eval]
    unfold AV.ofConst
    split
    · rename_i vs
      split
      · rename_i hv
        unfold Rel
        exact ⟨vs, rfl, RelL_vals fun v hm => List.all_eq_true.1 hv v hm⟩
      · exact trivial
    · unfold Rel; rfl
    · exact trivial
    · rename_i h1 _ h2
      refine Rel_mk ?_
      cases v <;> first | rfl | exact absurd rfl (h1 _) | exact absurd rfl (h2 _)
  | global g => exact trivial
  | func f =>
    simp only [evA, Act.eval]
    unfold Rel
    exact ⟨#[], #[], rfl, by simp [RelL], by simp [RelL]⟩

/-- What a step leaves of the frame's knowledge. -/
theorem Sat.step {B : Nat → Prop} {st : St} {w w' : World} {Z Z' : Nat → Prop} {ρ ρ' : Nat → Option Loc} {a : Act} {d : Option Nat} {r : AV} {v : Value} {wr : List (Nat × Option AO)} {c : Nat}
    (h : Sat E B st w Z ρ a) (hwr : WrOK st.obf wr ρ) (hw2 : ∀ id o, (id, o) ∈ wr → id < st.nid + c) (hp : Post w Z ρ w' Z' ρ' wr r v) (hd : dstOK E d = true) : Sat E B (st.after d r wr c) w' Z' ρ' (a.put d v) := by
  have hag := hp.agr h.o hwr
  refine ⟨by rw [obf_after]; exact hp.sat h.o hwr, fun t => ?_, fun id hid => ?_, by rw [Act.put_size]; exact h.sz, ?_, fun id o ho => ?_, fun id h1 => (let ⟨L, q1, q2⟩ := h.f id h1; ⟨L, q1, hp.rext id L q2⟩), fun i hi => ?_⟩
  · have hold := Rel.mono hp.zsub hag hp.rext _ _ (h.t t)
    cases d with
    | none => exact hold
    | some d =>
      have hlt : d < a.tmps.size := by rw [h.sz]; exact blt_true hd
      rw [get_after]
      simp only [Act.put]
      by_cases e : d = t
      · subst e
        rw [if_pos rfl]
        simp [Array.getD, hlt]
        exact hp.val
      · rw [if_neg e]
        have : (a.tmps.setIfInBounds d v).getD t undef = a.tmps.getD t undef := by
          simp only [Array.getD_eq_getD_getElem?, Array.getElem?_setIfInBounds_ne e]
        rw [this]
        exact hold
  · have hid : st.nid + c ≤ id := hid
    rw [hp.rsub id fun o hm => by have := hw2 id o hm; omega]
    exact h.n id (by omega)
  · obtain ⟨M, m1, m2, m3, m4⟩ := h.d
    have e : (a.put d v).defers = a.defers := by cases d <;> rfl
    rw [e, obf_after]
    refine ⟨M, hp.sat m1 hwr, hp.apart m1 hwr m2, m3, fun x hx => ?_⟩
    obtain ⟨D, h1, h2, h3, h4⟩ := m4 x hx
    exact ⟨D, h1, h2, h3, ((hp.belO m1 hwr).block D h2).trans h4⟩
  · rw [obf_after] at ho
    rcases upd_mem ho with hm | ⟨_, ho⟩
    · exact hw2 id _ hm
    · have := h.b id o ho
      show id < st.nid + c
      omega
  · have hi' : st.get E.nt = .ghost i := by
      cases d with
      | none => exact hi
      | some d =>
        have hlt : d < E.nt := blt_true hd
        rw [get_after, if_neg (by omega)] at hi
        exact hi
    obtain ⟨g0, G, g1, g2, g3, g4, g5⟩ := h.j i hi'
    rw [obf_after]
    refine ⟨by cases d <;> exact g0, ?_⟩
    exact ⟨G, E.Jst i w w' G g1 (hp.belO g2 hwr) (fun b hb => hag b (g5 b hb)), hp.sat g2 hwr, hp.apart g2 hwr g3, g4, fun b hb => hp.zsub b (g5 b hb)⟩

/-- Bel the frame's blocks nothing turns. -/
theorem Sat.below {B : Nat → Prop} {st : St} {w w' : World} {Z Z' : Nat → Prop} {ρ ρ' : Nat → Option Loc} {a : Act} {r : AV} {v : Value} {wr : List (Nat × Option AO)}
    (h : Sat E B st w Z ρ a) (hwr : WrOK st.obf wr ρ) (hp : Post w Z ρ w' Z' ρ' wr r v) : Bel B w w' :=
  ⟨hp.bel.os, hp.bel.tape, hp.bel.output, hp.bel.size, fun k hk => hp.keep k (h.o.blt k hk) fun id o L hm hl hn e => by
    rcases hwr id o hm with h0 | ⟨o', ho⟩
    · rw [h0] at hl; cases hl
    · have := (h.o.obj id o' L ho hl hn).1; rw [e] at this; exact this hk, hp.bel.drawn⟩

theorem AEff.use {P : Program} {o : Oper} {st : St} {rd : List Nat} {r : AV} {wr : List (Nat × Option AO)} {c : Nat} (h : AEff E.P o (evA st) st.obf rd r wr st.nid c)
    {B : Nat → Prop} {w : World} {Z : Nat → Prop} {ρ : Nat → Option Loc} {a : Act} (hs : Sat E B st w Z ρ a) (hd : dstOK E o.dst = true) {next : Act → World → Prop} {Q : Exit → Act → World → Prop}
    (k : ∀ w' Z' ρ' a', Sat E B (st.after o.dst r wr c) w' Z' ρ' a' → Bel B w w' → (∀ b, Z' b → Z b ∨ ¬ B b) → next a' w') : o.wp E.P a w next Q := by
  have hw2 : ∀ id o, (id, o) ∈ wr → (∃ o'', st.obf id = some o'') ∨ (st.nid ≤ id ∧ id < st.nid + c) := fun id o hm => (h.1 id o hm).imp (fun h => h.2) (fun h => h)
  have hwr : WrOK st.obf wr ρ := fun id o hm => by
    rcases hw2 id o hm with h1 | h1
    · exact .inr h1
    · exact .inl (hs.n id h1.1)
  refine h.2 B w Z ρ st.obf a (fun x _ => evA_rel E hs x) (fun _ _ => rfl) hs.o (fun id h1 _ => hs.n id h1) next Q fun v w' Z' ρ' hp => ?_
  refine k w' Z' ρ' _ ?_ (hs.below E hwr hp) fun b hb => ?_
  · refine Sat.step E hs hwr (fun id o hm => ?_) hp hd
    rcases hw2 id o hm with ⟨o'', h1⟩ | h1
    · have := hs.b id o'' h1; omega
    · exact h1.2
  · rcases hp.znew b hb with (h1 | h1) | ⟨id, L, hm, hl, hn, rfl⟩
    · exact .inl h1
    · exact .inr fun hB => by have := hs.o.blt _ hB; omega
    · rcases hwr id _ hm with h0 | ⟨o', ho⟩
      · rw [h0] at hl; cases hl
      · exact .inr (hs.o.obj id o' L ho hl hn).1

/-! ### pieces of code -/

inductive It where
  | code (c : Code)
  | inB (id : Nat)
  | ops (all : Array Oper) (l : List Oper)

/-- An operation, carried out; a round of a loop over a function may be entered. -/
def wpX (P : Program) (o : Oper) (a : Act) (w : World) (next : Act → World → Prop) (Q : Exit → Act → World → Prop) : Prop :=
  o.wp P a w next Q ∨ o.wpIn Fence.wide 1 P a w next Q

/-- The operations l of a region, one after the other. -/
def wpL (P : Program) (all : Array Oper) (Q : Exit → Act → World → Prop) : List Oper → Act → World → Prop
  | [], a, w => Q .normal a w
  | o :: os, a, w => if Region.wanted o (yielded all a.tmps) then wpX P o a w (wpL P all Q os) Q else wpL P all Q os (a.put o.dst undef) w

/-- The fence that asks nothing; in a round. -/
abbrev wideR (r : Option Nat) : Fence := { Fence.wide with round := r }

theorem rowsIn_wideR {r : Option Nat} {n : Nat} {P : Program} {row : String} {args : Array Value} {w : World} {R : Value → World → Prop} (h : Rows P row args w R) : RowsIn (wideR r) n P row args w R :=
  fun c cs _ => let ⟨v, w', h1, h2⟩ := h c cs; ⟨v, w', h1, (stepsIn_wide (P := P)).2 h2⟩

theorem callsIn_wideR {r : Option Nat} {n : Nat} {P : Program} {f : FuncId} {args : Array Value} {w : World} {R : Ending → World → Prop} (h : Calls P f args w R) : CallsIn (wideR r) n P f args w R :=
  (callsIn_wide (n := n)).2 h

theorem uponIn_of_upon {r : Option Nat} {P : Program} {o : Oper} {a : Act} {next next' : Act → World → Prop} {Q : Exit → Act → World → Prop} (hn : ∀ a w, next a w → next' a w) : ∀ {x : Result Next}, o.upon P a next Q x → o.uponIn (wideR r) 1 P a next' Q x := by
  intro x h
  cases x with
  | ok v w' =>
    cases v with
    | value v => exact hn _ _ h
    | skip => exact hn _ _ h
    | defer d => exact hn _ _ h
    | enter f args =>
      refine ⟨fun h => by simp [Fence.wide] at h, callsIn_wideR (Calls.mono h fun e w' hh => ?_)⟩
      cases e with
      | returned v => exact hn _ _ hh
      | panicked c => exact hh
      | outgrown => exact hh
    | row row args => exact ⟨fun h => by simp [Fence.wide] at h, rowsIn_wideR (Rows.mono h fun v w' hh => hn _ _ hh)⟩
    | _ => exact h.elim
  | halt y w' =>
    cases y with
    | panic v => exact h
    | _ => exact h.elim

theorem uponIn_mono {r : Option Nat} {P : Program} {o : Oper} {a : Act} {next next' : Act → World → Prop} {Q : Exit → Act → World → Prop} (hn : ∀ a w, next a w → next' a w) : ∀ {x : Result Next}, o.uponIn Fence.wide 1 P a next Q x → o.uponIn (wideR r) 1 P a next' Q x := by
  intro x h
  cases x with
  | ok v w' =>
    cases v with
    | value v => exact hn _ _ h
    | skip => exact hn _ _ h
    | defer d => exact hn _ _ h
    | enter f args =>
      refine ⟨h.1, CallsIn.mono h.2 fun e w' hh => ?_⟩
      cases e with
      | returned v => exact hn _ _ hh
      | panicked c => exact hh
      | outgrown => exact hh
    | row row args => exact ⟨h.1, RowsIn.mono h.2 fun v w' hh => hn _ _ hh⟩
    | round l f tmps assign body =>
      refine ⟨h.1, RoundIn.mono h.2 fun e w' hh => ?_⟩
      cases e with
      | returned v => exact hn _ _ hh
      | panicked c => exact hh
      | outgrown => exact hh
    | _ => exact h.elim
  | halt y w' =>
    cases y with
    | panic v => exact h
    | _ => exact h.elim

theorem wpIn_of_wpX {r : Option Nat} {P : Program} {o : Oper} {a : Act} {w : World} {next next' : Act → World → Prop} {Q : Exit → Act → World → Prop} (hr : r = none ∨ ∀ c, o.op ≠ .defer c) (hn : ∀ a w, next a w → next' a w) (h : wpX P o a w next Q) : o.wpIn (wideR r) 1 P a w next' Q := by
  refine ⟨fun _ _ => trivial, ?_⟩
  have e : o.semAt (wideR r).round a.eval = execOp a.eval o := by
    rcases hr with rfl | hr
    · rfl
    · exact Oper.semAt_eq _ _ _ hr
  rw [e]
  rcases h with h | h
  · exact uponIn_of_upon hn h
  · exact uponIn_mono hn h.2

theorem wpOpsIn_of_wpL {r : Option Nat} {P : Program} {all : Array Oper} {Q : Exit → Act → World → Prop} (hr : r = none ∨ ∀ o ∈ all.toList, ∀ c, o.op ≠ .defer c) : ∀ (n i : Nat), i + n = all.size → ∀ (a : Act) (w : World), wpL P all Q (all.toList.drop i) a w → wpOpsIn (wideR r) 1 P all Q (List.range' i n) a w
  | 0, i, hi, a, w, h => by
    rw [List.drop_of_length_le (by simp; omega)] at h
    exact h
  | n + 1, i, hi, a, w, h => by
    have hlt : i < all.toList.length := by simp; omega
    rw [List.drop_eq_getElem_cons hlt] at h
    simp only [List.range'_succ]
    unfold wpOpsIn
    have : all[i]? = some all.toList[i] := by simp [show i < all.size by omega]
    rw [this]
    simp only
    unfold wpL at h
    split
    · rename_i hw
      rw [if_pos hw] at h
      exact wpIn_of_wpX (hr.imp_right fun h => h _ (List.getElem_mem hlt)) (fun a w h => wpOpsIn_of_wpL hr n (i + 1) (by omega) a w h) h
    · rename_i hw
      rw [if_neg hw] at h
      exact ⟨fun _ _ => trivial, wpOpsIn_of_wpL hr n (i + 1) (by omega) _ _ h⟩

theorem wpIn_region_L {r : Option Nat} {P : Program} {id : Nat} {all : Array Oper} {Q : Exit → Act → World → Prop} {a : Act} {w : World} (hr : r = none ∨ ∀ o ∈ all.toList, ∀ c, o.op ≠ .defer c) (h : wpL P all Q all.toList a w) : (Code.region id all false).wpIn (wideR r) 1 P Q a w := by
  refine wpIn_region ?_
  rw [List.range_eq_range']
  exact wpOpsIn_of_wpL hr all.size 0 (by omega) a w (by simpa using h)

theorem wp_region_L {P : Program} {id : Nat} {all : Array Oper} {Q : Exit → Act → World → Prop} {a : Act} {w : World} (h : wpL P all Q all.toList a w) : (Code.region id all false).wp P Q a w :=
  (wpIn_wide (n := 1)).1 (wpIn_region_L (r := none) (.inl rfl) h)

/-- What is to come. -/
def cont (P : Program) (R : Exit → Act → World → Prop) : List It → Exit → Act → World → Prop
  | [], e, a, w => R e a w
  | .inB id :: k, e, a, w => match e with
    | .exit id' => if id' = id then cont P R k .normal a w else cont P R k (.exit id') a w
    | e => cont P R k e a w
  | .code c :: k, e, a, w => match e with
    | .normal => c.wp P (cont P R k) a w
    | e => cont P R k e a w
  | .ops all l :: k, e, a, w => match e with
    | .normal => wpL P all (cont P R k) l a w
    | e => cont P R k e a w

/-- From what is known, the code comes to one of the ends. -/
def V (its : List It) (st : St) (Q : Ex → St → Prop) : Prop :=
  ∀ (B : Nat → Prop) (w : World) (Z : Nat → Prop) (ρ : Nat → Option Loc) (a : Act) (R : Exit → Act → World → Prop), Sat E B st w Z ρ a →
    (∀ ex st' w' Z' ρ' a', Q ex st' → Sat E B st' w' Z' ρ' a' → Bel B w w' → (∀ b, Z' b → Z b ∨ ¬ B b) → R ex.up a' w') → cont E.P R its .normal a w

theorem V.mono {its : List It} {st : St} {Q Q' : Ex → St → Prop} (h : V E its st Q) (hq : ∀ ex st, Q ex st → Q' ex st) : V E its st Q' :=
  fun B w Z ρ a R hs k => h B w Z ρ a R hs fun ex st' w' Z' ρ' a' hQ => k ex st' w' Z' ρ' a' (hq _ _ hQ)

/-- What is behind is known anew. -/
theorem V.chain {its : List It} {B : Nat → Prop} {w w1 : World} {Z Z1 : Nat → Prop} {st1 : St} {ρ1 : Nat → Option Loc} {a1 : Act} {Q : Ex → St → Prop} {R : Exit → Act → World → Prop} (h : V E its st1 Q) (hs : Sat E B st1 w1 Z1 ρ1 a1)
    (hb : Bel B w w1) (hz : ∀ b, Z1 b → Z b ∨ ¬ B b) (k : ∀ ex st' w' Z' ρ' a', Q ex st' → Sat E B st' w' Z' ρ' a' → Bel B w w' → (∀ b, Z' b → Z b ∨ ¬ B b) → R ex.up a' w') : cont E.P R its .normal a1 w1 :=
  h B w1 Z1 ρ1 a1 R hs fun ex st' w' Z' ρ' a' hQ hs' hb' hz' => k ex st' w' Z' ρ' a' hQ hs' (hb.trans hb') fun b hb2 => (hz' b hb2).elim (hz b) .inr

def unwindTo (id : Nat) : List It → Option (List It)
  | [] => none
  | .inB i :: k => match Nat.beq i id with | true => some k | false => unwindTo id k
  | _ :: k => unwindTo id k

theorem cont_exit {P : Program} {R : Exit → Act → World → Prop} {id : Nat} {a : Act} {w : World} : ∀ (k : List It), (match unwindTo id k with | some k' => cont P R k' .normal a w | none => R (.exit id) a w) → cont P R k (.exit id) a w
  | [], h => h
  | .inB i :: k, h => by
    simp only [unwindTo] at h
    simp only [cont]
    by_cases e : id = i
    · subst e
      rw [if_pos rfl]
      have : Nat.beq id id = true := Nat.beq_refl id
      rw [this] at h
      exact h
    · rw [if_neg e]
      have : Nat.beq i id = false := by rw [Bool.eq_false_iff]; intro h'; exact e (Nat.eq_of_beq_eq_true h').symm
      rw [this] at h
      exact cont_exit k h
  | .code c :: k, h => by simp only [cont]; exact cont_exit k h
  | .ops all l :: k, h => by simp only [cont]; exact cont_exit k h

theorem cont_ret {P : Program} {R : Exit → Act → World → Prop} {a : Act} {w : World} : ∀ (k : List It), R .ret a w → cont P R k .ret a w
  | [], h => h
  | .inB i :: k, h => by simp only [cont]; exact cont_ret k h
  | .code c :: k, h => by simp only [cont]; exact cont_ret k h
  | .ops all l :: k, h => by simp only [cont]; exact cont_ret k h

/-- With a truth value known. -/
def St.know (st : St) (c : Operand) (b : Bool) : St :=
  match c with
  | .tmp t => { st with tm := (t, .kb b) :: st.tm }
  | _ => st

theorem Sat.know {B : Nat → Prop} {st : St} {w : World} {Z : Nat → Prop} {ρ : Nat → Option Loc} {a : Act} (h : Sat E B st w Z ρ a) {c : Operand} {b : Bool} (hb : (evA st c).bool? = some b) : Sat E B (st.know c b) w Z ρ a := by
  cases c with
  | tmp t =>
    refine ⟨h.o, fun t' => ?_, h.n, h.sz, h.d, h.b, h.f, fun i hi => ?_⟩
    rotate_left
    · have hi : assoc .top ((t, .kb b) :: st.tm) E.nt = .ghost i := hi
      simp only [assoc] at hi
      split at hi
      · cases hi
      · exact h.j i hi
    show Rel w Z ρ (assoc .top ((t, .kb b) :: st.tm) t') _
    simp only [assoc]
    cases e : Nat.beq t t' with
    | true =>
      have := Nat.eq_of_beq_eq_true e
      subst this
      have := Rel_bool hb (h.t t)
      simp only
      unfold Rel
      exact this
    | false => exact h.t t'
  | _ => exact h

/-- Where a run stops: a step of an iterator, a call of a value that is no function of the program's. -/
def isLeaf (st : St) (o : Oper) : Bool :=
  match o.op with
  | .next _ _ => true
  | .call c => match c.callee with
    | .value f => match evA st f with
      | .pv (.val _) => true
      | _ => false
    | _ => false
  | _ => false

/-- The run of a piece of code, as far as it goes without a loop. -/
def run (V : List It → St → (Ex → St → Prop) → Prop) : Nat → List It → St → (Ex → St → Prop) → Prop
  | 0, its, st, Q => V its st Q
  | _ + 1, [], st, Q => Q .normal st
  | n + 1, it :: k, st, Q => match it with
    | .inB _ => run V n k st Q
    | .ops all l => match l with
      | [] => run V n k st Q
      | o :: os => match isLeaf st o with
       | true => V (.ops all (o :: os) :: k) st Q
       | false => match dstOK E o.dst with
        | true => match o.guard with
          | none => opRun E st o fun r _ wr c => run V n (.ops all os :: k) (st.after o.dst r wr c) Q
          | some (g, want) => match nthO all.toList g with
            | some og => match og.dst with
              | some d => gate (st.get d) (run V n (.ops all os :: k) (st.after o.dst (.tup []) [] 0) Q) fun b => match b, want with
                | true, true => opRun E (st.know (.tmp d) true) o fun r _ wr c => run V n (.ops all os :: k) ((st.know (.tmp d) true).after o.dst r wr c) Q
                | false, false => opRun E (st.know (.tmp d) false) o fun r _ wr c => run V n (.ops all os :: k) ((st.know (.tmp d) false).after o.dst r wr c) Q
                | true, false => run V n (.ops all os :: k) ((st.know (.tmp d) true).after o.dst (.tup []) [] 0) Q
                | false, true => run V n (.ops all os :: k) ((st.know (.tmp d) false).after o.dst (.tup []) [] 0) Q
              | none => False
            | none => False
        | false => False
    | .code c => match c with
      | .skip => run V n k st Q
      | .seq a b => run V n (.code a :: .code b :: k) st Q
      | .region id ops false => run V n (.ops ops ops.toList :: k) st Q
      | .cond c x y => branch (evA st c) fun b => match b with
        | true => run V n (.code x :: k) (st.know c true) Q
        | false => run V n (.code y :: k) (st.know c false) Q
      | .block id b => run V n (.code b :: .inB id :: k) st Q
      | .exit id => match unwindTo id k with
        | some k' => run V n k' st Q
        | none => Q (.exit id) st
      | .ret => Q .ret st
      | c => V (.code c :: k) st Q

theorem yielded_of {all : Array Oper} {g d : Nat} {og : Oper} {a : Act} {b : Bool} (hg : nthO all.toList g = some og) (hd : og.dst = some d) (hv : a.tmps.getD d undef = .bool b) : yielded all a.tmps g = some b := by
  rw [nthO_eq, Array.getElem?_toList] at hg
  unfold yielded
  rw [hg]
  simp only [Option.bind_some, hd]
  have : a.tmps[d]? = some (.bool b) := by
    rw [Array.getD_eq_getD_getElem?] at hv
    cases h : a.tmps[d]? with
    | none => rw [h] at hv; simp [undef] at hv
    | some v => rw [h] at hv; simp at hv; rw [hv]
  rw [this]

theorem yielded_und {all : Array Oper} {g d : Nat} {og : Oper} {a : Act} (hg : nthO all.toList g = some og) (hd : og.dst = some d) (hv : a.tmps.getD d undef = undef) : yielded all a.tmps g = none := by
  rw [nthO_eq, Array.getElem?_toList] at hg
  unfold yielded
  rw [hg]
  simp only [Option.bind_some, hd]
  rw [Array.getD_eq_getD_getElem?] at hv
  cases h : a.tmps[d]? with
  | none => rfl
  | some v => rw [h] at hv; simp at hv; rw [hv]; rfl

theorem run_sound (hE : EnvOK E) : ∀ (n : Nat) (its : List It) (st : St) (Q : Ex → St → Prop), run E (V E) n its st Q → V E its st Q
  | 0, its, st, Q, h => h
  | _ + 1, [], st, Q, h => fun B w Z ρ a R hs k => k .normal st w Z ρ a h hs (Bel.refl _ _) fun _ h => .inl h
  | n + 1, it :: k, st, Q, h => by
    have ih := run_sound hE n
    -- one operation, carried out
    have step0 : ∀ {all : Array Oper} {os : List Oper} {o : Oper} {st : St}, dstOK E o.dst = true → (opRun E st o fun r _ wr c => run E (V E) n (.ops all os :: k) (st.after o.dst r wr c) Q) →
        ∀ (B : Nat → Prop) (w : World) (Z : Nat → Prop) (ρ : Nat → Option Loc) (a : Act) (R : Exit → Act → World → Prop), Sat E B st w Z ρ a →
        (∀ ex st' w' Z' ρ' a', Q ex st' → Sat E B st' w' Z' ρ' a' → Bel B w w' → (∀ b, Z' b → Z b ∨ ¬ B b) → R ex.up a' w') → o.wp E.P a w (wpL E.P all (cont E.P R k) os) (cont E.P R k) := by
      intro all os o st hd h B w Z ρ a R hs kk
      obtain ⟨r, rd, wr, c, hA, hK⟩ := opRun_sound E hE h
      refine AEff.use E (P := E.P) hA hs hd fun w' Z' ρ' a' hs' hb hz => ?_
      exact V.chain E (ih _ _ _ hK) hs' hb hz kk
    have step : ∀ {all : Array Oper} {os : List Oper} {o : Oper} {st : St}, dstOK E o.dst = true → (opRun E st o fun r _ wr c => run E (V E) n (.ops all os :: k) (st.after o.dst r wr c) Q) →
        ∀ (B : Nat → Prop) (w : World) (Z : Nat → Prop) (ρ : Nat → Option Loc) (a : Act) (R : Exit → Act → World → Prop), Sat E B st w Z ρ a →
        (∀ ex st' w' Z' ρ' a', Q ex st' → Sat E B st' w' Z' ρ' a' → Bel B w w' → (∀ b, Z' b → Z b ∨ ¬ B b) → R ex.up a' w') → wpX E.P o a w (wpL E.P all (cont E.P R k) os) (cont E.P R k) :=
      fun hd h B w Z ρ a R hs kk => .inl (step0 hd h B w Z ρ a R hs kk)
    unfold run at h
    split at h
    · -- inB
      intro B w Z ρ a R hs kk
      exact ih _ _ _ h B w Z ρ a R hs kk
    · rename_i all l
      split at h
      · intro B w Z ρ a R hs kk
        exact ih _ _ _ h B w Z ρ a R hs kk
      · rename_i o os
        split at h
        · exact h
        split at h
        · rename_i hd
          split at h
          · rename_i hg
            intro B w Z ρ a R hs kk
            show wpL E.P all (cont E.P R k) (o :: os) a w
            unfold wpL
            rw [if_pos (by simp [Region.wanted, hg])]
            exact step hd h B w Z ρ a R hs kk
          · rename_i g want hg
            split at h
            · rename_i og hog
              split at h
              · rename_i d hdd
                intro B w Z ρ a R hs kk
                show wpL E.P all (cont E.P R k) (o :: os) a w
                unfold wpL
                rcases gate_sound h with ⟨hu, h⟩ | ⟨b, hb, h⟩
                · have hy : yielded all a.tmps g = none := yielded_und hog hdd (Rel_und (hu ▸ hs.t d))
                  rw [if_neg (by simp [Region.wanted, hg, hy])]
                  have hs2 : Sat E B (st.after o.dst (.tup []) [] 0) w Z ρ (a.put o.dst undef) :=
                    Sat.step E hs (fun _ _ h => (by cases h)) (fun _ _ h => (by cases h)) (Post.pure Rel_undef) hd
                  exact V.chain E (ih _ _ _ h) hs2 (Bel.refl _ _) (fun _ h => .inl h) kk
                have hy := yielded_of hog hdd (Rel_bool hb (hs.t d))
                have hs' := hs.know E (c := .tmp d) hb
                have skip : ∀ b', b = b' → b' ≠ want → run E (V E) n (.ops all os :: k) ((st.know (.tmp d) b').after o.dst (.tup []) [] 0) Q → (if Region.wanted o (yielded all a.tmps) = true then wpX E.P o a w (wpL E.P all (cont E.P R k) os) (cont E.P R k) else wpL E.P all (cont E.P R k) os (a.put o.dst undef) w) := by
                  rintro b' rfl hne h
                  rw [if_neg (by simp [Region.wanted, hg, hy, hne])]
                  have hs2 : Sat E B ((st.know (.tmp d) b).after o.dst (.tup []) [] 0) w Z ρ (a.put o.dst undef) :=
                    Sat.step E hs' (fun _ _ h => (by cases h)) (fun _ _ h => (by cases h)) (Post.pure Rel_undef) hd
                  exact V.chain E (ih _ _ _ h) hs2 (Bel.refl _ _) (fun _ h => .inl h) kk
                have go : ∀ b', b = b' → b' = want → (opRun E (st.know (.tmp d) b') o fun r _ wr c => run E (V E) n (.ops all os :: k) ((st.know (.tmp d) b').after o.dst r wr c) Q) → (if Region.wanted o (yielded all a.tmps) = true then wpX E.P o a w (wpL E.P all (cont E.P R k) os) (cont E.P R k) else wpL E.P all (cont E.P R k) os (a.put o.dst undef) w) := by
                  rintro b' rfl he h
                  rw [if_pos (by simp [Region.wanted, hg, hy, he])]
                  exact step hd h B w Z ρ a R hs' kk
                cases b <;> cases want
                · exact go _ rfl rfl h
                · exact skip _ rfl (by simp) h
                · exact skip _ rfl (by simp) h
                · exact go _ rfl rfl h
              · exact h.elim
            · exact h.elim
        · exact h.elim
    · rename_i c
      split at h
      · intro B w Z ρ a R hs kk
        exact wp_skip (ih _ _ _ h B w Z ρ a R hs kk)
      · rename_i x y
        intro B w Z ρ a R hs kk
        have := ih _ _ _ h B w Z ρ a R hs kk
        refine wp_seq (wp_mono this fun e a w h => ?_)
        cases e <;> exact h
      · rename_i id ops
        intro B w Z ρ a R hs kk
        exact wp_region_L (ih _ _ _ h B w Z ρ a R hs kk)
      · rename_i c x y
        intro B w Z ρ a R hs kk
        obtain ⟨b, hb, h⟩ := branch_sound h
        have hv := Rel_bool hb (evA_rel E hs c)
        have hs' := hs.know E hb
        cases b with
        | true => exact wp_cond_true hv (ih _ _ _ h B w Z ρ a R hs' kk)
        | false => exact wp_cond_false hv (ih _ _ _ h B w Z ρ a R hs' kk)
      · rename_i id b
        intro B w Z ρ a R hs kk
        refine wp_block (wp_mono (ih _ _ _ h B w Z ρ a R hs kk) fun e a w h => ?_)
        cases e <;> exact h
      · rename_i id
        intro B w Z ρ a R hs kk
        refine wp_exit (cont_exit k ?_)
        split at h
        · rename_i k' e
          exact ih _ _ _ h B w Z ρ a R hs kk
        · rename_i e
          exact kk (.exit id) st w Z ρ a h hs (Bel.refl _ _) fun _ h => .inl h
      · intro B w Z ρ a R hs kk
        exact wp_ret (cont_ret k (kk .ret st w Z ρ a h hs (Bel.refl _ _) fun _ h => .inl h))
      · exact h

end Go.AI

/- Contracts of functions out of what is known of their code; loops; what is known made less. No condition. -/
namespace Go.AI
open Go Go.RowKit
set_option linter.unusedVariables false
variable (E : Env)

/-- y says no more than x. -/
def AVle (x y : AV) : Prop := ∀ (w : World) (Z : Nat → Prop) (ρ : Nat → Option Loc) (v : Value), Rel w Z ρ x v → Rel w Z ρ y v
theorem AVle.refl (x : AV) : AVle x x := fun _ _ _ _ h => h

def AVleL : List AV → List AV → Prop
  | [], [] => True
  | x :: l, y :: r => AVle x y ∧ AVleL l r
  | _, _ => False

theorem AVleL.rel {w : World} {Z : Nat → Prop} {ρ : Nat → Option Loc} : ∀ {l r : List AV} {vs : List Value}, AVleL l r → RelL w Z ρ l vs → RelL w Z ρ r vs
  | [], [], vs, _, h => h
  | x :: l, y :: r, vs, hl, h => by
    unfold RelL at h ⊢
    obtain ⟨v, vs', rfl, h1, h⟩ := h
    exact ⟨v, vs', rfl, hl.1 _ _ _ _ h1, AVleL.rel hl.2 h⟩
  | [], _ :: _, _, hl, _ => hl.elim
  | _ :: _, [], _, hl, _ => hl.elim

theorem AVle.rd {k n : Nat} {g g' : Nat → List PV} (h : ∀ i, i < n → g i = g' i) : AVle (.pv (.rd k n g)) (.pv (.rd k n g')) := by
  intro w Z ρ v hv
  unfold Rel Rd at hv ⊢
  obtain ⟨a, c, h1, h2, h3⟩ := hv
  refine ⟨a, c, h1, h2, h3.imp id fun ⟨b, o, h4, h5, h6⟩ => ⟨b, o, h4, h5, fun i hi => ?_⟩⟩
  rw [← h i hi]
  exact h6 i hi

theorem AVle.nilrd (k : Nat) (g : Nat → List PV) : AVle (.pv (.val (.slice none 0 0))) (.pv (.rd k 0 g)) := by
  intro w Z ρ v hv
  rw [Rel_val hv]
  unfold Rel Rd
  exact ⟨none, 0, rfl, Nat.le_refl _, .inl rfl⟩

theorem AVle.kb (b : Bool) : AVle (.kb b) (.b b) := by
  intro w Z ρ v hv
  unfold Rel at hv
  subst hv
  exact Rel_mk rfl

def PVle : PV → PV → Prop
  | .val u, .val v => u = v
  | .rd k n g, .rd k' n' g' => k = k' ∧ n = n' ∧ ∀ i, i < n → g i = g' i
  | .rp k n g i j, .rp k' n' g' i' j' => k = k' ∧ n = n' ∧ i = i' ∧ j = j' ∧ ∀ i, i < n → g i = g' i
  | .val (.slice none 0 0), .rd _ n _ => n = 0
  | x, y => x = y

theorem PVle.sound {w : World} {Z : Nat → Prop} {x y : PV} {v : Value} (h : PVle x y) (hv : Rd w Z x v) : Rd w Z y v := by
  unfold PVle at h
  split at h
  · subst h; exact hv
  · obtain ⟨rfl, rfl, h⟩ := h
    unfold Rd at hv ⊢
    obtain ⟨a, c, h1, h2, h3⟩ := hv
    refine ⟨a, c, h1, h2, h3.imp id fun ⟨b, o, h4, h5, h6⟩ => ⟨b, o, h4, h5, fun i hi => ?_⟩⟩
    rw [← h i hi]; exact h6 i hi
  · obtain ⟨rfl, rfl, rfl, rfl, h⟩ := h
    unfold Rd at hv ⊢
    obtain ⟨b, o, h1, h2, h3, h6⟩ := hv
    refine ⟨b, o, h1, h2, h3, fun i hi => ?_⟩
    rw [← h i hi]; exact h6 i hi
  · subst h
    unfold Rd at hv ⊢
    exact ⟨none, 0, hv.1, Nat.le_refl _, .inl rfl⟩
  · subst h; exact hv

mutual
def leR : AV → AV → Prop
  | .top, _ => True
  | .pv y, x => match x with
    | .pv x => PVle x y
    | .kb b => y = .val (.bool b)
    | _ => False
  | .kb b, x => match x with
    | .kb b' => b' = b
    | .pv (.val (.bool b')) => b' = b
    | _ => False
  | .agg l, x => match x with
    | .agg l' => leRs l l'
    | _ => False
  | .tup l, x => match x with
    | .tup l' => leRs l l'
    | _ => False
  | _, _ => False
def leRs : List AV → List AV → Prop
  | [], r => match r with
    | [] => True
    | _ => False
  | y :: l, r => match r with
    | [] => False
    | x :: r => leR y x ∧ leRs l r
end

mutual
theorem leR_sound : ∀ (y x : AV), leR y x → AVle x y
  | .top, x, h => fun _ _ _ _ _ => trivial
  | .pv y, x, h => by
    intro w Z ρ v hv
    unfold leR at h
    split at h
    · unfold Rel at hv ⊢; exact h.sound hv
    · subst h; unfold Rel at hv ⊢; unfold Rd; exact ⟨hv, rfl⟩
    · exact h.elim
  | .kb b, x, h => by
    intro w Z ρ v hv
    unfold leR at h
    split at h
    · subst h; exact hv
    · subst h; unfold Rel at hv ⊢; unfold Rd at hv; exact hv.1
    · exact h.elim
  | .agg l, x, h => by
    intro w Z ρ v hv
    unfold leR at h
    split at h
    · unfold Rel at hv ⊢
      obtain ⟨vs, rfl, hv⟩ := hv
      exact ⟨vs, rfl, leRs_sound l _ h w Z ρ _ hv⟩
    · exact h.elim
  | .tup l, x, h => by
    intro w Z ρ v hv
    unfold leR at h
    split at h
    · unfold Rel at hv ⊢
      obtain ⟨vs, rfl, hv⟩ := hv
      exact ⟨vs, rfl, leRs_sound l _ h w Z ρ _ hv⟩
    · exact h.elim
  | .ptr _ _ _, x, h => by unfold leR at h; exact h.elim
  | .own _ _ _, x, h => by unfold leR at h; exact h.elim
  | .fn _ _ _, x, h => by unfold leR at h; exact h.elim
  | .map _, x, h => by unfold leR at h; exact h.elim
  | .emp, x, h => by unfold leR at h; exact h.elim
  | .nls, x, h => by unfold leR at h; exact h.elim
theorem leRs_sound : ∀ (l r : List AV), leRs l r → ∀ (w : World) (Z : Nat → Prop) (ρ : Nat → Option Loc) (vs : List Value), RelL w Z ρ r vs → RelL w Z ρ l vs
  | [], r, h => by
    intro w Z ρ vs hv
    unfold leRs at h
    split at h
    · exact hv
    · exact h.elim
  | y :: l, r, h => by
    intro w Z ρ vs hv
    unfold leRs at h
    split at h
    · exact h.elim
    · unfold RelL at hv ⊢
      obtain ⟨v, vs', rfl, h1, h2⟩ := hv
      exact ⟨v, vs', rfl, leR_sound y _ h.1 w Z ρ v h1, leRs_sound l _ h.2 w Z ρ vs' h2⟩
end

theorem leRs_AVleL : ∀ (l r : List AV), leRs l r → AVleL r l
  | [], r, h => by
    unfold leRs at h
    split at h
    · trivial
    · exact h.elim
  | y :: l, r, h => by
    unfold leRs at h
    split at h
    · exact h.elim
    · exact ⟨leR_sound _ _ h.1, leRs_AVleL l _ h.2⟩

/-! ### results -/

def resA (st : St) : List ResultVar → (List AV → Prop) → Prop
  | [], K => K []
  | .tmp t :: l, K => resA st l fun r => K (st.get t :: r)
  | .cell a t :: l, K => match st.get a with
    | .ptr id 0 j => match st.obf id with
      | some (.box cells) => match E.ti t with
        | some i => match takeN i.size (dropN j cells) with
          | some c => asVar i.agg c fun v => resA st l fun r => K (v :: r)
          | none => False
        | none => False
      | _ => False
    | _ => False

theorem resA_sound (hE : EnvOK E) {st : St} : ∀ {l : List ResultVar} {K : List AV → Prop}, resA E st l K → ∃ r, K r ∧ r.length = l.length ∧ ∀ {B : Nat → Prop} {w : World} {Z : Nat → Prop} {ρ : Nat → Option Loc} {a : Act}, Sat E B st w Z ρ a →
    ∀ (f : ResultVar → Sem Value), (∀ u, f (.tmp u) = pure (a.tmps.getD u undef)) → (∀ x t, f (.cell x t) = (do loadVar t (← asAddr (a.tmps.getD x undef)))) → ∃ vs, (l.mapM f).run E.P w = .ok vs w ∧ RelL w Z ρ r vs
  | [], K, h => ⟨[], h, rfl, fun _ f _ _ => ⟨[], by simp, by simp [RelL]⟩⟩
  | .tmp t :: l, K, h => by
    have h : resA E st l fun r => K (st.get t :: r) := h
    obtain ⟨r, hK, hl, hr⟩ := resA_sound hE h
    refine ⟨_, hK, by simp [hl], fun {B w Z ρ a} hs f h1 h2 => ?_⟩
    obtain ⟨vs, g1, g2⟩ := hr hs f h1 h2
    refine ⟨a.tmps.getD t undef :: vs, by simp [List.mapM_cons, h1, g1], ?_⟩
    unfold RelL
    exact ⟨_, _, rfl, hs.t t, g2⟩
  | .cell x t :: l, K, h => by
    unfold resA at h
    split at h
    · rename_i id j ex
      split at h
      · rename_i cells eo
        split at h
        · rename_i i ei
          split at h
          · rename_i c ec
            obtain ⟨v, h, hv⟩ := asVar_sound h
            obtain ⟨r, hK, hl, hr⟩ := resA_sound hE h
            refine ⟨_, hK, by simp [hl], fun {B w Z ρ a} hs f h1 h2 => ?_⟩
            obtain ⟨vs, g1, g2⟩ := hr hs f h1 h2
            have hx := ex ▸ hs.t x
            unfold Rel at hx
            obtain ⟨L, q1, q2, q3⟩ := hx
            obtain ⟨_, _, _, cs, T, h6, h7, h8, h9, h10⟩ := hs.o.obj id (.box cells) L eo q1 q2
            obtain ⟨e1, e2⟩ := takeN_eq ec
            rw [dropN_eq] at e1
            have hr1 : RelL w Z ρ c ((cs.toList.drop j).take i.size) := by rw [e1]; exact (h9.drop j).take _
            have hl1 := hr1.length
            refine ⟨varVal i.agg ((cs.toList.drop j).take i.size) :: vs, ?_, ?_⟩
            · rw [List.mapM_cons, h2, q3]
              simp only [asAddr, Sem.run_bind, Sem.run_pure, Result.andThen_ok]
              rw [run_loadVar (hE.at ei) (vs := (cs.toList.drop j).take i.size) (by omega) (fun j' u hj => ?_)]
              · simp only [Result.andThen_ok, g1]
              · rw [add_lit]
                have hj2 : j' < i.size := by
                  have := (List.getElem?_eq_some_iff.1 hj).1
                  simp at this; omega
                rw [List.getElem?_take_of_lt hj2, List.getElem?_drop] at hj
                simp [World.cell?, h6, ← hj]
            · unfold RelL
              exact ⟨_, _, rfl, hv hr1, g2⟩
          · exact h.elim
        · exact h.elim
      · exact h.elim
    · exact h.elim

/-- Several results: a tuple. -/
def tupA : List AV → AV
  | [x] => x
  | l => .tup l

theorem results_run (hE : EnvOK E) {st : St} {fn : Func} {rs : List ResultVar} (hrs : fn.results = rs.toArray) {K : List AV → Prop} (h : resA E st rs K) :
    ∃ r, K r ∧ ∀ {B : Nat → Prop} {w : World} {Z : Nat → Prop} {ρ : Nat → Option Loc} {a : Act}, Sat E B st w Z ρ a → ∃ v, (results fn a.tmps).run E.P w = .ok v w ∧ Rel w Z ρ (tupA r) v := by
  obtain ⟨r, hK, hl, hr⟩ := resA_sound E hE h
  refine ⟨r, hK, fun {B w Z ρ a} hs => ?_⟩
  unfold results
  rw [hrs, List.mapM_toArray]
  simp only [Sem.run_bind, Sem.run_map]
  have key : ∀ f : ResultVar → Sem Value, (∀ u, f (.tmp u) = pure (a.tmps.getD u undef)) → (∀ x t, f (.cell x t) = (do loadVar t (← asAddr (a.tmps.getD x undef)))) →
      ∃ v, (((Sem.run E.P (List.mapM f rs) w).andThen fun a w' => Result.ok a.toArray w').andThen fun a w' => Sem.run E.P (pure (if h : a.size = 1 then a[0] else Value.tuple a)) w') = Result.ok v w ∧ Rel w Z ρ (tupA r) v := by
    intro f h1 h2
    obtain ⟨vs, g1, g2⟩ := hr hs f h1 h2
    rw [g1]
    have hlen := g2.length
    match r, vs, g2, hlen with
    | [x], [v], g2, _ =>
      unfold RelL at g2
      obtain ⟨v', vs', e, h1, _⟩ := g2
      cases e
      exact ⟨v, by simp, h1⟩
    | [], [], g2, _ => exact ⟨.tuple #[], by simp, by unfold tupA Rel; exact ⟨#[], rfl, g2⟩⟩
    | x :: y :: r, u :: v :: vs, g2, _ => exact ⟨.tuple (u :: v :: vs).toArray, by simp, by unfold tupA Rel; exact ⟨_, rfl, by simpa using g2⟩⟩
  exact key _ (fun _ => rfl) (fun _ _ => rfl)

/-! ### the blocks of calls that are put off are shut -/

theorem SatO.weaken {B G : Nat → Prop} {w : World} {Z : Nat → Prop} {ρ : Nat → Option Loc} {ob : Nat → Option AO} (h : SatO B w Z ρ ob) (hg : ∀ b, G b → B b) : SatO G w Z ρ ob :=
  ⟨h.zlt, fun b hb => h.blt b (hg b hb), fun id o L ho hl hn => by
    obtain ⟨h1, h2, h3, h4⟩ := h.obj id o L ho hl hn
    exact ⟨fun hG => h1 (hg _ hG), h2, h3, h4⟩, h.nul, h.inj⟩

/-- A block that is no object's turns. -/
theorem SatO.put {B M : Nat → Prop} {w : World} {Z : Nat → Prop} {ρ : Nat → Option Loc} {ob : Nat → Option AO} (h : SatO B w Z ρ ob) (hm : SatO M w Z ρ ob) (hz : ∀ b, Z b → ¬ M b) {D : Nat} (hD : M D) (x : Obj) : SatO B (w.putObj D x) Z ρ ob := by
  have hag : Agr Z w (w.putObj D x) := fun b hb => World.putObj_heap_other (by rintro rfl; exact hz b hb hD)
  refine ⟨fun b hb => by rw [World.putObj_size]; exact h.zlt b hb, fun b hb => by rw [World.putObj_size]; exact h.blt b hb, fun id o L ho hl hn => ?_, h.nul, h.inj⟩
  obtain ⟨h1, h2, h3, h4⟩ := h.obj id o L ho hl hn
  have hne : L.b ≠ D := fun e => (hm.obj id o L ho hl hn).1 (e ▸ hD)
  exact ⟨h1, by rw [World.putObj_size]; exact h2, h3, h4.mono (fun _ h => h) hag (fun _ _ h => h) (World.putObj_heap_other hne)⟩

theorem Bel.put (B : Nat → Prop) (w : World) {D : Nat} (hD : ¬ B D) (x : Obj) : Bel B w (w.putObj D x) :=
  ⟨rfl, rfl, rfl, Nat.le_of_eq World.putObj_size.symm, fun k hk => World.putObj_heap_other (by rintro rfl; exact hD hk), Nat.le_refl _⟩

theorem shutL {B M : Nat → Prop} {st : St} {Z : Nat → Prop} {ρ : Nat → Option Loc} {a : Act} (hz : ∀ b, Z b → ¬ M b) (hng : ∀ i, st.get E.nt ≠ .ghost i) : ∀ (l : List Deferred) (w : World), l.Nodup → SatO M w Z ρ st.obf → Sat E B st w Z ρ { a with defers := [] } →
    (∀ d ∈ l, ∃ D, d = ⟨.collected D, #[]⟩ ∧ M D ∧ ¬ B D ∧ w.heap[D]? = some (.deferred (some []))) →
    ∃ w'', Bel B w w'' ∧ Sat E B st w'' Z ρ { a with defers := [] } ∧ ∀ {fn : Func} {R : Ending → World → Prop}, (∃ v, (results fn a.tmps).run E.P w'' = .ok v w'' ∧ R (.returned v) w'') → LeavesInM Fence.wide 1 E.P fn a.tmps R l .returning w
  | [], w, _, hm, hs, _ => ⟨w, Bel.refl _ _, hs, fun h => h⟩
  | d :: l, w, hn, hm, hs, hd => by
    obtain ⟨hn1, hn2⟩ := List.nodup_cons.1 hn
    obtain ⟨D, rfl, h1, h2, h3⟩ := hd d (List.mem_cons_self ..)
    have hag : Agr Z w (w.putObj D (.deferred none)) := fun b hb => World.putObj_heap_other (by rintro rfl; exact hz b hb h1)
    have hs' : Sat E B st (w.putObj D (.deferred none)) Z ρ { a with defers := [] } :=
      ⟨hs.o.put hm hz h1 _, fun t => Rel.mono (fun _ h => h) hag (fun _ _ h => h) _ _ (hs.t t), hs.n, hs.sz, ⟨M, hm.put hm hz h1 _, hz, List.nodup_nil, fun d hd => (by cases hd)⟩, hs.b, hs.f, fun i hi => absurd hi (hng i)⟩
    obtain ⟨w'', k1, k2, k3⟩ := shutL hz hng l (w.putObj D (.deferred none)) hn2 (hm.put hm hz h1 _) hs' fun d hd' => by
      obtain ⟨D', e, q1, q2, q3⟩ := hd d (List.mem_cons_of_mem _ hd')
      refine ⟨D', e, q1, q2, ?_⟩
      rw [World.putObj_heap_other]
      · exact q3
      · rintro rfl; exact hn1 (e ▸ hd')
    exact ⟨w'', (Bel.put B w h2 _).trans k1, k2, fun hR => ⟨by simp, .inl ⟨D, _, rfl, run_takeDeferred h3, k3 hR⟩⟩⟩

/-- At a function's end. -/
theorem Sat.shut {B : Nat → Prop} {st : St} {w : World} {Z : Nat → Prop} {ρ : Nat → Option Loc} {a : Act} (hs : Sat E B st w Z ρ a) :
    ∃ w'', Bel B w w'' ∧ Sat E B st w'' Z ρ { a with defers := [] } ∧ ∀ {fn : Func} {R : Ending → World → Prop}, (∃ v, (results fn a.tmps).run E.P w'' = .ok v w'' ∧ R (.returned v) w'') → LeavesInM Fence.wide 1 E.P fn a.tmps R a.defers .returning w := by
  by_cases h0 : a.defers = []
  · have e : ({ a with defers := [] } : Act) = a := by cases a; simp at h0; subst h0; rfl
    exact ⟨w, Bel.refl _ _, by rw [e]; exact hs, fun h => by rw [h0]; exact h⟩
  · obtain ⟨M, m1, m2, m3, m4⟩ := hs.d
    have hng : ∀ i, st.get E.nt ≠ .ghost i := fun i hi => h0 (hs.j i hi).1
    exact shutL E m2 hng a.defers w m3 m1 ⟨hs.o, hs.t, hs.n, hs.sz, ⟨M, m1, m2, List.nodup_nil, fun d hd => (by cases hd)⟩, hs.b, hs.f, fun i hi => absurd hi (hng i)⟩ m4

/-- A function's contract from its body, blocks of calls that are put off among its own. -/
theorem calls_of_sat {P : Program} {f : Nat} {fn : Func} {c : Code} {args : Array Value} {w : World} {R : Ending → World → Prop} (hf : P.funcs[f]? = some fn) (hb : fn.body = some c)
    (h : c.wp P (bodyPostM Fence.wide 1 P fn R) { tmps := args ++ Array.replicate (fn.ntmps - args.size) undef, defers := [] } w) : Calls P f args w R :=
  (callsIn_wide (n := 1)).1 (callsIn_of_wp_marks hf hb trivial ((wpIn_wide (n := 1)).2 h))

/-! ### a function's contract -/

def params : Nat → List AV → List (Nat × AV)
  | _, [] => []
  | i, x :: l => (i, x) :: params (i + 1) l

def St.init (args : List AV) : St := { tm := params 0 args, ob := [], nid := 0 }

theorem assoc_params : ∀ (l : List AV) (i t : Nat), assoc .top (params i l) t = if i ≤ t then (l[t - i]?).getD .top else .top
  | [], i, t => by simp [params, assoc]
  | x :: l, i, t => by
    simp only [params, assoc]
    cases e : Nat.beq i t with
    | true =>
      have := Nat.eq_of_beq_eq_true e
      subst this
      simp
    | false =>
      have hne : i ≠ t := by rintro rfl; have : Nat.beq i i = true := Nat.beq_refl i; rw [this] at e; cases e
      simp only
      rw [assoc_params l (i + 1) t]
      by_cases h : i ≤ t
      · rw [if_pos h, if_pos (by omega), show t - i = t - (i + 1) + 1 by omega, List.getElem?_cons_succ]
      · rw [if_neg h, if_neg (by omega)]

theorem sat_init {args : List AV} {vs : List Value} {w : World} {Z : Nat → Prop} (hz : ∀ b, Z b → b < w.heap.size) (h : RelL w Z noρ args vs) {nt : Nat} (hnt : vs.length ≤ nt) (hE : E.nt = nt) (hpin : E.pin = []) :
    Sat E (lts w.heap.size) (St.init args) w Z noρ { tmps := vs.toArray ++ Array.replicate (nt - vs.toArray.size) undef, defers := [] } := by
  refine ⟨⟨hz, fun _ h => h, fun _ _ _ h => (by cases h), fun _ _ _ h => (by cases h), fun _ _ _ _ _ _ h => (by cases h)⟩, fun t => ?_, fun _ _ => rfl, ?_, ⟨fun _ => False, ⟨hz, fun _ h => h.elim, fun _ _ _ h => (by cases h), fun _ _ _ h => (by cases h), fun _ _ _ _ _ _ h => (by cases h)⟩, fun _ _ h => h, List.nodup_nil, fun _ h => (by cases h)⟩, fun _ _ h => (by cases h), fun id h => (by rw [hpin] at h; cases h), fun i hi => ?_⟩
  · show Rel w Z noρ (assoc .top (params 0 args) t) _
    rw [assoc_params, if_pos (Nat.zero_le _), Nat.sub_zero]
    have hl := h.length
    cases e : args[t]? with
    | none => exact trivial
    | some x =>
      obtain ⟨v, h1, h2⟩ := h.get e
      simp only [Option.getD_some]
      have hlt : t < vs.length := (List.getElem?_eq_some_iff.1 h1).1
      rw [Array.getD_eq_getD_getElem?, Array.getElem?_append_left (by simpa using hlt)]
      simp only [List.getElem?_toArray, h1, Option.getD_some]
      exact h2
  · simp only [Array.size_append, List.size_toArray, Array.size_replicate]
    omega
  · have hi : assoc .top (params 0 args) E.nt = .ghost i := hi
    have hl := h.length
    rw [assoc_params, if_pos (Nat.zero_le _), List.getElem?_eq_none (by omega)] at hi
    cases hi

/-- How a function ends. -/
def Ret (rs : List ResultVar) (r : List AV) (ex : Ex) (st : St) : Prop :=
  match ex with
  | .exit _ => False
  | _ => resA E st rs fun l => frzL st l fun ys _ => Out (leRs r ys)

theorem spec_of_V {P : Program} {f : Nat} {fn : Func} {body : Code} {rs : List ResultVar} {args r : List AV} (hE : EnvOK E) (hpin : E.pin = []) (hP : E.P = P) (hf : P.funcs[f]? = some fn) (hb : fn.body = some body) (hnt : fn.ntmps = E.nt) (hrs : fn.results = rs.toArray)
    (hargs : args.length ≤ E.nt) (hen : ∀ args w, (callFunc f args).run P w = .ok (.enter f args) w) (h : V E [.code body] (St.init args) (Ret E rs r)) : Spec P f args (tupA r) := by
  subst hP
  refine ⟨hen, fun w Z vs hz hrel => ?_⟩
  refine calls_of_sat hf hb ?_
  have hl := hrel.length
  have hs := sat_init E hz hrel (nt := fn.ntmps) (by omega) hnt.symm hpin
  have := h _ w Z noρ _ (bodyPostM Fence.wide 1 E.P fn fun e w' => ∃ v, e = .returned v ∧ Bel (lts w.heap.size) w w' ∧ Rel w' (fun b => Z b ∨ (w.heap.size ≤ b ∧ b < w'.heap.size)) noρ (tupA r) v) hs
    fun ex st' w1 Z' ρ' a1 hQ hs1 hb1 hz' => ?_
  · refine wp_mono this fun e a w h => ?_
    exact h
  · obtain ⟨hex, hres⟩ : (match ex with | .exit _ => False | _ => True) ∧ resA E st' rs fun l => frzL st' l fun ys _ => Out (leRs r ys) := by
      cases ex with
      | exit id => exact hQ.elim
      | normal => exact ⟨trivial, hQ⟩
      | ret => exact ⟨trivial, hQ⟩
    obtain ⟨l, hfr, hrun⟩ := results_run E hE hrs hres
    obtain ⟨w', hb2, hs', hleave⟩ := hs1.shut E
    have hb' := hb1.trans hb2
    obtain ⟨v, h1, h2⟩ := hrun hs'
    obtain ⟨ys, rd, hle, hok⟩ := frzL_sound hfr
    have hle := leRs_AVleL _ _ hle.h
    have key : Rel w' (fun b => Z b ∨ (w.heap.size ≤ b ∧ b < w'.heap.size)) noρ (tupA r) v := by
      have conv : ∀ us, RelL w' Z' ρ' l us → RelL w' (fun b => Z b ∨ (w.heap.size ≤ b ∧ b < w'.heap.size)) noρ r us := by
        intro us hus
        have := (hok us).2 hus (fun _ _ => rfl) hs'.o
        refine AVleL.rel hle (RelL.mono (fun b hb => ?_) (fun _ _ => rfl) (fun _ _ h => h) _ _ this)
        rcases hb with hb | ⟨id, L, q1, q2, q3, rfl⟩
        · rcases hz' b hb with h | h
          · exact .inl h
          · exact .inr ⟨Nat.le_of_not_lt h, hs'.o.zlt b hb⟩
        · obtain ⟨o, ho⟩ := (hok us).1 id q1
          have := hs'.o.obj id o L ho q2 q3
          exact .inr ⟨Nat.le_of_not_lt this.1, this.2.1⟩
      match l, h2, conv with
      | [x], h2, conv =>
        have hr := conv [v] (by unfold RelL; exact ⟨v, [], rfl, h2, by simp [RelL]⟩)
        have hlr := hr.length
        match r, hlr, hr with
        | [y], _, hr =>
          unfold RelL at hr
          obtain ⟨v', vs', e, h3, _⟩ := hr
          cases e
          exact h3
      | [], h2, conv =>
        unfold tupA Rel at h2
        obtain ⟨us, rfl, h3⟩ := h2
        have hr := conv _ h3
        have hlr := hr.length
        have hl3 := h3.length
        match r, hlr, hr with
        | [], _, hr => unfold tupA Rel; exact ⟨us, rfl, hr⟩
        | _ :: _, hlr, _ => simp at hlr hl3; omega
      | x :: x' :: l, h2, conv =>
        unfold tupA Rel at h2
        obtain ⟨us, rfl, h3⟩ := h2
        have hr := conv _ h3
        have hlr := hr.length
        have hl3 := h3.length
        match r, hlr, hr with
        | [], hlr, _ => simp at hlr hl3; omega
        | [_], hlr, _ => simp at hlr hl3; omega
        | y :: y' :: r, _, hr => unfold tupA Rel; exact ⟨us, rfl, hr⟩
    cases ex with
    | normal => exact hleave ⟨v, h1, v, rfl, hb', key⟩
    | ret => exact hleave ⟨v, h1, v, rfl, hb', key⟩
    | exit id => exact hex.elim

end Go.AI

/- Regions whose order is drawn: any order that the edges allow comes to what the order of the text comes to. No condition. -/
namespace Go.AI
open Go Go.RowKit
set_option linter.unusedVariables false
variable (E : Env)

structure Tr where
  o : Oper
  skip : Bool
  r : AV
  rd : List Nat
  wr : List (Nat × Option AO)
  c : Nat
  nid : Nat

def St.aft (st : St) (t : Tr) : St := st.after t.o.dst t.r t.wr t.c

def ItemOK (all : List Oper) (st : St) (t : Tr) : Prop :=
  dstOK E t.o.dst = true ∧ t.nid = st.nid ∧
  ((t.skip = false ∧ AEff E.P t.o (evA st) st.obf t.rd t.r t.wr st.nid t.c ∧ match t.o.guard with
    | none => True
    | some (g, want) => ∃ og d, nthO all g = some og ∧ og.dst = some d ∧ (st.get d).bool? = some want) ∨
   (t.skip = true ∧ t.r = .tup [] ∧ t.rd = [] ∧ t.wr = [] ∧ t.c = 0 ∧ match t.o.guard with
    | none => False
    | some (g, want) => ∃ og d, nthO all g = some og ∧ og.dst = some d ∧ ((st.get d).bool? = some (!want) ∨ st.get d = .tup [])))

def Chain (all : List Oper) : List Tr → St → Prop
  | [], st => True
  | t :: l, st => ItemOK E all st t ∧ Chain all l (st.aft t)

def chainEnd : List Tr → St → St
  | [], st => st
  | t :: l, st => chainEnd l (st.aft t)

/-- The region in the order of the text, its steps written down. -/
def runD (all : List Oper) : List Oper → St → List Tr → (St → List Tr → Prop) → Prop
  | [], st, acc, K => K st acc.reverse
  | o :: os, st, acc, K => match dstOK E o.dst with
    | false => False
    | true => match o.guard with
      | none => opRun E st o fun r rd wr c => runD all os (st.after o.dst r wr c) (⟨o, false, r, rd, wr, c, st.nid⟩ :: acc) K
      | some (g, want) => match nthO all g with
        | some og => match og.dst with
          | some d => gate (st.get d) (runD all os (st.after o.dst (.tup []) [] 0) (⟨o, true, .tup [], [], [], 0, st.nid⟩ :: acc) K) fun b => match b, want with
            | true, true => opRun E st o fun r rd wr c => runD all os (st.after o.dst r wr c) (⟨o, false, r, rd, wr, c, st.nid⟩ :: acc) K
            | false, false => opRun E st o fun r rd wr c => runD all os (st.after o.dst r wr c) (⟨o, false, r, rd, wr, c, st.nid⟩ :: acc) K
            | true, false => runD all os (st.after o.dst (.tup []) [] 0) (⟨o, true, .tup [], [], [], 0, st.nid⟩ :: acc) K
            | false, true => runD all os (st.after o.dst (.tup []) [] 0) (⟨o, true, .tup [], [], [], 0, st.nid⟩ :: acc) K
          | none => False
        | none => False

theorem runD_sound (hE : EnvOK E) {all : List Oper} : ∀ {os : List Oper} {st : St} {acc : List Tr} {K : St → List Tr → Prop}, runD E all os st acc K →
    ∃ l, l.map Tr.o = os ∧ Chain E all l st ∧ K (chainEnd l st) (acc.reverse ++ l)
  | [], st, acc, K, h => ⟨[], rfl, trivial, by simpa [runD, chainEnd] using h⟩
  | o :: os, st, acc, K, h => by
    unfold runD at h
    split at h
    · exact h.elim
    · rename_i hd
      have go : ∀ {g : Prop}, (opRun E st o fun r rd wr c => runD E all os (st.after o.dst r wr c) (⟨o, false, r, rd, wr, c, st.nid⟩ :: acc) K) →
          (match o.guard with | none => True | some (g, want) => ∃ og d, nthO all g = some og ∧ og.dst = some d ∧ (st.get d).bool? = some want) →
          ∃ l, l.map Tr.o = o :: os ∧ Chain E all l st ∧ K (chainEnd l st) (acc.reverse ++ l) := by
        intro _ h hg
        obtain ⟨r, rd, wr, c, hA, h⟩ := opRun_sound E hE h
        obtain ⟨l, h1, h2, h3⟩ := runD_sound hE h
        refine ⟨⟨o, false, r, rd, wr, c, st.nid⟩ :: l, by simp [h1], ⟨⟨hd, rfl, .inl ⟨rfl, hA, hg⟩⟩, h2⟩, by simpa [chainEnd, St.aft] using h3⟩
      have no : (runD E all os (st.after o.dst (.tup []) [] 0) (⟨o, true, .tup [], [], [], 0, st.nid⟩ :: acc) K) →
          (match o.guard with | none => False | some (g, want) => ∃ og d, nthO all g = some og ∧ og.dst = some d ∧ ((st.get d).bool? = some (!want) ∨ st.get d = .tup [])) →
          ∃ l, l.map Tr.o = o :: os ∧ Chain E all l st ∧ K (chainEnd l st) (acc.reverse ++ l) := by
        intro h hg
        obtain ⟨l, h1, h2, h3⟩ := runD_sound hE h
        refine ⟨⟨o, true, .tup [], [], [], 0, st.nid⟩ :: l, by simp [h1], ⟨⟨hd, rfl, .inr ⟨rfl, rfl, rfl, rfl, rfl, hg⟩⟩, h2⟩, by simpa [chainEnd, St.aft] using h3⟩
      split at h
      · rename_i hg
        exact go (g := True) h (by rw [hg]; trivial)
      · rename_i g want hg
        split at h
        · rename_i og hog
          split at h
          · rename_i d hdd
            rcases gate_sound h with ⟨hu, h⟩ | ⟨b, hb, h⟩
            · exact no h (by rw [hg]; exact ⟨og, d, hog, hdd, .inr hu⟩)
            cases b <;> cases want
            · exact go (g := True) h (by rw [hg]; exact ⟨og, d, hog, hdd, hb⟩)
            · exact no h (by rw [hg]; exact ⟨og, d, hog, hdd, .inl hb⟩)
            · exact no h (by rw [hg]; exact ⟨og, d, hog, hdd, .inl hb⟩)
            · exact go (g := True) h (by rw [hg]; exact ⟨og, d, hog, hdd, hb⟩)
          · exact h.elim
        · exact h.elim

/-! ### what may not change places -/

def memN : List Nat → Nat → Bool
  | [], _ => false
  | x :: l, y => match Nat.beq x y with | true => true | false => memN l y
theorem memN_false : ∀ {l : List Nat} {y : Nat}, memN l y = false → y ∉ l
  | [], y, _, h => by cases h
  | x :: l, y, h, hm => by
    unfold memN at h
    split at h
    · cases h
    · rename_i e
      rcases List.mem_cons.1 hm with hm | hm
      · subst hm
        have : Nat.beq y y = true := Nat.beq_refl y
        rw [this] at e; cases e
      · exact memN_false h hm

def disj : List Nat → List Nat → Bool
  | [], _ => true
  | x :: l, r => match memN r x with | true => false | false => disj l r
theorem disj_spec : ∀ {l r : List Nat}, disj l r = true → ∀ x, x ∈ l → x ∉ r
  | [], r, _, x, h => by cases h
  | y :: l, r, h, x, hm => by
    unfold disj at h
    split at h
    · cases h
    · rename_i e
      rcases List.mem_cons.1 hm with hm | hm
      · subst hm; exact memN_false e
      · exact disj_spec h x hm

def tmpsOf : List Operand → List Nat
  | [] => []
  | .tmp t :: l => t :: tmpsOf l
  | _ :: l => tmpsOf l
theorem mem_tmpsOf : ∀ {l : List Operand} {t : Nat}, Operand.tmp t ∈ l → t ∈ tmpsOf l
  | .tmp u :: l, t, h => by
    rcases List.mem_cons.1 h with h | h
    · cases h; exact List.mem_cons_self ..
    · exact List.mem_cons_of_mem _ (mem_tmpsOf h)
  | .const v :: l, t, h => by
    rcases List.mem_cons.1 h with h | h
    · cases h
    · exact mem_tmpsOf (l := l) h
  | .func v :: l, t, h => by
    rcases List.mem_cons.1 h with h | h
    · cases h
    · exact mem_tmpsOf (l := l) h
  | .global v :: l, t, h => by
    rcases List.mem_cons.1 h with h | h
    · cases h
    · exact mem_tmpsOf (l := l) h

def looks (all : List Oper) (o : Oper) : List Nat :=
  (match o.guard with
   | some (g, _) => match nthO all g with
     | some og => match og.dst with
       | some d => [d]
       | none => []
     | none => []
   | none => []) ++ tmpsOf o.op.operands.toList
def writes (o : Oper) : List Nat := match o.dst with | some d => [d] | none => []

def ids : List (Nat × Option AO) → List Nat
  | [] => []
  | (id, _) :: l => id :: ids l
theorem mem_ids : ∀ {l : List (Nat × Option AO)} {id : Nat} {o : Option AO}, (id, o) ∈ l → id ∈ ids l
  | (i, x) :: l, id, o, h => by
    rcases List.mem_cons.1 h with h | h
    · cases h; exact List.mem_cons_self ..
    · exact List.mem_cons_of_mem _ (mem_ids h)
theorem mem_of_ids : ∀ {l : List (Nat × Option AO)} {id : Nat}, id ∈ ids l → ∃ o, (id, o) ∈ l
  | (i, x) :: l, id, h => by
    rcases List.mem_cons.1 h with h | h
    · subst h; exact ⟨x, List.mem_cons_self ..⟩
    · obtain ⟨o, h⟩ := mem_of_ids h; exact ⟨o, List.mem_cons_of_mem _ h⟩

def news : Nat → Nat → List Nat
  | _, 0 => []
  | n, c + 1 => n :: news (n + 1) c
theorem mem_news : ∀ {c n id : Nat}, n ≤ id → id < n + c → id ∈ news n c
  | 0, n, id, h1, h2 => by omega
  | c + 1, n, id, h1, h2 => by
    by_cases h : id = n
    · subst h; exact List.mem_cons_self ..
    · exact List.mem_cons_of_mem _ (mem_news (by omega) (by omega))

def Tr.W (t : Tr) : List Nat := ids t.wr ++ news t.nid t.c

def apart (all : List Oper) (s t : Tr) : Bool :=
  match disj (writes s.o) (looks all t.o) with
  | false => false
  | true => match disj (writes t.o) (looks all s.o) with
    | false => false
    | true => match disj (writes s.o) (writes t.o) with
      | false => false
      | true => match disj s.W t.W with
        | false => false
        | true => match disj s.W t.rd with
          | false => false
          | true => disj t.W s.rd

/-- j is an edge's or a way's end, from i. -/
def reach (all : List Oper) : Nat → Nat → List Edge → Bool
  | 0, _, _ => false
  | _ + 1, _, [] => false
  | n + 1, j, e :: es => match Region.binds .any e with
    | false => reach all n j es
    | true => match Nat.beq e.on j with
      | true => true
      | false => match reach all n j es with
        | true => true
        | false => match nthO all e.on with
          | some o => reach all n j o.after.toList
          | none => false

def edgesOK (i : Nat) : List Edge → Bool
  | [] => true
  | e :: es => match Region.binds .any e with
    | false => edgesOK i es
    | true => match Nat.blt e.on i with | true => edgesOK i es | false => false

/-- The one at place i against the later ones. -/
def indep1 (all : List Oper) (i : Nat) (s : Tr) : List Tr → Bool
  | [] => true
  | t :: l => match apart all s t with
    | true => indep1 all i s l
    | false => match reach all 60 i t.o.after.toList with
      | true => indep1 all i s l
      | false => false
def indepG (all : List Oper) : Nat → List Tr → Bool
  | _, [] => true
  | i, s :: l => match edgesOK i s.o.after.toList with
    | true => match indep1 all i s l with
      | true => indepG all (i + 1) l
      | false => false
    | false => false

theorem indep1_spec {all : List Oper} {i : Nat} {s : Tr} : ∀ {l : List Tr}, indep1 all i s l = true → ∀ t ∈ l, apart all s t = true ∨ reach all 60 i t.o.after.toList = true
  | [], _, t, h => by cases h
  | u :: l, h, t, hm => by
    unfold indep1 at h
    split at h
    · rename_i e
      rcases List.mem_cons.1 hm with hm | hm
      · subst hm; exact .inl e
      · exact indep1_spec h t hm
    · split at h
      · rename_i e
        rcases List.mem_cons.1 hm with hm | hm
        · subst hm; exact .inr e
        · exact indep1_spec h t hm
      · cases h

theorem indepG_spec {all : List Oper} : ∀ {l : List Tr} {k : Nat}, indepG all k l = true → ∀ i j s t, i < j → l[i]? = some s → l[j]? = some t → apart all s t = true ∨ reach all 60 (k + i) t.o.after.toList = true
  | [], k, _, i, j, s, t, _, hi, _ => by simp at hi
  | u :: l, k, h, i, j, s, t, hij, hi, hj => by
    unfold indepG at h
    split at h
    · split at h
      · rename_i h1 h2
        cases j with
        | zero => omega
        | succ j =>
          simp only [List.getElem?_cons_succ] at hj
          cases i with
          | zero =>
            simp only [List.getElem?_cons_zero, Option.some.injEq] at hi
            subst hi
            exact indep1_spec h2 t (List.mem_of_getElem? hj)
          | succ i =>
            simp only [List.getElem?_cons_succ] at hi
            have := indepG_spec h i j s t (by omega) hi hj
            rwa [show k + (i + 1) = k + 1 + i by omega]
      · cases h
    · cases h

theorem edgesOK_spec {i : Nat} : ∀ {es : List Edge}, edgesOK i es = true → ∀ e ∈ es, Region.binds .any e = true → e.on < i
  | [], _, e, h => by cases h
  | x :: es, h, e, hm => by
    intro hb
    unfold edgesOK at h
    split at h
    · rename_i h0
      rcases List.mem_cons.1 hm with hm | hm
      · subst hm; rw [h0] at hb; cases hb
      · exact edgesOK_spec h e hm hb
    · split at h
      · rename_i h1
        rcases List.mem_cons.1 hm with hm | hm
        · subst hm; exact blt_true h1
        · exact edgesOK_spec h e hm hb
      · cases h

theorem indepG_edges {all : List Oper} : ∀ {l : List Tr} {k : Nat}, indepG all k l = true → ∀ i s, l[i]? = some s → ∀ e ∈ s.o.after.toList, Region.binds .any e = true → e.on < k + i
  | [], k, _, i, s, hi => by simp at hi
  | u :: l, k, h, i, s, hi => by
    unfold indepG at h
    split at h
    · split at h
      · rename_i h1 _ h2
        cases i with
        | zero =>
          simp only [List.getElem?_cons_zero, Option.some.injEq] at hi
          subst hi
          exact edgesOK_spec h1
        | succ i =>
          simp only [List.getElem?_cons_succ] at hi
          have := indepG_edges h i s hi
          rwa [show k + (i + 1) = k + 1 + i by omega]
      · cases h
    · cases h

/-- Down from what is listed. -/
def Down (all : List Oper) (S : Nat → Bool) : Prop := ∀ i o, all[i]? = some o → S i = true → ∀ e ∈ o.after.toList, Region.binds .any e = true → S e.on = true

theorem reach_spec {all : List Oper} {S : Nat → Bool} (hD : Down all S) {j : Nat} : ∀ (n : Nat) (es : List Edge), reach all n j es = true → (∀ e ∈ es, Region.binds .any e = true → S e.on = true) → S j = true
  | 0, es, h, _ => by simp [reach] at h
  | n + 1, [], h, _ => by simp [reach] at h
  | n + 1, e :: es, h, hS => by
    have hS' : ∀ e ∈ es, Region.binds .any e = true → S e.on = true := fun e' hm => hS e' (List.mem_cons_of_mem _ hm)
    unfold reach at h
    split at h
    · exact reach_spec hD n es h hS'
    · rename_i hb
      have he := hS e (List.mem_cons_self ..) hb
      split at h
      · rename_i hj
        have := Nat.eq_of_beq_eq_true hj
        rw [← this]; exact he
      · split at h
        · rename_i h1
          exact reach_spec hD n es h1 hS'
        · split at h
          · rename_i o ho
            rw [nthO_eq] at ho
            exact reach_spec hD n _ h (hD _ o ho he)
          · cases h

/-! ### what is known after some of the steps -/

def overlay (S : Nat → Bool) : List Tr → Nat → St → St
  | [], _, st => st
  | t :: l, i, st => overlay S l (i + 1) (if S i then st.aft t else { st with nid := st.nid + t.c })

theorem overlay_nid {S : Nat → Bool} : ∀ {l : List Tr} {i : Nat} {st : St}, (overlay S l i st).nid = (chainEnd l st).nid
  | [], i, st => rfl
  | t :: l, i, st => by
    unfold overlay chainEnd
    rw [overlay_nid]
    split
    · rfl
    · have : ∀ (l : List Tr) (a b : St), a.nid = b.nid → (chainEnd l a).nid = (chainEnd l b).nid := by
        intro l
        induction l with
        | nil => exact fun a b h => h
        | cons u l ih => exact fun a b h => ih _ _ (by show a.nid + u.c = b.nid + u.c; rw [h])
      exact this l _ _ rfl

theorem get_aft {st : St} {t : Tr} {x : Nat} : (st.aft t).get x = if t.o.dst = some x then t.r else st.get x := by
  unfold St.aft
  cases h : t.o.dst with
  | none => simp [St.get, St.after]
  | some d => rw [get_after]; simp

/-- A tmp: the last of the steps that write it tells. -/
theorem overlay_get {S S' : Nat → Bool} {x : Nat} : ∀ {l : List Tr} {i : Nat} {st st' : St}, st.get x = st'.get x → (∀ j t, l[j]? = some t → t.o.dst = some x → S (i + j) = S' (i + j)) →
    (overlay S l i st).get x = (overlay S' l i st').get x
  | [], i, st, st', h, _ => h
  | t :: l, i, st, st', h, hw => by
    unfold overlay
    refine overlay_get ?_ fun j t' hj hd => by
      have := hw (j + 1) t' (by simpa using hj) hd
      rwa [show i + 1 + j = i + (j + 1) by omega]
    by_cases hd : t.o.dst = some x
    · have := hw 0 t (by simp) hd
      rw [Nat.add_zero] at this
      rw [this]
      split
      · rw [get_aft, get_aft, if_pos hd, if_pos hd]
      · exact h
    · have e1 : (if S i = true then st.aft t else { st with nid := st.nid + t.c }).get x = st.get x := by
        split
        · rw [get_aft, if_neg hd]
        · rfl
      have e2 : (if S' i = true then st'.aft t else { st' with nid := st'.nid + t.c }).get x = st'.get x := by
        split
        · rw [get_aft, if_neg hd]
        · rfl
      rw [e1, e2, h]

theorem obf_aft {st : St} {t : Tr} {x : Nat} : (st.aft t).obf x = upd st.obf t.wr x := by
  unfold St.aft; rw [obf_after]

theorem upd_none {ob : Nat → Option AO} : ∀ {wr : List (Nat × Option AO)} {id : Nat}, id ∉ ids wr → upd ob wr id = ob id
  | [], id, _ => rfl
  | (k, o) :: wr, id, h => by
    unfold upd
    rw [if_neg fun e => h (by rw [e]; exact List.mem_cons_self ..)]
    exact upd_none fun hm => h (List.mem_cons_of_mem _ hm)

theorem upd_same {ob ob' : Nat → Option AO} : ∀ {wr : List (Nat × Option AO)} {id : Nat}, ob id = ob' id → upd ob wr id = upd ob' wr id
  | [], id, h => h
  | (k, o) :: wr, id, h => by
    unfold upd
    split
    · rfl
    · exact upd_same h

theorem overlay_obf {S S' : Nat → Bool} {x : Nat} : ∀ {l : List Tr} {i : Nat} {st st' : St}, st.obf x = st'.obf x → (∀ j t, l[j]? = some t → x ∈ ids t.wr → S (i + j) = S' (i + j)) →
    (overlay S l i st).obf x = (overlay S' l i st').obf x
  | [], i, st, st', h, _ => h
  | t :: l, i, st, st', h, hw => by
    unfold overlay
    refine overlay_obf ?_ fun j t' hj hd => by
      have := hw (j + 1) t' (by simpa using hj) hd
      rwa [show i + 1 + j = i + (j + 1) by omega]
    by_cases hd : x ∈ ids t.wr
    · have := hw 0 t (by simp) hd
      rw [Nat.add_zero] at this
      rw [this]
      split
      · rw [obf_aft, obf_aft]; exact upd_same h
      · exact h
    · have e1 : (if S i = true then st.aft t else { st with nid := st.nid + t.c }).obf x = st.obf x := by
        split
        · rw [obf_aft, upd_none hd]
        · rfl
      have e2 : (if S' i = true then st'.aft t else { st' with nid := st'.nid + t.c }).obf x = st'.obf x := by
        split
        · rw [obf_aft, upd_none hd]
        · rfl
      rw [e1, e2, h]

/-- The states in the order of the text. -/
def stAt : List Tr → Nat → St → St
  | _, 0, st => st
  | [], _, st => st
  | t :: l, n + 1, st => stAt l n (st.aft t)

/-- The first n: as in the order of the text. -/
theorem overlay_first : ∀ {l : List Tr} {n i : Nat} {st : St} {x : Nat}, (overlay (fun j => decide (j < i + n)) l i st).get x = (stAt l n st).get x ∧ (overlay (fun j => decide (j < i + n)) l i st).obf x = (stAt l n st).obf x
  | [], n, i, st, x => by cases n <;> exact ⟨rfl, rfl⟩
  | t :: l, 0, i, st, x => by
    have h : ∀ {l : List Tr} {i : Nat} {st : St}, (∀ j, i ≤ j → decide (j < i + 0) = false) := fun j hj => by simp; omega
    have key : ∀ (l : List Tr) (S : Nat → Bool) (i : Nat) (st : St), (∀ j, i ≤ j → S j = false) → (overlay S l i st).get x = st.get x ∧ (overlay S l i st).obf x = st.obf x := by
      intro l S
      induction l with
      | nil => exact fun i st _ => ⟨rfl, rfl⟩
      | cons u l ih =>
        intro i st hS
        unfold overlay
        rw [hS i (Nat.le_refl _)]
        exact ih (i + 1) _ fun j hj => hS j (by omega)
    exact key (t :: l) _ i st fun j hj => by simp; omega
  | t :: l, n + 1, i, st, x => by
    unfold overlay stAt
    rw [if_pos (by simp)]
    have := overlay_first (l := l) (n := n) (i := i + 1) (st := st.aft t) (x := x)
    rwa [show i + 1 + n = i + (n + 1) by omega] at this

theorem chain_at {all : List Oper} : ∀ {l : List Tr} {st : St} {i : Nat} {t : Tr}, Chain E all l st → l[i]? = some t → ItemOK E all (stAt l i st) t
  | [], st, i, t, _, h => by simp at h
  | u :: l, st, 0, t, hc, h => by simp at h; subst h; exact hc.1
  | u :: l, st, i + 1, t, hc, h => by
    simp only [List.getElem?_cons_succ] at h
    exact chain_at (l := l) hc.2 h

theorem stAt_nid_le : ∀ {l : List Tr} {i : Nat} {st : St} {t : Tr}, l[i]? = some t → (stAt l i st).nid + t.c ≤ (chainEnd l st).nid := by
  have mono : ∀ (l : List Tr) (st : St), st.nid ≤ (chainEnd l st).nid := by
    intro l
    induction l with
    | nil => exact fun st => Nat.le_refl _
    | cons u l ih => exact fun st => Nat.le_trans (by show st.nid ≤ st.nid + u.c; omega) (ih (st.aft u))
  intro l
  induction l with
  | nil => intro i st t h; simp at h
  | cons u l ih =>
    intro i st t h
    cases i with
    | zero => simp at h; subst h; exact mono l (st.aft u)
    | succ i => simp only [List.getElem?_cons_succ] at h; exact ih h

theorem stAt_nid_ge : ∀ {l : List Tr} {i : Nat} {st : St}, st.nid ≤ (stAt l i st).nid := by
  intro l
  induction l with
  | nil => intro i st; cases i <;> exact Nat.le_refl _
  | cons u l ih =>
    intro i st
    cases i with
    | zero => exact Nat.le_refl _
    | succ i => exact Nat.le_trans (by show st.nid ≤ st.nid + u.c; omega) (ih (st := st.aft u))

end Go.AI

/- Regions whose order is drawn, second part. No condition. -/
namespace Go.AI
open Go Go.RowKit
set_option linter.unusedVariables false
variable (E : Env)

theorem Sat.of_eq {B : Nat → Prop} {st st' : St} {w : World} {Z : Nat → Prop} {ρ : Nat → Option Loc} {a : Act} (h : Sat E B st w Z ρ a) (hg : ∀ t, st'.get t = st.get t) (ho : ∀ id, st'.obf id = st.obf id) (hn : st.nid ≤ st'.nid) : Sat E B st' w Z ρ a := by
  have e : st'.obf = st.obf := funext ho
  exact ⟨by rw [e]; exact h.o, fun t => by rw [hg]; exact h.t t, fun id hid => h.n id (by omega), h.sz, by rw [e]; exact h.d, fun id o ho' => by rw [e] at ho'; have := h.b id o ho'; omega, h.f, fun i hi => by rw [e]; exact h.j i (by rw [← hg]; exact hi)⟩

theorem SatO.world {B : Nat → Prop} {w w' : World} {Z : Nat → Prop} {ρ : Nat → Option Loc} {ob : Nat → Option AO} (h : SatO B w Z ρ ob) (hw : w'.heap = w.heap) : SatO B w' Z ρ ob := by
  have hag : Agr Z w w' := fun b _ => by rw [hw]
  refine ⟨fun b hb => by rw [hw]; exact h.zlt b hb, fun b hb => by rw [hw]; exact h.blt b hb, fun id o L ho hl hn => ?_, h.nul, h.inj⟩
  obtain ⟨h1, h2, h3, h4⟩ := h.obj id o L ho hl hn
  exact ⟨h1, by rw [hw]; exact h2, h3, h4.mono (fun _ h => h) hag (fun _ _ h => h) (by rw [hw])⟩

theorem Sat.world {B : Nat → Prop} {st : St} {w w' : World} {Z : Nat → Prop} {ρ : Nat → Option Loc} {a : Act} (h : Sat E B st w Z ρ a) (hw : w'.heap = w.heap) (hb : ∀ G, Bel G w w') : Sat E B st w' Z ρ a := by
  have hag : Agr Z w w' := fun b _ => by rw [hw]
  refine ⟨h.o.world hw, fun t => Rel.mono (fun _ h => h) hag (fun _ _ h => h) _ _ (h.t t), h.n, h.sz, ?_, h.b, h.f, fun i hi => ?_⟩
  · obtain ⟨M, m1, m2, m3, m4⟩ := h.d
    exact ⟨M, m1.world hw, m2, m3, fun x hx => by
      obtain ⟨D, h1, h2, h3, h4⟩ := m4 x hx
      exact ⟨D, h1, h2, h3, by rw [hw]; exact h4⟩⟩
  · obtain ⟨g0, G, g1, g2, g3, g4, g5⟩ := h.j i hi
    exact ⟨g0, G, E.Jst i w w' G g1 (hb G) (fun b _ => by rw [hw]), g2.world hw, g3, g4, g5⟩

section
variable {ops : Array Oper} {l : List Tr} {st0 : St}

def listedS (listed : Array Bool) (i : Nat) : Bool := listed.getD i false

theorem listedS_set {listed : Array Bool} {i : Nat} (hi : i < listed.size) (j : Nat) : listedS (listed.setIfInBounds i true) j = if i = j then true else listedS listed j := by
  unfold listedS
  by_cases e : i = j
  · subst e
    rw [if_pos rfl]
    simp [Array.getD, hi]
  · rw [if_neg e]
    simp only [Array.getD_eq_getD_getElem?, Array.getElem?_setIfInBounds_ne e]

def left (n : Nat) (S : Nat → Bool) : Nat := ((List.range n).filter fun i => !S i).length

theorem left_lt {n : Nat} {S S' : Nat → Bool} {i : Nat} (hi : i < n) (h : S i = false) (h' : ∀ j, S' j = if i = j then true else S j) : left n S' < left n S := by
  unfold left
  have e : ((List.range n).filter fun j => !S' j) = ((List.range n).filter fun j => !S j).filter fun j => decide (j ≠ i) := by
    rw [List.filter_filter]
    congr 1
    funext j
    rw [h' j]
    by_cases e : i = j
    · subst e; simp
    · rw [if_neg e]
      have : j ≠ i := fun h => e h.symm
      simp [this]
  rw [e]
  refine Nat.lt_of_le_of_ne (List.length_filter_le ..) fun he => ?_
  have := List.filter_eq_self.1 (List.Sublist.eq_of_length List.filter_sublist he) i (List.mem_filter.2 ⟨List.mem_range.2 hi, by simp [h]⟩)
  simp at this

theorem left_zero {n : Nat} {S : Nat → Bool} (h : left n S = 0) {i : Nat} (hi : i < n) : S i = true := by
  cases e : S i with
  | true => rfl
  | false =>
    have := List.length_eq_zero_iff.1 h
    have hm : i ∈ (List.range n).filter fun i => !S i := List.mem_filter.2 ⟨List.mem_range.2 hi, by simp [e]⟩
    rw [this] at hm; cases hm

theorem overlay_all {l : List Tr} {S : Nat → Bool} {st : St} {x : Nat} (h : ∀ i, i < l.length → S i = true) : (overlay S l 0 st).get x = (chainEnd l st).get x ∧ (overlay S l 0 st).obf x = (chainEnd l st).obf x := by
  have key : ∀ (l : List Tr) (i : Nat) (st : St), (∀ j, j < l.length → S (i + j) = true) → overlay S l i st = chainEnd l st := by
    intro l
    induction l with
    | nil => exact fun i st _ => rfl
    | cons u l ih =>
      intro i st hS
      unfold overlay chainEnd
      rw [if_pos (show S i = true from hS 0 (by simp)), ih (i + 1) _ fun j hj => by
        have := hS (j + 1) (by simp; omega)
        rwa [show i + 1 + j = i + (j + 1) by omega]]
  rw [key l 0 st fun j hj => by rw [Nat.zero_add]; exact h j hj]
  exact ⟨rfl, rfl⟩

theorem mem_ready {md : Region.Mode} {listed : Array Bool} (hsz : listed.size = ops.size) {i : Nat} :
    i ∈ Region.ready md ops listed ↔ ∃ h : i < ops.size, listedS listed i = false ∧ ∀ e ∈ (ops[i]).after.toList, Region.binds md e = true → listedS listed e.on = true := by
  unfold Region.ready
  rw [List.mem_filter, List.mem_range]
  constructor
  · rintro ⟨h, h2⟩
    refine ⟨h, ?_⟩
    rw [Bool.and_eq_true] at h2
    obtain ⟨h2, h3⟩ := h2
    have hlt : i < listed.size := by omega
    constructor
    · simp [Array.getD, hlt] at h2
      unfold listedS
      simp [Array.getD, hlt, h2]
    · intro e he hb
      rw [Array.getElem?_eq_getElem h] at h3
      simp only [Option.map_some, Option.getD_some, Array.all_eq_true_iff_forall_mem] at h3
      have := h3 e (Array.mem_toList_iff.1 he)
      rw [hb] at this
      unfold listedS
      simpa using this
  · rintro ⟨h, h2, h3⟩
    refine ⟨h, ?_⟩
    have hlt : i < listed.size := by omega
    rw [Bool.and_eq_true]
    constructor
    · unfold listedS at h2
      simp [Array.getD, hlt] at h2
      simp [Array.getD, hlt, h2]
    · rw [Array.getElem?_eq_getElem h]
      simp only [Option.map_some, Option.getD_some, Array.all_eq_true_iff_forall_mem]
      intro e he
      have := h3 e (Array.mem_toList_iff.2 he)
      unfold listedS at this
      cases hb : Region.binds md e with
      | false => simp
      | true => simp [this hb]

theorem yielded_op {g d : Nat} {og : Oper} {a : Act} {b : Bool} (hg : nthO ops.toList g = some og) (hd : og.dst = some d) (hv : a.tmps.getD d undef = .bool b) : yielded ops a.tmps g = some b := yielded_of hg hd hv

theorem chain_b {all : List Oper} : ∀ {l : List Tr} {st : St} {i id : Nat} {o : AO}, Chain E all l st → (∀ id o, st.obf id = some o → id < st.nid) → (stAt l i st).obf id = some o → id < (stAt l i st).nid := by
  intro l
  induction l with
  | nil => intro st i id o _ hb h; cases i <;> exact hb id o h
  | cons u l ih =>
    intro st i id o hc hb h
    cases i with
    | zero => exact hb id o h
    | succ i =>
      refine ih hc.2 (fun id o ho => ?_) h
      rw [obf_aft] at ho
      show id < st.nid + u.c
      rcases upd_mem ho with hm | ⟨_, ho⟩
      · obtain ⟨_, _, ⟨_, hA, _⟩ | ⟨_, _, _, hwr, _⟩⟩ := hc.1
        · rcases hA.1 id _ hm with ⟨_, o2, h2⟩ | ⟨_, h2⟩
          · have := hb id o2 h2; omega
          · omega
        · rw [hwr] at hm; cases hm
      · have := hb id o ho; omega

/-- What holds between two steps. -/
structure Inv (B : Nat → Prop) (listed : Array Bool) (w : World) (Z : Nat → Prop) (ρ : Nat → Option Loc) (a : Act) : Prop where
  sz : listed.size = ops.size
  down : Down ops.toList (listedS listed)
  sat : Sat E B (overlay (listedS listed) l 0 st0) w Z ρ a
  new : ∀ (i : Nat) (t : Tr), l[i]? = some t → listedS listed i = false → ∀ id, (stAt l i st0).nid ≤ id → id < (stAt l i st0).nid + t.c → ρ id = none

theorem any_sound (hl : l.map Tr.o = ops.toList) (hC : Chain E ops.toList l st0) (hi : indepG ops.toList 0 l = true) (hb0 : ∀ id o, st0.obf id = some o → id < st0.nid) {B : Nat → Prop} {Q : Exit → Act → World → Prop} :
    ∀ (fuel : Nat) (listed : Array Bool) (w : World) (Z : Nat → Prop) (ρ : Nat → Option Loc) (a : Act), left ops.size (listedS listed) ≤ fuel → Inv E (ops := ops) (l := l) (st0 := st0) B listed w Z ρ a →
      (∀ w' Z' ρ' a', Sat E B (chainEnd l st0) w' Z' ρ' a' → Bel B w w' → (∀ b, Z' b → Z b ∨ ¬ B b) → Q .normal a' w') → wpAny E.P .any ops Q fuel listed a w := by
  have hlen : l.length = ops.size := by have := congrArg List.length hl; simpa using this
  have hop : ∀ (i : Nat) (t : Tr), l[i]? = some t → ops.toList[i]? = some t.o := fun i t h => by rw [← hl, List.getElem?_map, h]; rfl
  have hedge : ∀ (i : Nat) (t : Tr), l[i]? = some t → ∀ e ∈ t.o.after.toList, Region.binds .any e = true → e.on < i := fun i t h e he hb => by have := indepG_edges hi i t h e he hb; omega
  -- all are listed: the end
  have fin : ∀ (listed : Array Bool) (w : World) (Z : Nat → Prop) (ρ : Nat → Option Loc) (a : Act), (∀ i, i < ops.size → listedS listed i = true) → Inv E (ops := ops) (l := l) (st0 := st0) B listed w Z ρ a →
      (∀ w' Z' ρ' a', Sat E B (chainEnd l st0) w' Z' ρ' a' → Bel B w w' → (∀ b, Z' b → Z b ∨ ¬ B b) → Q .normal a' w') → Q .normal a w := by
    intro listed w Z ρ a hall hI k
    have := fun x => overlay_all (l := l) (S := listedS listed) (st := st0) (x := x) fun i h => hall i (by omega)
    exact k w Z ρ a (hI.sat.of_eq E (fun t => ((this t).1).symm) (fun id => ((this id).2).symm) (Nat.le_of_eq overlay_nid)) (Bel.refl _ _) fun _ h => .inl h
  -- nothing is ready: all are listed
  have none' : ∀ (listed : Array Bool), listed.size = ops.size → Region.ready .any ops listed = [] → ∀ i, i < ops.size → listedS listed i = true := by
    intro listed hsz hr i
    induction i using Nat.strongRecOn with
    | _ i ih =>
      intro h
      cases e : listedS listed i with
      | true => rfl
      | false =>
        have hm : i ∈ Region.ready .any ops listed := (mem_ready hsz).2 ⟨h, e, fun e he hbd => ?_⟩
        · rw [hr] at hm; cases hm
        · have ht : l[i]? = some l[i] := List.getElem?_eq_getElem (by omega)
          have h1 := hop i _ ht
          rw [Array.getElem?_toList, Array.getElem?_eq_getElem h] at h1
          injection h1 with h1
          have hlt := hedge i _ ht e (by rw [← h1]; exact he) hbd
          exact ih _ hlt (by omega)
  intro fuel
  induction fuel with
  | zero =>
    intro listed w Z ρ a hle hI k
    have hall : ∀ i, i < ops.size → listedS listed i = true := fun i h => left_zero (by omega) h
    refine ⟨?_, fin listed w Z ρ a hall hI k⟩
    cases e : Region.ready .any ops listed with
    | nil => rfl
    | cons i r =>
      have hm : i ∈ Region.ready .any ops listed := by rw [e]; exact List.mem_cons_self ..
      obtain ⟨h1, h2, _⟩ := (mem_ready hI.sz).1 hm
      rw [hall i h1] at h2; cases h2
  | succ fuel ih =>
    intro listed w Z ρ a hle hI k
    refine ⟨fun hr => fin listed w Z ρ a (none' listed hI.sz hr) hI k, fun i hm => ?_⟩
    obtain ⟨hlt, hSi, hpre⟩ := (mem_ready hI.sz).1 hm
    have hlt' : i < l.length := by omega
    obtain ⟨t, ht⟩ : ∃ t, l[i]? = some t := ⟨_, List.getElem?_eq_getElem hlt'⟩
    have hto := hop i t ht
    have htop : ops[i]? = some t.o := by rw [← Array.getElem?_toList]; exact hto
    have htop' : ops[i] = t.o := by rw [Array.getElem?_eq_getElem hlt] at htop; injection htop
    have hitem := chain_at E hC ht
    have hlist := fun j => listedS_set (listed := listed) (i := i) (by rw [hI.sz]; exact hlt) j
    -- listed with i, below
    have hdown' : Down ops.toList (listedS (listed.setIfInBounds i true)) := by
      intro j o hj hSj e he hb
      rw [hlist] at hSj ⊢
      by_cases e1 : i = e.on
      · rw [if_pos e1]
      · rw [if_neg e1]
        by_cases e2 : i = j
        · subst e2
          rw [hto] at hj; cases hj
          exact hpre e (by rw [htop']; exact he) hb
        · rw [if_neg e2] at hSj
          exact hI.down j o hj hSj e he hb
    -- a step that does not lie apart: before, listed; behind, not listed
    have order : ∀ (j : Nat) (s : Tr), l[j]? = some s → i ≠ j → (j < i → apart ops.toList s t = true ∨ listedS listed j = true) ∧ (i < j → apart ops.toList t s = true ∨ listedS listed j = false) := by
      intro j s hj hne
      refine ⟨fun h => ?_, fun h => ?_⟩
      · rcases indepG_spec hi j i s t h hj ht with h1 | h1
        · exact .inl h1
        · refine .inr (reach_spec hI.down 60 _ (by rwa [Nat.zero_add] at h1) fun e he hb => hpre e (by rw [htop']; exact he) hb)
      · rcases indepG_spec hi i j t s h ht hj with h1 | h1
        · exact .inl h1
        · refine .inr ?_
          cases e : listedS listed j with
          | false => rfl
          | true =>
            have := reach_spec hI.down 60 s.o.after.toList (by rwa [Nat.zero_add] at h1) fun e' he hb => hI.down j _ (hop j s hj) e e' he hb
            rw [this] at hSi; cases hSi
    -- what the step looks at is as in the order of the text
    have hget : ∀ x, x ∈ looks ops.toList t.o → (overlay (listedS listed) l 0 st0).get x = (stAt l i st0).get x := by
      intro x hx
      rw [← (overlay_first (l := l) (n := i) (i := 0) (st := st0) (x := x)).1]
      refine overlay_get rfl fun j s hj hd => ?_
      rw [Nat.zero_add]
      have hw : x ∈ writes s.o := by unfold writes; rw [hd]; exact List.mem_singleton.2 rfl
      by_cases e : i = j
      · subst e
        rw [hSi]; simp
      · rcases Nat.lt_or_ge j i with h | h
        · have : listedS listed j = true := (order j s hj e).1 h |>.elim (fun h1 => by
            unfold apart at h1
            split at h1
            · cases h1
            · rename_i h2
              exact absurd hx (disj_spec h2 x hw)) id
          rw [this]; simp; omega
        · have : listedS listed j = false := (order j s hj e).2 (by omega) |>.elim (fun h1 => by
            unfold apart at h1
            split at h1
            · cases h1
            · split at h1
              · cases h1
              · rename_i h2
                exact absurd hx (disj_spec h2 x hw)) id
          rw [this]; simp; omega
    have apartW : ∀ {s u : Tr}, apart ops.toList s u = true → disj (writes s.o) (writes u.o) = true ∧ disj s.W u.W = true ∧ disj s.W u.rd = true ∧ disj u.W s.rd = true := by
      intro s u h1
      unfold apart at h1
      split at h1
      · cases h1
      · split at h1
        · cases h1
        · split at h1
          · cases h1
          · rename_i h2
            split at h1
            · cases h1
            · rename_i h3
              split at h1
              · cases h1
              · rename_i h4
                exact ⟨h2, h3, h4, h1⟩
    have hids : ∀ {s : Tr} {x : Nat}, x ∈ ids s.wr → x ∈ s.W := fun h => List.mem_append_left _ h
    have hobf : ∀ x, x ∈ t.rd → (overlay (listedS listed) l 0 st0).obf x = (stAt l i st0).obf x := by
      intro x hx
      rw [← (overlay_first (l := l) (n := i) (i := 0) (st := st0) (x := x)).2]
      refine overlay_obf rfl fun j s hj hw => ?_
      rw [Nat.zero_add]
      by_cases e : i = j
      · subst e
        rw [hSi]; simp
      · rcases Nat.lt_or_ge j i with h | h
        · have : listedS listed j = true := (order j s hj e).1 h |>.elim (fun h1 => absurd hx (disj_spec (apartW h1).2.2.1 x (hids hw))) id
          rw [this]; simp; omega
        · have : listedS listed j = false := (order j s hj e).2 (by omega) |>.elim (fun h1 => absurd hx (disj_spec (apartW h1).2.2.2 x (hids hw))) id
          rw [this]; simp; omega
    -- and what is known afterwards
    have haft : ∀ x, (overlay (listedS (listed.setIfInBounds i true)) l 0 st0).get x = ((overlay (listedS listed) l 0 st0).after t.o.dst t.r t.wr 0).get x ∧
        (overlay (listedS (listed.setIfInBounds i true)) l 0 st0).obf x = ((overlay (listedS listed) l 0 st0).after t.o.dst t.r t.wr 0).obf x := by
      intro x
      have key : ∀ (l' : List Tr) (n : Nat) (st : St), l'[i - n]? = some t → n ≤ i → (∀ j s, l'[j]? = some s → i < n + j → listedS listed (n + j) = true → (t.o.dst = some x → s.o.dst ≠ some x) ∧ (x ∈ ids t.wr → x ∉ ids s.wr)) →
          (overlay (listedS (listed.setIfInBounds i true)) l' n st).get x = (if t.o.dst = some x then t.r else (overlay (listedS listed) l' n st).get x) ∧
          (overlay (listedS (listed.setIfInBounds i true)) l' n st).obf x = upd (overlay (listedS listed) l' n st).obf t.wr x := by
        intro l'
        induction l' with
        | nil => intro n st h; simp at h
        | cons u l' ih' =>
          intro n st h hn hap
          unfold overlay
          by_cases e : i = n
          · subst e
            simp only [Nat.sub_self, List.getElem?_cons_zero, Option.some.injEq] at h
            subst h
            have e1 : listedS (listed.setIfInBounds i true) i = true := by rw [hlist, if_pos rfl]
            rw [e1, hSi]
            simp only [if_true]
            have h2 : ∀ (a b : St), a.get x = b.get x → a.obf x = b.obf x → (overlay (listedS (listed.setIfInBounds i true)) l' (i + 1) a).get x = (overlay (listedS listed) l' (i + 1) b).get x ∧ (overlay (listedS (listed.setIfInBounds i true)) l' (i + 1) a).obf x = (overlay (listedS listed) l' (i + 1) b).obf x := by
              intro a b ha hb
              exact ⟨overlay_get ha fun j s hj hd => by rw [hlist, if_neg (by omega)], overlay_obf hb fun j s hj hd => by rw [hlist, if_neg (by omega)]⟩
            have quiet : ∀ (a b : St), (u.o.dst = some x → a.get x = b.get x → (overlay (listedS listed) l' (i + 1) a).get x = b.get x) := by
              intro a b hd hab
              have : ∀ (l'' : List Tr) (m : Nat) (a : St), (∀ j s, l''[j]? = some s → listedS listed (m + j) = true → s.o.dst ≠ some x) → (overlay (listedS listed) l'' m a).get x = a.get x := by
                intro l''
                induction l'' with
                | nil => exact fun m a _ => rfl
                | cons v l'' ih2 =>
                  intro m a hq
                  unfold overlay
                  rw [ih2 (m + 1) _ fun j s hj hs => hq (j + 1) s (by simpa using hj) (by rwa [show m + (j + 1) = m + 1 + j by omega])]
                  split
                  · rename_i hS
                    rw [get_aft, if_neg (hq 0 v (by simp) (by simpa using hS))]
                  · rfl
              rw [this l' (i + 1) a fun j s hj hs => (hap (j + 1) s (by simpa using hj) (by omega) (by rwa [show i + (j + 1) = i + 1 + j by omega])).1 hd]
              exact hab
            have quietO : ∀ (a : St), (x ∈ ids u.wr → (overlay (listedS listed) l' (i + 1) a).obf x = a.obf x) := by
              intro a hd
              have : ∀ (l'' : List Tr) (m : Nat) (a : St), (∀ j s, l''[j]? = some s → listedS listed (m + j) = true → x ∉ ids s.wr) → (overlay (listedS listed) l'' m a).obf x = a.obf x := by
                intro l''
                induction l'' with
                | nil => exact fun m a _ => rfl
                | cons v l'' ih2 =>
                  intro m a hq
                  unfold overlay
                  rw [ih2 (m + 1) _ fun j s hj hs => hq (j + 1) s (by simpa using hj) (by rwa [show m + (j + 1) = m + 1 + j by omega])]
                  split
                  · rename_i hS
                    rw [obf_aft, upd_none (hq 0 v (by simp) (by simpa using hS))]
                  · rfl
              exact this l' (i + 1) a fun j s hj hs => (hap (j + 1) s (by simpa using hj) (by omega) (by rwa [show i + (j + 1) = i + 1 + j by omega])).2 hd
            constructor
            · split
              · rename_i hd
                rw [overlay_get (S' := listedS listed) (st' := st.aft u) rfl fun j s hj hd => by rw [hlist, if_neg (by omega)]]
                rw [quiet (st.aft u) (st.aft u) hd rfl, get_aft, if_pos hd]
              · rename_i hd
                exact (overlay_get (by rw [get_aft, if_neg hd]; rfl) fun j s hj hd => by rw [hlist, if_neg (by omega)])
            · by_cases hd : x ∈ ids u.wr
              · rw [overlay_obf (S' := listedS listed) (st' := st.aft u) rfl fun j s hj hd => by rw [hlist, if_neg (by omega)]]
                rw [quietO _ hd, obf_aft]
                exact upd_same (by
                  have := quietO { st with nid := st.nid + u.c } hd
                  exact this.symm)
              · rw [upd_none hd]
                exact (overlay_obf (by rw [obf_aft, upd_none hd]; rfl) fun j s hj hd => by rw [hlist, if_neg (by omega)])
          · have hn' : n + 1 ≤ i := by omega
            rw [hlist, if_neg e]
            refine ih' (n + 1) _ ?_ hn' fun j s hj hlt hs => hap (j + 1) s (by simpa using hj) (by omega) (by rwa [show n + (j + 1) = n + 1 + j by omega])
            rw [show i - n = (i - (n + 1)) + 1 by omega, List.getElem?_cons_succ] at h
            exact h
      have := key l 0 st0 (by simpa using ht) (Nat.zero_le _) fun j s hj hlt hs => by
        rw [Nat.zero_add] at hlt hs
        have hap := (order j s hj (by omega)).2 hlt
        rw [hs] at hap
        have hap := hap.elim id (fun h => by cases h)
        refine ⟨fun h1 h2 => ?_, fun h1 h2 => ?_⟩
        · exact disj_spec (apartW hap).1 x (by unfold writes; rw [h1]; exact List.mem_singleton.2 rfl) (by unfold writes; rw [h2]; exact List.mem_singleton.2 rfl)
        · exact disj_spec (apartW hap).2.1 x (hids h1) (hids h2)
      refine ⟨?_, ?_⟩
      · rw [this.1]
        cases hd : t.o.dst with
        | none => simp [St.get, St.after]
        | some d => rw [get_after]; simp
      · rw [this.2, obf_after]
    have hn0 : (overlay (listedS (listed.setIfInBounds i true)) l 0 st0).nid = (overlay (listedS listed) l 0 st0).nid := by rw [overlay_nid, overlay_nid]
    have hleft : left ops.size (listedS (listed.setIfInBounds i true)) ≤ fuel := by
      have := left_lt (n := ops.size) (i := i) hlt hSi hlist
      omega
    -- the step, its post
    have go : ∀ (w' : World) (Z' : Nat → Prop) (ρ' : Nat → Option Loc) (v : Value), WrOK (overlay (listedS listed) l 0 st0).obf t.wr ρ → (∀ id o, (id, o) ∈ t.wr → id < (overlay (listedS listed) l 0 st0).nid) → (∀ id o, (id, o) ∈ t.wr → ∀ j s, l[j]? = some s → listedS (listed.setIfInBounds i true) j = false → ¬ ((stAt l j st0).nid ≤ id ∧ id < (stAt l j st0).nid + s.c)) →
        dstOK E t.o.dst = true → Post w Z ρ w' Z' ρ' t.wr t.r v → wpAny E.P .any ops Q fuel (listed.setIfInBounds i true) (a.put t.o.dst v) w' := by
      intro w' Z' ρ' v hwr hw2 hfar hd hp
      have hs1 := Sat.step E (c := 0) hI.sat hwr (fun id o hm => by have := hw2 id o hm; omega) hp hd
      have hs2 := hs1.of_eq E (fun x => (haft x).1) (fun x => (haft x).2) (by rw [hn0]; exact Nat.le_refl _)
      refine ih _ w' Z' ρ' _ hleft ⟨by simp [hI.sz], hdown', hs2, fun j s hj hSj id h1 h2 => ?_⟩ fun w'' Z'' ρ'' a'' hs hb hz => k w'' Z'' ρ'' a'' hs ((hI.sat.below E hwr hp).trans hb) fun b hb' => ?_
      · have : ∀ o, (id, o) ∉ t.wr := fun o hm => hfar id o hm j s hj hSj ⟨h1, h2⟩
        rw [hp.rsub id this]
        refine hI.new j s hj ?_ id h1 h2
        rw [hlist] at hSj
        by_cases e : i = j
        · rw [if_pos e] at hSj; cases hSj
        · rwa [if_neg e] at hSj
      · rcases hz b hb' with h | h
        · rcases hp.znew b h with (h | h) | ⟨id, L, hm, hl, hn, rfl⟩
          · exact .inl h
          · exact .inr fun hB => by have := hI.sat.o.blt _ hB; omega
          · rcases hwr id _ hm with h0 | ⟨o', ho⟩
            · rw [h0] at hl; cases hl
            · exact .inr (hI.sat.o.obj id o' L ho hl hn).1
        · exact .inr h
    have hyield : ∀ {g d : Nat} {og : Oper} {want b : Bool}, t.o.guard = some (g, want) → nthO ops.toList g = some og → og.dst = some d → ((stAt l i st0).get d).bool? = some b → yielded ops a.tmps g = some b := by
      intro g d og want b hg hog hdd hb
      have hx : d ∈ looks ops.toList t.o := by unfold looks; rw [hg]; simp only [hog, hdd]; exact List.mem_append_left _ (List.mem_singleton.2 rfl)
      have hrel := hI.sat.t d
      rw [hget d hx] at hrel
      exact yielded_op hog hdd (Rel_bool hb hrel)
    unfold wpOp
    rw [htop]
    simp only
    obtain ⟨hd, hnid, ⟨hsk, hA, hg⟩ | ⟨hsk, hr, hrd, hwr, hc, hg⟩⟩ := hitem
    · have hwant : Region.wanted t.o (yielded ops a.tmps) = true := by
        cases hgd : t.o.guard with
        | none => simp [Region.wanted, hgd]
        | some p =>
          obtain ⟨g, want⟩ := p
          rw [hgd] at hg
          obtain ⟨og, d, h1, h2, h3⟩ := hg
          simp [Region.wanted, hgd, hyield hgd h1 h2 h3]
      rw [if_pos hwant]
      refine .inl ?_
      have hnew := hI.new i t ht hSi
      refine hA.2 B w Z ρ (overlay (listedS listed) l 0 st0).obf a (fun x hx => ?_) (fun id h => hobf id h) hI.sat.o hnew _ _ fun v w' Z' ρ' hp => ?_
      · have := evA_rel E hI.sat x
        cases x with
        | tmp u =>
          have e : (overlay (listedS listed) l 0 st0).get u = (stAt l i st0).get u := hget u (List.mem_append_right _ (mem_tmpsOf (Array.mem_toList_iff.2 hx)))
          show Rel w Z ρ ((stAt l i st0).get u) _
          rw [← e]; exact this
        | const v => exact this
        | global v => exact this
        | func v => exact this
      · refine go w' Z' ρ' v (fun id o hm => ?_) (fun id o hm => ?_) (fun id o hm j s hj hSj hr => ?_) hd hp
        · rcases hA.1 id o hm with ⟨h1, o2, h2⟩ | ⟨h1, h2⟩
          · exact .inr ⟨o2, (hobf id h1).trans h2⟩
          · exact .inl (hnew id h1 h2)
        · rcases hA.1 id o hm with ⟨h1, o2, h2⟩ | ⟨h1, h2⟩
          · exact hI.sat.b id o2 ((hobf id h1).trans h2)
          · have := stAt_nid_le (st := st0) ht
            rw [overlay_nid]; omega
        · have hne : i ≠ j := by
            rintro rfl
            rw [hlist, if_pos rfl] at hSj; cases hSj
          have hSj' : listedS listed j = false := by rwa [hlist, if_neg hne] at hSj
          have hsn : s.nid = (stAt l j st0).nid := (chain_at E hC hj).2.1
          have hin : id ∈ s.W := List.mem_append_right _ (by rw [hsn]; exact mem_news hr.1 hr.2)
          have hit : id ∈ t.W := hids (mem_ids hm)
          rcases Nat.lt_or_ge j i with h | h
          · rcases (order j s hj hne).1 h with h1 | h1
            · exact disj_spec (apartW h1).2.1 id hin hit
            · rw [h1] at hSj'; cases hSj'
          · rcases indepG_spec hi i j t s (by omega) ht hj with h1 | h1
            · exact disj_spec (apartW h1).2.1 id hit hin
            · -- behind, and unlisted: its new ids lie above all that was there in the text's order
              have hge : (stAt l i st0).nid + t.c ≤ (stAt l j st0).nid := by
                have key : ∀ (l' : List Tr) (st : St) (i j : Nat), i < j → l'[i]? = some t → (stAt l' i st).nid + t.c ≤ (stAt l' j st).nid := by
                  intro l'
                  induction l' with
                  | nil => intro st i j _ h; simp at h
                  | cons u l' ih' =>
                    intro st i j hij h
                    cases j with
                    | zero => omega
                    | succ j =>
                      cases i with
                      | zero => simp at h; subst h; exact stAt_nid_ge (l := l') (i := j) (st := st.aft u)
                      | succ i => simp only [List.getElem?_cons_succ] at h; exact ih' (st.aft u) i j (by omega) h
                exact key l st0 i j (by omega) ht
              rcases hA.1 id o hm with ⟨h3, o2, h4⟩ | ⟨h3, h4⟩
              · have hnone := hI.new j s hj hSj' id hr.1 hr.2
                -- bound in the text's order below
                have hlt2 : id < (stAt l i st0).nid := chain_b E hC hb0 h4
                omega
              · omega
    · have hskip : Region.wanted t.o (yielded ops a.tmps) = false := by
        cases hgd : t.o.guard with
        | none => rw [hgd] at hg; exact hg.elim
        | some p =>
          obtain ⟨g, want⟩ := p
          rw [hgd] at hg
          obtain ⟨og, d, h1, h2, h3 | h3⟩ := hg
          · simp [Region.wanted, hgd, hyield hgd h1 h2 h3]
          · have hx : d ∈ looks ops.toList t.o := by unfold looks; rw [hgd]; simp only [h1, h2]; exact List.mem_append_left _ (List.mem_singleton.2 rfl)
            have hrel := hI.sat.t d
            rw [hget d hx, h3] at hrel
            simp [Region.wanted, hgd, yielded_und h1 h2 (Rel_und hrel)]
      rw [if_neg (by rw [hskip]; simp)]
      refine go w Z ρ undef (fun id o hm => ?_) (fun id o hm => ?_) (fun id o hm => ?_) hd (by rw [hwr, hr]; exact Post.pure Rel_undef)
      · rw [hwr] at hm; cases hm
      · rw [hwr] at hm; cases hm
      · rw [hwr] at hm; cases hm

end

end Go.AI

/- Loops, drawn orders and what is known made less: rules. No condition. -/
namespace Go.AI
open Go Go.RowKit
set_option linter.unusedVariables false
variable (E : Env)

theorem V_run (hE : EnvOK E) (n : Nat) {its : List It} {st : St} {Q : Ex → St → Prop} (h : run E (V E) n its st Q) : V E its st Q := run_sound E hE n its st Q h

theorem V_draw (hE : EnvOK E) (hm : E.P.follows .mixedOrders = true) {id : Nat} {ops : Array Oper} {k : List It} {st : St} {Q : Ex → St → Prop}
    (h : runD E ops.toList ops.toList st [] fun st' l => indepG ops.toList 0 l = true ∧ V E k st' Q) : V E (.code (.region id ops true) :: k) st Q := by
  obtain ⟨l, hl, hC, hi, hV⟩ := runD_sound E hE h
  rw [List.reverse_nil, List.nil_append] at hi
  intro B w Z ρ a R hs kk
  show (Code.region id ops true).wp E.P (cont E.P R k) a w
  refine wp_region_any hm ?_
  have hsw : Sat E B st { w with drawn := w.drawn + 1 } Z ρ a := hs.world E rfl (fun G => ⟨rfl, rfl, rfl, Nat.le_refl _, fun _ _ => rfl, Nat.le_succ _⟩)
  have hbw : Bel B w { w with drawn := w.drawn + 1 } := ⟨rfl, rfl, rfl, Nat.le_refl _, fun _ _ => rfl, Nat.le_succ _⟩
  have hlen : l.length = ops.size := by have := congrArg List.length hl; simpa using this
  have hz : ∀ i, listedS (Array.replicate ops.size false) i = false := fun i => by
    unfold listedS
    simp only [Array.getD_eq_getD_getElem?, Array.getElem?_replicate]
    split <;> rfl
  have ho : ∀ x, (overlay (listedS (Array.replicate ops.size false)) l 0 st).get x = st.get x ∧ (overlay (listedS (Array.replicate ops.size false)) l 0 st).obf x = st.obf x := by
    have key : ∀ (l : List Tr) (S : Nat → Bool) (i : Nat) (st : St) (x : Nat), (∀ j, S j = false) → (overlay S l i st).get x = st.get x ∧ (overlay S l i st).obf x = st.obf x := by
      intro l S
      induction l with
      | nil => exact fun i st x _ => ⟨rfl, rfl⟩
      | cons u l ih =>
        intro i st x hS
        unfold overlay
        rw [hS i]
        exact ih (i + 1) _ x hS
    exact fun x => key l _ 0 st x hz
  have hnid : st.nid ≤ (chainEnd l st).nid := by
    have : ∀ (l : List Tr) (st : St), st.nid ≤ (chainEnd l st).nid := by
      intro l
      induction l with
      | nil => exact fun st => Nat.le_refl _
      | cons u l ih => exact fun st => Nat.le_trans (by show st.nid ≤ st.nid + u.c; omega) (ih (st.aft u))
    exact this l st
  refine any_sound E hl hC hi hs.b ops.size _ _ Z ρ a ?_ ⟨by simp, fun i o _ h => (by rw [hz] at h; cases h), hsw.of_eq E (fun t => (ho t).1) (fun id => (ho id).2) (by rw [overlay_nid]; exact hnid), fun i t hi hS id h1 h2 => hsw.n id ?_⟩ ?_
  · exact Nat.le_trans (List.length_filter_le ..) (by simp)
  · exact Nat.le_trans (stAt_nid_ge (l := l) (i := i) (st := st)) h1
  · intro w' Z' ρ' a' hs' hb' hz'
    exact V.chain E hV hs' (hbw.trans hb') hz' kk

/-! ### less is known -/

/-- The zone, grown by objects that are frozen. -/
def Le (st st' : St) : Prop :=
  ∀ (B : Nat → Prop) (w : World) (Z : Nat → Prop) (ρ : Nat → Option Loc) (a : Act), Sat E B st w Z ρ a → ∃ Z' ρ', Sat E B st' w Z' ρ' a ∧ (∀ b, Z b → Z' b) ∧ ∀ b, Z' b → Z b ∨ ¬ B b

theorem Le.refl (st : St) : Le E st st := fun B w Z ρ a h => ⟨Z, ρ, h, fun _ h => h, fun _ h => .inl h⟩

theorem V_weak {its : List It} {st st' : St} {Q : Ex → St → Prop} (hle : Le E st st') (h : V E its st' Q) : V E its st Q := by
  intro B w Z ρ a R hs kk
  obtain ⟨Z', ρ', hs', _, hz⟩ := hle B w Z ρ a hs
  exact V.chain E h hs' (Bel.refl _ _) hz kk

/-- What comes behind a loop, for each of its ends. -/
def Behind (k : List It) (Q : Ex → St → Prop) : Ex → St → Prop
  | .normal, _ => False
  | .ret, st => Q .ret st
  | .exit id, st => match unwindTo id k with
    | some k' => V E k' st Q
    | none => Q (.exit id) st

theorem V_loop {α : Type} {c : Code} {k : List It} {st : St} {Q : Ex → St → Prop} (I : α → St) (pre : α → Prop) (m : α → Nat) (x0 : α) (h0 : pre x0) (hle : Le E st (I x0))
    (step : ∀ x, pre x → V E [.code c] (I x) fun ex st' => match ex with
      | .normal => ∃ y, pre y ∧ m y < m x ∧ Le E st' (I y)
      | ex => Behind E k Q ex st') : V E (.code (.loop c) :: k) st Q := by
  intro B w Z ρ a R hs kk
  show (Code.loop c).wp E.P (cont E.P R k) a w
  obtain ⟨Z0, ρ0, hs0, _, hz0⟩ := hle B w Z ρ a hs
  have key : ∀ (n : Nat) (x : α) (w1 : World) (Z1 : Nat → Prop) (ρ1 : Nat → Option Loc) (a1 : Act), pre x → m x < n → Sat E B (I x) w1 Z1 ρ1 a1 → Bel B w w1 → (∀ b, Z1 b → Z b ∨ ¬ B b) → Code.rounds E.P c (cont E.P R k) n a1 w1 := by
    intro n
    induction n with
    | zero => intro x _ _ _ _ _ h; omega
    | succ n ih =>
      intro x w1 Z1 ρ1 a1 hp hm hs1 hb1 hz1
      have := step x hp B w1 Z1 ρ1 a1 (Exit.then (Code.rounds E.P c (cont E.P R k) n) (cont E.P R k)) hs1 fun ex st' w' Z' ρ' a' hQ hs' hb' hz' => ?_
      · refine wp_mono this fun e a w h => ?_
        exact h
      · have hz2 : ∀ b, Z' b → Z b ∨ ¬ B b := fun b hb => (hz' b hb).elim (hz1 b) .inr
        cases ex with
        | normal =>
          obtain ⟨y, hy, hlt, hle'⟩ := hQ
          obtain ⟨Z2, ρ2, hs2, _, hz3⟩ := hle' B w' Z' ρ' a' hs'
          exact ih y w' Z2 ρ2 a' hy (by omega) hs2 (hb1.trans hb') fun b hb => (hz3 b hb).elim (hz2 b) .inr
        | ret => exact cont_ret k (kk .ret st' w' Z' ρ' a' hQ hs' (hb1.trans hb') hz2)
        | exit id =>
          refine cont_exit k ?_
          have hQ : Behind E k Q (.exit id) st' := hQ
          unfold Behind at hQ
          simp only at hQ
          cases e : unwindTo id k with
          | some k' => rw [e] at hQ; exact V.chain E hQ hs' (hb1.trans hb') hz2 kk
          | none => rw [e] at hQ; exact kk _ st' w' Z' ρ' a' hQ hs' (hb1.trans hb') hz2
  exact wp_loop_rounds (m x0 + 1) (key _ x0 w Z0 ρ0 a h0 (by omega) hs0 (Bel.refl _ _) hz0)

end Go.AI

/- What is known made less, by names: ids renamed, dropped, frozen; nil slices made objects. No condition. -/
namespace Go.AI
open Go Go.RowKit
set_option linter.unusedVariables false
variable (E : Env)

theorem memN_true : ∀ {l : List Nat} {y : Nat}, memN l y = true → y ∈ l
  | [], y, h => by cases h
  | x :: l, y, h => by
    unfold memN at h
    split at h
    · rename_i e
      rw [Nat.eq_of_beq_eq_true e]; exact List.mem_cons_self ..
    · exact List.mem_cons_of_mem _ (memN_true h)

abbrev Ren := List (Nat × Option Nat)

def renρ (σ : Ren) (ρ : Nat → Option Loc) (id : Nat) : Option Loc :=
  match assocO σ id with
  | none => none
  | some none => some ⟨0, 0, 0, true⟩
  | some (some id0) => ρ id0

mutual
def leAV (st : St) (σ : Ren) (fz : List Nat) : AV → AV → Prop
  | .top, _ => True
  | .pv y, x => match x with
    | .pv x => PVle x y
    | .kb b => y = .val (.bool b)
    | .own id off m => memN fz id = true ∧ match st.obf id with
      | some (.arr T k N g) => match y with
        | .rd k' n' g' => k = k' ∧ m = n' ∧ off + m ≤ N ∧ ∀ i, i < m → g (off + i) = g' i
        | _ => False
      | _ => False
    | _ => False
  | .kb b, x => match x with
    | .kb b' => b' = b
    | .pv (.val (.bool b')) => b' = b
    | _ => False
  | .agg l, x => match x with
    | .agg l' => leAVs st σ fz l l'
    | _ => False
  | .tup l, x => match x with
    | .tup l' => leAVs st σ fz l l'
    | _ => False
  | .ptr id i j, x => match x with
    | .ptr id' i' j' => assocO σ id = some (some id') ∧ i' = i ∧ j' = j
    | _ => False
  | .own id off n, x => match x with
    | .own id' off' n' => assocO σ id = some (some id') ∧ off' = off ∧ n' = n
    | .pv (.val (.slice none 0 0)) => assocO σ id = some none ∧ off = 0 ∧ n = 0
    | _ => False
  | .fn f a b, x => match x with
    | .fn f' a' b' => f' = f ∧ leAVs st σ fz a a' ∧ leAVs st σ fz b b'
    | _ => False
  | .map id, x => match x with
    | .map id' => assocO σ id = some (some id')
    | _ => False
  | .emp, x => match x with
    | .emp => True
    | _ => False
  | .nls, x => match x with
    | .nls => True
    | _ => False
  | .ghost n, x => match x with
    | .ghost m => n = m
    | _ => False
def leAVs (st : St) (σ : Ren) (fz : List Nat) : List AV → List AV → Prop
  | [], r => r = []
  | y :: l, r => match r with
    | [] => False
    | x :: r => leAV st σ fz y x ∧ leAVs st σ fz l r
end

section
variable {B : Nat → Prop} {w : World} {Z : Nat → Prop} {ρ : Nat → Option Loc} {st : St} {σ : Ren} {fz : List Nat}

mutual
theorem leAV_sound (hs : SatO B w Z ρ st.obf) : ∀ (y x : AV) (v : Value), leAV st σ fz y x → Rel w Z ρ x v → Rel w (fun b => Z b ∨ ownZ ρ fz b) (renρ σ ρ) y v
  | .top, x, v, h, hv => trivial
  | .ghost _, x, v, h, hv => by unfold Rel; trivial
  | .pv y, x, v, h, hv => by
    unfold leAV at h
    split at h
    · rename_i x'
      unfold Rel at hv ⊢
      exact Rd.mono (fun _ h => .inl h) (fun _ _ => rfl) _ _ (h.sound hv)
    · subst h
      unfold Rel at hv ⊢
      unfold Rd
      exact ⟨hv, by subst hv; rfl⟩
    · rename_i id off m
      obtain ⟨hm, h⟩ := h
      split at h
      · rename_i T k N g eo
        split at h
        · rename_i k' n' g'
          obtain ⟨rfl, rfl, h0, hg⟩ := h
          unfold Rel at hv ⊢
          unfold Rd
          obtain ⟨L, h2, ⟨_, rfl, rfl, _⟩ | ⟨hn, c, rfl, hc, _⟩⟩ := hv
          · exact ⟨none, 0, rfl, Nat.le_refl _, .inl rfl⟩
          · obtain ⟨_, _, _, cs, h6, h7, h8, h9, h10⟩ := hs.obj id (.arr T k N g) L eo h2 hn
            have hmem : id ∈ fz := memN_true hm
            refine ⟨_, c, rfl, hc, .inr ⟨L.b, off * L.k, rfl, .inr ⟨id, L, hmem, h2, hn, rfl⟩, fun i hi => ?_⟩⟩
            rw [← hg i hi]
            obtain ⟨q1, q2⟩ := h10 (off + i) (by omega)
            rw [h7, ← Nat.add_mul]
            exact ⟨q1, RdC.monoO (fun _ h => .inl h) (fun _ _ => rfl) rfl _ _ q2⟩
        · exact h.elim
      · exact h.elim
    · exact h.elim
  | .kb b, x, v, h, hv => by
    unfold leAV at h
    split at h
    · subst h; exact hv
    · subst h
      unfold Rel at hv ⊢
      unfold Rd at hv
      exact hv.1
    · exact h.elim
  | .agg l, x, v, h, hv => by
    unfold leAV at h
    split at h
    · unfold Rel at hv ⊢
      obtain ⟨vs, rfl, hv⟩ := hv
      exact ⟨vs, rfl, leAVs_sound hs l _ _ h hv⟩
    · exact h.elim
  | .tup l, x, v, h, hv => by
    unfold leAV at h
    split at h
    · unfold Rel at hv ⊢
      obtain ⟨vs, rfl, hv⟩ := hv
      exact ⟨vs, rfl, leAVs_sound hs l _ _ h hv⟩
    · exact h.elim
  | .ptr id i j, x, v, h, hv => by
    unfold leAV at h
    split at h
    · obtain ⟨h1, rfl, rfl⟩ := h
      unfold Rel at hv ⊢
      obtain ⟨L, h2, h3⟩ := hv
      exact ⟨L, by unfold renρ; rw [h1]; exact h2, h3⟩
    · exact h.elim
  | .own id off n, x, v, h, hv => by
    unfold leAV at h
    split at h
    · obtain ⟨h1, rfl, rfl⟩ := h
      unfold Rel at hv ⊢
      obtain ⟨L, h2, h3⟩ := hv
      exact ⟨L, by unfold renρ; rw [h1]; exact h2, h3⟩
    · obtain ⟨h1, rfl, rfl⟩ := h
      unfold Rel at hv ⊢
      unfold Rd at hv
      exact ⟨⟨0, 0, 0, true⟩, by unfold renρ; rw [h1], .inl ⟨rfl, hv.1, rfl, rfl⟩⟩
    · exact h.elim
  | .fn f a b, x, v, h, hv => by
    unfold leAV at h
    split at h
    · obtain ⟨rfl, h1, h2⟩ := h
      unfold Rel at hv ⊢
      obtain ⟨vs, us, rfl, h3, h4⟩ := hv
      exact ⟨vs, us, rfl, leAVs_sound hs a _ _ h1 h3, leAVs_sound hs b _ _ h2 h4⟩
    · exact h.elim
  | .map id, x, v, h, hv => by
    unfold leAV at h
    split at h
    · unfold Rel at hv ⊢
      obtain ⟨L, h2, h3⟩ := hv
      exact ⟨L, by unfold renρ; rw [h]; exact h2, h3⟩
    · exact h.elim
  | .emp, x, v, h, hv => by
    unfold leAV at h
    split at h
    · unfold Rel at hv ⊢; exact hv
    · exact h.elim
  | .nls, x, v, h, hv => by
    unfold leAV at h
    split at h
    · unfold Rel at hv ⊢; exact hv
    · exact h.elim
theorem leAVs_sound (hs : SatO B w Z ρ st.obf) : ∀ (l r : List AV) (vs : List Value), leAVs st σ fz l r → RelL w Z ρ r vs → RelL w (fun b => Z b ∨ ownZ ρ fz b) (renρ σ ρ) l vs
  | [], r, vs, h, hv => by
    unfold leAVs at h
    subst h
    unfold RelL at hv ⊢
    exact hv
  | y :: l, r, vs, h, hv => by
    unfold leAVs at h
    split at h
    · exact h.elim
    · unfold RelL at hv ⊢
      obtain ⟨v, vs', rfl, h1, h2⟩ := hv
      exact ⟨v, vs', rfl, leAV_sound hs y _ _ h.1 h1, leAVs_sound hs l _ _ h.2 h2⟩
end
end

def leAO (st : St) (σ : Ren) (fz : List Nat) (y : AO) (x : Option AO) : Prop :=
  match x with
  | some (.mp es) => match y with
    | .mp es' => es = es'
    | _ => False
  | some (.it m n seen) => match y with
    | .it m' n' seen' => assocO σ m' = some (some m) ∧ n = n' ∧ seen = seen'
    | _ => False
  | some (.box c) => match y with
    | .box c' => leAVs st σ fz c' c
    | _ => False
  | some (.raw o) => match y with
    | .raw o' => o = o'
    | _ => False
  | some (.arr T k n g) => match y with
    | .arr T' k' n' g' => T = T' ∧ k = k' ∧ n = n' ∧ ∀ i, i < n → g i = g' i
    | _ => False
  | _ => False

def leTm (st : St) (σ : Ren) (fz : List Nat) : List (Nat × AV) → Prop
  | [] => True
  | (t, y) :: l => leAV st σ fz y (st.get t) ∧ leTm st σ fz l

def leOb (st : St) (σ : Ren) (fz : List Nat) (nid : Nat) : List (Nat × Option AO) → Prop
  | [] => True
  | (id, o) :: l => (match o with
    | none => True
    | some y => Nat.blt id nid = true ∧ match assocO σ id with
      | some (some id0) => leAO st σ fz y (st.obf id0)
      | some none => match y with
        | .arr T k n g => n = 0
        | _ => False
      | none => False) ∧ leOb st σ fz nid l

def srcs : Ren → List Nat
  | [] => []
  | (_, some s) :: l => s :: srcs l
  | (_, none) :: l => srcs l
theorem mem_srcs : ∀ {σ : Ren} {i s : Nat}, (i, some s) ∈ σ → s ∈ srcs σ
  | (j, none) :: l, i, s, h => by
    rcases List.mem_cons.1 h with h | h
    · cases h
    · exact mem_srcs (σ := l) h
  | (j, some r) :: l, i, s, h => by
    rcases List.mem_cons.1 h with h | h
    · cases h; exact List.mem_cons_self ..
    · exact List.mem_cons_of_mem _ (mem_srcs (σ := l) h)

def nodup : List Nat → Bool
  | [] => true
  | x :: l => match memN l x with | true => false | false => nodup l

theorem srcs_inj : ∀ {σ : Ren} {i j s : Nat}, nodup (srcs σ) = true → (i, some s) ∈ σ → (j, some s) ∈ σ → i = j
  | (a, none) :: l, i, j, s, h, h1, h2 => by
    rcases List.mem_cons.1 h1 with h1 | h1
    · cases h1
    · rcases List.mem_cons.1 h2 with h2 | h2
      · cases h2
      · exact srcs_inj (σ := l) h h1 h2
  | (a, some r) :: l, i, j, s, h, h1, h2 => by
    unfold srcs nodup at h
    split at h
    · cases h
    · rename_i e
      rcases List.mem_cons.1 h1 with h1 | h1
      · cases h1
        rcases List.mem_cons.1 h2 with h2 | h2
        · cases h2; rfl
        · exact absurd (mem_srcs h2) (memN_false e)
      · rcases List.mem_cons.1 h2 with h2 | h2
        · cases h2
          exact absurd (mem_srcs h1) (memN_false e)
        · exact srcs_inj (σ := l) h h1 h2

def keysLt (n : Nat) : Ren → Bool
  | [] => true
  | (i, _) :: l => match Nat.blt i n with | true => keysLt n l | false => false
theorem keysLt_spec {n : Nat} : ∀ {σ : Ren} {i : Nat} {s : Option Nat}, keysLt n σ = true → (i, s) ∈ σ → i < n
  | (j, _) :: l, i, s, h, hm => by
    unfold keysLt at h
    split at h
    · rename_i e
      rcases List.mem_cons.1 hm with hm | hm
      · cases hm; exact blt_true e
      · exact keysLt_spec h hm
    · cases h

def live (st : St) : List Nat → Prop
  | [] => True
  | id :: l => (match st.obf id with | some _ => True | none => False) ∧ live st l
theorem live_spec {st : St} : ∀ {l : List Nat} {id : Nat}, live st l → id ∈ l → ∃ o, st.obf id = some o
  | x :: l, id, h, hm => by
    rcases List.mem_cons.1 hm with hm | hm
    · subst hm
      have := h.1
      split at this
      · rename_i o e; exact ⟨o, e⟩
      · exact this.elim
    · exact live_spec h.2 hm

/-- The ids that stay. -/
def pinned : List Nat → Ren → Bool
  | [], _ => true
  | id :: l, σ => match assocO σ id with
    | some (some j) => (match Nat.beq id j with | true => pinned l σ | false => false)
    | _ => false

theorem pinned_spec {σ : Ren} : ∀ {l : List Nat} {id : Nat}, pinned l σ = true → id ∈ l → assocO σ id = some (some id)
  | x :: l, id, h, hm => by
    unfold pinned at h
    split at h
    · rename_i j e
      split at h
      · rename_i e2
        have := Nat.eq_of_beq_eq_true e2
        subst this
        rcases List.mem_cons.1 hm with hm | hm
        · subst hm; exact e
        · exact pinned_spec h hm
      · cases h
    · cases h

def leSt (σ : Ren) (fz : List Nat) (st st' : St) : Prop :=
  ((match pinned E.pin σ with | true => (match nodup (srcs σ) with | true => (match disj fz (srcs σ) with | true => keysLt st'.nid σ | false => false) | false => false) | false => false) = true) ∧
  live st fz ∧ leTm st σ fz st'.tm ∧ leOb st σ fz st'.nid st'.ob

theorem leTm_get {st : St} {σ : Ren} {fz : List Nat} : ∀ {l : List (Nat × AV)}, leTm st σ fz l → ∀ t, leAV st σ fz (assoc .top l t) (st.get t)
  | [], _, t => by simp only [assoc, leAV]
  | (u, y) :: l, h, t => by
    simp only [assoc]
    split
    · rename_i e
      have := Nat.eq_of_beq_eq_true e
      subst this
      exact h.1
    · exact leTm_get h.2 t

theorem leOb_get {st : St} {σ : Ren} {fz : List Nat} {nid : Nat} : ∀ {l : List (Nat × Option AO)}, leOb st σ fz nid l → ∀ {id : Nat} {y : AO}, assoc none l id = some y →
    id < nid ∧ match assocO σ id with
      | some (some id0) => leAO st σ fz y (st.obf id0)
      | some none => match y with
        | .arr T k n g => n = 0
        | _ => False
      | none => False
  | [], _, id, y, h => by cases h
  | (u, o) :: l, h, id, y, he => by
    simp only [assoc] at he
    split at he
    · rename_i e
      have := Nat.eq_of_beq_eq_true e
      subst this
      subst he
      exact ⟨blt_true h.1.1, h.1.2⟩
    · exact leOb_get h.2 he

theorem leSt_sat {st st' : St} {σ : Ren} {fz : List Nat} (h : leSt E σ fz st st') {B : Nat → Prop} {w : World} {Z : Nat → Prop} {ρ : Nat → Option Loc} {a : Act} (hs : Sat E B st w Z ρ a) :
    Sat E B st' w (fun b => Z b ∨ ownZ ρ fz b) (renρ σ ρ) a ∧ ∀ b, (Z b ∨ ownZ ρ fz b) → Z b ∨ ¬ B b := by
  obtain ⟨hc, hlive, htm, hob⟩ := h
  have hpn : pinned E.pin σ = true := by
    cases e : pinned E.pin σ with
    | true => rfl
    | false => rw [e] at hc; cases hc
  rw [hpn] at hc
  dsimp only at hc
  split at hc
  · rename_i h1
    split at hc
    · rename_i h2
      have h3 := hc
      have objOf : ∀ id o L, st'.obf id = some o → renρ σ ρ id = some L → L.nil = false → ∃ id0 o0, (id, some id0) ∈ σ ∧ st.obf id0 = some o0 ∧ ρ id0 = some L ∧ leAO st σ fz o (some o0) := by
        intro id o L ho hl hn
        have := (leOb_get hob ho).2
        unfold renρ at hl
        split at this
        · rename_i id0 e
          rw [e] at hl
          cases eo : st.obf id0 with
          | none => rw [eo] at this; exact this.elim
          | some o0 => exact ⟨id0, o0, assocO_mem e, eo, hl, eo ▸ this⟩
        · rename_i e
          rw [e] at hl
          cases hl; cases hn
        · exact this.elim
      have hO : ∀ G, SatO G w Z ρ st.obf → SatO G w (fun b => Z b ∨ ownZ ρ fz b) (renρ σ ρ) st'.obf := by
        intro G hso
        refine ⟨fun b hb => ?_, hso.blt, fun id o L ho hl hn => ?_, fun id o L ho hl hn => ?_, fun id id' o o' L L' ho ho' hl hl' hn hn' e => ?_⟩
        · rcases hb with hb | ⟨id, L, q1, q2, q3, rfl⟩
          · exact hso.zlt b hb
          · obtain ⟨o, ho⟩ := live_spec hlive q1
            exact (hso.obj id o L ho q2 q3).2.1
        · obtain ⟨id0, o0, m1, m2, m3, m4⟩ := objOf id o L ho hl hn
          obtain ⟨g1, g2, g3, g4⟩ := hso.obj id0 o0 L m2 m3 hn
          refine ⟨g1, g2, fun hz => ?_, ?_⟩
          · rcases hz with hz | ⟨id1, L1, q1, q2, q3, q4⟩
            · exact g3 hz
            · obtain ⟨o1, ho1⟩ := live_spec hlive q1
              have := hso.inj id1 id0 o1 o0 L1 L ho1 m2 q2 m3 q3 hn q4
              subst this
              exact disj_spec h2 id1 q1 (mem_srcs m1)
          · cases o0 with
            | box c =>
              cases o with
              | box c' =>
                obtain ⟨cs, T, g5, g6, g7, g8, g9⟩ := g4
                have hr := leAVs_sound hso c' c _ m4 g8
                exact ⟨cs, T, g5, by have := hr.length; have := g8.length; omega, g7, hr, g9⟩
              | arr => exact m4.elim
              | mp => exact m4.elim
              | it => exact m4.elim
              | raw => exact m4.elim
            | arr T k n g =>
              cases o with
              | arr T' k' n' g' =>
                obtain ⟨rfl, rfl, rfl, hg⟩ := m4
                obtain ⟨cs, g5, g6, g7, g8, g9⟩ := g4
                refine ⟨cs, g5, g6, g7, g8, fun i hi => ?_⟩
                rw [← hg i hi]
                exact ⟨(g9 i hi).1, RdC.monoO (fun _ h => .inl h) (fun _ _ => rfl) rfl _ _ (g9 i hi).2⟩
              | box => exact m4.elim
              | mp => exact m4.elim
              | it => exact m4.elim
              | raw => exact m4.elim
            | mp es =>
              cases o with
              | mp es' =>
                have m4 : es = es' := m4
                subst m4
                exact g4
              | arr => exact m4.elim
              | box => exact m4.elim
              | it => exact m4.elim
              | raw => exact m4.elim
            | it m n seen =>
              cases o with
              | it m' n' seen' =>
                obtain ⟨e1, rfl, rfl⟩ := m4
                obtain ⟨Lm, g5, g6, g7⟩ := g4
                exact ⟨Lm, by unfold renρ; rw [e1]; exact g5, g6, g7⟩
              | arr => exact m4.elim
              | box => exact m4.elim
              | mp => exact m4.elim
              | raw => exact m4.elim
            | raw oo =>
              cases o with
              | raw oo' =>
                have m4 : oo = oo' := m4
                subst m4
                exact g4
              | arr => exact m4.elim
              | box => exact m4.elim
              | mp => exact m4.elim
              | it => exact m4.elim
        · have := (leOb_get hob ho).2
          unfold renρ at hl
          split at this
          · rename_i id0 e
            rw [e] at hl
            cases eo : st.obf id0 with
            | none => rw [eo] at this; exact this.elim
            | some o0 =>
              obtain ⟨T, k, g, rfl⟩ := hso.nul id0 o0 L eo hl hn
              rw [eo] at this
              cases o with
              | arr T' k' n' g' =>
                obtain ⟨rfl, rfl, rfl, _⟩ := this
                exact ⟨_, _, _, rfl⟩
              | box => exact this.elim
              | mp => exact this.elim
              | it => exact this.elim
              | raw => exact this.elim
          · split at this
            · subst this; exact ⟨_, _, _, rfl⟩
            · exact this.elim
          · exact this.elim
        · obtain ⟨i0, o0, m1, m2, m3, _⟩ := objOf id o L ho hl hn
          obtain ⟨i1, o1, k1, k2, k3, _⟩ := objOf id' o' L' ho' hl' hn'
          have := hso.inj i0 i1 o0 o1 L L' m2 k2 m3 k3 hn hn' e
          subst this
          exact srcs_inj h1 m1 k1
      have hap : ∀ G, SatO G w Z ρ st.obf → (∀ b, Z b → ¬ G b) → ∀ b, (Z b ∨ ownZ ρ fz b) → ¬ G b := by
        intro G hso hz b hb
        rcases hb with hb | ⟨id, L, q1, q2, q3, rfl⟩
        · exact hz b hb
        · obtain ⟨o, ho⟩ := live_spec hlive q1
          exact (hso.obj id o L ho q2 q3).1
      refine ⟨⟨hO B hs.o, fun t => ?_, fun id hid => ?_, hs.sz, ?_, fun id o ho => ?_, fun id hp => ?_, fun i hi => ?_⟩, fun b hb => ?_⟩
      · exact leAV_sound hs.o _ _ _ (leTm_get htm t) (hs.t t)
      · unfold renρ
        cases e : assocO σ id with
        | none => rfl
        | some s => have := keysLt_spec h3 (assocO_mem e); omega
      · obtain ⟨M, m1, m2, m3⟩ := hs.d
        exact ⟨M, hO M m1, hap M m1 m2, m3⟩
      · exact (leOb_get hob ho).1
      · unfold renρ
        rw [pinned_spec hpn hp]
        exact hs.f id hp
      · have h5 := leTm_get htm E.nt
        have hi : assoc .top st'.tm E.nt = .ghost i := hi
        rw [hi] at h5
        unfold leAV at h5
        split at h5
        · rename_i m e
          subst h5
          obtain ⟨g0, G, g1, g2, g3, g4, g5⟩ := hs.j _ e
          exact ⟨g0, G, g1, hO G g2, hap G g2 g3, g4, fun b hb => .inl (g5 b hb)⟩
        · exact h5.elim
      · rcases hb with hb | ⟨id, L, q1, q2, q3, rfl⟩
        · exact .inl hb
        · obtain ⟨o, ho⟩ := live_spec hlive q1
          exact .inr (hs.o.obj id o L ho q2 q3).1
    · cases hc
  · cases hc

theorem Le_of {st st' : St} (σ : Ren) (fz : List Nat) (h : leSt E σ fz st st') : Le E st st' := fun B w Z ρ a hs =>
  have := leSt_sat E h hs
  ⟨_, _, this.1, fun _ h => .inl h, this.2⟩

end Go.AI

/- A loop of a known number of rounds; the frame of a contract's proof. No condition. -/
namespace Go.AI
open Go Go.RowKit
set_option linter.unusedVariables false
variable (E : Env)

def VR (c : Code) (k : List It) (Q : Ex → St → Prop) : Nat → St → Prop
  | 0, _ => False
  | n + 1, st => V E [.code c] st fun ex st' => match ex with
    | .normal => VR c k Q n st'
    | ex => Behind E k Q ex st'

theorem V_rounds (n : Nat) {c : Code} {k : List It} {st : St} {Q : Ex → St → Prop} (h : VR E c k Q n st) : V E (.code (.loop c) :: k) st Q := by
  intro B w Z ρ a R hs kk
  show (Code.loop c).wp E.P (cont E.P R k) a w
  have key : ∀ (n : Nat) (st1 : St) (w1 : World) (Z1 : Nat → Prop) (ρ1 : Nat → Option Loc) (a1 : Act), VR E c k Q n st1 → Sat E B st1 w1 Z1 ρ1 a1 → Bel B w w1 → (∀ b, Z1 b → Z b ∨ ¬ B b) → Code.rounds E.P c (cont E.P R k) n a1 w1 := by
    intro n
    induction n with
    | zero => intro st1 _ _ _ _ h; exact h.elim
    | succ n ih =>
      intro st1 w1 Z1 ρ1 a1 hV hs1 hb1 hz1
      have := hV B w1 Z1 ρ1 a1 (Exit.then (Code.rounds E.P c (cont E.P R k) n) (cont E.P R k)) hs1 fun ex st' w' Z' ρ' a' hQ hs' hb' hz' => ?_
      · refine wp_mono this fun e a w h => ?_
        exact h
      · have hz2 : ∀ b, Z' b → Z b ∨ ¬ B b := fun b hb => (hz' b hb).elim (hz1 b) .inr
        cases ex with
        | normal => exact ih st' w' Z' ρ' a' hQ hs' (hb1.trans hb') hz2
        | ret => exact cont_ret k (kk .ret st' w' Z' ρ' a' hQ hs' (hb1.trans hb') hz2)
        | exit id =>
          refine cont_exit k ?_
          have hQ : Behind E k Q (.exit id) st' := hQ
          unfold Behind at hQ
          simp only at hQ
          cases e : unwindTo id k with
          | some k' => rw [e] at hQ; exact V.chain E hQ hs' (hb1.trans hb') hz2 kk
          | none => rw [e] at hQ; exact kk _ st' w' Z' ρ' a' hQ hs' (hb1.trans hb') hz2
  exact wp_loop_rounds n (key n st w Z ρ a h hs (Bel.refl _ _) fun _ h => .inl h)

theorem wrap64 {x : Int} (h : -9223372036854775808 ≤ x ∧ x ≤ 9223372036854775807) : IntKind.i64.wrap x = x := by
  rw [IntKind.wrap_i64]; omega

/-- A sum in bounds. -/
theorem Ar.ok {x : Int} {K : Int → Prop} (h : -9223372036854775808 ≤ x ∧ x ≤ 9223372036854775807) (k : K x) : Ar (IntKind.i64.wrap x) K := ⟨x, wrap64 h, k⟩
theorem Ar.nat {x : Int} (r : Nat) {K : Int → Prop} (h : -9223372036854775808 ≤ x ∧ x ≤ 9223372036854775807) (h2 : x = r) (k : K r) : Ar (IntKind.i64.wrap x) K := ⟨r, by rw [wrap64 h, h2], k⟩

end Go.AI

/- Contracts of functions that give back objects that they made. No condition. -/
namespace Go.AI
open Go Go.RowKit
set_option linter.unusedVariables false
variable (E : Env)

def AV.isId : AV → Nat → Bool
  | .map i, id => Nat.beq i id
  | .own i _ _, id => Nat.beq i id
  | .ptr i _ _, id => Nat.beq i id
  | _, _ => false

def someId (id : Nat) : List AV → Bool
  | [] => false
  | x :: l => match x.isId id with | true => true | false => someId id l

def wrIn (n c : Nat) (r : List AV) : List (Nat × Option AO) → Bool
  | [] => true
  | (id, _) :: l => match Nat.ble n id with
    | true => (match Nat.blt id (n + c) with
      | true => (match someId id r with
        | true => wrIn n c r l
        | false => false)
      | false => false)
    | false => false

def keysIn (wr : List Nat) : Ren → Bool
  | [] => true
  | (i, _) :: l => match memN wr i with | true => keysIn wr l | false => false

theorem wrIn_spec {n c : Nat} {r : List AV} : ∀ {wr : List (Nat × Option AO)}, wrIn n c r wr = true → ∀ {id : Nat} {o : Option AO}, (id, o) ∈ wr → n ≤ id ∧ id < n + c ∧ someId id r = true
  | (i, x) :: l, h, id, o, hm => by
    unfold wrIn at h
    split at h
    · rename_i h1
      split at h
      · rename_i h2
        split at h
        · rename_i h3
          rcases List.mem_cons.1 hm with hm | hm
          · cases hm; exact ⟨Nat.le_of_ble_eq_true h1, blt_true h2, h3⟩
          · exact wrIn_spec h hm
        · cases h
      · cases h
    · cases h

theorem keysIn_spec {wr : List Nat} : ∀ {σ : Ren}, keysIn wr σ = true → ∀ {i : Nat} {s : Option Nat}, (i, s) ∈ σ → i ∈ wr
  | (j, _) :: l, h, i, s, hm => by
    unfold keysIn at h
    split at h
    · rename_i h1
      rcases List.mem_cons.1 hm with hm | hm
      · cases hm; exact memN_true h1
      · exact keysIn_spec h hm
    · cases h

theorem isId_spec {w : World} {Z : Nat → Prop} {ρ : Nat → Option Loc} {id : Nat} : ∀ {l : List AV} {vs : List Value}, someId id l = true → RelL w Z ρ l vs → ∃ L, ρ id = some L
  | x :: l, vs, h, hr => by
    unfold RelL at hr
    obtain ⟨v, vs', rfl, h1, h2⟩ := hr
    unfold someId at h
    split at h
    · rename_i e
      cases x with
      | map i => have := Nat.eq_of_beq_eq_true e; subst this; unfold Rel at h1; obtain ⟨L, h1, _⟩ := h1; exact ⟨L, h1⟩
      | own i a b => have := Nat.eq_of_beq_eq_true e; subst this; unfold Rel at h1; obtain ⟨L, h1, _⟩ := h1; exact ⟨L, h1⟩
      | ptr i a b => have := Nat.eq_of_beq_eq_true e; subst this; unfold Rel at h1; obtain ⟨L, h1, _⟩ := h1; exact ⟨L, h1⟩
      | _ => cases e
    · exact isId_spec h h2

theorem assoc_mem {wr : List (Nat × Option AO)} (hn : nodup (ids wr) = true) : ∀ {id : Nat} {o : Option AO}, (id, o) ∈ wr → assoc none wr id = o := by
  induction wr with
  | nil => intro id o h; cases h
  | cons p l ih =>
    obtain ⟨i, x⟩ := p
    intro id o h
    unfold ids nodup at hn
    split at hn
    · cases hn
    · rename_i e
      simp only [assoc]
      rcases List.mem_cons.1 h with h | h
      · cases h
        have : Nat.beq i i = true := Nat.beq_refl i
        rw [this]
      · have hne : i ≠ id := by rintro rfl; exact memN_false e (mem_ids h)
        have : Nat.beq i id = false := by rw [Bool.eq_false_iff]; intro h'; exact hne (Nat.eq_of_beq_eq_true h')
        rw [this]
        exact ih hn h

/-- How a function ends that gives back objects of its own. -/
def RetN (rs : List ResultVar) (r : List AV) (n c : Nat) (wr : List (Nat × Option AO)) (ex : Ex) (st : St) : Prop :=
  match ex with
  | .exit _ => False
  | _ => resA E st rs fun l => Out (∃ σ fz, keysIn (ids wr) σ = true ∧ leSt E σ fz st ⟨[], wr, n + c⟩ ∧ leAVs st σ fz r l)

theorem specN_of_V {P : Program} {f : Nat} {fn : Func} {body : Code} {rs : List ResultVar} {args r : List AV} {n c : Nat} {wr : List (Nat × Option AO)} (hE : EnvOK E) (hpin : E.pin = []) (hP : E.P = P) (hf : P.funcs[f]? = some fn) (hb : fn.body = some body) (hnt : fn.ntmps = E.nt) (hrs : fn.results = rs.toArray)
    (hargs : args.length ≤ E.nt) (hen : ∀ args w, (callFunc f args).run P w = .ok (.enter f args) w) (hwr : wrIn n c r wr = true) (hnd : nodup (ids wr) = true) (h : V E [.code body] (St.init args) (RetN E rs r n c wr)) : SpecN P f args n (tupA r) wr c := by
  subst hP
  refine ⟨hen, fun id o hm => ⟨(wrIn_spec hwr hm).1, (wrIn_spec hwr hm).2.1⟩, fun w Z vs hz hrel => ?_⟩
  refine calls_of_sat hf hb ?_
  have hl := hrel.length
  have hs := sat_init E hz hrel (nt := fn.ntmps) (by omega) hnt.symm hpin
  refine wp_mono (h _ w Z noρ _ (bodyPostM Fence.wide 1 E.P fn (NPost w Z (tupA r) wr)) hs fun ex st' w1 Z' ρ' a1 hQ hs1 hb1 hz' => ?_) fun e a w h => h
  obtain ⟨hex, hres⟩ : (match ex with | .exit _ => False | _ => True) ∧ resA E st' rs fun l => Out (∃ σ fz, keysIn (ids wr) σ = true ∧ leSt E σ fz st' ⟨[], wr, n + c⟩ ∧ leAVs st' σ fz r l) := by
    cases ex with
    | exit id => exact hQ.elim
    | normal => exact ⟨trivial, hQ⟩
    | ret => exact ⟨trivial, hQ⟩
  obtain ⟨l, ⟨⟨σ, fz, hk, hle, hlv⟩⟩, hrun⟩ := results_run E hE hrs hres
  obtain ⟨w', hb2, hs', hleave⟩ := hs1.shut E
  have hb' := hb1.trans hb2
  obtain ⟨v, h1, h2⟩ := hrun hs'
  obtain ⟨hs2, hz2⟩ := leSt_sat E hle hs'
  -- the zone, grown by what was there
  have hzf : ∀ b, (Z b ∨ (Z' b ∨ ownZ ρ' fz b)) → Z b ∨ (w.heap.size ≤ b ∧ b < w'.heap.size) := by
    intro b hb2
    rcases hb2 with hb2 | hb2
    · exact .inl hb2
    · have hlt := hs2.o.zlt b hb2
      rcases hz2 b hb2 with h | h
      · rcases hz' b h with h | h
        · exact .inl h
        · exact .inr ⟨Nat.le_of_not_lt h, hlt⟩
      · exact .inr ⟨Nat.le_of_not_lt h, hlt⟩
  have hrelL : RelL w' (fun b => Z b ∨ (Z' b ∨ ownZ ρ' fz b)) (renρ σ ρ') r (match l, v with | [_], v => [v] | _, .tuple vs => vs.toList | _, _ => []) ∧ Rel w' (fun b => Z b ∨ (Z' b ∨ ownZ ρ' fz b)) (renρ σ ρ') (tupA r) v := by
    have conv : ∀ us, RelL w' Z' ρ' l us → RelL w' (fun b => Z b ∨ (Z' b ∨ ownZ ρ' fz b)) (renρ σ ρ') r us := fun us hus =>
      RelL.mono (fun b h => .inr h) (fun _ _ => rfl) (fun _ _ h => h) _ _ (leAVs_sound hs'.o r l us hlv hus)
    match l, h2, conv with
    | [x], h2, conv =>
      have hr := conv [v] (by unfold RelL; exact ⟨v, [], rfl, h2, by simp [RelL]⟩)
      have hlr := hr.length
      refine ⟨hr, ?_⟩
      match r, hlr, hr with
      | [y], _, hr =>
        unfold RelL at hr
        obtain ⟨v', vs', e, h3, _⟩ := hr
        cases e
        exact h3
    | [], h2, conv =>
      unfold tupA Rel at h2
      obtain ⟨us, rfl, h3⟩ := h2
      have hr := conv _ h3
      have hlr := hr.length
      have hl3 := h3.length
      refine ⟨hr, ?_⟩
      match r, hlr, hr with
      | [], _, hr => unfold tupA Rel; exact ⟨us, rfl, hr⟩
      | _ :: _, hlr, _ => simp at hlr hl3; omega
    | x :: x' :: l, h2, conv =>
      unfold tupA Rel at h2
      obtain ⟨us, rfl, h3⟩ := h2
      have hr := conv _ h3
      have hlr := hr.length
      have hl3 := h3.length
      refine ⟨hr, ?_⟩
      match r, hlr, hr with
      | [], hlr, _ => simp at hlr hl3; omega
      | [_], hlr, _ => simp at hlr hl3; omega
      | y :: y' :: r, _, hr => unfold tupA Rel; exact ⟨us, rfl, hr⟩
  have hsatO : SatO (lts w.heap.size) w' (fun b => Z b ∨ (Z' b ∨ ownZ ρ' fz b)) (renρ σ ρ') (assoc none wr) := by
    refine ⟨fun b hb2 => ?_, hs2.o.blt, fun id o L ho hl hn => ?_, hs2.o.nul, hs2.o.inj⟩
    · rcases hb2 with hb2 | hb2
      · have := hz b hb2; have := hb'.size; omega
      · exact hs2.o.zlt b hb2
    · obtain ⟨g1, g2, g3, g4⟩ := hs2.o.obj id o L ho hl hn
      refine ⟨g1, g2, fun hb2 => ?_, g4.mono (fun _ h => .inr h) (fun _ _ => rfl) (fun _ _ h => h) rfl⟩
      rcases hb2 with hb2 | hb2
      · exact g1 (hz _ hb2)
      · exact g3 hb2
  have fin : NPost w Z (tupA r) wr (.returned v) w' := by
    refine ⟨v, _, _, rfl, hb', fun b h => .inl h, hzf, hrelL.2, hsatO, fun id L h => ?_, fun id o hm => ⟨assoc_mem hnd hm, isId_spec (wrIn_spec hwr hm).2.2 hrelL.1⟩⟩
    unfold renρ at h
    cases e : assocO σ id with
    | none => rw [e] at h; cases h
    | some s => exact mem_of_ids (keysIn_spec hk (assocO_mem e))
  cases ex with
  | normal => exact hleave ⟨v, h1, fin⟩
  | ret => exact hleave ⟨v, h1, fin⟩
  | exit id => exact hex.elim

end Go.AI

/- A step of an iterator over a map: whichever entry comes. No condition. -/
namespace Go.AI
open Go Go.RowKit
set_option linter.unusedVariables false
variable (E : Env)

theorem leftOf_mem {es : MpT} {seen : List Nat} {e : MapEntry} (h : e ∈ (leftOf (mkM 0 es).toArray seen.reverse.toArray).toList) : e ∈ mkM 0 es ∧ e.born ∉ seen := by
  unfold leftOf at h
  simp at h
  exact ⟨h.1, h.2⟩

theorem mkM_index {es : MpT} {e : MapEntry} (h : e ∈ mkM 0 es) : e.born < es.length ∧ (mkM 0 es)[e.born]? = some e := by
  obtain ⟨j, hj⟩ := List.getElem?_of_mem h
  have hlt : j < es.length := by
    have := (List.getElem?_eq_some_iff.1 hj).1
    rwa [mkM_length] at this
  have hk := mkM_get (es := es) (i := 0) (j := j) (k := es[j].1) (v := es[j].2) (by simp [hlt])
  rw [hj] at hk
  cases hk
  rw [Nat.zero_add]
  exact ⟨hlt, by rw [hj, Nat.zero_add]⟩

theorem V_next (hE : EnvOK E) {all : Array Oper} {os : List Oper} {o : Oper} {k : List It} {st : St} {Q : Ex → St → Prop} {x : Operand} {d iid mid n : Nat} {seen : List Nat} {es : MpT}
    (ho : o.op = .next x false) (hg : o.guard = none) (hd : o.dst = some d) (hdn : dstOK E (some d) = true) (hx : evA st x = .ptr iid 0 0) (hi : st.obf iid = some (.it mid n seen)) (hm : st.obf mid = some (.mp es)) (hn : n = es.length)
    (step : ∀ j, j < es.length → j ∉ seen → V E (.ops all os :: k) (st.after (some d) (.tup [.kb true, .top, .top]) [(iid, some (.it mid n (j :: seen)))] 0) Q)
    (stop : (∀ j, j < es.length → j ∈ seen) → V E (.ops all os :: k) (st.after (some d) (.tup [.kb false]) [] 0) Q) : V E (.ops all (o :: os) :: k) st Q := by
  subst hn
  intro B w Z ρ a R hs kk
  show wpL E.P all (cont E.P R k) (o :: os) a w
  unfold wpL
  rw [if_pos (by simp [Region.wanted, hg])]
  have hxr := evA_rel E hs x
  rw [hx] at hxr
  obtain ⟨L, Lm, q1, q2, q3, q4, q5, q6, q7⟩ := it_at hs.o hi hm hxr
  have hold : ∀ e ∈ (mkM 0 es).toArray.toList, e.born < es.length := fun e he => (mkM_index (by simpa using he)).1
  rcases run_next_at (P := E.P) w o.type L.b Lm.b es.length es.length seen.reverse.toArray (mkM 0 es).toArray es.length q6 q7 hold (Nat.le_refl _) with ⟨h0, hrun⟩ | ⟨e, he, w1, hw1, hrun⟩
  · refine .inl (wp_value (w' := w) (v := .tuple #[.bool false]) ?_ ?_)
    · unfold execOp
      simp only [ho, q3]
      rw [Sem.run_bind, hrun]
      rfl
    · have hs2 : Sat E B (st.after (some d) (.tup [.kb false]) [] 0) w Z ρ (a.put (some d) (.tuple #[.bool false])) :=
        Sat.step E hs (fun _ _ h => (by cases h)) (fun _ _ h => (by cases h)) (Post.pure (by unfold Rel; exact ⟨_, rfl, by simp [RelL, Rel]⟩)) hdn
      rw [hd]
      refine V.chain E (stop fun j hj => ?_) hs2 (Bel.refl _ _) (fun _ h => .inl h) kk
      have hk := mkM_get (es := es) (i := 0) (j := j) (k := es[j].1) (v := es[j].2) (by simp [hj])
      rw [Nat.zero_add] at hk
      exact Classical.byContradiction fun hns => by
        have hmem : (⟨kV es[j].1, kV es[j].2, 0 + j⟩ : MapEntry) ∈ (leftOf (mkM 0 es).toArray seen.reverse.toArray).toList := by
          unfold leftOf
          simp
          exact ⟨List.mem_of_getElem? hk, by simpa using hns⟩
        have : (leftOf (mkM 0 es).toArray seen.reverse.toArray).toList = [] := by
          have : (leftOf (mkM 0 es).toArray seen.reverse.toArray) = #[] := Array.eq_empty_of_size_eq_zero h0
          rw [this]
        rw [this] at hmem
        cases hmem
  · obtain ⟨hmem, hns⟩ := leftOf_mem he
    obtain ⟨hlt, hget⟩ := mkM_index hmem
    have hsw : Sat E B st w1 Z ρ a := by
      rcases hw1 with rfl | rfl
      · exact hs
      · exact hs.world E rfl (fun G => ⟨rfl, rfl, rfl, Nat.le_refl _, fun _ _ => rfl, Nat.le_succ _⟩)
    have hbw : Bel B w w1 := by
      rcases hw1 with rfl | rfl
      · exact Bel.refl _ _
      · exact ⟨rfl, rfl, rfl, Nat.le_refl _, fun _ _ => rfl, Nat.le_succ _⟩
    refine .inl (wp_value (w' := setO w1 L.b (.mapIter (some Lm.b) es.length (seen.reverse.toArray.push e.born) es.length)) (v := .tuple #[.bool true, e.key, e.val]) ?_ ?_)
    · unfold execOp
      simp only [ho, q3]
      rw [Sem.run_bind, hrun]
      rfl
    · have hltL := (hsw.o.obj iid _ L hi q1 q2).2.1
      have hp := post_setO (obj' := .it mid es.length (e.born :: seen)) (x := .mapIter (some Lm.b) es.length (seen.reverse.toArray.push e.born) es.length) (r := .tup [.kb true, .top, .top]) (v := .tuple #[.bool true, e.key, e.val]) hsw.o hi q1 q2
        (fun _ => ⟨Lm, q4, q5, by rw [setO_self _ _ _ hltL]; simp⟩) (fun _ => by
          unfold Rel
          refine ⟨_, rfl, ?_⟩
          simp only [RelL]
          exact ⟨_, _, rfl, by unfold Rel; rfl, _, _, rfl, trivial, _, _, rfl, trivial, rfl⟩)
      have hwr : WrOK st.obf [(iid, some (.it mid es.length (e.born :: seen)))] ρ := fun id o' hm' => by
        simp only [List.mem_singleton, Prod.mk.injEq] at hm'
        rw [hm'.1]
        exact .inr ⟨_, hi⟩
      have hs2 := Sat.step E (d := some d) (c := 0) hsw hwr (fun id o' hm' => by
        simp only [List.mem_singleton, Prod.mk.injEq] at hm'
        rw [hm'.1]
        have := hs.b iid _ hi
        omega) hp hdn
      rw [hd]
      exact V.chain E (step e.born hlt hns) hs2 (hbw.trans (hsw.below E hwr hp)) (fun b hb => .inl hb) kk

/-- A slice of no elements: nil, or not. -/
theorem V_nil {its : List It} {st : St} {Q : Ex → St → Prop} (t : Nat) {k : Nat} {g : Nat → List PV} (hx : st.get t = .pv (.rd k 0 g))
    (h1 : V E its { st with tm := (t, .nls) :: st.tm } Q) (h2 : V E its { st with tm := (t, .emp) :: st.tm } Q) : V E its st Q := by
  intro B w Z ρ a R hs kk
  have hv := hs.t t
  rw [hx] at hv
  have turn : ∀ x : AV, (∀ i, x ≠ .ghost i) → Rel w Z ρ x (a.tmps.getD t undef) → Sat E B { st with tm := (t, x) :: st.tm } w Z ρ a := fun x hng hr => by
    refine ⟨hs.o, fun t' => ?_, hs.n, hs.sz, hs.d, hs.b, hs.f, fun i hi => ?_⟩
    rotate_left
    · have hi : assoc .top ((t, x) :: st.tm) E.nt = .ghost i := hi
      simp only [assoc] at hi
      split at hi
      · subst hi; exact absurd rfl (hng i)
      · exact hs.j i hi
    show Rel w Z ρ (assoc .top ((t, x) :: st.tm) t') _
    simp only [assoc]
    cases e : Nat.beq t t' with
    | true =>
      have := Nat.eq_of_beq_eq_true e
      subst this
      exact hr
    | false => exact hs.t t'
  unfold Rel Rd at hv
  obtain ⟨ad, c, h3, _⟩ := hv
  cases ad with
  | none => exact h1 B w Z ρ a R (turn .nls (fun _ h => by cases h) (by unfold Rel; exact ⟨c, h3⟩)) kk
  | some p => exact h2 B w Z ρ a R (turn .emp (fun _ h => by cases h) (by unfold Rel; exact ⟨p, c, h3⟩)) kk

end Go.AI

/- A function that turns objects of its caller: its contract out of its walk. No condition. -/
namespace Go.AI
open Go Go.RowKit
set_option linter.unusedVariables false
variable (E : Env)

mutual
def idsA : AV → List Nat
  | .agg l => idsAL l
  | .tup l => idsAL l
  | .ptr id _ _ => [id]
  | .own id _ _ => [id]
  | .map id => [id]
  | .fn _ a b => idsAL a ++ idsAL b
  | _ => []
def idsAL : List AV → List Nat
  | [] => []
  | x :: l => idsA x ++ idsAL l
end

section
variable {w : World} {Z : Nat → Prop} {ρ ρ' : Nat → Option Loc}
mutual
theorem Rel.only : ∀ (x : AV) (v : Value), (∀ id, id ∈ idsA x → ρ' id = ρ id) → Rel w Z ρ x v → Rel w Z ρ' x v
  | .pv x, v, h, hr => by unfold Rel at hr ⊢; exact hr
  | .kb b, v, h, hr => by unfold Rel at hr ⊢; exact hr
  | .agg l, v, h, hr => by
    unfold Rel at hr ⊢
    unfold idsA at h
    obtain ⟨vs, rfl, hr⟩ := hr
    exact ⟨vs, rfl, RelL.only l _ h hr⟩
  | .tup l, v, h, hr => by
    unfold Rel at hr ⊢
    unfold idsA at h
    obtain ⟨vs, rfl, hr⟩ := hr
    exact ⟨vs, rfl, RelL.only l _ h hr⟩
  | .ptr id i j, v, h, hr => by
    unfold Rel at hr ⊢
    rw [h id (by simp [idsA])]; exact hr
  | .own id off n, v, h, hr => by
    unfold Rel at hr ⊢
    rw [h id (by simp [idsA])]; exact hr
  | .fn f a b, v, h, hr => by
    unfold Rel at hr ⊢
    unfold idsA at h
    obtain ⟨vs, us, rfl, h1, h2⟩ := hr
    exact ⟨vs, us, rfl, RelL.only a _ (fun id hm => h id (List.mem_append_left _ hm)) h1, RelL.only b _ (fun id hm => h id (List.mem_append_right _ hm)) h2⟩
  | .map id, v, h, hr => by
    unfold Rel at hr ⊢
    rw [h id (by simp [idsA])]; exact hr
  | .emp, v, h, hr => by unfold Rel at hr ⊢; exact hr
  | .nls, v, h, hr => by unfold Rel at hr ⊢; exact hr
  | .ghost _, v, h, hr => by unfold Rel; trivial
  | .top, v, h, hr => trivial
theorem RelL.only : ∀ (l : List AV) (vs : List Value), (∀ id, id ∈ idsAL l → ρ' id = ρ id) → RelL w Z ρ l vs → RelL w Z ρ' l vs
  | [], vs, h, hr => hr
  | x :: l, vs, h, hr => by
    unfold RelL at hr ⊢
    unfold idsAL at h
    obtain ⟨v, vs', rfl, h1, h2⟩ := hr
    exact ⟨v, vs', rfl, Rel.only x v (fun id hm => h id (List.mem_append_left _ hm)) h1, RelL.only l vs' (fun id hm => h id (List.mem_append_right _ hm)) h2⟩
end

mutual
theorem Rel.bound : ∀ (x : AV) (v : Value) (id : Nat), id ∈ idsA x → Rel w Z ρ x v → ∃ L, ρ id = some L
  | .agg l, v, id, h, hr => by
    unfold Rel at hr; unfold idsA at h
    obtain ⟨vs, rfl, hr⟩ := hr
    exact RelL.bound l _ id h hr
  | .tup l, v, id, h, hr => by
    unfold Rel at hr; unfold idsA at h
    obtain ⟨vs, rfl, hr⟩ := hr
    exact RelL.bound l _ id h hr
  | .ptr id' i j, v, id, h, hr => by
    unfold Rel at hr; unfold idsA at h
    obtain rfl := List.mem_singleton.1 h
    obtain ⟨L, h1, _⟩ := hr; exact ⟨L, h1⟩
  | .own id' off n, v, id, h, hr => by
    unfold Rel at hr; unfold idsA at h
    obtain rfl := List.mem_singleton.1 h
    obtain ⟨L, h1, _⟩ := hr; exact ⟨L, h1⟩
  | .fn f a b, v, id, h, hr => by
    unfold Rel at hr; unfold idsA at h
    obtain ⟨vs, us, rfl, h1, h2⟩ := hr
    rcases List.mem_append.1 h with h | h
    · exact RelL.bound a _ id h h1
    · exact RelL.bound b _ id h h2
  | .map id', v, id, h, hr => by
    unfold Rel at hr; unfold idsA at h
    obtain rfl := List.mem_singleton.1 h
    obtain ⟨L, h1, _⟩ := hr; exact ⟨L, h1⟩
  | .pv _, v, id, h, hr => by unfold idsA at h; cases h
  | .kb _, v, id, h, hr => by unfold idsA at h; cases h
  | .emp, v, id, h, hr => by unfold idsA at h; cases h
  | .nls, v, id, h, hr => by unfold idsA at h; cases h
  | .ghost _, v, id, h, hr => by unfold idsA at h; cases h
  | .top, v, id, h, hr => by unfold idsA at h; cases h
theorem RelL.bound : ∀ (l : List AV) (vs : List Value) (id : Nat), id ∈ idsAL l → RelL w Z ρ l vs → ∃ L, ρ id = some L
  | [], vs, id, h, hr => by unfold idsAL at h; cases h
  | x :: l, vs, id, h, hr => by
    unfold RelL at hr
    unfold idsAL at h
    obtain ⟨v, vs', rfl, h1, h2⟩ := hr
    rcases List.mem_append.1 h with h | h
    · exact Rel.bound x v id h h1
    · exact RelL.bound l vs' id h h2
end

def idsO : AO → List Nat
  | .box cells => idsAL cells
  | .it m _ _ => [m]
  | _ => []

theorem ObjOK.only {L : Loc} : ∀ {o : AO}, (∀ id, id ∈ idsO o → ρ' id = ρ id) → ObjOK w Z ρ L o → ObjOK w Z ρ' L o
  | .box cells, h, hr => by
    obtain ⟨cs, T, h1, h2, h3, h4, h5⟩ := hr
    exact ⟨cs, T, h1, h2, h3, RelL.only cells _ h h4, h5⟩
  | .arr T k n g, h, hr => hr
  | .mp es, h, hr => hr
  | .it m n seen, h, hr => by
    obtain ⟨Lm, h1, h2⟩ := hr
    exact ⟨Lm, (h m (by simp [idsO])).trans h1, h2⟩
  | .raw o, h, hr => hr
end

def somed : List (Nat × AO) → List (Nat × Option AO)
  | [] => []
  | (id, o) :: l => (id, some o) :: somed l
theorem mem_somed : ∀ {l : List (Nat × AO)} {id : Nat} {o : Option AO}, (id, o) ∈ somed l → ∃ o', o = some o' ∧ (id, o') ∈ l
  | (i, x) :: l, id, o, h => by
    rcases List.mem_cons.1 h with h | h
    · cases h; exact ⟨x, rfl, List.mem_cons_self ..⟩
    · obtain ⟨o', h1, h2⟩ := mem_somed h; exact ⟨o', h1, List.mem_cons_of_mem _ h2⟩
theorem ids_somed : ∀ {l : List (Nat × AO)} {id : Nat}, id ∈ ids (somed l) → ∃ o, (id, o) ∈ l
  | (i, x) :: l, id, h => by
    unfold somed ids at h
    rcases List.mem_cons.1 h with h | h
    · subst h; exact ⟨x, List.mem_cons_self ..⟩
    · obtain ⟨o, ho⟩ := ids_somed h; exact ⟨o, List.mem_cons_of_mem _ ho⟩

def holdsOb (ob : Nat → Option AO) : List (Nat × AO) → Prop
  | [] => True
  | (id, o) :: l => ob id = some o ∧ holdsOb ob l
theorem holdsOb_mem {ob : Nat → Option AO} : ∀ {l : List (Nat × AO)}, holdsOb ob l → ∀ {id : Nat} {o : AO}, (id, o) ∈ l → ob id = some o
  | (i, x) :: l, h, id, o, hm => by
    rcases List.mem_cons.1 hm with hm | hm
    · cases hm; exact h.1
    · exact holdsOb_mem h.2 hm

theorem mem_of_somed : ∀ {l : List (Nat × AO)} {id : Nat} {o : AO}, (id, o) ∈ l → (id, some o) ∈ somed l
  | (i, x) :: l, id, o, h => by
    rcases List.mem_cons.1 h with h | h
    · cases h; exact List.mem_cons_self ..
    · exact List.mem_cons_of_mem _ (mem_of_somed h)

/-! ### the checks -/
def allLt (n : Nat) : List Nat → Bool
  | [] => true
  | x :: l => match Nat.blt x n with | true => allLt n l | false => false
theorem allLt_spec {n : Nat} : ∀ {l : List Nat} {x : Nat}, allLt n l = true → x ∈ l → x < n
  | y :: l, x, h, hm => by
    unfold allLt at h
    split at h
    · rename_i e
      rcases List.mem_cons.1 hm with hm | hm
      · subst hm; exact blt_true e
      · exact allLt_spec h hm
    · cases h
def allMem (s : List Nat) : List Nat → Bool
  | [] => true
  | x :: l => match memN s x with | true => allMem s l | false => false
theorem allMem_spec {s : List Nat} : ∀ {l : List Nat} {x : Nat}, allMem s l = true → x ∈ l → x ∈ s
  | y :: l, x, h, hm => by
    unfold allMem at h
    split at h
    · rename_i e
      rcases List.mem_cons.1 hm with hm | hm
      · subst hm; exact memN_true e
      · exact allMem_spec h hm
    · cases h
/-- Ids of objects that are given back. -/
def liveIds : List (Nat × Option AO) → List Nat
  | [] => []
  | (id, some _) :: l => id :: liveIds l
  | (_, none) :: l => liveIds l
theorem mem_liveIds : ∀ {l : List (Nat × Option AO)} {id : Nat} {o : AO}, (id, some o) ∈ l → id ∈ liveIds l
  | (i, some x) :: l, id, o, h => by
    rcases List.mem_cons.1 h with h | h
    · cases h; exact List.mem_cons_self ..
    · exact List.mem_cons_of_mem _ (mem_liveIds h)
  | (i, none) :: l, id, o, h => by
    rcases List.mem_cons.1 h with h | h
    · cases h
    · exact mem_liveIds (l := l) h
/-- What the objects lead to. -/
def inIds : List (Nat × Option AO) → List Nat
  | [] => []
  | (_, some o) :: l => idsO o ++ inIds l
  | (_, none) :: l => inIds l
theorem mem_inIds : ∀ {l : List (Nat × Option AO)} {id : Nat} {o : AO} {x : Nat}, (id, some o) ∈ l → x ∈ idsO o → x ∈ inIds l
  | (i, some y) :: l, id, o, x, h, hx => by
    rcases List.mem_cons.1 h with h | h
    · cases h; exact List.mem_append_left _ hx
    · exact List.mem_append_right _ (mem_inIds h hx)
  | (i, none) :: l, id, o, x, h, hx => by
    rcases List.mem_cons.1 h with h | h
    · cases h
    · exact mem_inIds (l := l) h hx
/-- What the boxes that stay lead to. -/
def boxIds (pin : List Nat) : List (Nat × Option AO) → List Nat
  | [] => []
  | (id, some (.box c)) :: l => match memN pin id with
    | true => idsAL c ++ boxIds pin l
    | false => boxIds pin l
  | _ :: l => boxIds pin l
theorem mem_boxIds {pin : List Nat} : ∀ {l : List (Nat × Option AO)} {x : Nat}, x ∈ boxIds pin l → ∃ id c, (id, some (.box c)) ∈ l ∧ id ∈ pin ∧ x ∈ idsAL c
  | (i, none) :: l, x, h => by
    unfold boxIds at h
    obtain ⟨id, c, h1, h2⟩ := mem_boxIds h
    exact ⟨id, c, List.mem_cons_of_mem _ h1, h2⟩
  | (i, some (.box c)) :: l, x, h => by
    unfold boxIds at h
    split at h
    · rename_i e
      rcases List.mem_append.1 h with h | h
      · exact ⟨i, c, List.mem_cons_self .., memN_true e, h⟩
      · obtain ⟨id, c', h1, h2⟩ := mem_boxIds h
        exact ⟨id, c', List.mem_cons_of_mem _ h1, h2⟩
    · obtain ⟨id, c', h1, h2⟩ := mem_boxIds h
      exact ⟨id, c', List.mem_cons_of_mem _ h1, h2⟩
  | (i, some (.arr ..)) :: l, x, h => by
    unfold boxIds at h
    obtain ⟨id, c, h1, h2⟩ := mem_boxIds h
    exact ⟨id, c, List.mem_cons_of_mem _ h1, h2⟩
  | (i, some (.mp ..)) :: l, x, h => by
    unfold boxIds at h
    obtain ⟨id, c, h1, h2⟩ := mem_boxIds h
    exact ⟨id, c, List.mem_cons_of_mem _ h1, h2⟩
  | (i, some (.it ..)) :: l, x, h => by
    unfold boxIds at h
    obtain ⟨id, c, h1, h2⟩ := mem_boxIds h
    exact ⟨id, c, List.mem_cons_of_mem _ h1, h2⟩
  | (i, some (.raw ..)) :: l, x, h => by
    unfold boxIds at h
    obtain ⟨id, c, h1, h2⟩ := mem_boxIds h
    exact ⟨id, c, List.mem_cons_of_mem _ h1, h2⟩

/-- Each of l is in s, or an id of what is made. -/
def orNew (s : List Nat) (n : Nat) (news : List Nat) : List Nat → Bool
  | [] => true
  | x :: l => match memN s x with
    | true => orNew s n news l
    | false => (match Nat.ble n x with
      | true => (match memN news x with
        | true => orNew s n news l
        | false => false)
      | false => false)
theorem orNew_spec {s : List Nat} {n : Nat} {news : List Nat} : ∀ {l : List Nat} {x : Nat}, orNew s n news l = true → x ∈ l → x ∈ s ∨ (n ≤ x ∧ x ∈ news)
  | y :: l, x, h, hm => by
    unfold orNew at h
    split at h
    · rename_i e
      rcases List.mem_cons.1 hm with hm | hm
      · subst hm; exact .inl (memN_true e)
      · exact orNew_spec h hm
    · split at h
      · rename_i e
        split at h
        · rename_i e2
          rcases List.mem_cons.1 hm with hm | hm
          · subst hm; exact .inr ⟨Nat.le_of_ble_eq_true e, memN_true e2⟩
          · exact orNew_spec h hm
        · cases h
      · cases h

structure FxOK (pin : List Nat) (args : List AV) (obl : List (Nat × AO)) (nid c : Nat) (r : List AV) (wr : List (Nat × Option AO)) : Prop where
  args_ : allLt nid (idsAL args) = true
  cont_ : allLt nid (inIds (somed obl)) = true
  objs_ : allLt nid (ids (somed obl)) = true
  nd_ : nodup (ids (somed obl)) = true
  all_ : allMem (ids wr) (ids (somed obl)) = true
  wr_ : orNew (ids (somed obl)) nid (ids wr) (ids wr) = true
  top_ : allLt (nid + c) (ids wr) = true
  nd2_ : nodup (ids wr) = true
  live_ : orNew pin nid (ids wr) (liveIds wr) = true
  pin_ : allMem (idsAL args) pin = true
  out_ : orNew pin nid (ids wr) (idsAL r ++ inIds wr) = true
  bnd_ : orNew pin 0 (idsAL r ++ boxIds pin wr) (liveIds wr) = true

/-- How a function ends that turns objects of its caller. -/
def RetF (rs : List ResultVar) (r : List AV) (nid : Nat) (wr : List (Nat × Option AO)) (ex : Ex) (st : St) : Prop :=
  match ex with
  | .exit _ => False
  | _ => resA E st rs fun l => Out (∃ σ fz, leSt E σ fz st ⟨[], wr, nid⟩ ∧ leAVs st σ fz r l)

theorem idsA_tupA {r : List AV} {x : Nat} (h : x ∈ idsA (tupA r)) : x ∈ idsAL r := by
  match r with
  | [] => unfold tupA idsA at h; exact h
  | [y] => unfold tupA at h; unfold idsAL; exact List.mem_append_left _ h
  | y :: z :: l => unfold tupA idsA at h; exact h

theorem fx_of_V {P : Program} {f : Nat} {fn : Func} {body : Code} {rs : List ResultVar} {args r : List AV} {nid c : Nat} {obl : List (Nat × AO)} {wr : List (Nat × Option AO)} {ob : Nat → Option AO} (hE : EnvOK E) (hP : E.P = P) (hf : P.funcs[f]? = some fn) (hb : fn.body = some body)
    (hnt : fn.ntmps = E.nt) (hrs : fn.results = rs.toArray) (hargs : args.length ≤ E.nt) (hen : ∀ args w, (callFunc f args).run P w = .ok (.enter f args) w) (hok : FxOK E.pin args obl nid c r wr) (hob : holdsOb ob obl)
    (h : ∀ loc, V { E with loc := loc } [.code body] ⟨params 0 args, somed obl, nid⟩ (RetF { E with loc := loc } rs r (nid + c) wr)) : CallFx P f args ob (ids (somed obl)) (tupA r) wr nid c := by
  subst hP
  refine ⟨hen, fun id o hm => ?_, fun B w Z ρ ob' vs hrel hr hs hfree => ?_⟩
  · rcases orNew_spec hok.wr_ (mem_ids hm) with h1 | h1
    · obtain ⟨o', ho'⟩ := ids_somed h1
      exact .inl ⟨h1, o', holdsOb_mem hob ho'⟩
    · exact .inr ⟨h1.1, allLt_spec hok.top_ (mem_ids hm)⟩
  -- the ids of the caller's
  obtain ⟨ρ0, hρ0⟩ : ∃ ρ0 : Nat → Option Loc, ρ0 = fun id => if id < nid then ρ id else none := ⟨_, rfl⟩
  have e0 : ∀ id, id < nid → ρ0 id = ρ id := fun id hlt => by rw [hρ0]; exact if_pos hlt
  have e1 : ∀ id, nid ≤ id → ρ0 id = none := fun id hge => by rw [hρ0]; exact if_neg (by omega)
  have e2 : ∀ id L, ρ0 id = some L → id < nid ∧ ρ id = some L := fun id L hl => by
    by_cases hlt : id < nid
    · exact ⟨hlt, by rw [← e0 id hlt]; exact hl⟩
    · rw [e1 id (by omega)] at hl; cases hl
  let F : Nat → Prop := fun b => b < w.heap.size ∧ ¬ ownZ ρ (ids (somed obl)) b
  have hin : ∀ id o, assoc none (somed obl) id = some o → (id, o) ∈ obl ∧ ob' id = some o ∧ id < nid := fun id o ho => by
    have : ∀ {l : List (Nat × Option AO)}, assoc none l id = some o → (id, some o) ∈ l := by
      intro l
      induction l with
      | nil => intro h; cases h
      | cons p l ih =>
        obtain ⟨i, x⟩ := p
        intro h
        simp only [assoc] at h
        split at h
        · rename_i e; have := Nat.eq_of_beq_eq_true e; subst this; subst h; exact List.mem_cons_self ..
        · exact List.mem_cons_of_mem _ (ih h)
    have hm := this ho
    obtain ⟨o', e, hm'⟩ := mem_somed hm
    cases e
    exact ⟨hm', (hr id (mem_ids hm)).trans (holdsOb_mem hob hm'), allLt_spec hok.objs_ (mem_ids hm)⟩
  have hsat : Sat { E with loc := ρ0 } F ⟨params 0 args, somed obl, nid⟩ w Z ρ0 { tmps := vs.toArray ++ Array.replicate (E.nt - vs.toArray.size) undef, defers := [] } := by
    have hrel0 : RelL w Z ρ0 args vs := RelL.only args vs (fun id hm => e0 id (allLt_spec hok.args_ hm)) hrel
    have hlen := hrel.length
    refine ⟨⟨hs.zlt, fun b hb => hb.1, fun id o L ho hl hn => ?_, fun id o L ho hl hn => ?_, fun id id' o o' L L' ho ho' hl hl' hn hn' e => ?_⟩, fun t => ?_, fun id hid => e1 id hid, ?_, ⟨fun _ => False, ⟨hs.zlt, fun _ h => h.elim, fun id o L ho hl hn => ?_, fun id o L ho hl hn => ?_, fun id id' o o' L L' ho ho' hl hl' hn hn' e => ?_⟩, fun _ _ h => h, List.nodup_nil, fun _ h => (by cases h)⟩, fun id o ho => (hin id o ho).2.2, fun id hp => ?_, fun i hi => ?_⟩
    · obtain ⟨h1, h2, h3⟩ := hin id o ho
      obtain ⟨_, g2, g3, g4⟩ := hs.obj id o L h2 (e2 id L hl).2 hn
      refine ⟨fun hF => hF.2 ⟨id, L, mem_ids (mem_of_somed h1), (e2 id L hl).2, hn, rfl⟩, g2, g3, g4.only fun x hx => e0 x (allLt_spec hok.cont_ (mem_inIds (mem_of_somed h1) hx))⟩
    · exact hs.nul id o L (hin id o ho).2.1 (e2 id L hl).2 hn
    · exact hs.inj id id' o o' L L' (hin id o ho).2.1 (hin id' o' ho').2.1 (e2 id L hl).2 (e2 id' L' hl').2 hn hn' e
    · show Rel w Z ρ0 (assoc .top (params 0 args) t) _
      rw [assoc_params, if_pos (Nat.zero_le _), Nat.sub_zero]
      cases e : args[t]? with
      | none => exact trivial
      | some x =>
        obtain ⟨v, h1, h2⟩ := hrel0.get e
        simp only [Option.getD_some]
        have hlt : t < vs.length := (List.getElem?_eq_some_iff.1 h1).1
        rw [Array.getD_eq_getD_getElem?, Array.getElem?_append_left (by simpa using hlt)]
        simp only [List.getElem?_toArray, h1, Option.getD_some]
        exact h2
    · simp only [Array.size_append, List.size_toArray, Array.size_replicate]
      omega
    · obtain ⟨h1, h2, h3⟩ := hin id o ho
      obtain ⟨_, g2, g3, g4⟩ := hs.obj id o L h2 (e2 id L hl).2 hn
      exact ⟨fun h => h.elim, g2, g3, g4.only fun x hx => e0 x (allLt_spec hok.cont_ (mem_inIds (mem_of_somed h1) hx))⟩
    · exact hs.nul id o L (hin id o ho).2.1 (e2 id L hl).2 hn
    · exact hs.inj id id' o o' L L' (hin id o ho).2.1 (hin id' o' ho').2.1 (e2 id L hl).2 (e2 id' L' hl').2 hn hn' e
    · have ha := allMem_spec hok.pin_ hp
      obtain ⟨L, hL⟩ := RelL.bound _ _ id ha hrel
      have hlt := allLt_spec hok.args_ ha
      exact ⟨L, (e0 id hlt).trans hL, (e0 id hlt).trans hL⟩
    · have hi : assoc .top (params 0 args) E.nt = .ghost i := hi
      rw [assoc_params, if_pos (Nat.zero_le _), List.getElem?_eq_none (by omega)] at hi
      cases hi
  refine calls_of_sat hf hb ?_
  rw [hnt]
  refine wp_mono (h ρ0 F w Z ρ0 _ (bodyPostM Fence.wide 1 E.P fn (fun e w' => ∃ v Z' ρ', e = .returned v ∧ Post w Z ρ w' Z' ρ' wr (tupA r) v)) hsat fun ex st' w1 ZV ρV a1 hQ hs1 hb1 hz' => ?_) fun e a w h => h
  obtain ⟨hex, hres⟩ : (match ex with | .exit _ => False | _ => True) ∧ resA { E with loc := ρ0 } st' rs fun l => Out (∃ σ fz, leSt { E with loc := ρ0 } σ fz st' ⟨[], wr, nid + c⟩ ∧ leAVs st' σ fz r l) := by
    cases ex with
    | exit id => exact hQ.elim
    | normal => exact ⟨trivial, hQ⟩
    | ret => exact ⟨trivial, hQ⟩
  obtain ⟨l, ⟨⟨σ, fz, hle, hlv⟩⟩, hrun⟩ := results_run { E with loc := ρ0 } hE hrs hres
  obtain ⟨w', hb2, hs', hleave⟩ := hs1.shut { E with loc := ρ0 }
  have hb' := hb1.trans hb2
  obtain ⟨v, h1, h2⟩ := hrun hs'
  obtain ⟨hs2, hz2⟩ := leSt_sat { E with loc := ρ0 } hle hs'
  obtain ⟨Z1, hZ1⟩ : ∃ Z1 : Nat → Prop, Z1 = fun b => ZV b ∨ ownZ ρV fz b := ⟨_, rfl⟩
  obtain ⟨ρ1, hρ1⟩ : ∃ ρ1, ρ1 = renρ σ ρV := ⟨_, rfl⟩
  have hlv' : ∀ us, RelL w' ZV ρV l us → RelL w' Z1 ρ1 r us := fun us hus => by rw [hZ1, hρ1]; exact leAVs_sound hs'.o r l us hlv hus
  rw [← hZ1, ← hρ1] at hs2
  have hz3 : ∀ b, Z1 b → Z b ∨ ¬ F b := fun b hb => by
    rw [hZ1] at hb
    rcases hz2 b hb with h | h
    · exact hz' b h
    · exact .inr h
  have hnF : ∀ b, ¬ F b → w.heap.size ≤ b ∨ ownZ ρ (ids (somed obl)) b := fun b hb => by
    by_cases hlt : b < w.heap.size
    · exact .inr (Classical.byContradiction fun hn => hb ⟨hlt, hn⟩)
    · exact .inl (by omega)
  have hobf : ∀ id o, (id, some o) ∈ wr → St.obf ⟨[], wr, nid + c⟩ id = some o := fun id o hm => assoc_mem hok.nd2_ hm
  have hpin : ∀ id, id ∈ E.pin → ∃ L, ρ id = some L ∧ ρ1 id = some L ∧ id < nid := fun id hp => by
    have ha := allMem_spec hok.pin_ hp
    obtain ⟨L, hL⟩ := RelL.bound _ _ id ha hrel
    have hlt := allLt_spec hok.args_ ha
    obtain ⟨L', q1, q2⟩ := hs2.f id hp
    have q1 : ρ0 id = some L' := q1
    rw [show ρ0 id = some L from (e0 id hlt).trans hL] at q1
    cases q1
    exact ⟨L, hL, q2, hlt⟩
  -- objects of the caller's that were turned: in wr
  have hown : ∀ b, ownZ ρ (ids (somed obl)) b → ∃ id L, id ∈ ids wr ∧ ρ id = some L ∧ L.nil = false ∧ L.b = b ∧ id < nid := fun b ⟨id, L, q1, q2, q3, q4⟩ => ⟨id, L, allMem_spec hok.all_ q1, q2, q3, q4, allLt_spec hok.objs_ q1⟩
  have hkill : ∀ id L, id ∈ ids wr → ρ id = some L → L.nil = false → id < nid → (id, none) ∈ wr ∨ ∃ o, (id, some o) ∈ wr ∧ id ∈ E.pin ∧ ρ1 id = some L := fun id L hm hl hn hlt => by
    obtain ⟨o, ho⟩ := mem_of_ids hm
    cases o with
    | none => exact .inl ho
    | some o =>
      rcases orNew_spec hok.live_ (mem_liveIds ho) with h | h
      · obtain ⟨L', q1, q2, _⟩ := hpin id h
        rw [q1] at hl; cases hl
        exact .inr ⟨o, ho, h, q2⟩
      · omega
  have hZ' : ∀ id o L, (id, some o) ∈ wr → ρ1 id = some L → L.nil = false → ¬ (Z L.b ∨ Z1 L.b) := fun id o L hm hl hn hz => by
    obtain ⟨g1, g2, g3, _⟩ := hs2.o.obj id o L (hobf id o hm) hl hn
    rcases hz with hz | hz
    · rcases hnF _ g1 with h | ⟨id0, L0, q1, q2, q3, q4⟩
      · have := hs.zlt _ hz; omega
      · obtain ⟨o0, ho0⟩ := ids_somed q1
        exact (hs.obj id0 o0 L0 ((hr id0 q1).trans (holdsOb_mem hob ho0)) q2 q3).2.2.1 (q4 ▸ hz)
    · exact g3 hz
  let ρ' : Nat → Option Loc := fun id => if nid ≤ id ∧ id ∈ ids wr then ρ1 id else ρ id
  have p1 : ∀ id, nid ≤ id → id ∈ ids wr → ρ' id = ρ1 id := fun id h1 h2 => if_pos ⟨h1, h2⟩
  have p2 : ∀ id, id < nid → ρ' id = ρ id := fun id h1 => if_neg (by omega)
  have p3 : ∀ x, x ∈ E.pin ∨ (nid ≤ x ∧ x ∈ ids wr) → ρ' x = ρ1 x := fun x hx => by
    rcases hx with hx | hx
    · obtain ⟨L, q1, q2, q3⟩ := hpin x hx
      rw [p2 x q3, q1, q2]
    · exact p1 x hx.1 hx.2
  have hlive : ∀ id o, (id, some o) ∈ wr → ρ' id = ρ1 id ∧ ∃ L, ρ1 id = some L := fun id o hm => by
    have ha := orNew_spec hok.live_ (mem_liveIds hm)
    refine ⟨p3 id ha, ?_⟩
    rcases orNew_spec hok.bnd_ (mem_liveIds hm) with h | ⟨_, h⟩
    · obtain ⟨L, _, q2, _⟩ := hpin id h; exact ⟨L, q2⟩
    · rcases List.mem_append.1 h with h | h
      · have hr1 : ∃ us, RelL w' Z1 ρ1 r us := by
          match l, h2 with
          | [x], h2 => exact ⟨_, hlv' [v] (by unfold RelL; exact ⟨v, [], rfl, h2, by simp [RelL]⟩)⟩
          | [], h2 => unfold tupA Rel at h2; obtain ⟨us, rfl, h3⟩ := h2; exact ⟨_, hlv' _ h3⟩
          | x :: x' :: l, h2 => unfold tupA Rel at h2; obtain ⟨us, rfl, h3⟩ := h2; exact ⟨_, hlv' _ h3⟩
        obtain ⟨us, hus⟩ := hr1
        exact RelL.bound _ _ id h hus
      · obtain ⟨j, cs, q1, q2, q3⟩ := mem_boxIds h
        obtain ⟨L, _, k2, _⟩ := hpin j q2
        have hn : L.nil = false := by
          cases e : L.nil with
          | false => rfl
          | true => obtain ⟨_, _, _, e2⟩ := hs2.o.nul j _ L (hobf j _ q1) k2 e; cases e2
        obtain ⟨_, _, _, cells, T, _, _, _, k6, _⟩ := hs2.o.obj j _ L (hobf j _ q1) k2 hn
        exact RelL.bound _ _ id q3 k6
  have fin : Post w Z ρ w' (fun b => Z b ∨ Z1 b) ρ' wr (tupA r) v := by
    refine ⟨⟨hb'.os, hb'.tape, hb'.output, hb'.size, fun _ h => h.elim, hb'.drawn⟩, fun _ h => .inl h, fun b hb => ?_, fun id L hl => ?_, fun id hn => ?_, fun b hlt hk => ?_, ?_, fun id o hm => ?_, fun id id' o o' L L' hm hm' hl hl' hn hn' e => ?_⟩
    · rcases hb with hb | hb
      · exact .inl (.inl hb)
      · rcases hz3 b hb with h | h
        · exact .inl (.inl h)
        · rcases hnF b h with h | h
          · exact .inl (.inr ⟨h, hs2.o.zlt b hb⟩)
          · obtain ⟨id, L, q1, q2, q3, q4, q5⟩ := hown b h
            rcases hkill id L q1 q2 q3 q5 with k | ⟨o, k1, k2, k3⟩
            · exact .inr ⟨id, L, k, q2, q3, q4⟩
            · exact absurd (.inr (q4 ▸ hb)) (hZ' id o L k1 k3 q3)
    · by_cases hlt : id < nid
      · rw [p2 id hlt]; exact hl
      · by_cases hm : id ∈ ids wr
        · have := hfree id (by omega) (allLt_spec hok.top_ hm)
          rw [this] at hl; cases hl
        · show (if nid ≤ id ∧ id ∈ ids wr then ρ1 id else ρ id) = some L
          rw [if_neg (fun h => hm h.2)]; exact hl
    · show (if nid ≤ id ∧ id ∈ ids wr then ρ1 id else ρ id) = ρ id
      rw [if_neg]
      rintro ⟨_, h⟩
      obtain ⟨o, ho⟩ := mem_of_ids h
      exact hn o ho
    · refine hb'.block b ⟨hlt, fun ho => ?_⟩
      obtain ⟨id, L, q1, q2, q3, q4, _⟩ := hown b ho
      obtain ⟨o, ho⟩ := mem_of_ids q1
      exact hk id o L ho q2 q3 q4
    · have hrv : Rel w' Z1 ρ1 (tupA r) v := by
        match l, h2 with
        | [x], h2 =>
          have hr := hlv' [v] (by unfold RelL; exact ⟨v, [], rfl, h2, by simp [RelL]⟩)
          have hlr := hr.length
          match r, hlr, hr with
          | [y], _, hr =>
            unfold RelL at hr
            obtain ⟨v', vs', e, h3, _⟩ := hr
            cases e
            exact h3
        | [], h2 =>
          unfold tupA Rel at h2
          obtain ⟨us, rfl, h3⟩ := h2
          have hr := hlv' _ h3
          have hlr := hr.length
          have hl3 := h3.length
          match r, hlr, hr with
          | [], _, hr => unfold tupA Rel; exact ⟨us, rfl, hr⟩
          | _ :: _, hlr, _ => simp at hlr hl3; omega
        | x :: x' :: l, h2 =>
          unfold tupA Rel at h2
          obtain ⟨us, rfl, h3⟩ := h2
          have hr := hlv' _ h3
          have hlr := hr.length
          have hl3 := h3.length
          match r, hlr, hr with
          | [], hlr, _ => simp at hlr hl3; omega
          | [_], hlr, _ => simp at hlr hl3; omega
          | y :: y' :: r, _, hr => unfold tupA Rel; exact ⟨us, rfl, hr⟩
      refine Rel.mono (fun b h => .inr h) (fun _ _ => rfl) (fun _ _ h => h) _ _ (Rel.only _ _ (fun x hx => p3 x ?_) hrv)
      exact orNew_spec hok.out_ (List.mem_append_left _ (idsA_tupA hx))
    · obtain ⟨k1, L, k2⟩ := hlive id o hm
      refine ⟨L, k1.trans k2, ?_⟩
      cases e : L.nil with
      | true => exact .inl ⟨rfl, hs2.o.nul id o L (hobf id o hm) k2 e⟩
      | false =>
        obtain ⟨g1, g2, g3, g4⟩ := hs2.o.obj id o L (hobf id o hm) k2 e
        refine .inr ⟨rfl, ObjOK.mono (fun b h => .inr h) (fun _ _ => rfl) (fun _ _ h => h) rfl (g4.only fun x hx => p3 x (orNew_spec hok.out_ (List.mem_append_right _ (mem_inIds hm hx)))), hZ' id o L hm k2 e, g2, ?_⟩
        rcases orNew_spec hok.live_ (mem_liveIds hm) with h | h
        · obtain ⟨L', q1, q2, _⟩ := hpin id h
          rw [q2] at k2; cases k2
          exact .inl q1
        · rcases hnF _ g1 with h' | h'
          · exact .inr (.inl h')
          · obtain ⟨id0, L0, q1, q2, q3, q4, q5⟩ := hown _ h'
            rcases hkill id0 L0 q1 q2 q3 q5 with k | ⟨o0, j1, j2, j3⟩
            · exact .inr (.inr ⟨id0, L0, k, q2, q3, q4⟩)
            · have := hs2.o.inj id0 id o0 o L0 L (hobf _ _ j1) (hobf _ _ hm) j3 k2 q3 e q4
              omega
    · rw [(hlive id o hm).1] at hl
      rw [(hlive id' o' hm').1] at hl'
      exact hs2.o.inj id id' o o' L L' (hobf id o hm) (hobf id' o' hm') hl hl' hn hn' e
  cases ex with
  | normal => exact hleave ⟨v, h1, v, _, _, rfl, fin⟩
  | ret => exact hleave ⟨v, h1, v, _, _, rfl, fin⟩
  | exit id => exact hex.elim

end Go.AI

/- Iterators: a call of yield; a function's contract as an iterator. No condition. -/
namespace Go.AI
open Go Go.RowKit
set_option linter.unusedVariables false
variable (E : Env)

/-- What a round promises. -/
def YieldsJ (P : Program) (J : Nat → World → (Nat → Prop) → Prop) (l i : Nat) (v : Value) (go : Bool) : Prop :=
  ∀ (w : World) (G : Nat → Prop), (∀ b, G b → b < w.heap.size) → J i w G → YieldAt Fence.wide 0 P l #[v] w fun e w' => e = .returned (.bool go) ∧
    ∃ G', J (i + 1) w' G' ∧ (∀ b, G' b → b < w'.heap.size) ∧ (∀ b, G' b → G b ∨ w.heap.size ≤ b) ∧ Bel (fun b => b < w.heap.size ∧ ¬ G b) w w'

theorem V_yield {all : Array Oper} {os : List Oper} {o : Oper} {k : List It} {st : St} {Q : Ex → St → Prop} {f x : Operand} {ats : Array TypeId} {d l i : Nat} {v : Value} {go : Bool}
    (ho : o.op = .call { callee := .value f, args := #[x], argTypes := ats }) (hg : o.guard = none ∨ ∃ g want og dg, o.guard = some (g, want) ∧ nthO all.toList g = some og ∧ og.dst = some dg ∧ st.get dg = .kb want) (hd : o.dst = some d) (hdn : dstOK E (some d) = true)
    (hf : evA st f = .pv (.val (.func (.yield l) #[] #[]))) (hx : ∀ (w : World) (Z : Nat → Prop) (ρ : Nat → Option Loc) (u : Value), Rel w Z ρ (evA st x) u → u = v) (hc : st.get E.nt = .ghost i)
    (hy : YieldsJ E.P E.J l i v go) (h : V E (.ops all os :: k) ⟨(E.nt, .ghost (i + 1)) :: (d, .kb go) :: st.tm, st.ob, st.nid⟩ Q) : V E (.ops all (o :: os) :: k) st Q := by
  intro B w Z ρ a R hs kk
  show wpL E.P all (cont E.P R k) (o :: os) a w
  unfold wpL
  have hw : Region.wanted o (yielded all a.tmps) = true := by
    rcases hg with hg | ⟨g, want, og, dg, h1, h2, h3, h4⟩
    · simp [Region.wanted, hg]
    · have hv : a.tmps.getD dg undef = .bool want := by
        have := hs.t dg
        rw [h4] at this
        unfold Rel at this
        exact this
      simp [Region.wanted, h1, yielded_of h2 h3 hv]
  rw [if_pos hw]
  obtain ⟨g0, G, g1, g2, g3, g4, g5⟩ := hs.j i hc
  obtain ⟨fn, tmps, assign, body, hrun, hround⟩ := hy w G g2.blt g1
  refine .inr ⟨fun _ _ => trivial, ?_⟩
  have hfe : a.eval f = .func (.yield l) #[] #[] := by
    have := evA_rel E hs f
    rw [hf] at this
    exact Rel_val this
  have hxe : a.eval x = v := hx w Z ρ _ (evA_rel E hs x)
  have hex : (execOp a.eval o).run E.P w = .ok (.round l fn tmps assign body) w := by
    unfold execOp
    simp only [ho, resolve, hfe, Deferred.ofValue, invoke]
    rw [Sem.run_bind]
    simp only [Sem.run_pure, Result.andThen_ok]
    simpa [hxe] using hrun
  show o.uponIn Fence.wide 1 E.P a _ _ ((execOp a.eval o).run E.P w)
  rw [hex, Oper.uponIn_round]
  refine ⟨fun h => by simp [Fence.wide] at h, hround.mono fun e w' hh => ?_⟩
  obtain ⟨rfl, G', k1, k2, k3, k4⟩ := hh
  show wpL E.P all (cont E.P R k) os (a.put o.dst (.bool go)) w'
  have hag : Agr Z w w' := fun b hb => k4.block b ⟨hs.o.zlt b hb, g3 b hb⟩
  have hb : Bel B w w' := ⟨k4.os, k4.tape, k4.output, k4.size, fun b hb => k4.block b ⟨hs.o.blt b hb, g4 b hb⟩, k4.drawn⟩
  have hO : ∀ M : Nat → Prop, (∀ b, M b → b < w'.heap.size) → (∀ id o L, st.obf id = some o → ρ id = some L → L.nil = false → ¬ M L.b) → SatO M w' Z ρ st.obf := fun M hm1 hm2 =>
    ⟨fun b hb => Nat.lt_of_lt_of_le (hs.o.zlt b hb) k4.size, hm1, fun id o L ho hl hn => by
      obtain ⟨q1, q2, q3, q4⟩ := g2.obj id o L ho hl hn
      exact ⟨hm2 id o L ho hl hn, Nat.lt_of_lt_of_le q2 k4.size, q3, q4.mono (fun _ h => h) hag (fun _ _ h => h) (k4.block _ ⟨q2, q1⟩)⟩, hs.o.nul, hs.o.inj⟩
  have hdlt : d < E.nt := blt_true hdn
  have hs2 : Sat E B ⟨(E.nt, .ghost (i + 1)) :: (d, .kb go) :: st.tm, st.ob, st.nid⟩ w' Z ρ (a.put o.dst (.bool go)) := by
    rw [hd]
    refine ⟨hO B (fun b hb' => Nat.lt_of_lt_of_le (hs.o.blt b hb') k4.size) fun id o L ho hl hn => (hs.o.obj id o L ho hl hn).1, fun t => ?_, hs.n, by rw [Act.put_size]; exact hs.sz, ⟨fun _ => False, hO _ (fun _ h => h.elim) fun _ _ _ _ _ _ h => h, fun _ _ h => h, ?_, ?_⟩, hs.b, hs.f, fun i' hi => ?_⟩
    · show Rel w' Z ρ (assoc .top ((E.nt, .ghost (i + 1)) :: (d, .kb go) :: st.tm) t) _
      simp only [assoc]
      split
      · unfold Rel; trivial
      · simp only [Act.put]
        split
        · rename_i e
          have := Nat.eq_of_beq_eq_true e
          subst this
          have hlt : d < a.tmps.size := by rw [hs.sz]; exact hdlt
          simp [Array.getD, hlt]
          unfold Rel; rfl
        · rename_i e
          have hne : d ≠ t := fun h => by subst h; have := Nat.beq_refl d; rw [this] at e; cases e
          have : (a.tmps.setIfInBounds d (.bool go)).getD t undef = a.tmps.getD t undef := by
            simp only [Array.getD_eq_getD_getElem?, Array.getElem?_setIfInBounds_ne hne]
          rw [this]
          exact Rel.mono (fun _ h => h) hag (fun _ _ h => h) _ _ (hs.t t)
    · show a.defers.Nodup
      rw [g0]; exact List.nodup_nil
    · show ∀ x ∈ a.defers, _
      rw [g0]; exact fun _ h => by cases h
    · have hi : assoc .top ((E.nt, .ghost (i + 1)) :: (d, .kb go) :: st.tm) E.nt = .ghost i' := hi
      simp only [assoc] at hi
      have h1 : Nat.beq E.nt E.nt = true := Nat.beq_refl _
      rw [h1] at hi
      simp only at hi
      cases hi
      refine ⟨g0, G', k1, hO G' k2 fun id o L ho hl hn hG => ?_, fun b hb' hG => ?_, fun b hb' hG => ?_, g5⟩
      · obtain ⟨q1, q2, _⟩ := g2.obj id o L ho hl hn
        rcases k3 _ hG with h | h
        · exact q1 h
        · omega
      · rcases k3 _ hG with h | h
        · exact g3 b hb' h
        · have := hs.o.zlt b hb'; omega
      · rcases k3 _ hG with h | h
        · exact g4 b hb' h
        · have := hs.o.blt b hb'; omega
  exact V.chain E h hs2 hb (fun b hb => .inl hb) kk

/-- A guarded operation that is not wanted. -/
theorem V_skip {all : Array Oper} {os : List Oper} {o : Oper} {k : List It} {st : St} {Q : Ex → St → Prop} {g dg : Nat} {want b : Bool} {og : Oper}
    (hg : o.guard = some (g, want)) (h2 : nthO all.toList g = some og) (h3 : og.dst = some dg) (h4 : st.get dg = .kb b) (hne : b ≠ want) (hdn : dstOK E o.dst = true)
    (h : V E (.ops all os :: k) (st.after o.dst (.tup []) [] 0) Q) : V E (.ops all (o :: os) :: k) st Q := by
  intro B w Z ρ a R hs kk
  show wpL E.P all (cont E.P R k) (o :: os) a w
  unfold wpL
  have hv : a.tmps.getD dg undef = .bool b := by
    have := hs.t dg
    rw [h4] at this
    unfold Rel at this
    exact this
  rw [if_neg (by simp [Region.wanted, hg, yielded_of h2 h3 hv, hne])]
  have hs2 : Sat E B (st.after o.dst (.tup []) [] 0) w Z ρ (a.put o.dst undef) :=
    Sat.step E hs (fun _ _ h => (by cases h)) (fun _ _ h => (by cases h)) (Post.pure Rel_undef) hdn
  exact V.chain E h hs2 (Bel.refl _ _) (fun _ h => .inl h) kk

/-- A function that hands out the values xs one after the other; m rounds come. -/
def Iter (P : Program) (gf : Nat) (caps : List PV) (xs : List Value) (go : Bool) (m : Nat) : Prop :=
  (∀ args w, (callFunc gf args).run P w = .ok (.enter gf args) w) ∧
  ∀ (w : World) (Z : Nat → Prop) (us : List Value) (l : Nat) (J : Nat → World → (Nat → Prop) → Prop), (∀ i w w' G, J i w G → Bel G w w' → (∀ b, Z b → w'.heap[b]? = w.heap[b]?) → J i w' G) →
    (∀ b, Z b → b < w.heap.size) → RdL w Z caps us → (∀ i v, xs[i]? = some v → (go = true ∨ i = 0) → YieldsJ P J l i v go) →
    ∀ G, J 0 w G → (∀ b, G b → b < w.heap.size) → (∀ b, Z b → ¬ G b) →
    Calls P gf (#[.func (.yield l) #[] #[]] ++ us.toArray) w fun e w' => ∃ v, e = .returned v ∧ ∃ G', J m w' G' ∧ (∀ b, G' b → b < w'.heap.size) ∧ (∀ b, G' b → G b ∨ w.heap.size ≤ b) ∧ Bel (fun b => b < w.heap.size ∧ ¬ G b) w w'

/-- How an iterator ends. -/
def RetI (nt m : Nat) (ex : Ex) (st : St) : Prop :=
  match ex with
  | .exit _ => False
  | _ => Out (st.get nt = .ghost m)

theorem iter_of_V {P : Program} {gf : Nat} {fn : Func} {body : Code} {caps : List PV} {xs : List Value} {go : Bool} {m : Nat} (hE : EnvOK E) (hpin : E.pin = []) (hP : E.P = P) (hf : P.funcs[gf]? = some fn) (hb : fn.body = some body) (hnt : fn.ntmps = E.nt) (hrs : fn.results = #[])
    (hargs : caps.length + 1 ≤ E.nt) (hen : ∀ args w, (callFunc gf args).run P w = .ok (.enter gf args) w)
    (h : ∀ J Z0 Jst l, (∀ i v, xs[i]? = some v → (go = true ∨ i = 0) → YieldsJ E.P J l i v go) → V { E with J := J, Z0 := Z0, Jst := Jst } [.code body] ⟨(E.nt, .ghost 0) :: params 0 (.pv (.val (.func (.yield l) #[] #[])) :: caps.map .pv), [], 0⟩ (RetI E.nt m)) :
    Iter P gf caps xs go m := by
  subst hP
  refine ⟨hen, fun w Z us l J Jst hz hrel hy G hJ hG hZG => ?_⟩
  have hrelL : RelL w Z noρ (.pv (.val (.func (.yield l) #[] #[])) :: caps.map .pv) (.func (.yield l) #[] #[] :: us) := by
    unfold RelL
    exact ⟨_, _, rfl, by unfold Rel Rd; exact ⟨rfl, rfl⟩, RelL_of_RdL hrel⟩
  have hlen := hrelL.length
  simp only [List.length_cons, List.length_map] at hlen
  let F : Nat → Prop := fun b => b < w.heap.size ∧ ¬ G b
  have harr : (#[.func (.yield l) #[] #[]] ++ us.toArray : Array Value) = (Value.func (.yield l) #[] #[] :: us).toArray := by
    apply Array.toList_inj.1; simp
  rw [harr]
  have hO : ∀ M : Nat → Prop, (∀ b, M b → b < w.heap.size) → SatO M w Z noρ (fun _ => none) := fun M hm => ⟨hz, hm, fun _ _ _ h => (by cases h), fun _ _ _ h => (by cases h), fun _ _ _ _ _ _ h => (by cases h)⟩
  have hs : Sat { E with J := J, Z0 := Z, Jst := Jst } F ⟨(E.nt, .ghost 0) :: params 0 (.pv (.val (.func (.yield l) #[] #[])) :: caps.map .pv), [], 0⟩ w Z noρ
      { tmps := (Value.func (.yield l) #[] #[] :: us).toArray ++ Array.replicate (E.nt - (Value.func (.yield l) #[] #[] :: us).toArray.size) undef, defers := [] } := by
    refine ⟨hO F fun b hb => hb.1, fun t => ?_, fun _ _ => rfl, ?_, ⟨fun _ => False, hO _ fun _ h => h.elim, fun _ _ h => h, List.nodup_nil, fun _ h => by cases h⟩, fun _ _ h => (by cases h), fun id h => (by
      have h : id ∈ E.pin := h
      rw [hpin] at h; cases h), fun i hi => ⟨rfl, G, ?_, hO G hG, hZG, fun b hb => hb.2, fun b hb => hb⟩⟩
    · show Rel w Z noρ (assoc .top ((E.nt, .ghost 0) :: params 0 (.pv (.val (.func (.yield l) #[] #[])) :: caps.map .pv)) t) _
      simp only [assoc]
      split
      · unfold Rel; trivial
      · rw [assoc_params, if_pos (Nat.zero_le _), Nat.sub_zero]
        cases e : (AV.pv (.val (.func (.yield l) #[] #[])) :: caps.map .pv)[t]? with
        | none => exact trivial
        | some x =>
          obtain ⟨v, h1, h2⟩ := hrelL.get e
          simp only [Option.getD_some]
          have hlt : t < (Value.func (.yield l) #[] #[] :: us).length := (List.getElem?_eq_some_iff.1 h1).1
          rw [Array.getD_eq_getD_getElem?, Array.getElem?_append_left (by simpa using hlt)]
          simp only [List.getElem?_toArray, h1, Option.getD_some]
          exact h2
    · simp only [Array.size_append, List.size_toArray, Array.size_replicate, List.length_cons]
      show us.length + 1 + (E.nt - (us.length + 1)) = E.nt
      omega
    · have hi : assoc .top ((E.nt, .ghost 0) :: params 0 (.pv (.val (.func (.yield l) #[] #[])) :: caps.map .pv)) E.nt = .ghost i := hi
      simp only [assoc] at hi
      have h1 : Nat.beq E.nt E.nt = true := Nat.beq_refl _
      rw [h1] at hi
      cases hi
      exact hJ
  refine calls_of_sat hf hb ?_
  rw [hnt]
  refine wp_mono (h J Z Jst l hy F w Z noρ _ (bodyPostM Fence.wide 1 E.P fn (fun e w' => ∃ v, e = .returned v ∧ ∃ G', J m w' G' ∧ (∀ b, G' b → b < w'.heap.size) ∧ (∀ b, G' b → G b ∨ w.heap.size ≤ b) ∧ Bel (fun b => b < w.heap.size ∧ ¬ G b) w w')) hs fun ex st' w1 Z1 ρ1 a1 hQ hs1 hb1 hz1 => ?_) fun e a w h => h
  have hget : st'.get E.nt = .ghost m := by
    cases ex with
    | exit id => exact hQ.elim
    | normal => exact hQ.h
    | ret => exact hQ.h
  obtain ⟨g0, G', k1, k2, k3, k4, k5⟩ := hs1.j m hget
  have hres : (results fn a1.tmps).run E.P w1 = .ok (.tuple #[]) w1 := by
    unfold results
    rw [hrs]
    simp
  have fin : LeavesInM Fence.wide 1 E.P fn a1.tmps (fun e w' => ∃ v, e = .returned v ∧ ∃ G', J m w' G' ∧ (∀ b, G' b → b < w'.heap.size) ∧ (∀ b, G' b → G b ∨ w.heap.size ≤ b) ∧ Bel (fun b => b < w.heap.size ∧ ¬ G b) w w') a1.defers .returning w1 := by
    rw [g0]
    refine ⟨_, hres, _, rfl, G', k1, k2.blt, fun b hb => ?_, hb1⟩
    by_cases hlt : b < w.heap.size
    · refine .inl (Classical.byContradiction fun hn => k4 b ⟨hlt, hn⟩ hb)
    · exact .inr (by omega)
  cases ex with
  | normal => exact fin
  | ret => exact fin
  | exit id => exact hQ.elim

end Go.AI

/- A loop over an iterator, as a rule. No condition. -/
namespace Go.AI
open Go Go.RowKit
set_option linter.unusedVariables false
variable (E : Env)

def isDefer (o : Oper) : Bool := match o.op with | .defer _ => true | _ => false
def noDefer (l : List Oper) : Bool := l.all fun o => !isDefer o
theorem noDefer_spec {l : List Oper} (h : noDefer l = true) (o : Oper) (hm : o ∈ l) (c : Call) : o.op ≠ .defer c := fun he => by
  have := List.all_eq_true.1 h o hm
  unfold isDefer at this
  rw [he] at this
  cases this

theorem wpIn_n {r : Option Nat} {n m : Nat} {P : Program} {c : Code} {Q : Exit → Act → World → Prop} {a : Act} {w : World} (h : c.wpIn (wideR r) n P Q a w) : c.wpIn (wideR r) m P Q a w :=
  fun b k cs hro hb _ => h b k cs hro hb (fun d hd => by simp [Fence.wide] at hd)

theorem SatO.agree {B : Nat → Prop} {w w' : World} {Z : Nat → Prop} {ρ : Nat → Option Loc} {ob : Nat → Option AO} (h : SatO B w Z ρ ob) (hs : w.heap.size ≤ w'.heap.size) (hz : Agr Z w w')
    (ho : ∀ id o L, ob id = some o → ρ id = some L → L.nil = false → w'.heap[L.b]? = w.heap[L.b]?) : SatO B w' Z ρ ob :=
  ⟨fun b hb => Nat.lt_of_lt_of_le (h.zlt b hb) hs, fun b hb => Nat.lt_of_lt_of_le (h.blt b hb) hs, fun id o L h1 h2 h3 => by
    obtain ⟨q1, q2, q3, q4⟩ := h.obj id o L h1 h2 h3
    exact ⟨q1, Nat.lt_of_lt_of_le q2 hs, q3, q4.mono (fun _ h => h) hz (fun _ _ h => h) (ho id o L h1 h2 h3)⟩, h.nul, h.inj⟩

/-- A block of an object. -/
def ownB (ρ : Nat → Option Loc) (ob : Nat → Option AO) (b : Nat) : Prop := ∃ id o L, ob id = some o ∧ ρ id = some L ∧ L.nil = false ∧ L.b = b
theorem SatO.ownB_not {B : Nat → Prop} {w : World} {Z : Nat → Prop} {ρ : Nat → Option Loc} {ob : Nat → Option AO} (h : SatO B w Z ρ ob) {b : Nat} (hb : ownB ρ ob b) : ¬ B b ∧ b < w.heap.size ∧ ¬ Z b := by
  obtain ⟨id, o, L, h1, h2, h3, rfl⟩ := hb
  obtain ⟨q1, q2, q3, _⟩ := h.obj id o L h1 h2 h3
  exact ⟨q1, q2, q3⟩

def rbody (rt : Bool) (idr : Nat) (ops : Array Oper) : Code := match rt with
  | true => .seq (.region idr ops false) .ret
  | false => .region idr ops false

theorem V_range (hE : EnvOK E) {g : Operand} {p ida idb idr gf m : Nat} {opsA opsB : Array Oper} {k : List It} {st : St} {Q : Ex → St → Prop} {caps : List PV} {xs : List Value} {rt : Bool} {body : Code}
    (tm0 : List (Nat × AV)) (S : Nat → List (Nat × Option AO)) (n0 : Nat) (xa : Nat → AV) (pin : List Nat) (hbd : body = .block idb (rbody rt idr opsB))
    (hg : evA st g = .pv (.fn (.func gf) caps)) (hI : Iter E.P gf caps xs (!rt) m) (hm : rt = true → m ≤ 1) (hxa : ∀ i v, xs[i]? = some v → ∀ (w : World) (Z : Nat → Prop) (ρ : Nat → Option Loc), Rel w Z ρ (xa i) v)
    (hA : noDefer opsA.toList = true) (hB : noDefer opsB.toList = true) (hp : Nat.blt p E.nt = true) (hxng : ∀ i j, xa i ≠ .ghost j) (hng : ∀ i, assoc .top tm0 E.nt ≠ .ghost i) (hEJ : ∀ i w G, ¬ E.J i w G)
    (hpin : ∀ id, id ∈ pin → ∃ t, id ∈ idsA (assoc .top tm0 t)) (hall : ∀ t id, id ∈ idsA (assoc .top tm0 t) → id ∈ pin) (hsub : ∀ id, id ∈ E.pin → id ∈ pin)
    (hle : Le E st ⟨tm0, S 0, n0⟩)
    (round : ∀ loc i, i < xs.length → V { E with pin := pin, loc := loc } [.ops opsA opsA.toList] ⟨(p, xa i) :: tm0, S i, n0⟩ fun ex st1 => match ex with
      | .normal => V { E with pin := pin, loc := loc } [.ops opsB opsB.toList] st1 fun ex st2 => match ex with
        | .normal => Le { E with pin := pin, loc := loc } st2 ⟨[], S (i + 1), n0⟩
        | _ => False
      | _ => False)
    (outR : rt = true → m = 1 → Q .ret ⟨tm0, S 1, n0⟩) (outN : rt = false ∨ m = 0 → V E k ⟨tm0, S m, n0⟩ Q) :
    V E (.code (.rangeFunc g #[p] (.region ida opsA false) body) :: k) st Q := by
  subst hbd
  intro B w Z0 ρ0 a R hs0 kk0
  have hge := evA_rel E hs0 g
  rw [hg] at hge
  obtain ⟨Z, ρ, hs, hzsub, hz0⟩ := hle B w Z0 ρ0 a hs0
  have kk : ∀ ex st' w' Z' ρ' a', Q ex st' → Sat E B st' w' Z' ρ' a' → Bel B w w' → (∀ b, Z' b → Z b ∨ ¬ B b) → R ex.up a' w' :=
    fun ex st' w' Z' ρ' a' hQ hs' hb' hz' => kk0 ex st' w' Z' ρ' a' hQ hs' hb' fun b hb => (hz' b hb).elim (hz0 b) .inr
  have hge : Rel w Z ρ (.pv (.fn (.func gf) caps)) (a.eval g) := by
    unfold Rel at hge ⊢
    exact Rd.mono hzsub (fun _ _ => rfl) _ _ hge
  clear kk0 hs0 hzsub hz0 hg
  unfold Rel Rd at hge
  obtain ⟨us, hfe, hus⟩ := hge
  obtain ⟨M, hM1, hM2, hM3, hM4⟩ := hs.d
  show (Code.rangeFunc g #[p] (.region ida opsA false) (.block idb (rbody rt idr opsB))).wp E.P (cont E.P R k) a w
  refine (wpIn_wide (n := 1)).1 (wpIn_rangeFunc fun fn _ => ?_)
  -- the loop's own blocks
  let D := w.heap.size
  let lo := w.heap.size + 1
  let rec0 : Loop := { state := .ready, pending := none, fn := fn, tmps := a.tmps, params := #[p], assign := .region ida opsA false, body := .block idb (rbody rt idr opsB), defers := w.heap.size }
  let recJ : Nat → Loop := fun i => if rt = true ∧ i ≠ 0 then { rec0 with state := .done, pending := some .ret } else rec0
  let w1 := (w.alloc (.deferred (some []))).alloc (.loop rec0)
  have hw1s : w1.heap.size = w.heap.size + 2 := by simp [w1]
  have hw1o : ∀ b, b < w.heap.size → w1.heap[b]? = w.heap[b]? := fun b hb => by
    show ((w.alloc (.deferred (some []))).alloc (.loop rec0)).heap[b]? = _
    rw [Below.heap_alloc _ _ _ (by simp; omega), Below.heap_alloc _ _ _ hb]
  have hw1l : w1.heap[lo]? = some (.loop rec0) := by
    have := World.alloc_heap_new (w.alloc (.deferred (some []))) (.loop rec0)
    rw [World.size_alloc] at this
    exact this
  have hw1D : w1.heap[D]? = some (.deferred (some [])) := by
    show ((w.alloc (.deferred (some []))).alloc (.loop rec0)).heap[D]? = _
    rw [Below.heap_alloc _ _ _ (by simp [D]), World.alloc_heap_new]
  have hb1 : ∀ X : Nat → Prop, (∀ b, X b → b < w.heap.size) → Bel X w w1 := fun X hX => ⟨rfl, rfl, rfl, by omega, fun b hb => hw1o b (hX b hb), Nat.le_refl _⟩
  refine ⟨lo, [{ target := .collected w.heap.size, args := #[] }], w1, { target := .fn (.func gf) us, args := #[.func (.yield lo) #[] #[]] }, w1, gf, #[.func (.yield lo) #[] #[]] ++ us, w1, run_enterLoop_outer fn a.tmps #[p] _ _, ?_, fun _ _ => trivial, ?_, fun h => by simp [Fence.wide] at h, ?_⟩
  · simp only [resolve, rangeCall, hfe, Deferred.ofValue]
    simp [Act.eval]
  · simp only [invoke]
    exact hI.1 _ _
  -- what is protected
  let Bp : Nat → Prop := fun b => B b ∨ M b
  have hBp : SatO Bp w Z ρ (St.obf ⟨tm0, S 0, n0⟩) := ⟨hs.o.zlt, fun b hb => hb.elim (hs.o.blt b) (hM1.blt b), fun id o L h1 h2 h3 => by
    obtain ⟨q1, q2, q3, q4⟩ := hs.o.obj id o L h1 h2 h3
    exact ⟨fun h => h.elim q1 (hM1.obj id o L h1 h2 h3).1, q2, q3, q4⟩, hs.o.nul, hs.o.inj⟩
  let E' : Env := { E with pin := pin, loc := ρ }
  let a0 : Act := { tmps := a.tmps, defers := [] }
  let J : Nat → World → (Nat → Prop) → Prop := fun i v G => ∃ Zi ρi, Sat E' Bp ⟨tm0, S i, n0⟩ v Zi ρi a0 ∧ (∀ b, Z b → Zi b) ∧ (∀ b, Zi b → Z b ∨ ¬ Bp b) ∧ v.heap[lo]? = some (.loop (recJ i)) ∧ v.heap[D]? = some (.deferred (some [])) ∧
    (∀ b, G b ↔ (b = lo ∨ b = D ∨ ownB ρi (St.obf ⟨tm0, S i, n0⟩) b ∨ (Zi b ∧ ¬ Z b))) ∧ ¬ Zi lo ∧ ¬ Zi D ∧ ¬ ownB ρi (St.obf ⟨tm0, S i, n0⟩) lo ∧ ¬ ownB ρi (St.obf ⟨tm0, S i, n0⟩) D
  have mkSat : ∀ {X : Nat → Prop} {i : Nat} {v : World} {Zi : Nat → Prop} {ρi : Nat → Option Loc}, SatO X v Zi ρi (St.obf ⟨tm0, S i, n0⟩) → (∀ t, Rel v Zi ρi (assoc .top tm0 t) (a.tmps.getD t undef)) → (∀ id, n0 ≤ id → ρi id = none) → (∀ id o, St.obf ⟨tm0, S i, n0⟩ id = some o → id < n0) →
      (∀ id, id ∈ pin → ∃ L, ρ id = some L ∧ ρi id = some L) → Sat E' X ⟨tm0, S i, n0⟩ v Zi ρi a0 := fun h1 h2 h3 h4 h5 =>
    ⟨h1, h2, h3, hs.sz, ⟨fun _ => False, h1.weaken fun _ h => h.elim, fun _ _ h => h, List.nodup_nil, fun _ h => by cases h⟩, h4, h5, fun i hi => absurd hi (hng i)⟩
  have Jst : ∀ i v v' G, J i v G → Bel G v v' → (∀ b, Z b → v'.heap[b]? = v.heap[b]?) → J i v' G := by
    rintro i v v' G ⟨Zi, ρi, h1, h2, h3, h4, h5, h6, h7⟩ hb hz
    have hzz : Agr Zi v v' := fun b hb' => by
      by_cases e : Z b
      · exact hz b e
      · exact hb.block b ((h6 b).2 (.inr (.inr (.inr ⟨hb', e⟩))))
    refine ⟨Zi, ρi, mkSat (h1.o.agree hb.size hzz fun id o L q1 q2 q3 => hb.block _ ((h6 _).2 (.inr (.inr (.inl ⟨id, o, L, q1, q2, q3, rfl⟩))))) (fun t => Rel.mono (fun _ h => h) hzz (fun _ _ h => h) _ _ (h1.t t)) h1.n h1.b h1.f, h2, h3, ?_, ?_, h6, h7⟩
    · rw [hb.block lo ((h6 lo).2 (.inl rfl))]; exact h4
    · rw [hb.block D ((h6 D).2 (.inr (.inl rfl)))]; exact h5
  let G0 : Nat → Prop := fun b => b = lo ∨ b = D ∨ ownB ρ (St.obf ⟨tm0, S 0, n0⟩) b ∨ (Z b ∧ ¬ Z b)
  have hJ0 : J 0 w1 G0 := by
    have hzz : Agr Z w w1 := fun b hb => hw1o b (hs.o.zlt b hb)
    refine ⟨Z, ρ, mkSat (hBp.agree (by omega) hzz fun id o L q1 q2 q3 => hw1o _ (hs.o.obj id o L q1 q2 q3).2.1) (fun t => Rel.mono (fun _ h => h) hzz (fun _ _ h => h) _ _ (hs.t t)) hs.n hs.b (fun id hid => ?_), fun _ h => h, fun _ h => .inl h, ?_, hw1D, fun b => Iff.rfl, fun h => ?_, fun h => ?_, fun h => ?_, fun h => ?_⟩
    · obtain ⟨t, ht⟩ := hpin id hid
      obtain ⟨L, hL⟩ := Rel.bound _ _ id ht (hs.t t)
      exact ⟨L, hL, hL⟩
    · show w1.heap[lo]? = some (.loop (if rt = true ∧ (0 : Nat) ≠ 0 then _ else rec0))
      rw [if_neg (by simp)]; exact hw1l
    · exact absurd (show w.heap.size + 1 < w.heap.size from hs.o.zlt _ h) (by omega)
    · have := hs.o.zlt _ h; simp [D] at this
    · exact absurd (show w.heap.size + 1 < w.heap.size from (hs.o.ownB_not h).2.1) (by omega)
    · have := (hs.o.ownB_not h).2.1; simp [D] at this
  -- a round
  have hround : ∀ i v, xs[i]? = some v → ((!rt) = true ∨ i = 0) → YieldsJ E.P J lo i v (!rt) := by
    rintro i x hx hgo v G hG ⟨Zi, ρi, h1, h2, h3, h4, h5, h6, h7, h8, h9, h10⟩
    have hrec : recJ i = rec0 := by
      show (if rt = true ∧ i ≠ 0 then _ else rec0) = rec0
      rw [if_neg]
      rintro ⟨e, h⟩
      rcases hgo with hgo | hgo
      · rw [e] at hgo; cases hgo
      · exact h hgo
    rw [hrec] at h4
    let Br : Nat → Prop := fun b => b < v.heap.size ∧ ¬ ownB ρi (St.obf ⟨tm0, S i, n0⟩) b
    have hlos : lo < v.heap.size := (Array.getElem?_eq_some_iff.1 h4).1
    have hDs : D < v.heap.size := (Array.getElem?_eq_some_iff.1 h5).1
    have hBrl : Br lo := ⟨hlos, h9⟩
    have hBrD : Br D := ⟨hDs, h10⟩
    have hBrZ : ∀ b, Zi b → Br b := fun b hb => ⟨h1.o.zlt b hb, fun ho => (h1.o.ownB_not ho).2.2 hb⟩
    have hBrB : ∀ b, Bp b → Br b := fun b hb => ⟨h1.o.blt b hb, fun ho => (h1.o.ownB_not ho).1 hb⟩
    have hoBr : SatO Br v Zi ρi (St.obf ⟨tm0, S i, n0⟩) := ⟨h1.o.zlt, fun b hb => hb.1, fun id o L q1 q2 q3 => by
      obtain ⟨k1, k2, k3, k4⟩ := h1.o.obj id o L q1 q2 q3
      exact ⟨fun hb => hb.2 ⟨id, o, L, q1, q2, q3, rfl⟩, k2, k3, k4⟩, h1.o.nul, h1.o.inj⟩
    let a1 : Act := { tmps := a.tmps.setIfInBounds p x, defers := [] }
    have hplt : p < a.tmps.size := by rw [hs.sz]; exact blt_true hp
    have hs1 : Sat E' Br ⟨(p, xa i) :: tm0, S i, n0⟩ v Zi ρi a1 := by
      refine ⟨hoBr, fun t => ?_, h1.n, by show (a.tmps.setIfInBounds p x).size = E.nt; simp [hs.sz], ⟨fun _ => False, hoBr.weaken fun _ h => h.elim, fun _ _ h => h, List.nodup_nil, fun _ h => by cases h⟩, h1.b, h1.f, fun j hj => ?_⟩
      · show Rel v Zi ρi (assoc .top ((p, xa i) :: tm0) t) ((a.tmps.setIfInBounds p x).getD t undef)
        simp only [assoc]
        split
        · rename_i e
          have := Nat.eq_of_beq_eq_true e
          subst this
          have : (a.tmps.setIfInBounds p x).getD p undef = x := by simp [Array.getD, hplt]
          rw [this]
          exact hxa i x hx v Zi ρi
        · rename_i e
          have hne : p ≠ t := fun h => by subst h; have := Nat.beq_refl p; rw [this] at e; cases e
          have : (a.tmps.setIfInBounds p x).getD t undef = a.tmps.getD t undef := by
            simp only [Array.getD_eq_getD_getElem?, Array.getElem?_setIfInBounds_ne hne]
          rw [this]
          exact h1.t t
      · have hj : assoc .top ((p, xa i) :: tm0) E.nt = .ghost j := hj
        simp only [assoc] at hj
        split at hj
        · exact absurd hj (hxng i j)
        · exact absurd hj (hng j)
    have hilt : i < xs.length := (List.getElem?_eq_some_iff.1 hx).1
    -- what a round comes to
    have fin : ∀ {wA wC : World} {ZC : Nat → Prop} {ρC : Nat → Option Loc} {aC : Act} {st2 : St} (jump : Option Code) (hj : jump = if rt = true then some .ret else none), Bel Br v wA → Sat E' Br st2 wC ZC ρC aC → Bel Br (wA.putObj lo (.loop { rec0 with state := .busy })) wC → (∀ b, ZC b → Zi b ∨ ¬ Br b) →
        Le E' st2 ⟨[], S (i + 1), n0⟩ → ∃ u w', (Instr.endRound lo jump).run E.P wC = .ok u w' ∧ (Ending.returned u = .returned (.bool (!rt)) ∧ ∃ G', J (i + 1) w' G' ∧ (∀ b, G' b → b < w'.heap.size) ∧ (∀ b, G' b → G b ∨ v.heap.size ≤ b) ∧ Bel (fun b => b < v.heap.size ∧ ¬ G b) v w') := by
      intro wA wC ZC ρC aC st2 jump hj hbA hsC hbC hzC hle2
      obtain ⟨Z2, ρ2, hs2, _, hz2⟩ := hle2 Br wC ZC ρC aC hsC
      have hZ2 : ∀ b, Z2 b → Zi b ∨ ¬ Br b := fun b hb => (hz2 b hb).elim (hzC b) .inr
      have hAl : lo < wA.heap.size := Nat.lt_of_lt_of_le hlos hbA.size
      have hCl : wC.heap[lo]? = some (.loop { rec0 with state := .busy }) := by
        rw [hbC.block lo hBrl]; exact World.putObj_heap_same hAl
      have hCs : v.heap.size ≤ wC.heap.size := by
        have h := hbC.size; rw [World.putObj_size] at h
        exact Nat.le_trans hbA.size h
      have hCo : ∀ b, Br b → b ≠ lo → wC.heap[b]? = v.heap[b]? := fun b hb hne => by
        rw [hbC.block b hb, World.putObj_heap_other hne]; exact hbA.block b hb
      refine ⟨_, _, run_endRound jump hCl, ?_⟩
      let wD := wC.putObj lo (.loop { ({ rec0 with state := .busy } : Loop) with state := if jump.isNone then .ready else .done, pending := jump })
      have hDs' : wD.heap.size = wC.heap.size := World.putObj_size
      have hDo : ∀ b, Br b → b ≠ lo → wD.heap[b]? = v.heap[b]? := fun b hb hne => (World.putObj_heap_other hne).trans (hCo b hb hne)
      have hZil : ∀ b, Zi b → b ≠ lo := fun b hb e => h7 (e ▸ hb)
      let Zn : Nat → Prop := fun b => Zi b ∨ Z2 b
      have hZnl : ∀ b, Zn b → b ≠ lo := by
        rintro b (hb | hb) rfl
        · exact h7 hb
        · rcases hZ2 _ hb with h | h
          · exact h7 h
          · exact h hBrl
      have hOl : ∀ id o L, St.obf ⟨[], S (i + 1), n0⟩ id = some o → ρ2 id = some L → L.nil = false → L.b ≠ lo := fun id o L q1 q2 q3 e => (hs2.o.obj id o L q1 q2 q3).1 (e ▸ hBrl)
      have hagZi : Agr Zi v wD := fun b hb => hDo b (hBrZ b hb) (hZil b hb)
      have hagZ2 : Agr Z2 wC wD := fun b hb => World.putObj_heap_other (hZnl b (.inr hb))
      have hO : SatO Bp wD Zn ρ2 (St.obf ⟨tm0, S (i + 1), n0⟩) := by
        refine ⟨fun b hb => ?_, fun b hb => ?_, fun id o L q1 q2 q3 => ?_, hs2.o.nul, hs2.o.inj⟩
        · rw [hDs']
          rcases hb with hb | hb
          · exact Nat.lt_of_lt_of_le (h1.o.zlt b hb) hCs
          · exact hs2.o.zlt b hb
        · rw [hDs']; exact Nat.lt_of_lt_of_le (h1.o.blt b hb) hCs
        · obtain ⟨k1, k2, k3, k4⟩ := hs2.o.obj id o L q1 q2 q3
          refine ⟨fun h => k1 (hBrB _ h), by rw [hDs']; exact k2, fun h => ?_, ObjOK.mono (fun b h => .inr h) hagZ2 (fun _ _ h => h) (World.putObj_heap_other (hOl id o L q1 q2 q3)) k4⟩
          rcases h with h | h
          · exact k1 (hBrZ _ h)
          · exact k3 h
      have hpinEq : ∀ id, id ∈ pin → ρ2 id = ρi id := fun id hid => by
        obtain ⟨L1, q1, q2⟩ := h1.f id hid
        obtain ⟨L2, q3, q4⟩ := hs2.f id hid
        rw [q1] at q3; cases q3
        rw [q2, q4]
      have hJn : J (i + 1) wD (fun b => b = lo ∨ b = D ∨ ownB ρ2 (St.obf ⟨tm0, S (i + 1), n0⟩) b ∨ (Zn b ∧ ¬ Z b)) := by
        refine ⟨Zn, ρ2, mkSat hO (fun t => ?_) hs2.n hs2.b hs2.f, fun b hb => .inl (h2 b hb), fun b hb => ?_, ?_, ?_, fun b => Iff.rfl, fun h => hZnl lo h rfl, fun h => ?_, fun h => ?_, fun h => ?_⟩
        · exact Rel.mono (fun b h => .inl h) hagZi (fun _ _ h => h) _ _ (Rel.only _ _ (fun id hid => hpinEq id (hall t id hid)) (h1.t t))
        · rcases hb with hb | hb
          · exact h3 b hb
          · rcases hZ2 b hb with h | h
            · exact h3 b h
            · exact .inr fun hb => h (hBrB b hb)
        · show (wC.putObj lo _).heap[lo]? = _
          rw [World.putObj_heap_same (Nat.lt_of_lt_of_le hlos hCs)]
          show some (Obj.loop _) = some (Obj.loop (if rt = true ∧ i + 1 ≠ 0 then _ else rec0))
          subst hj
          cases rt with
          | true => simp
          | false => simp [rec0]
        · rw [hDo D hBrD (by simp [D, lo])]; exact h5
        · rcases h with h | h
          · exact h8 h
          · rcases hZ2 _ h with h | h
            · exact h8 h
            · exact h hBrD
        · obtain ⟨id, o, L, q1, q2, q3, e⟩ := h
          exact hOl id o L q1 q2 q3 e
        · obtain ⟨id, o, L, q1, q2, q3, e⟩ := h
          exact (hs2.o.obj id o L q1 q2 q3).1 (e ▸ hBrD)
      refine ⟨?_, _, hJn, fun b hb => ?_, fun b hb => ?_, ⟨?_, ?_, ?_, ?_, fun b hb => ?_, ?_⟩⟩
      · rw [hj]; cases rt <;> rfl
      · rw [hDs']
        rcases hb with rfl | rfl | hb | hb
        · exact Nat.lt_of_lt_of_le hlos hCs
        · exact Nat.lt_of_lt_of_le hDs hCs
        · have := (hO.ownB_not hb).2.1; rwa [hDs'] at this
        · have := hO.zlt b hb.1; rwa [hDs'] at this
      · rcases hb with rfl | rfl | hb | hb
        · exact .inl ((h6 lo).2 (.inl rfl))
        · exact .inl ((h6 D).2 (.inr (.inl rfl)))
        · obtain ⟨id, o, L, q1, q2, q3, rfl⟩ := hb
          have hnB := (hs2.o.obj id o L q1 q2 q3).1
          by_cases hlt : L.b < v.heap.size
          · exact .inl ((h6 _).2 (.inr (.inr (.inl (Classical.byContradiction fun hn => hnB ⟨hlt, hn⟩)))))
          · exact .inr (by omega)
        · rcases hb.1 with h | h
          · exact .inl ((h6 _).2 (.inr (.inr (.inr ⟨h, hb.2⟩))))
          · rcases hZ2 b h with h | h
            · exact .inl ((h6 _).2 (.inr (.inr (.inr ⟨h, hb.2⟩))))
            · by_cases hlt : b < v.heap.size
              · exact .inl ((h6 _).2 (.inr (.inr (.inl (Classical.byContradiction fun hn => h ⟨hlt, hn⟩)))))
              · exact .inr (by omega)
      · exact hbC.os.trans hbA.os
      · exact hbC.tape.trans hbA.tape
      · exact hbC.output.trans hbA.output
      · show v.heap.size ≤ wD.heap.size
        rw [hDs']; exact hCs
      · refine hDo b ⟨hb.1, fun ho => hb.2 ((h6 b).2 (.inr (.inr (.inl ho))))⟩ fun e => hb.2 ((h6 b).2 (.inl e))
      · exact Nat.le_trans hbA.drawn hbC.drawn
    refine ⟨fn, a.tmps.setIfInBounds p x, .region ida opsA false, .block idb (rbody rt idr opsB), ?_, ?_⟩
    · have := run_yield (P := E.P) (args := #[x]) h4 rfl
      simpa [rec0] using this
    · refine roundIn_of_wpIn trivial (wpIn_n (n := 1) (wpIn_region_L (r := some lo) (.inr (noDefer_spec hA)) ?_))
      refine round ρ i hilt Br v Zi ρi a1 _ hs1 fun ex st1 wA ZA ρA aA hQ hsA hbA hzA => ?_
      cases ex with
      | ret => exact hQ.elim
      | exit id => exact hQ.elim
      | normal =>
        have hAl : wA.heap[lo]? = some (.loop rec0) := (hbA.block lo hBrl).trans h4
        refine ⟨_, run_beginRound hAl rfl, ?_⟩
        have hZAl : ∀ b, ZA b → ¬ (b = lo) := fun b hb e => by
          subst e
          rcases hzA _ hb with h | h
          · exact h7 h
          · exact h hBrl
        have hlA : SatO (fun b => b = lo) wA ZA ρA st1.obf := hsA.o.weaken fun b hb => by rw [hb]; exact hBrl
        have hagA : Agr ZA wA (wA.putObj lo (.loop { rec0 with state := .busy })) := fun b hb => World.putObj_heap_other (hZAl b hb)
        obtain ⟨MA, m1, m2, m3, m4⟩ := hsA.d
        have hsB : Sat E' Br st1 (wA.putObj lo (.loop { rec0 with state := .busy })) ZA ρA aA :=
          ⟨hsA.o.put hlA hZAl rfl _, fun t => Rel.mono (fun _ h => h) hagA (fun _ _ h => h) _ _ (hsA.t t), hsA.n, hsA.sz, ⟨MA, m1.put hlA hZAl rfl _, m2, m3, fun x hx => ?_⟩, hsA.b, hsA.f, fun j hj => absurd (hsA.j j hj).2.choose_spec.1 (hEJ _ _ _)⟩
        · have hzAZ : ∀ b, ZA b → Zi b ∨ ¬ Br b := hzA
          have hbB : (Code.block idb (rbody rt idr opsB)).wpIn (wideR (some lo)) 1 E.P (roundPost E.P lo fun e w' => e = .returned (.bool (!rt)) ∧ ∃ G', J (i + 1) w' G' ∧ (∀ b, G' b → b < w'.heap.size) ∧ (∀ b, G' b → G b ∨ v.heap.size ≤ b) ∧ Bel (fun b => b < v.heap.size ∧ ¬ G b) v w') aA (wA.putObj lo (.loop { rec0 with state := .busy })) := by
            refine wpIn_block ?_
            cases hrt : rt with
            | false =>
              subst hrt
              refine wpIn_region_L (r := some lo) (.inr (noDefer_spec hB)) ?_
              refine hQ Br _ ZA ρA aA _ hsB fun ex st2 wC ZC ρC aC hQ2 hsC hbC hzC => ?_
              cases ex with
              | ret => exact hQ2.elim
              | exit id => exact hQ2.elim
              | normal => exact fin none rfl hbA hsC hbC (fun b hb => (hzC b hb).elim (hzAZ b) .inr) hQ2
            | true =>
              subst hrt
              refine wpIn_seq (wpIn_region_L (r := some lo) (.inr (noDefer_spec hB)) ?_)
              refine hQ Br _ ZA ρA aA _ hsB fun ex st2 wC ZC ρC aC hQ2 hsC hbC hzC => ?_
              cases ex with
              | ret => exact hQ2.elim
              | exit id => exact hQ2.elim
              | normal => exact wpIn_ret (fin (some .ret) rfl hbA hsC hbC (fun b hb => (hzC b hb).elim (hzAZ b) .inr) hQ2)
          exact wpIn_n hbB
        · obtain ⟨D', e, q1, q2, q3⟩ := m4 x hx
          refine ⟨D', e, q1, q2, ?_⟩
          rw [World.putObj_heap_other]
          · exact q3
          · rintro rfl; rw [hAl] at q3; cases q3
  -- the iterator
  refine callsIn_wideR (r := none) (Calls.mono (hI.2 w1 Z us.toList lo J Jst (fun b hb => by have := hs.o.zlt b hb; omega) (RdL.mono (fun _ h => h) (fun b hb => hw1o b (hs.o.zlt b hb)) _ _ hus) hround G0 hJ0 (fun b hb => ?_) (fun b hb hg => ?_)) fun e w3 hh => ?_)
  · rcases hb with rfl | rfl | hb | hb
    · simp [lo]; omega
    · simp [D]; omega
    · have := (hs.o.ownB_not hb).2.1; omega
    · exact absurd hb.1 hb.2
  · rcases hg with rfl | rfl | hg | hg
    · exact absurd (show w.heap.size + 1 < w.heap.size from hs.o.zlt _ hb) (by omega)
    · have := hs.o.zlt _ hb; simp [D] at this
    · exact (hs.o.ownB_not hg).2.2 hb
    · exact hg.2 hb
  · obtain ⟨u, rfl, G', ⟨Z3, ρ3, h1, h2, h3, h4, h5, h6, h7, h8, h9, h10⟩, hG3, hG4, hb3⟩ := hh
    have hrs : (recJ m).state ≠ .busy := by
      show (if rt = true ∧ m ≠ 0 then _ else rec0).state ≠ .busy
      split <;> simp [rec0]
    have hl3 : lo < w3.heap.size := (Array.getElem?_eq_some_iff.1 h4).1
    refine ⟨_, _, run_endLoop h4 hrs, ?_⟩
    let w4 := w3.putObj lo (.loop { recJ m with state := .exhausted })
    have hs4 : w4.heap.size = w3.heap.size := World.putObj_size
    have hb4 : ∀ X : Nat → Prop, (∀ b, X b → b < w.heap.size) → (∀ b, X b → ¬ ownB ρ (St.obf ⟨tm0, S 0, n0⟩) b) → Bel X w w4 := fun X hX hX2 => by
      refine (hb1 X hX).trans (Bel.trans (hb3.mono fun b hb => ⟨by have := hX b hb; omega, ?_⟩) (Bel.put X w3 (fun hl => absurd (show w.heap.size + 1 < w.heap.size from hX _ hl) (by omega)) _))
      rintro (rfl | rfl | hg | hg)
      · exact absurd (show w.heap.size + 1 < w.heap.size from hX _ hb) (by omega)
      · exact absurd (show w.heap.size < w.heap.size from hX _ hb) (by omega)
      · exact hX2 b hb hg
      · exact hg.2 hg.1
    have hZ3 : ∀ b, Z3 b → b ≠ lo := fun b hb e => h7 (e ▸ hb)
    have hag : Agr Z3 w3 w4 := fun b hb => World.putObj_heap_other (hZ3 b hb)
    have hO : ∀ X : Nat → Prop, SatO X w3 Z3 ρ3 (St.obf ⟨tm0, S m, n0⟩) → SatO X w4 Z3 ρ3 (St.obf ⟨tm0, S m, n0⟩) := fun X hX =>
      hX.agree (Nat.le_of_eq hs4.symm) hag fun id o L q1 q2 q3 => World.putObj_heap_other fun e => h9 ⟨id, o, L, q1, q2, q3, e⟩
    let Mn : Nat → Prop := fun b => M b ∨ b = D
    have hMn : SatO Mn w3 Z3 ρ3 (St.obf ⟨tm0, S m, n0⟩) := ⟨h1.o.zlt, fun b hb => by
        rcases hb with hb | rfl
        · exact h1.o.blt b (.inr hb)
        · exact (Array.getElem?_eq_some_iff.1 h5).1, fun id o L q1 q2 q3 => by
        obtain ⟨k1, k2, k3, k4⟩ := h1.o.obj id o L q1 q2 q3
        refine ⟨fun h => ?_, k2, k3, k4⟩
        rcases h with h | h
        · exact k1 (.inr h)
        · exact h10 ⟨id, o, L, q1, q2, q3, h⟩, h1.o.nul, h1.o.inj⟩
    have hfin : Sat E B ⟨tm0, S m, n0⟩ w4 Z3 ρ3 { a with defers := [{ target := .collected w.heap.size, args := #[] }] ++ a.defers } := by
      refine ⟨(hO Bp h1.o).weaken fun b hb => .inl hb, fun t => Rel.mono (fun _ h => h) hag (fun _ _ h => h) _ _ (h1.t t), h1.n, hs.sz, ⟨Mn, hO Mn hMn, fun b hb h => ?_, ?_, fun x hx => ?_⟩, h1.b, fun id hid => ?_, fun i hi => absurd hi (hng i)⟩
      · rcases h with h | rfl
        · rcases h3 b hb with k | k
          · exact hM2 b k h
          · exact k (.inr h)
        · exact h8 hb
      · refine List.nodup_cons.2 ⟨fun hm => ?_, hM3⟩
        obtain ⟨D', e, q1, _, q3⟩ := hM4 _ hm
        cases e
        have := (Array.getElem?_eq_some_iff.1 q3).1
        omega
      · rcases List.mem_append.1 hx with hx | hx
        · rw [List.mem_singleton.1 hx]
          refine ⟨D, rfl, .inr rfl, fun h => absurd (hs.o.blt D h) (by simp [D]), ?_⟩
          rw [World.putObj_heap_other (by simp [D, lo])]; exact h5
        · obtain ⟨D', e, q1, q2, q3⟩ := hM4 x hx
          refine ⟨D', e, .inl q1, q2, ?_⟩
          have hlt := (Array.getElem?_eq_some_iff.1 q3).1
          have := (hb4 (fun b => b = D') (fun b hb => by rw [hb]; exact hlt) (fun b hb ho => by
            subst hb
            obtain ⟨id, o, L, r1, r2, r3, r4⟩ := ho
            exact (hM1.obj id o L r1 r2 r3).1 (r4 ▸ q1))).block D' rfl
          rw [this]; exact q3
      · obtain ⟨L, q1, q2⟩ := hs.f id hid
        obtain ⟨L', q3, q4⟩ := h1.f id (hsub id hid)
        have q3 : ρ id = some L' := q3
        rw [q2] at q3; cases q3
        exact ⟨L, q1, q4⟩
    have hbB : Bel B w w4 := hb4 B hs.o.blt fun b hb ho => (hs.o.ownB_not ho).1 hb
    have hzB : ∀ b, Z3 b → Z b ∨ ¬ B b := fun b hb => (h3 b hb).imp_right fun h hb => h (.inl hb)
    have hcase : (rt = true ∧ m = 1) ∨ ((rt = false ∨ m = 0) ∧ (recJ m).pending = none) := by
      cases hr : rt with
      | false =>
        refine .inr ⟨.inl rfl, ?_⟩
        show (if rt = true ∧ m ≠ 0 then _ else rec0).pending = none
        rw [hr]; simp [rec0]
      | true =>
        have := hm hr
        by_cases e : m = 0
        · refine .inr ⟨.inr e, ?_⟩
          show (if rt = true ∧ m ≠ 0 then _ else rec0).pending = none
          rw [if_neg (by simp [e])]
        · exact .inl ⟨rfl, by omega⟩
    have key : ∀ pj : Option Code, pj = (recJ m).pending → (match pj with
        | none => cont E.P R k .normal { a with defers := [{ target := .collected w.heap.size, args := #[] }] ++ a.defers } w4
        | some c => c.wpIn Fence.wide 1 E.P (cont E.P R k) { a with defers := [{ target := .collected w.heap.size, args := #[] }] ++ a.defers } w4) := by
      intro pj hpj
      rcases hcase with ⟨hr, h1m⟩ | ⟨hr, hpn⟩
      · have hpe : (recJ m).pending = some .ret := by
          show (if rt = true ∧ m ≠ 0 then _ else rec0).pending = some .ret
          rw [if_pos ⟨hr, by omega⟩]
        rw [hpe] at hpj
        subst hpj
        have hQ := outR hr h1m
        rw [← h1m] at hQ
        exact wpIn_ret (cont_ret k (kk .ret _ w4 Z3 ρ3 _ hQ hfin hbB hzB))
      · rw [hpn] at hpj
        subst hpj
        exact V.chain E (outN hr) hfin hbB hzB kk
    exact key _ rfl

end Go.AI

