/- A part of the proofs of this seat: contracts, operations in a region, the walk over code, contracts out of bodies, frames. It has no conditions. -/
import Derived.Test.YtppmnjikhealeaaSk2
import Derived.RangeFuncLeaves
set_option linter.unusedVariables false
set_option linter.unusedSimpArgs false
namespace Go.Sk
open Go
def mk1 (b : Nat) : Deferred := { target := .collected b, args := #[] }
structure Bs where
  n : Nat
  D : List Deferred
instance : Coe Nat Bs := ⟨fun n => ⟨n, []⟩⟩
inductive Mix : List Nat → List Deferred → List Deferred → Prop
  | nil : Mix [] [] []
  | mark {ms : List Nat} {D l : List Deferred} (b : Nat) (h : Mix ms D l) : Mix (b :: ms) D (mk1 b :: l)
  | put {ms : List Nat} {D l : List Deferred} (d : Deferred) (hd : ∀ b, d ≠ mk1 b) (h : Mix ms D l) : Mix ms (d :: D) (d :: l)
theorem Mix.plain {ms : List Nat} {l : List Deferred} (h : Mix ms [] l) : l = ms.map mk1 := by
  generalize hD : ([] : List Deferred) = D at h
  induction h with
  | nil => rfl
  | mark b h ih => rw [ih hD]; rfl
  | put d hd h => cases hD
theorem Mix.uniq {ms ms' : List Nat} {D D' l : List Deferred} (h : Mix ms D l) : Mix ms' D' l → ms = ms' := by
  induction h generalizing ms' D' with
  | nil => intro h'; cases h'; rfl
  | mark b h ih =>
    intro h'
    generalize hx : mk1 b :: _ = l2 at h'
    cases h' with
    | nil => cases hx
    | mark b' h' =>
      injection hx with h1 h2
      subst h2
      have : b = b' := by simpa [mk1] using h1
      rw [this, ih h']
    | put d hd h' =>
      injection hx with h1 h2
      exact absurd h1.symm (hd b)
  | put d hd h ih =>
    intro h'
    generalize hx : d :: _ = l2 at h'
    cases h' with
    | nil => cases hx
    | mark b' h' =>
      injection hx with h1 h2
      exact absurd h1 (hd b')
    | put d' hd' h' =>
      injection hx with h1 h2
      subst h2
      exact ih h'
def Marks (B : Bs) (ρ : Rho) (a : Act) (w : World) : Prop :=
  ∃ ms : List Nat, Mix ms B.D a.defers ∧ ms.Nodup ∧ ∀ b ∈ ms, B.n ≤ b ∧ ¬ ownM ρ b ∧ w.heap[b]? = some (.deferred (some []))
structure Sat (P : Program) (N : Nat) (B : Bs) (ρ : Rho) (E : Env) (L : LH) (a : Act) (w : World) : Prop where
  n : a.tmps.size = N
  env : SatE ρ E a w
  heap : SatL P ρ L w
  marks : Marks B ρ a w
  base : B.n ≤ w.heap.size
theorem SatE.fr {ρ ρ' : Rho} {w w' : World} {E : Env} {a : Act} (h : SatE ρ E a w) (hf : Fr All ρ w ρ' w') : SatE ρ' E a w' := fun t v ht => ⟨(h t v ht).1, (h t v ht).2.fr hf⟩
theorem Marks.fr {B : Bs} {ρ ρ' : Rho} {w w' : World} {a : Act} {K : Nat → Prop} (h : Marks B ρ a w) (hf : Fr K ρ w ρ' w') : Marks B ρ' a w' := by
  obtain ⟨ms, h1, h2, h3⟩ := h
  refine ⟨ms, h1, h2, fun b hb => ?_⟩
  obtain ⟨g1, g2, g3⟩ := h3 b hb
  have hlt := (Array.getElem?_eq_some_iff.1 g3).1
  exact ⟨g1, fun h => g2 (hf.new b hlt h), by rw [hf.blk b hlt g2]; exact g3⟩
def putE (E : Env) : Option Nat → AVal → Env
  | some d, v => (d, v) :: E
  | none, _ => E
def dstOk (N : Nat) : Option Nat → Prop
  | some d => d < N
  | none => True
theorem put_size (a : Act) (d : Option Nat) (c : Value) : (a.put d c).tmps.size = a.tmps.size := by cases d <;> simp [Act.put]
theorem put_defers (a : Act) (d : Option Nat) (c : Value) : (a.put d c).defers = a.defers := by cases d <;> rfl
theorem SatE.put {ρ : Rho} {w : World} {E : Env} {a : Act} {N : Nat} (h : SatE ρ E a w) (hN : a.tmps.size = N) {d : Option Nat} (hd : dstOk N d) {v : AVal} {c : Value} (hv : VRel w ρ v c) : SatE ρ (putE E d v) (a.put d c) w := by
  cases d with
  | none => exact h
  | some d =>
    intro t u ht
    simp only [putE, aget] at ht
    rw [put_size]
    by_cases e : d = t
    · subst e
      refine ⟨by rw [hN]; exact hd, ?_⟩
      rw [if_pos rfl] at ht
      injection ht with ht
      subst ht
      have : (a.put (some d) c).tmps.getD d undef = c := by
        have hd' : d < a.tmps.size := by rw [hN]; exact hd
        simp [Act.put, Array.getD_eq_getD_getElem?, hd']
      rw [this]
      exact hv
    · rw [if_neg e] at ht
      have : (a.put (some d) c).tmps.getD t undef = a.tmps.getD t undef := by
        simp [Act.put, Array.getD_eq_getD_getElem?, Array.getElem?_setIfInBounds, e]
      rw [this]
      exact h t u ht
theorem VRel.tup0 (w : World) (ρ : Rho) : VRel w ρ (.tup []) Go.undef := .tup rfl (fun i v hi => by cases hi)
theorem Sat.put {P : Program} {N : Nat} {B : Bs} {ρ ρ' : Rho} {E : Env} {L L' : LH} {a : Act} {w w' : World} (h : Sat P N B ρ E L a w) (hL : SatL P ρ' L' w') (hf : Fr All ρ w ρ' w') {d : Option Nat} (hd : dstOk N d) {v : AVal} {c : Value} (hv : VRel w' ρ' v c) :
    Sat P N B ρ' (putE E d v) L' (a.put d c) w' where
  n := by rw [put_size]; exact h.n
  env := (h.env.fr hf).put h.n hd hv
  heap := hL
  marks := by
    have := h.marks.fr hf
    unfold Marks at this ⊢
    rw [put_defers]
    exact this
  base := Nat.le_trans h.base hf.size
inductive Out where
  | ret (v : AVal)
  | panic (v : AVal)
def chain1 (c : Value) : List PanicEntry := [{ v := c, recovered := false }]
def OutR (w : World) (ρ : Rho) : Out → Ending → Prop
  | .ret v, .returned c => VRel w ρ v c
  | .panic v, .panicked ch => ∃ c, ch = chain1 c ∧ VRel w ρ v c
  | _, _ => False
def ids (L : LH) : Nat → Prop := fun r => (aget L r).isSome = true
def enters (P : Program) (f : FuncId) : Bool :=
  match P.funcs[f]? with
  | some fn => !(fn.name == "runtime.NumGoroutine") && fn.body.isSome
  | none => false
theorem run_callFunc {P : Program} {f : FuncId} (h : enters P f = true) (args : Array Value) (w : World) : (callFunc f args).run P w = .ok (.enter f args) w := by
  unfold enters at h
  cases hf : P.funcs[f]? with
  | none => rw [hf] at h; simp at h
  | some fn =>
    rw [hf] at h
    simp only [Bool.and_eq_true, Bool.not_eq_true'] at h
    have h1 : ¬ fn.name = "runtime.NumGoroutine" := by simpa using h.1
    have h2 : ¬ fn.body = none := by intro e; rw [e] at h; simp at h
    simp [callFunc, hf, h1, h2]
def Ev (P : Program) (f : FuncId) (args : List AVal) (L : LH) (out : Out) (L' : LH) : Prop :=
  enters P f = true ∧ ∀ (ρ : Rho) (w : World) (cs : List Value), LsRel w ρ args cs → SatL P ρ L w →
    CallsIn Fence.wide 0 P f cs.toArray w fun e w' => ∃ ρ', OutR w' ρ' out e ∧ SatL P ρ' L' w' ∧ Fr All ρ w ρ' w'
def gval (ops : List Oper) (E : Env) : Option (Nat × Bool) → Option Bool
  | none => some true
  | some (j, want) =>
    match (ops[j]?).bind (·.dst) with
    | none => some false
    | some t =>
      match aget E t with
      | some (.dat (.bool b)) => some (b == want)
      | some (.tup []) => some false
      | _ => none
theorem gval_sound {ops : Array Oper} {E : Env} {o : Oper} {b : Bool} (h : gval ops.toList E o.guard = some b) {ρ : Rho} {a : Act} {w : World} (hE : SatE ρ E a w) : Region.wanted o (yielded ops a.tmps) = b := by
  unfold Region.wanted
  cases hg : o.guard with
  | none => rw [hg] at h; simp only [gval, Option.some.injEq] at h; exact h
  | some p =>
    obtain ⟨j, want⟩ := p
    rw [hg] at h
    simp only [gval] at h
    simp only [yielded]
    have e : ops.toList[j]? = ops[j]? := by simp
    rw [e] at h
    cases hd : (ops[j]?).bind (·.dst) with
    | none => rw [hd] at h; simp only [Option.some.injEq] at h; simp [← h]
    | some t =>
      rw [hd] at h
      simp only at h
      cases ht : aget E t with
      | none => rw [ht] at h; simp at h
      | some v =>
        obtain ⟨hlt, hv⟩ := hE t v ht
        obtain ⟨c, hc, he⟩ := get_getD a.tmps t hlt
        rw [he] at hv
        simp only [Option.bind_some, hc]
        rw [ht] at h
        split at h
        · rename_i b' heq
          injection heq with heq
          subst heq
          cases hv with
          | dat hv =>
          cases hv
          exact Option.some.inj h
        · rename_i heq
          injection heq with heq
          subst heq
          injection h with h
          cases hv with
          | tup hs _ => rw [← h]; rfl
        · simp at h
structure Wide (F : Fence) : Prop where
  fn : ∀ f, F.fn f
  depth : F.depth = none
  alive : F.alive = false
def EvY (P : Program) (r : Nat) (args : List AVal) (L : LH) (out : Out) (L' : LH) : Prop :=
  ∀ (ρ : Rho) (w : World) (cs : List Value) (g b : Nat), LsRel w ρ args cs → SatL P ρ L w → ρ.m r = some (g, .loop b) →
    ∃ f tmps asg body, (Instr.yield b cs.toArray).run P w = .ok (.round b f tmps asg body) w ∧
      ∀ F, Wide F → RoundIn F 0 P b f tmps asg body w fun e w' => ∃ ρ', OutR w' ρ' out e ∧ SatL P ρ' L' w' ∧ Fr All ρ w ρ' w'
def CallK (P : Program) (fv : AVal) (args : List AVal) (L : LH) (k pk : AVal → LH → Prop) : Prop :=
  match fv with
  | .fn f bs caps => (∃ v L', Ev P f (bs ++ args ++ caps) L (.ret v) L' ∧ k v L') ∨ (∃ v L', Ev P f (bs ++ args ++ caps) L (.panic v) L' ∧ pk v L')
  | .yld r => ∃ v L', EvY P r args L (.ret v) L' ∧ k v L'
  | _ => False
def opK (P : Program) (dst : Option Nat) (op : Op) (E : Env) (L : LH) (k pk : AVal → LH → Prop) : Prop :=
  match op with
  | .call { callee := .value f, args, .. } =>
    match ev E f, evl E args.toList with
    | some fv, some vs => CallK P fv vs L k pk
    | _, _ => False
  | op =>
    match opStep P dst op E L with
    | some (v, L') => k v L'
    | none => False
inductive Ex where
  | normal
  | exit (id : Nat)
  | goto (l : Nat)
  | ret
  | panic (v : AVal)
def ExR (w : World) (ρ : Rho) : Ex → Exit → Prop
  | .normal, .normal => True
  | .exit i, .exit j => i = j
  | .goto i, .goto j => i = j
  | .ret, .ret => True
  | .panic v, .panic ch => ∃ c, ch = chain1 c ∧ VRel w ρ v c
  | _, _ => False
def QQ (P : Program) (N : Nat) (B : Bs) (K : Nat → Prop) (Q : Ex → Env → LH → Prop) (ρ : Rho) (w : World) (e : Exit) (a' : Act) (w' : World) : Prop :=
  ∃ ρ' E' L' x, ExR w' ρ' x e ∧ Q x E' L' ∧ Sat P N B ρ' E' L' a' w' ∧ Fr K ρ w ρ' w'
theorem Wide.wide : Wide Fence.wide := ⟨fun _ => trivial, rfl, rfl⟩
theorem Wide.inRound {F : Fence} (h : Wide F) (l : Nat) : Wide (F.inRound l) := ⟨h.fn, h.depth, h.alive⟩
theorem CallsIn.wide {F : Fence} (hF : Wide F) {P : Program} {f : FuncId} {args : Array Value} {w : World} {R : Ending → World → Prop} (h : CallsIn Fence.wide 0 P f args w R) (n : Nat) : CallsIn F n P f args w R := by
  refine ⟨hF.fn f, fun cs _ => ?_⟩
  obtain ⟨e, w', fr, hR, hs, h1, h2⟩ := h.2 cs (room_wide _)
  refine ⟨e, w', fr, hR, ?_, h1, h2⟩
  have key : ∀ m, Machine.fenced P Fence.wide m → Machine.fenced P F m := by
    intro m _ g hg
    exact ⟨fun h => by rw [hF.alive] at h; simp at h, .inl (hF.fn _), fun f _ => hF.fn f, fun d hd => by rw [hF.depth] at hd; simp at hd⟩
  cases e with
  | returned v => exact hs.mono key
  | panicked ch => exact hs.mono key
  | outgrown => exact hs
theorem LsRel.append {w : World} {ρ : Rho} {vs us : List AVal} {cs ds : List Value} (h : LsRel w ρ vs cs) (h' : LsRel w ρ us ds) : LsRel w ρ (vs ++ us) (cs ++ ds) := by
  induction h with
  | nil => exact h'
  | cons h _ ih => exact .cons h ih
theorem LsRel.of_cs {w : World} {ρ : Rho} : ∀ {vs : List AVal} {cs : List Value}, CsRel w ρ vs cs.toArray → LsRel w ρ vs cs
  | [], [], _ => .nil
  | [], c :: cs, h => by have := h.1; simp at this
  | v :: vs, [], h => by have := h.1; simp at this
  | v :: vs, c :: cs, h => by
    refine .cons (by simpa using h.2 0 v rfl) (LsRel.of_cs ⟨by have := h.1; simpa using this, fun i u hi => ?_⟩)
    have := h.2 (i + 1) u (by simpa using hi)
    simpa [Array.getD_eq_getD_getElem?] using this
theorem opK_sound {P : Program} {N : Nat} {B : Bs} {K : Nat → Prop} {Q : Ex → Env → LH → Prop} {F : Fence} (hF : Wide F) {o : Oper} {r0 : Option Nat} {E : Env} {L : LH} {k pk : AVal → LH → Prop} (h : opK P r0 o.op E L k pk) (hd : dstOk N o.dst)
    {ρ0 ρ : Rho} {w0 w : World} {a : Act} (hS : Sat P N B ρ E L a w) (hf0 : Fr K ρ0 w0 ρ w) {next : Act → World → Prop}
    (hk : ∀ v L', k v L' → ∀ ρ' a' w', Sat P N B ρ' (putE E o.dst v) L' a' w' → Fr K ρ0 w0 ρ' w' → next a' w')
    (hpk : ∀ v L', pk v L' → Q (.panic v) E L') : o.wpIn F 0 P a w next (QQ P N B K Q ρ0 w0) := by
  refine ⟨fun f _ => hF.fn f, ?_⟩
  unfold opK at h
  split at h
  · rename_i f args ts hop
    have hsem : o.semAt F.round a.eval = execOp a.eval o := Oper.semAt_eq _ _ _ (fun c hc => by rw [hop] at hc; cases hc)
    rw [hsem]
    split at h
    · rename_i fv vs hfv hvs
      have hfr := hS.env.ev hfv
      have hvr := evl_sound hS.env hvs
      unfold CallK at h
      split at h
      · rename_i g bs caps
        cases hfr' : a.eval f with
        | func fn first captured =>
          rw [hfr'] at hfr
          cases hfr with
          | fn hs0 hh0 hs hh =>
            have hargs : LsRel w ρ (bs ++ vs ++ caps) (first.toList ++ args.toList.map a.eval ++ captured.toList) := ((LsRel.of_cs (by simpa using ⟨hs0, hh0⟩)).append hvr).append (LsRel.of_cs (by simpa using ⟨hs, hh⟩))
            have hrun : ∀ hen : enters P g = true, (execOp a.eval o).run P w = .ok (.enter g (first.toList ++ args.toList.map a.eval ++ captured.toList).toArray) w := by
              intro hen
              have e1 : (first.toList ++ args.toList.map a.eval ++ captured.toList).toArray = first ++ args.map a.eval ++ captured := by simp
              rw [e1]
              simp [execOp, hop, resolve, hfr', Deferred.ofValue, invoke, run_callFunc hen]
            rcases h with ⟨v, L', hEv, hkk⟩ | ⟨v, L', hEv, hkk⟩
            · rw [hrun hEv.1]
              refine ⟨fun h => by rw [hF.depth] at h; simp at h, CallsIn.wide hF ((hEv.2 ρ w _ hargs hS.heap).mono fun e w' he => ?_) _⟩
              obtain ⟨ρ', h1, h2, h3⟩ := he
              cases e with
              | returned c => exact hk v L' hkk ρ' _ w' (hS.put h2 h3 hd h1) (hf0.trans (h3.mono fun _ _ => trivial))
              | panicked ch => exact h1.elim
              | outgrown => exact h1.elim
            · rw [hrun hEv.1]
              refine ⟨fun h => by rw [hF.depth] at h; simp at h, CallsIn.wide hF ((hEv.2 ρ w _ hargs hS.heap).mono fun e w' he => ?_) _⟩
              obtain ⟨ρ', h1, h2, h3⟩ := he
              cases e with
              | returned c => exact h1.elim
              | panicked ch => exact ⟨ρ', E, L', .panic v, h1, hpk v L' hkk, hS.put (d := none) (v := .tup []) (c := undef) h2 h3 trivial (VRel.tup0 ..), hf0.trans (h3.mono fun _ _ => trivial)⟩
              | outgrown => exact h1.elim
        | _ => rw [hfr'] at hfr; cases hfr
      · rename_i r
        obtain ⟨v, L', hEv, hkk⟩ := h
        cases hfr' : a.eval f with
        | func fn first captured =>
          rw [hfr'] at hfr
          cases hfr with
          | @yld r g b hr =>
            obtain ⟨fn', tmps, asg, body, hy, hround⟩ := hEv ρ w _ g b hvr hS.heap hr
            have hrun : (execOp a.eval o).run P w = .ok (.round b fn' tmps asg body) w := by
              have e1 : (args.toList.map a.eval).toArray = args.map a.eval := by rw [← Array.toList_map]
              rw [← hy, e1]
              simp [execOp, hop, resolve, hfr', Deferred.ofValue, invoke]
            rw [hrun]
            refine ⟨fun h => by rw [hF.depth] at h; simp at h, (hround F hF).mono fun e w' he => ?_⟩
            obtain ⟨ρ', h1, h2, h3⟩ := he
            cases e with
            | returned c => exact hk v L' hkk ρ' _ w' (hS.put h2 h3 hd h1) (hf0.trans (h3.mono fun _ _ => trivial))
            | panicked ch => exact h1.elim
            | outgrown => exact h1.elim
        | _ => rw [hfr'] at hfr; cases hfr
      · exact h.elim
    · exact h.elim
  · rename_i op hop
    split at h
    · rename_i v L' hst
      obtain ⟨w', ρ', nx, g1, g2, g3, g4⟩ := opStep_sound hst hS.heap hS.env
      have hsem : o.semAt F.round a.eval = execOp a.eval o := Oper.semAt_eq _ _ _ (fun c hc => by rw [hc] at hst; simp [opStep] at hst)
      rw [hsem, g1]
      cases nx with
      | value c => exact hk v L' h ρ' _ w' (hS.put g3 g4 hd g2) (hf0.trans (g4.mono fun _ _ => trivial))
      | skip =>
        have e : v = .tup [] := g2
        subst e
        exact hk _ L' h ρ' _ w' (hS.put g3 g4 hd (VRel.tup0 ..)) (hf0.trans (g4.mono fun _ _ => trivial))
      | _ => exact g2.elim
    · exact h.elim
end Go.Sk
namespace Go.Sk
open Go
theorem lone_frame {fr fr' : Frame} {cs cs' : List Frame} {w w' : World} (h : lone fr cs w = lone fr' cs' w') : fr = fr' := by
  have := congrArg Machine.gs h
  simp [lone] at this
  exact this.1
theorem steps_past {I : Machine → Prop} {P : Program} {m0 m1 m' : Machine} (hs : step P m0 = .next m1) (h : StepsIn I P m0 m') (hne : m0 ≠ m') : StepsIn I P m1 m' := by
  cases h with
  | refl => exact absurd rfl hne
  | head hI h1 h2 =>
    rw [hs] at h1
    injection h1 with h1
    subst h1
    exact h2
theorem exitTo_len {id : Nat} : ∀ {k k' : List Item}, exitTo id k = some k' → k'.length ≤ k.length
  | [], k', h => by simp [exitTo] at h
  | x :: k, k', h => by
    have ih := @exitTo_len id k
    cases x <;> simp only [exitTo] at h <;> first
      | (have := ih h; simp; omega)
      | (split at h
         · injection h with h; subst h; simp
         · have := ih h; simp; omega)
theorem atR_todo {b : Frame} {a a' : Act} {t t' : List Item} {cs cs' : List Frame} {w w' : World} (h : lone (b.atR a t) cs w = lone (b.atR a' t') cs' w') : t = t' := by
  have := lone_frame h
  have := congrArg Frame.todo this
  exact this
def NoGoto (Q : Exit → Act → World → Prop) : Prop := (∀ a w, ¬ Q .outgrown a w) ∧ ∀ l a w, ¬ Q (.goto l) a w
theorem wpIn_unroll {F : Fence} {n : Nat} {P : Program} {c : Code} {Q : Exit → Act → World → Prop} {a : Act} {w : World} (hQ : NoGoto Q)
    (h : c.wpIn F n P (Exit.then (fun a1 w1 => (Code.loop c).wpIn F n P Q a1 w1) Q) a w) : (Code.loop c).wpIn F n P Q a w := by
  intro b k cs hro hb hr
  have h0 : (lone (b.atR a (.code (.loop c) :: k)) cs w).fenced P F := fenced_calm hb hr rfl
  obtain ⟨e, a1, w1, hq, harr⟩ := h b (.inLoop c :: k) cs hro hb hr
  cases e with
  | normal =>
    obtain ⟨e2, a2, w2, hq2, harr2⟩ := hq b k cs hro hb hr
    refine ⟨e2, a2, w2, hq2, .of_steps (.head h0 stepR_loop harr) ?_⟩
    have hin : (lone (b.atR a1 (.inLoop c :: k)) cs w1).fenced P F := fenced_calm hb hr rfl
    have key : ∀ m', StepsIn (Machine.fenced P F) P (lone (b.atR a1 (.code (.loop c) :: k)) cs w1) m' → lone (b.atR a1 (.code (.loop c) :: k)) cs w1 ≠ m' →
        StepsIn (Machine.fenced P F) P (lone (b.atR a1 (.inLoop c :: k)) cs w1) m' :=
      fun m' hs hne => .head hin stepR_inLoop (steps_past stepR_loop hs hne)
    cases e2 with
    | normal => exact key _ harr2 (fun h => by have := congrArg List.length (atR_todo h); simp at this)
    | exit id =>
      refine ⟨fun k' hk => key _ (harr2.1 k' hk) (fun h => ?_), fun hr' hk => ?_⟩
      · have h1 := congrArg List.length (atR_todo h)
        have h2 := exitTo_len hk
        simp at h1; omega
      · obtain ⟨k₁, h1, h2⟩ := harr2.2 hr' hk
        exact ⟨k₁, h1, key _ h2 (fun h => by have := atR_todo h; simp at this)⟩
    | goto l => exact absurd hq2 (hQ.2 l a2 w2)
    | ret =>
      refine ⟨fun hn => ?_, fun hr' => ?_⟩
      · obtain ⟨todo, h1⟩ := harr2.1 hn
        refine ⟨todo, key _ h1 (fun h => ?_)⟩
        have := congrArg Frame.mode (lone_frame h)
        simp [Frame.atR] at this
      · obtain ⟨k₁, h1⟩ := harr2.2 hr'
        exact ⟨k₁, key _ h1 (fun h => by have := atR_todo h; simp at this)⟩
    | panic ch =>
      obtain ⟨todo, h1⟩ := harr2
      refine ⟨todo, key _ h1 (fun h => ?_)⟩
      have := congrArg Frame.mode (lone_frame h)
      simp [Frame.atR] at this
    | outgrown => exact absurd hq2 (hQ.1 a2 w2)
  | exit id => exact ⟨_, a1, w1, hq, .of_steps (.one h0 stepR_loop) (.pass (x := .inLoop c) rfl (fun _ _ => .inl (by simp)) harr)⟩
  | goto l => exact absurd hq (hQ.2 l a1 w1)
  | ret => exact ⟨_, a1, w1, hq, .of_steps (.one h0 stepR_loop) (.pass (x := .inLoop c) rfl (fun _ _ => .inl (by simp)) harr)⟩
  | panic ch => exact ⟨_, a1, w1, hq, .of_steps (.one h0 stepR_loop) (.pass (x := .inLoop c) rfl (fun _ _ => .inl (by simp)) harr)⟩
  | outgrown => exact absurd hq (hQ.1 a1 w1)
structure Cx where
  P : Program
  N : Nat
  B : Bs
  K : Nat → Prop
  F : Fence
  wide : Wide F
def AWP (X : Cx) (c : Code) (E : Env) (L : LH) (Q : Ex → Env → LH → Prop) : Prop :=
  ∀ ρ a w, Sat X.P X.N X.B ρ E L a w → c.wpIn X.F 0 X.P (QQ X.P X.N X.B X.K Q ρ w) a w
def thenX (next : Env → LH → Prop) (Q : Ex → Env → LH → Prop) : Ex → Env → LH → Prop
  | .normal, E, L => next E L
  | x, E, L => Q x E L
def inBlockX (id : Nat) (Q : Ex → Env → LH → Prop) : Ex → Env → LH → Prop
  | .exit id', E, L => if id' = id then Q .normal E L else Q (.exit id') E L
  | x, E, L => Q x E L
section
variable {X : Cx} {E : Env} {L : LH} {Q : Ex → Env → LH → Prop}
theorem QQ.self {P : Program} {N : Nat} {B : Bs} {K : Nat → Prop} {x : Ex} {e : Exit} {ρ : Rho} {a : Act} {w : World} (hx : ExR w ρ x e) (h : Q x E L) (hS : Sat P N B ρ E L a w) : QQ P N B K Q ρ w e a w :=
  ⟨ρ, E, L, x, hx, h, hS, .refl ..⟩
theorem QQ.after {P : Program} {N : Nat} {B : Bs} {K : Nat → Prop} {ρ ρ1 : Rho} {e : Exit} {a : Act} {w w1 w2 : World} (hf : Fr K ρ w ρ1 w1) (h : QQ P N B K Q ρ1 w1 e a w2) : QQ P N B K Q ρ w e a w2 := by
  obtain ⟨ρ', E', L', x, h1, h2, h3, h4⟩ := h
  exact ⟨ρ', E', L', x, h1, h2, h3, hf.trans h4⟩
theorem awp_mono {c : Code} {Q' : Ex → Env → LH → Prop} (h : AWP X c E L Q) (hq : ∀ x E L, Q x E L → Q' x E L) : AWP X c E L Q' := fun ρ a w hS =>
  wpIn_mono (h ρ a w hS) (fun e a' w' hh => by
    obtain ⟨ρ', E', L', x, h1, h2, h3, h4⟩ := hh
    exact ⟨ρ', E', L', x, h1, hq _ _ _ h2, h3, h4⟩)
theorem awp_skip (h : Q .normal E L) : AWP X .skip E L Q := fun ρ a w hS => wpIn_skip (QQ.self (x := .normal) trivial h hS)
theorem awp_label {l : Nat} (h : Q .normal E L) : AWP X (.label l) E L Q := fun ρ a w hS => wpIn_label (QQ.self (x := .normal) trivial h hS)
theorem awp_exit {id : Nat} (h : Q (.exit id) E L) : AWP X (.exit id) E L Q := fun ρ a w hS => wpIn_exit (QQ.self (x := .exit id) rfl h hS)
theorem awp_ret (h : Q .ret E L) : AWP X .ret E L Q := fun ρ a w hS => wpIn_ret (QQ.self (x := .ret) trivial h hS)
theorem awp_seq {x y : Code} (h : AWP X x E L (thenX (fun E L => AWP X y E L Q) Q)) : AWP X (.seq x y) E L Q := fun ρ a w hS =>
  wpIn_seq (wpIn_mono (h ρ a w hS) (fun e a' w' hh => by
    obtain ⟨ρ', E', L', xx, h1, h2, h3, h4⟩ := hh
    cases xx with
    | normal => cases e <;> first | exact h1.elim | exact wpIn_mono (h2 ρ' a' w' h3) (fun _ _ _ hq => hq.after h4)
    | _ => cases e <;> first | exact h1.elim | exact ⟨ρ', E', L', _, h1, h2, h3, h4⟩))
theorem awp_cond {c : Operand} {x y : Code} {b : Bool} (hc : ev E c = some (.dat (.bool b))) (h : AWP X (if b then x else y) E L Q) : AWP X (.cond c x y) E L Q := fun ρ a w hS =>
  wpIn_cond (t := b) (by
    have hv := hS.env.ev hc
    generalize a.eval c = v at hv
    cases hv with
    | dat hv => cases hv; rfl) (h ρ a w hS)
theorem awp_block {id : Nat} {c : Code} (h : AWP X c E L (inBlockX id Q)) : AWP X (.block id c) E L Q := fun ρ a w hS =>
  wpIn_block (wpIn_mono (h ρ a w hS) (fun e a' w' hh => by
    obtain ⟨ρ', E', L', xx, h1, h2, h3, h4⟩ := hh
    cases xx with
    | exit id' =>
      cases e <;> first | exact h1.elim | skip
      have h1 : id' = _ := h1
      subst h1
      simp only [inBlockX] at h2
      simp only [Exit.inBlock]
      split at h2
      · rename_i e; rw [if_pos e]; exact ⟨ρ', E', L', .normal, trivial, h2, h3, h4⟩
      · rename_i e; rw [if_neg e]; exact ⟨ρ', E', L', .exit id', rfl, h2, h3, h4⟩
    | _ => cases e <;> first | exact h1.elim | exact ⟨ρ', E', L', _, h1, h2, h3, h4⟩))
def NoGo (Q : Ex → Env → LH → Prop) : Prop := ∀ l E L, ¬ Q (.goto l) E L
theorem NoGo.thenX {next : Env → LH → Prop} (h : NoGo Q) : NoGo (thenX next Q) := fun l E L hh => h l E L hh
theorem NoGo.inBlockX {id : Nat} (h : NoGo Q) : NoGo (inBlockX id Q) := fun l E L hh => h l E L hh
theorem awp_unroll {c : Code} (hQ : NoGo Q) (h : AWP X c E L (thenX (fun E L => AWP X (.loop c) E L Q) Q)) : AWP X (.loop c) E L Q := fun ρ a w hS =>
  wpIn_unroll ⟨fun a' w' hh => by obtain ⟨ρ', E', L', xx, h1, _⟩ := hh; cases xx <;> exact h1, fun l a' w' hh => by
      obtain ⟨ρ', E', L', xx, h1, h2, _⟩ := hh
      cases xx <;> first | exact h1.elim | exact hQ _ _ _ h2⟩
    (wpIn_mono (h ρ a w hS) (fun e a' w' hh => by
      obtain ⟨ρ', E', L', xx, h1, h2, h3, h4⟩ := hh
      cases xx with
      | normal => cases e <;> first | exact h1.elim | exact wpIn_mono (h2 ρ' a' w' h3) (fun _ _ _ hq => hq.after h4)
      | _ => cases e <;> first | exact h1.elim | exact ⟨ρ', E', L', _, h1, h2, h3, h4⟩))
def keep (ps : List Nat) (E : Env) : Env := ps.filterMap fun t => (aget E t).map fun v => (t, v)
theorem Sat.sub {P : Program} {N : Nat} {B : Bs} {ρ : Rho} {E E' : Env} {L : LH} {a : Act} {w : World} (h : Sat P N B ρ E L a w) (hE : ∀ t v, aget E' t = some v → aget E t = some v) : Sat P N B ρ E' L a w :=
  { h with env := fun t v ht => h.env t v (hE t v ht) }
end
end Go.Sk
namespace Go.Sk
open Go
mutual
def closedV (S : Nat → Bool) : AVal → Bool
  | .slice r _ _ _ => S r
  | .ptr r _ _ _ => S r
  | .map r => S r
  | .yld r => S r
  | .agg vs => closedL S vs
  | .tup vs => closedL S vs
  | .fn _ bs vs => closedL S bs && closedL S vs
  | .iface _ v => closedV S v
  | .undef => true
  | .dat _ => true
  | .pdat _ _ => true
  | .raw _ => true
  | .nilS => true
def closedL (S : Nat → Bool) : List AVal → Bool
  | [] => true
  | v :: vs => closedV S v && closedL S vs
end
theorem closedL_get {S : Nat → Bool} : ∀ {vs : List AVal}, closedL S vs = true → ∀ (i : Nat) (v : AVal), vs[i]? = some v → closedV S v = true
  | [], _, i, v, h => by simp at h
  | u :: vs, hc, 0, v, h => by
    simp only [List.getElem?_cons_zero, Option.some.injEq] at h
    subst h
    simp only [closedL, Bool.and_eq_true] at hc
    exact hc.1
  | u :: vs, hc, i + 1, v, h => by
    simp only [List.getElem?_cons_succ] at h
    simp only [closedL, Bool.and_eq_true] at hc
    exact closedL_get hc.2 i v h
structure Agree (S : Nat → Bool) (ρ ρ' : Rho) : Prop where
  m : ∀ r x, S r = true → ρ.m r = some x → ρ'.m r = some x
  own : ∀ b, own ρ' b → own ρ b
theorem VRel.agree {S : Nat → Bool} {ρ ρ' : Rho} {w : World} (ha : Agree S ρ ρ') {v : AVal} {c : Value} (h : VRel w ρ v c) : closedV S v = true → VRel w ρ' v c := by
  have dm : ∀ {d : Dat} {v : Value}, DRel w (Sk.own ρ) d v → DRel w (Sk.own ρ') d v := fun h => h.mono (fun _ _ _ => rfl) (fun b _ => ha.own b)
  induction h with
  | undef v => exact fun _ => .undef v
  | dat h => exact fun _ => .dat (dm h)
  | slice hr hg h => exact fun hc => .slice (ha.m _ _ hc hr) hg h
  | ptr hr hg h => exact fun hc => .ptr (ha.m _ _ hc hr) hg h
  | pdat hc hd => exact fun _ => .pdat (fun j d hj => ⟨fun h => (hc j d hj).1 (ha.own _ h), (hc j d hj).2⟩) (fun j d hj => dm (hd j d hj))
  | raw h => exact fun _ => .raw h
  | nilS => exact fun _ => .nilS
  | agg hs _ ih => exact fun hc => .agg hs (fun i v hi => ih i v hi (closedL_get hc i v hi))
  | tup hs _ ih => exact fun hc => .tup hs (fun i v hi => ih i v hi (closedL_get hc i v hi))
  | fn hs0 _ hs _ ih0 ih =>
    intro hc
    simp only [closedV, Bool.and_eq_true] at hc
    exact .fn hs0 (fun i v hi => ih0 i v hi (closedL_get hc.1 i v hi)) hs (fun i v hi => ih i v hi (closedL_get hc.2 i v hi))
  | map hr => exact fun hc => .map (ha.m _ _ hc hr)
  | yld hr => exact fun hc => .yld (ha.m _ _ hc hr)
  | iface _ ih => exact fun hc => .iface (ih hc)
inductive Frz (P : Program) (L : LH) (S : Nat → Bool) : AVal → AVal → Prop
  | keep {v : AVal} (h : closedV S v = true) : Frz P L S v v
  | nilS (sz : Nat) : Frz P L S .nilS (.dat (.sl sz []))
  | slice {r g e off len : Nat} {ds : List (List Dat)} (ho : aget L r = some (.row g e (rowOf ds))) (hS : S r = false) : Frz P L S (.slice r g off len) (.dat (.sl (P.cellsOf e) (asubl ds off (off + len))))
  | agg {vs us : List AVal} (hl : vs.length = us.length) (h : ∀ (i : Nat) (v u : AVal), vs[i]? = some v → us[i]? = some u → Frz P L S v u) : Frz P L S (.agg vs) (.agg us)
  | tup {vs us : List AVal} (hl : vs.length = us.length) (h : ∀ (i : Nat) (v u : AVal), vs[i]? = some v → us[i]? = some u → Frz P L S v u) : Frz P L S (.tup vs) (.tup us)
theorem DRel.cells_mono {w : World} {o o' : Nat → Prop} (h : ∀ b, o' b → o b) {d : Dat} {v : Value} (hd : DRel w o d v) : DRel w o' d v := hd.mono (fun _ _ _ => rfl) (fun b _ => h b)
theorem Frz.sound {P : Program} {L : LH} {S : Nat → Bool} {ρ ρ' : Rho} {w : World} (hL : SatL P ρ L w) (ha : Agree S ρ ρ') (hm : ∀ r x, ρ'.m r = some x → S r = true ∧ ρ.m r = some x) (hx : ρ'.ext = ρ.ext) {v u : AVal} (h : Frz P L S v u) : ∀ {c : Value}, VRel w ρ v c → VRel w ρ' u c := by
  induction h with
  | keep hc => exact fun hv => hv.agree ha hc
  | nilS sz => intro c hv; cases hv; exact .dat (.nil sz)
  | @slice r g e off len ds ho hS =>
    intro c hv
    obtain ⟨v0, sz, xs, hr, hP, hp, hsz, hown, hxs⟩ := cur_row hL ho
    cases hv with
    | @slice r g _ _ nn cc g0 sz0 a0 v1 e0 hr' hle hsl' =>
      rw [hr] at hr'
      injection hr' with hr'
      injection hr' with e1 e2
      injection e2 with e2 e3 e4
      subst e1; subst e2; subst e3; subst e4
      obtain ⟨hnn, hsq⟩ := hsl' rfl
      subst hnn
      have hlen0 : (rowOf ds).length = ds.length := by simp [rowOf]
      have hszd : ∀ el ∈ ds, el.length = sz := by
        intro el hel
        have := hsz (el.map .dat) (by unfold rowOf; exact List.mem_map_of_mem hel)
        simpa using this
      rcases own_form hown with ⟨rfl, h00⟩ | ⟨b, cap, rfl, h1, h2⟩
      · simp only at hsq
        obtain ⟨rfl, rfl, rfl, rfl⟩ := hsq
        have : ds = [] := List.eq_nil_of_length_eq_zero (by rw [← hlen0]; exact h00)
        subst this
        exact .dat (.nil _)
      · simp only at hsq
        obtain ⟨h3, rfl, x, rfl, h5⟩ := hsq
        rw [hlen0] at h3
        have hlen := asubl_length ds off (off + nn) h3
        have hnb : ¬ Sk.own ρ' b := by
          rintro (⟨r', g', l', h6, h7⟩ | h6)
          · obtain ⟨h8, h9⟩ := hm r' _ h6
            have := hL.inj r r' _ _ b hr h9 rfl h7
            rw [← this] at h8
            rw [hS] at h8
            simp at h8
          · rw [hx] at h6
            exact hL.dis b ⟨r, _, _, hr, rfl⟩ h6
        have hfl : (asubl ds off (off + nn)).flatten = (ds.flatten.take ((off + nn) * sz)).drop (off * sz) := by
          unfold asubl
          rw [drop_flatten (sz := sz) (fun el hel => hszd el (List.mem_of_mem_take hel)) off (by simp; omega), take_flatten hszd _ h3]
        have hfr : (rowOf ds).flatten = ds.flatten.map .dat := rowOf_flatten ds
        have hcell : ∀ j d, (asubl ds off (off + nn)).flatten[j]? = some d → x = ⟨b, off * sz, none⟩ ∧ w.cell? ⟨b, off * sz + j, none⟩ = some (xs.getD (off * sz + j) Go.undef) ∧ DRel w (Sk.own ρ') d (xs.getD (off * sz + j) Go.undef) := by
          intro j d hj
          have hj0 := hj
          rw [hfl, List.getElem?_drop, List.getElem?_take] at hj
          split at hj
          · rename_i hlt0
            have hjf : (rowOf ds).flatten[off * sz + j]? = some (.dat d) := by rw [hfr, List.getElem?_map, hj]; rfl
            obtain ⟨_, k2⟩ := hxs _ _ hjf
            have hlt : off * sz + j < xs.length := by
              have := (List.getElem?_eq_some_iff.1 hjf).1
              rw [flatten_len hsz] at this
              rw [hown.1]; exact this
            have := hown.cells (g := b) rfl (off * sz + j) (xs.getD (off * sz + j) Go.undef) (by simp [List.getD, List.getElem?_eq_getElem hlt])
            rw [Addr.add_lit, Nat.zero_add] at this
            refine ⟨h5 ?_, this, ?_⟩
            · left
              have : 0 < nn := by
                rcases Nat.eq_zero_or_pos nn with h | h
                · subst h
                  rw [Nat.add_zero] at hlt0; omega
                · exact h
              omega
            · cases k2 with
              | dat k2 => exact k2.cells_mono ha.own
          · simp at hj
        have := DRel.sl (w := w) (own := Sk.own ρ') (asubl ds off (off + nn)) sz (cap - off) x (fun j => xs.getD (off * sz + j) Go.undef)
          (fun el hel => hszd el (List.mem_of_mem_take (List.mem_of_mem_drop hel))) (by rw [hlen]; omega) (by omega)
          (fun j d hj => by
            obtain ⟨e1, e2, _⟩ := hcell j d hj
            subst e1
            rw [Addr.add_lit]
            exact ⟨hnb, e2⟩) (fun j d hj => (hcell j d hj).2.2)
        rw [hlen] at this
        have e : off + nn - off = nn := by omega
        rw [e] at this
        rw [← hP]
        exact .dat this
  | @agg vs us hl _ ih =>
    intro c hv
    cases hv with
    | agg hs hh =>
      refine .agg (by rw [hs, hl]) (fun i u hi => ?_)
      have hlt : i < vs.length := by rw [hl]; exact (List.getElem?_eq_some_iff.1 hi).1
      exact ih i _ u (List.getElem?_eq_getElem hlt) hi (hh i _ (List.getElem?_eq_getElem hlt))
  | @tup vs us hl _ ih =>
    intro c hv
    cases hv with
    | tup hs hh =>
      refine .tup (by rw [hs, hl]) (fun i u hi => ?_)
      have hlt : i < vs.length := by rw [hl]; exact (List.getElem?_eq_some_iff.1 hi).1
      exact ih i _ u (List.getElem?_eq_getElem hlt) hi (hh i _ (List.getElem?_eq_getElem hlt))
def ObjFrz (P : Program) (L : LH) (S : Nat → Bool) : AObj → AObj → Prop
  | .row g e els, .row g' e' els' => g = g' ∧ e = e' ∧ els.length = els'.length ∧ ∀ (i : Nat) el el', els[i]? = some el → els'[i]? = some el' → el.length = el'.length ∧ ∀ (j : Nat) v u, el[j]? = some v → el'[j]? = some u → sc u = true ∧ Frz P L S v u
  | .map es, .map es' => es.length = es'.length ∧ ∀ (i : Nat) k v k' v', es[i]? = some (k, v) → es'[i]? = some (k', v') → Frz P L S k k' ∧ Frz P L S v v'
  | .loop st pend N E ps asg body, .loop st' pend' N' E' ps' asg' body' => st = st' ∧ pend = pend' ∧ N = N' ∧ ps = ps' ∧ asg = asg' ∧ body = body' ∧ ∀ t u, aget E' t = some u → ∃ v, aget E t = some v ∧ Frz P L S v u
  | .glob g cells, .glob g' cells' => g = g' ∧ cells = cells'
  | _, _ => False
def inL (L : LH) (r : Nat) : Bool := (aget L r).isSome
structure Wk (P : Program) (L L' : LH) : Prop where
  obj : ∀ r o', aget L' r = some o' → ∃ o, aget L r = some o ∧ ObjFrz P L (inL L') o o'
def restr (ρ : Rho) (S : Nat → Bool) : Rho := { ρ with m := fun r => if S r then ρ.m r else none }
theorem restr_agree (ρ : Rho) (S : Nat → Bool) : Agree S ρ (restr ρ S) where
  m r x hs hx := by simp [restr, hs, hx]
  own b := by
    rintro (⟨r, g, l, h1, h2⟩ | h)
    · simp only [restr] at h1
      split at h1
      · exact .inl ⟨r, g, l, h1, h2⟩
      · simp at h1
    · exact .inr h
theorem restr_m {ρ : Rho} {S : Nat → Bool} {r : Nat} {x : Nat × CLoc} (h : (restr ρ S).m r = some x) : S r = true ∧ ρ.m r = some x := by
  simp only [restr] at h
  split at h
  · exact ⟨‹_›, h⟩
  · simp at h
theorem flat_pair {α β : Type} {R : α → β → Prop} : ∀ {els : List (List α)} {els' : List (List β)}, els.length = els'.length →
    (∀ (i : Nat) el el', els[i]? = some el → els'[i]? = some el' → el.length = el'.length ∧ ∀ (j : Nat) v u, el[j]? = some v → el'[j]? = some u → R v u) →
    ∀ (i : Nat) (u : β), els'.flatten[i]? = some u → ∃ v, els.flatten[i]? = some v ∧ R v u
  | [], [], _, _, i, u, h => by simp at h
  | [], e' :: els', h, _, _, _, _ => by simp at h
  | e :: els, [], h, _, _, _, _ => by simp at h
  | e :: els, e' :: els', hl, hh, i, u, h => by
    obtain ⟨h1, h2⟩ := hh 0 e e' rfl rfl
    rw [List.flatten_cons] at h ⊢
    by_cases hlt : i < e'.length
    · rw [List.getElem?_append_left hlt] at h
      rw [List.getElem?_append_left (by omega)]
      exact ⟨_, List.getElem?_eq_getElem (by omega), h2 i _ u (List.getElem?_eq_getElem (by omega)) h⟩
    · rw [List.getElem?_append_right (by omega)] at h
      rw [List.getElem?_append_right (by omega), h1]
      exact flat_pair (by simpa using hl) (fun i el el' a b => hh (i + 1) el el' (by simpa using a) (by simpa using b)) _ u h
theorem Wk.sound {P : Program} {L L' : LH} (h : Wk P L L') {ρ : Rho} {w : World} (hL : SatL P ρ L w) : SatL P (restr ρ (inL L')) L' w := by
  have ha := restr_agree ρ (inL L')
  have hfz : ∀ {v u : AVal}, Frz P L (inL L') v u → ∀ {c : Value}, VRel w ρ v c → VRel w (restr ρ (inL L')) u c := fun hf => hf.sound hL ha (fun r x hx => restr_m hx) rfl
  refine ⟨fun r o' ho' => ?_, fun r x hx => ?_, fun r r' x x' b h1 h2 h3 h4 => hL.inj r r' x x' b (restr_m h1).2 (restr_m h2).2 h3 h4, fun b hb => ?_, hL.elt⟩
  · obtain ⟨o, ho, hf⟩ := h.obj r o' ho'
    obtain ⟨l, hl, hO⟩ := hL.obj r o ho
    have hin : inL L' r = true := by simp [inL, ho']
    cases o with
    | row g e els =>
      cases o' with
      | map _ => exact hf.elim
      | loop _ _ _ _ _ _ _ => exact hf.elim
      | glob _ _ => exact hf.elim
      | row g' e' els' =>
        obtain ⟨rfl, rfl, hlen, hc⟩ := hf
        refine ⟨l, ha.m r _ hin hl, ?_⟩
        cases l with
        | map _ => exact hO.elim
        | loop _ => exact hO.elim
        | glob _ => exact hO.elim
        | row v0 e0 sz =>
          obtain ⟨rfl, hP, hp, hsz, xs, hown, hxs⟩ := hO
          refine ⟨rfl, hP, hp, ?_, xs, by rw [← hlen]; exact hown, fun i u hi => ?_⟩
          · intro el hel
            obtain ⟨i, hi⟩ := List.mem_iff_getElem?.1 hel
            have hlt : i < els.length := by rw [hlen]; exact (List.getElem?_eq_some_iff.1 hi).1
            rw [← (hc i _ el (List.getElem?_eq_getElem hlt) hi).1]
            exact hsz _ (List.getElem_mem hlt)
          · obtain ⟨v, hv, h5, h6⟩ := flat_pair (R := fun v u => sc u = true ∧ Frz P L (inL L') v u) hlen hc i u hi
            exact ⟨h5, hfz h6 (hxs i v hv).2⟩
    | map es =>
      cases o' with
      | row _ _ _ => exact hf.elim
      | loop _ _ _ _ _ _ _ => exact hf.elim
      | glob _ _ => exact hf.elim
      | map es' =>
        obtain ⟨hlen, hc⟩ := hf
        refine ⟨l, ha.m r _ hin hl, ?_⟩
        cases l with
        | row _ _ _ => exact hO.elim
        | loop _ => exact hO.elim
        | glob _ => exact hO.elim
        | map b =>
          obtain ⟨ents, cl, h1, h2, h3⟩ := hO
          refine ⟨ents, cl, h1, by rw [h2, hlen], fun i k' v' hi => ?_⟩
          have hlt : i < es.length := by rw [hlen]; exact (List.getElem?_eq_some_iff.1 hi).1
          obtain ⟨q1, q2⟩ := hc i es[i].1 es[i].2 k' v' (List.getElem?_eq_getElem hlt) hi
          obtain ⟨q3, q4⟩ := h3 i _ _ (List.getElem?_eq_getElem hlt)
          exact ⟨hfz q1 q3, hfz q2 q4⟩
    | loop st pend N E ps asg body =>
      cases o' with
      | row _ _ _ => exact hf.elim
      | map _ => exact hf.elim
      | glob _ _ => exact hf.elim
      | loop st' pend' N' E' ps' asg' body' =>
        obtain ⟨rfl, rfl, rfl, rfl, rfl, rfl, hc⟩ := hf
        refine ⟨l, ha.m r _ hin hl, ?_⟩
        cases l with
        | row _ _ _ => exact hO.elim
        | map _ => exact hO.elim
        | glob _ => exact hO.elim
        | loop b =>
          obtain ⟨fn, tmps, d, h1, h2, h3⟩ := hO
          refine ⟨fn, tmps, d, h1, h2, fun t u ht => ?_⟩
          obtain ⟨v, hv, hz⟩ := hc t u ht
          exact ⟨(h3 t v hv).1, hfz hz (h3 t v hv).2⟩
    | glob g cells =>
      cases o' with
      | row _ _ _ => exact hf.elim
      | map _ => exact hf.elim
      | loop _ _ _ _ _ _ _ => exact hf.elim
      | glob g' cells' =>
        obtain ⟨rfl, rfl⟩ := hf
        refine ⟨l, ha.m r _ hin hl, ?_⟩
        cases l with
        | row _ _ _ => exact hO.elim
        | map _ => exact hO.elim
        | loop _ => exact hO.elim
        | glob b =>
          obtain ⟨e, hv⟩ := hO
          exact ⟨e, hv.agree ha rfl⟩
  · obtain ⟨hS, _⟩ := restr_m hx
    unfold inL at hS
    exact Option.isSome_iff_exists.1 hS
  · obtain ⟨r, g, l, h1, h2⟩ := hb
    exact hL.dis b ⟨r, g, l, (restr_m h1).2, h2⟩
theorem restr_fr (ρ : Rho) (w : World) (S : Nat → Bool) (K : Nat → Prop) (hK : ∀ r, K r → S r = true) : Fr K ρ w (restr ρ S) w where
  os := rfl
  tape := rfl
  output := rfl
  size := Nat.le_refl _
  blk _ _ _ := rfl
  new b _ := by
    rintro ⟨r, g, l, h1, h2⟩
    exact ⟨r, g, l, (restr_m h1).2, h2⟩
  ext := rfl
  keep r x hk hx := ⟨x, by simp [restr, hK r hk, hx], .refl x⟩
end Go.Sk
namespace Go.Sk
open Go
def resVs (P : Program) (L : LH) (E : Env) : List ResultVar → Option (List AVal)
  | [] => some []
  | .tmp t :: l => (aget E t).bind fun v => (resVs P L E l).map fun vs => v :: vs
  | .cell a t :: l => (aget E a).bind fun p => (aload P L t p).bind fun v => (resVs P L E l).map fun vs => v :: vs
def resV (P : Program) (L : LH) (E : Env) (rs : List ResultVar) : Option AVal :=
  (resVs P L E rs).map fun vs => match vs with
    | [v] => v
    | vs => .tup vs
theorem resVs_sound {P : Program} {ρ : Rho} {E : Env} {L : LH} {a : Act} {w : World} (hE : SatE ρ E a w) (hL : SatL P ρ L w) {f : ResultVar → Sem Value} (f1 : ∀ t, f (.tmp t) = pure (a.tmps.getD t undef))
    (f2 : ∀ p t, f (.cell p t) = (do loadVar t (← asAddr (a.tmps.getD p undef)))) : ∀ {rs : List ResultVar} {vs : List AVal}, resVs P L E rs = some vs →
    ∃ cs : List Value, (rs.mapM f).run P w = .ok cs w ∧ LsRel w ρ vs cs
  | [], vs, h => by
    simp only [resVs, Option.some.injEq] at h
    subst h
    exact ⟨[], by simp, .nil⟩
  | .tmp t :: l, vs, h => by
    simp only [resVs] at h
    obtain ⟨v, hv, h⟩ := Option.bind_eq_some_iff.1 h
    obtain ⟨us, hu, rfl⟩ := Option.map_eq_some_iff.1 h
    obtain ⟨cs, h1, h2⟩ := resVs_sound hE hL f1 f2 hu
    exact ⟨_ :: cs, by simp only [List.mapM_cons, f1, Sem.run_bind, Sem.run_pure, Result.andThen_ok, h1], .cons (hE t v hv).2 h2⟩
  | .cell p t :: l, vs, h => by
    simp only [resVs] at h
    obtain ⟨pv, hp, h⟩ := Option.bind_eq_some_iff.1 h
    obtain ⟨v, hv, h⟩ := Option.bind_eq_some_iff.1 h
    obtain ⟨us, hu, rfl⟩ := Option.map_eq_some_iff.1 h
    obtain ⟨cs, h1, h2⟩ := resVs_sound hE hL f1 f2 hu
    obtain ⟨c, h3, h4⟩ := aload_sound (P := P) hv hL (hE p pv hp).2
    have h5 : (do loadVar t (← asAddr (a.tmps.getD p undef)) : Sem Value).run P w = .ok c w := by
      have hpv := (hE p pv hp).2
      generalize a.tmps.getD p undef = q at h3 hpv
      cases q with
      | pointer ad =>
        cases ad with
        | none => simp [Instr.loadAt, Instr.sureAddr] at h3
        | some ad => simpa [Instr.loadAt, Instr.sureAddr, asAddr] using h3
      | _ => simp [Instr.loadAt, Instr.sureAddr] at h3
    exact ⟨c :: cs, by rw [List.mapM_cons, f2, Sem.run_bind, h5]; simp only [Sem.run_bind, Sem.run_pure, Result.andThen_ok, h1], .cons h4 h2⟩
theorem resV_sound {P : Program} {ρ : Rho} {E : Env} {L : LH} {a : Act} {w : World} (hE : SatE ρ E a w) (hL : SatL P ρ L w) {fn : Func} {v : AVal} (h : resV P L E fn.results.toList = some v) :
    ∃ c, (results fn a.tmps).run P w = .ok c w ∧ VRel w ρ v c := by
  unfold resV at h
  obtain ⟨vs, hvs, hv⟩ := Option.map_eq_some_iff.1 h
  have hrun : ∃ cs, (results fn a.tmps).run P w = .ok (if h : cs.toArray.size = 1 then cs.toArray[0] else .tuple cs.toArray) w ∧ LsRel w ρ vs cs := by
    unfold results
    rw [Array.mapM_eq_mapM_toList]
    obtain ⟨cs, h1, h2⟩ := resVs_sound hE hL (f := fun | .tmp t => pure (a.tmps.getD t undef) | .cell p t => do loadVar t (← asAddr (a.tmps.getD p undef))) (fun _ => rfl) (fun _ _ => rfl) hvs
    refine ⟨cs, ?_, h2⟩
    rw [Sem.run_bind, Sem.run_map]
    erw [h1]
    rfl
  obtain ⟨cs, hrun, h2⟩ := hrun
  refine ⟨_, hrun, ?_⟩
  cases h2 with
  | nil =>
    subst hv
    exact VRel.tup0 w ρ
  | cons hc hs =>
    cases hs with
    | nil => subst hv; exact hc
    | cons hc2 hs =>
      subst hv
      have := (LsRel.cons hc (.cons hc2 hs)).cs
      rw [dif_neg (by simp)]
      exact .tup this.1 this.2
theorem leaves_marks {P : Program} {F : Fence} {fn : Func} {R : Ending → World → Prop} {ρ : Rho} {L : LH} (tmps : Array Value) {u : FrameMode} (hu : u ≠ .run) : ∀ (ms : List Nat) (w : World), ms.Nodup → (∀ b ∈ ms, ¬ ownM ρ b ∧ w.heap[b]? = some (.deferred (some []))) →
    (LeavesIn F 0 P fn tmps R [] u (ms.foldl (fun w b => setO w b (.deferred none)) w)) → LeavesInM F 0 P fn tmps R (ms.map mk1) u w
  | [], w, _, _, h => h
  | b :: ms, w, hn, hm, h => by
    obtain ⟨h1, h2⟩ := hm b (by simp)
    refine ⟨hu, .inl ⟨b, setO w b (.deferred none), rfl, by simp [Instr.takeDeferred, getObj, setObj, Sem.run, h2, setO], ?_⟩⟩
    rw [List.nodup_cons] at hn
    refine leaves_marks (ρ := ρ) (L := L) tmps hu ms _ hn.2 (fun b' hb' => ?_) h
    obtain ⟨h3, h4⟩ := hm b' (by simp [hb'])
    exact ⟨h3, (setO_other w _ (fun (e : b' = b) => hn.1 (by rw [← e]; exact hb'))).trans h4⟩
theorem marks_fold {P : Program} {ρ : Rho} {L : LH} {B : Nat} : ∀ (ms : List Nat) (w : World), ms.Nodup → (∀ b ∈ ms, B ≤ b ∧ ¬ ownM ρ b ∧ w.heap[b]? = some (.deferred (some []))) → SatL P ρ L w →
    SatL P ρ L (ms.foldl (fun w b => setO w b (.deferred none)) w) ∧ (∀ v c, VRel w ρ v c → VRel (ms.foldl (fun w b => setO w b (.deferred none)) w) ρ v c) ∧
    (∀ a E, SatE ρ E a w → SatE ρ E a (ms.foldl (fun w b => setO w b (.deferred none)) w)) ∧
    (ms.foldl (fun w b => setO w b (.deferred none)) w).os = w.os ∧ (ms.foldl (fun w b => setO w b (.deferred none)) w).tape = w.tape ∧ (ms.foldl (fun w b => setO w b (.deferred none)) w).output = w.output ∧
    (ms.foldl (fun w b => setO w b (.deferred none)) w).heap.size = w.heap.size ∧ ∀ b, b < B → (ms.foldl (fun w b => setO w b (.deferred none)) w).heap[b]? = w.heap[b]?
  | [], w, _, _, h => ⟨h, fun _ _ h => h, fun _ _ h => h, rfl, rfl, rfl, rfl, fun _ _ => rfl⟩
  | b :: ms, w, hn, hm, h => by
    obtain ⟨h0, h1, h2⟩ := hm b (by simp)
    rw [List.nodup_cons] at hn
    have hv : ∀ v c, VRel w ρ v c → VRel (setO w b (.deferred none)) ρ v c := fun v c hv => hv.setO h2 rfl
    obtain ⟨g1, g2, g3, g4, g5, g6, g7, g8⟩ := marks_fold (B := B) ms (setO w b (.deferred none)) hn.2 (fun b' hb' => by
      obtain ⟨h3, h4, h5⟩ := hm b' (by simp [hb'])
      exact ⟨h3, h4, (setO_other w _ (fun (e : b' = b) => hn.1 (by rw [← e]; exact hb'))).trans h5⟩) (h.setO (o' := .deferred none) h2 rfl h1)
    refine ⟨g1, fun v c h => g2 v c (hv v c h), fun a E h => g3 a E (fun t v ht => ⟨(h t v ht).1, hv _ _ (h t v ht).2⟩), g4, g5, g6, by rw [List.foldl_cons, g7, setO_size], fun b' hb' => ?_⟩
    rw [List.foldl_cons, g8 b' hb', setO_other w _ (by omega)]
def argE : Nat → List AVal → Env
  | _, [] => []
  | i, v :: vs => (i, v) :: argE (i + 1) vs
theorem argE_get : ∀ {vs : List AVal} {i t : Nat} {v : AVal}, aget (argE i vs) t = some v → ∃ j, t = i + j ∧ vs[j]? = some v
  | [], i, t, v, h => by simp [argE, aget] at h
  | u :: vs, i, t, v, h => by
    simp only [argE, aget] at h
    split at h
    · rename_i e
      exact ⟨0, by omega, h⟩
    · obtain ⟨j, h1, h2⟩ := argE_get h
      exact ⟨j + 1, by omega, h2⟩
def RetP (P : Program) (rs : List ResultVar) (out : Out) (L' : LH) : Ex → Env → LH → Prop
  | .normal, E, L => ∃ v u, resV P L E rs = some v ∧ out = .ret u ∧ Frz P L (inL L') v u ∧ Wk P L L'
  | .ret, E, L => ∃ v u, resV P L E rs = some v ∧ out = .ret u ∧ Frz P L (inL L') v u ∧ Wk P L L'
  | .panic v, E, L => ∃ u, out = .panic u ∧ Frz P L (inL L') v u ∧ Wk P L L'
  | _, _, _ => False
theorem RetP.noGo {P : Program} {rs : List ResultVar} {out : Out} {L' : LH} : NoGo (RetP P rs out L') := fun _ _ _ h => h
def fcx (P : Program) (N : Nat) (B : Bs) (L0 : LH) : Cx := { P, N, B, K := ids L0, F := Fence.wide, wide := Wide.wide }
theorem LsRel.len {w : World} {ρ : Rho} {vs : List AVal} {cs : List Value} (h : LsRel w ρ vs cs) : vs.length = cs.length := by
  induction h with
  | nil => rfl
  | cons _ _ ih => simp [ih]
theorem LsRel.get {w : World} {ρ : Rho} {vs : List AVal} {cs : List Value} (h : LsRel w ρ vs cs) {i : Nat} {v : AVal} (hv : vs[i]? = some v) : ∃ c, cs[i]? = some c ∧ VRel w ρ v c := by
  induction h generalizing i with
  | nil => simp at hv
  | cons h _ ih =>
    cases i with
    | zero => simp only [List.getElem?_cons_zero, Option.some.injEq] at hv; subst hv; exact ⟨_, rfl, h⟩
    | succ i => exact ih (by simpa using hv)
theorem Ev.of_body {P : Program} {f : FuncId} {fn : Func} {c : Code} {args : List AVal} {L0 L' : LH} {out : Out} (hf : P.funcs[f]? = some fn) (hb : fn.body = some c) (hen : enters P f = true)
    (hK : ∀ r, inL L0 r = true → inL L' r = true) (hlen : args.length ≤ fn.ntmps) (h : ∀ B, AWP (fcx P fn.ntmps B L0) c (argE 0 args) L0 (RetP P fn.results.toList out L')) : Ev P f args L0 out L' := by
  refine ⟨hen, fun ρ w cs hcs hL => callsIn_of_wp_marks hf hb trivial ?_ rfl⟩
  have hl := hcs.len
  have hS : Sat P fn.ntmps w.heap.size ρ (argE 0 args) L0 { tmps := cs.toArray ++ Array.replicate (fn.ntmps - cs.toArray.size) undef, defers := [] } w := by
    refine ⟨by simp; omega, fun t v ht => ?_, hL, ⟨[], .nil, List.nodup_nil, by simp⟩, Nat.le_refl _⟩
    obtain ⟨j, rfl, hj⟩ := argE_get ht
    obtain ⟨c, hc, hv⟩ := hcs.get hj
    have hjl : j < cs.length := (List.getElem?_eq_some_iff.1 hc).1
    refine ⟨by simp; omega, ?_⟩
    have e : (cs.toArray ++ Array.replicate (fn.ntmps - cs.toArray.size) undef).getD (0 + j) undef = c := by
      rw [Nat.zero_add]
      simp only [Array.getD_eq_getD_getElem?]
      rw [Array.getElem?_append_left (by simpa using hjl)]
      simp [hc]
    rw [e]
    exact hv
  refine wpIn_mono (h w.heap.size ρ _ w hS) (fun e a' w' hh => ?_)
  obtain ⟨ρ', E', L1, x, h1, h2, h3, h4⟩ := hh
  obtain ⟨ms, m1, m2, m3⟩ := h3.marks
  replace m1 : a'.defers = ms.map mk1 := m1.plain
  have hm := marks_fold (P := P) (ρ := ρ') (L := L1) (B := w.heap.size) ms w' m2 m3 h3.heap
  generalize hw2 : ms.foldl (fun w b => setO w b (.deferred none)) w' = w2 at hm
  obtain ⟨g1, g2, g3, g4, g5, g6, g7, g8⟩ := hm
  -- the end of it all
  have fin : ∀ {v u : AVal} {c : Value}, VRel w2 ρ' v c → Frz P L1 (inL L') v u → Wk P L1 L' → ∃ ρ2, VRel w2 ρ2 u c ∧ SatL P ρ2 L' w2 ∧ Fr All ρ w ρ2 w2 := by
    intro v u c hv hz hk
    refine ⟨restr ρ' (inL L'), hz.sound g1 (restr_agree ..) (fun r x hx => restr_m hx) rfl hv, hk.sound g1, ?_⟩
    refine ⟨g4.trans h4.os, g5.trans h4.tape, g6.trans h4.output, by rw [g7]; exact h4.size, fun b hb ho => ?_, fun b hb hb2 => ?_, h4.ext, fun r x _ hx => ?_⟩
    · rw [g8 b hb]; exact h4.blk b hb ho
    · obtain ⟨r, g, l, q1, q2⟩ := hb2
      exact h4.new b hb ⟨r, g, l, (restr_m q1).2, q2⟩
    · obtain ⟨o, ho⟩ := hL.dom r x hx
      have hin : inL L0 r = true := by simp [inL, ho]
      obtain ⟨y, hy, hle⟩ := h4.keep r x hin hx
      exact ⟨y, by simp [restr, hK r hin, hy], hle⟩
  have good : ∀ {v u : AVal}, resV P L1 E' fn.results.toList = some v → out = .ret u → Frz P L1 (inL L') v u → Wk P L1 L' →
      LeavesInM Fence.wide 0 P fn a'.tmps (fun e w' => ∃ ρ', OutR w' ρ' out e ∧ SatL P ρ' L' w' ∧ Fr All ρ w ρ' w') a'.defers .returning w' := by
    intro v u hv ho hz hk
    rw [m1]
    refine leaves_marks (ρ := ρ') (L := L1) _ (by simp) ms w' m2 (fun b hb => (m3 b hb).2) ?_
    rw [hw2]
    obtain ⟨c, r1, r2⟩ := resV_sound (g3 a' E' h3.env) g1 hv
    obtain ⟨ρ2, k1, k2, k3⟩ := fin r2 hz hk
    exact ⟨c, r1, ρ2, by rw [ho]; exact k1, k2, k3⟩
  cases x with
  | normal =>
    cases e <;> first | exact h1.elim | skip
    obtain ⟨v, u, hv, ho, hz, hk⟩ := h2
    exact good hv ho hz hk
  | ret =>
    cases e <;> first | exact h1.elim | skip
    obtain ⟨v, u, hv, ho, hz, hk⟩ := h2
    exact good hv ho hz hk
  | panic v =>
    cases e <;> first | exact h1.elim | skip
    rename_i ch
    obtain ⟨u, ho, hz, hk⟩ := h2
    obtain ⟨c, rfl, hv⟩ := h1
    show LeavesInM _ _ _ _ _ _ a'.defers (.panicking (chain1 c)) w'
    rw [m1]
    refine leaves_marks (ρ := ρ') (L := L1) _ (by simp) ms w' m2 (fun b hb => (m3 b hb).2) ?_
    rw [hw2]
    obtain ⟨ρ2, k1, k2, k3⟩ := fin (g2 _ _ hv) hz hk
    exact ⟨ρ2, by rw [ho]; exact ⟨c, rfl, k1⟩, k2, k3⟩
  | exit id => exact h2.elim
  | goto l => exact h2.elim
end Go.Sk
namespace Go.Sk
open Go
mutual
theorem closedV_true (S : Nat → Bool) (hS : ∀ r, S r = true) : ∀ v, closedV S v = true
  | .slice r _ _ _ => hS r
  | .ptr r _ _ _ => hS r
  | .map r => hS r
  | .yld r => hS r
  | .agg vs => closedL_true S hS vs
  | .tup vs => closedL_true S hS vs
  | .fn _ bs vs => by simp only [closedV, closedL_true S hS bs, closedL_true S hS vs, Bool.and_self]
  | .iface _ v => closedV_true S hS v
  | .undef => rfl
  | .dat _ => rfl
  | .pdat _ _ => rfl
  | .raw _ => rfl
  | .nilS => rfl
theorem closedL_true (S : Nat → Bool) (hS : ∀ r, S r = true) : ∀ vs, closedL S vs = true
  | [] => rfl
  | v :: vs => by simp only [closedL, closedV_true S hS v, closedL_true S hS vs, Bool.and_self]
end
def closedO (S : Nat → Bool) : AObj → Bool
  | .row _ _ els => els.all fun el => closedL S el
  | .map es => es.all fun p => closedV S p.1 && closedV S p.2
  | .loop _ _ _ E _ _ _ => E.all fun p => closedV S p.2
  | .glob _ _ => true
theorem aget_mem' : ∀ {l : List (Nat × AVal)} {t : Nat} {v : AVal}, aget l t = some v → (t, v) ∈ l
  | (k, x) :: l, t, v, h => by
    simp only [aget] at h
    split at h
    · rename_i e; subst e; injection h with h; subst h; simp
    · simp [aget_mem' h]
def mergeL (L : LH) : LH → LH
  | [] => L
  | (r, o) :: l => aset (mergeL L l) r o
theorem mergeL_get (L : LH) : ∀ (l : LH) (r : Nat), aget (mergeL L l) r = match aget l r with | some o => some o | none => aget L r
  | [], r => rfl
  | (r', o) :: l, r => by
    simp only [mergeL, aget_aset, aget]
    by_cases h : r' = r
    · simp [h]
    · simp [h, mergeL_get L l r]
theorem ORel.same {P : Program} {w w' : World} {ρ ρ' : Rho} (hf : Fr All ρ w ρ' w') {l : CLoc} {o : AObj} (h : ORel P w ρ l o) (hb : ∀ b, l.blk = some b → w'.heap[b]? = w.heap[b]?) : ORel P w' ρ' l o := by
  cases l with
  | row v e sz =>
    cases o with
    | map _ => exact h.elim
    | loop _ _ _ _ _ _ _ => exact h.elim
    | glob _ _ => exact h.elim
    | row g e' els =>
      obtain ⟨h1, h2, h3, h4, xs, ho, hx⟩ := h
      refine ⟨h1, h2, h3, h4, xs, ⟨ho.1, ?_⟩, fun i x hi => ⟨(hx i x hi).1, (hx i x hi).2.fr hf⟩⟩
      rcases ho.2 with h | ⟨g', cap, cur, q1, q2, q3, q4⟩
      · exact .inl h
      · exact .inr ⟨g', cap, cur, q1, q2, by rw [hb g' (by simp [CLoc.blk, q1, Value.ownBlock])]; exact q3, q4⟩
  | map b =>
    cases o with
    | row _ _ _ => exact h.elim
    | loop _ _ _ _ _ _ _ => exact h.elim
    | glob _ _ => exact h.elim
    | map es =>
      obtain ⟨ents, cl, hh, hs, hx⟩ := h
      exact ⟨ents, cl, by rw [hb b rfl]; exact hh, hs, fun i k v hi => ⟨(hx i k v hi).1.fr hf, (hx i k v hi).2.fr hf⟩⟩
  | loop b =>
    cases o with
    | row _ _ _ => exact h.elim
    | map _ => exact h.elim
    | glob _ _ => exact h.elim
    | loop st pend N E ps asg body =>
      obtain ⟨fn, tmps, d, hh, hs, hx⟩ := h
      exact ⟨fn, tmps, d, by rw [hb b rfl]; exact hh, hs, fun t v ht => ⟨(hx t v ht).1, (hx t v ht).2.fr hf⟩⟩
  | glob g =>
    cases o with
    | row _ _ _ => exact h.elim
    | map _ => exact h.elim
    | loop _ _ _ _ _ _ _ => exact h.elim
    | glob g' cells =>
      obtain ⟨rfl, hv⟩ := h
      exact ⟨rfl, hv.fr hf⟩
theorem ORel.agree {P : Program} {S : Nat → Bool} {ρ ρ' : Rho} {w : World} (ha : Agree S ρ ρ') {l : CLoc} {o : AObj} (h : ORel P w ρ l o) (hc : closedO S o = true) : ORel P w ρ' l o := by
  cases l with
  | row v e sz =>
    cases o with
    | map _ => exact h.elim
    | loop _ _ _ _ _ _ _ => exact h.elim
    | glob _ _ => exact h.elim
    | row g e' els =>
      obtain ⟨h1, h2, h3, h4, xs, ho, hx⟩ := h
      refine ⟨h1, h2, h3, h4, xs, ho, fun i x hi => ⟨(hx i x hi).1, (hx i x hi).2.agree ha ?_⟩⟩
      obtain ⟨el, hel, hxe⟩ := List.mem_flatten.1 (List.mem_of_getElem? hi)
      have := List.all_eq_true.1 hc el hel
      obtain ⟨j, hj⟩ := List.mem_iff_getElem?.1 hxe
      exact closedL_get this j x hj
  | map b =>
    cases o with
    | row _ _ _ => exact h.elim
    | loop _ _ _ _ _ _ _ => exact h.elim
    | glob _ _ => exact h.elim
    | map es =>
      obtain ⟨ents, cl, hh, hs, hx⟩ := h
      refine ⟨ents, cl, hh, hs, fun i k v hi => ?_⟩
      have := List.all_eq_true.1 hc (k, v) (List.mem_of_getElem? hi)
      simp only [Bool.and_eq_true] at this
      exact ⟨(hx i k v hi).1.agree ha this.1, (hx i k v hi).2.agree ha this.2⟩
  | loop b =>
    cases o with
    | row _ _ _ => exact h.elim
    | map _ => exact h.elim
    | glob _ _ => exact h.elim
    | loop st pend N E ps asg body =>
      obtain ⟨fn, tmps, d, hh, hs, hx⟩ := h
      exact ⟨fn, tmps, d, hh, hs, fun t v ht => ⟨(hx t v ht).1, (hx t v ht).2.agree ha (List.all_eq_true.1 hc (t, v) (aget_mem' ht))⟩⟩
  | glob g =>
    cases o with
    | row _ _ _ => exact h.elim
    | map _ => exact h.elim
    | loop _ _ _ _ _ _ _ => exact h.elim
    | glob g' cells =>
      obtain ⟨rfl, hv⟩ := h
      exact ⟨rfl, hv.agree ha rfl⟩
def fore (ρ : Rho) (L0 : LH) : Rho where
  m r := if inL L0 r then ρ.m r else none
  ext b := ρ.ext b ∨ ∃ r g l, ρ.m r = some (g, l) ∧ inL L0 r = false ∧ l.blk = some b
def back (ρ ρ' : Rho) (L0' : LH) : Rho where
  m r := if inL L0' r then ρ'.m r else ρ.m r
  ext := ρ.ext
theorem fore_m {ρ : Rho} {L0 : LH} {r : Nat} {x : Nat × CLoc} (h : (fore ρ L0).m r = some x) : inL L0 r = true ∧ ρ.m r = some x := by
  simp only [fore] at h
  split at h
  · exact ⟨‹_›, h⟩
  · simp at h
theorem fore_agree (ρ : Rho) (L0 : LH) : Agree (inL L0) ρ (fore ρ L0) where
  m r x hs hx := by simp [fore, hs, hx]
  own b := by
    rintro (⟨r, g, l, h1, h2⟩ | h | ⟨r, g, l, h1, _, h2⟩)
    · exact .inl ⟨r, g, l, (fore_m h1).2, h2⟩
    · exact .inr h
    · exact .inl ⟨r, g, l, h1, h2⟩
theorem fore_sat {P : Program} {ρ : Rho} {L L0 : LH} {w : World} (hL : SatL P ρ L w) (hsub : ∀ r o, aget L0 r = some o → aget L r = some o) (hc : ∀ r o, aget L0 r = some o → closedO (inL L0) o = true) : SatL P (fore ρ L0) L0 w where
  obj r o ho := by
    obtain ⟨l, h1, h2⟩ := hL.obj r o (hsub r o ho)
    exact ⟨l, (fore_agree ρ L0).m r _ (by simp [inL, ho]) h1, h2.agree (fore_agree ρ L0) (hc r o ho)⟩
  dom r x hx := by
    obtain ⟨h, _⟩ := fore_m hx
    unfold inL at h
    exact Option.isSome_iff_exists.1 h
  inj r r' x x' b h1 h2 h3 h4 := hL.inj r r' x x' b (fore_m h1).2 (fore_m h2).2 h3 h4
  dis b := by
    rintro ⟨r, g, l, h1, h2⟩ (h | ⟨r', g', l', h3, h4, h5⟩)
    · exact hL.dis b ⟨r, g, l, (fore_m h1).2, h2⟩ h
    · have := hL.inj r r' _ _ b (fore_m h1).2 h3 h2 h5
      rw [← this, (fore_m h1).1] at h4
      simp at h4
  elt b := by
    rintro (h | ⟨r', g', l', h3, h4, h5⟩)
    · exact hL.elt b h
    · exact hL.lt ⟨r', g', l', h3, h5⟩
theorem back_agree (ρ ρ' : Rho) (L0 L0' : LH) (h1 : ρ'.ext = (fore ρ L0).ext) (h2 : ∀ r x, ρ'.m r = some x → inL L0' r = true) (h3 : ∀ r, inL L0 r = true → inL L0' r = true) : Agree (fun _ => true) ρ' (back ρ ρ' L0') where
  m r x _ hx := by simp [back, h2 r x hx, hx]
  own b := by
    rintro (⟨r, g, l, q1, q2⟩ | h)
    · simp only [back] at q1
      split at q1
      · exact .inl ⟨r, g, l, q1, q2⟩
      · rename_i hn
        refine .inr ?_
        rw [h1]
        refine .inr ⟨r, g, l, q1, ?_, q2⟩
        cases hi : inL L0 r with
        | false => rfl
        | true => exact absurd (h3 r hi) hn
    · refine .inr ?_
      rw [h1]
      exact .inl h
theorem LsRel.agree {S : Nat → Bool} {ρ ρ' : Rho} {w : World} (ha : Agree S ρ ρ') {vs : List AVal} {cs : List Value} (h : LsRel w ρ vs cs) : closedL S vs = true → LsRel w ρ' vs cs := by
  induction h with
  | nil => exact fun _ => .nil
  | cons hv _ ih =>
    intro hc
    simp only [closedL, Bool.and_eq_true] at hc
    exact .cons (hv.agree ha hc.1) (ih hc.2)
theorem Ev.frame {P : Program} {f : FuncId} {args : List AVal} {L0 L0' L : LH} {out : Out} (h : Ev P f args L0 out L0') (hsub : ∀ r o, aget L0 r = some o → aget L r = some o)
    (ha : closedL (inL L0) args = true) (hc : ∀ r o, aget L0 r = some o → closedO (inL L0) o = true) (hnew : ∀ r, inL L0' r = true → inL L0 r = true ∨ inL L r = false) : Ev P f args L out (mergeL L L0') := by
  refine ⟨h.1, fun ρ w cs hcs hL => ?_⟩
  have hcs' : LsRel w (fore ρ L0) args cs := hcs.agree (fore_agree ρ L0) ha
  refine (h.2 (fore ρ L0) w cs hcs' (fore_sat hL hsub hc)).mono fun e w' he => ?_
  obtain ⟨ρ', h1, h2, h3⟩ := he
  have hdom : ∀ r x, ρ'.m r = some x → inL L0' r = true := fun r x hx => by
    obtain ⟨o, ho⟩ := h2.dom r x hx; simp [inL, ho]
  have hin : ∀ r, inL L0 r = true → inL L0' r = true := fun r hr => by
    unfold inL at hr
    obtain ⟨o, ho⟩ := Option.isSome_iff_exists.1 hr
    obtain ⟨l, hl, _⟩ := hL.obj r o (hsub r o ho)
    obtain ⟨y, hy, _⟩ := h3.keep r _ trivial ((fore_agree ρ L0).m r _ (by simp [inL, ho]) hl)
    exact hdom r y hy
  have hag := back_agree ρ ρ' L0 L0' h3.ext hdom hin
  have hf : Fr All ρ w (back ρ ρ' L0') w' := by
    refine ⟨h3.os, h3.tape, h3.output, h3.size, fun b hb ho => h3.blk b hb ?_, fun b hb => ?_, rfl, fun r x _ hx => ?_⟩
    · rintro ⟨r, g, l, q1, q2⟩
      exact ho ⟨r, g, l, (fore_m q1).2, q2⟩
    · rintro ⟨r, g, l, q1, q2⟩
      simp only [back] at q1
      split at q1
      · obtain ⟨r', g', l', q3, q4⟩ := h3.new b hb ⟨r, g, l, q1, q2⟩
        exact ⟨r', g', l', (fore_m q3).2, q4⟩
      · exact ⟨r, g, l, q1, q2⟩
    · cases hi : inL L0' r with
      | false => exact ⟨x, by simp [back, hi, hx], .refl x⟩
      | true =>
        rcases hnew r hi with h4 | h4
        · obtain ⟨y, hy, hle⟩ := h3.keep r x trivial ((fore_agree ρ L0).m r x h4 hx)
          exact ⟨y, by simp [back, hi, hy], hle⟩
        · obtain ⟨o, ho⟩ := hL.dom r x hx
          simp [inL, ho] at h4
  refine ⟨back ρ ρ' L0', ?_, ?_, hf⟩
  · cases out with
    | ret v =>
      cases e with
      | returned c => exact h1.agree hag (closedV_true _ (fun _ => rfl) v)
      | _ => exact h1.elim
    | panic v =>
      cases e with
      | panicked ch =>
        obtain ⟨c, hc1, hc2⟩ := h1
        exact ⟨c, hc1, hc2.agree hag (closedV_true _ (fun _ => rfl) v)⟩
      | _ => exact h1.elim
  · have hout : ∀ r g l b, inL L0' r = false → ρ.m r = some (g, l) → l.blk = some b → ¬ ownM (fore ρ L0) b := by
      rintro r g l b hi hr hb ⟨r', g', l', q1, q2⟩
      have := hL.inj r r' _ _ b hr (fore_m q1).2 hb q2
      subst this
      rw [hin r (fore_m q1).1] at hi
      simp at hi
    refine ⟨fun r o ho => ?_, fun r x hx => ?_, fun r1 r2 x1 x2 b q1 q2 q3 q4 => ?_, fun b => ?_, fun b hb => Nat.lt_of_lt_of_le (hL.elt b hb) h3.size⟩
    · rw [mergeL_get] at ho
      cases hi : aget L0' r with
      | some o' =>
        rw [hi] at ho
        simp only [Option.some.injEq] at ho
        subst ho
        obtain ⟨l, q1, q2⟩ := h2.obj r o' hi
        refine ⟨l, by simp [back, inL, hi, q1], q2.agree hag ?_⟩
        cases o' with
        | row g e els => exact List.all_eq_true.2 (fun el _ => closedL_true _ (fun _ => rfl) el)
        | map es => exact List.all_eq_true.2 (fun p _ => by simp [closedV_true])
        | loop _ _ _ _ _ _ _ => exact List.all_eq_true.2 (fun p _ => by simp [closedV_true])
        | glob _ _ => exact rfl
      | none =>
        rw [hi] at ho
        simp only at ho
        obtain ⟨l, q1, q2⟩ := hL.obj r o ho
        refine ⟨l, by simp [back, inL, hi, q1], q2.same hf (fun b hb => h3.blk b (hL.lt ⟨r, _, l, q1, hb⟩) (hout r _ l b (by simp [inL, hi]) q1 hb))⟩
    · rw [mergeL_get]
      simp only [back] at hx
      split at hx
      · obtain ⟨o, ho⟩ := h2.dom r x hx
        exact ⟨o, by rw [ho]⟩
      · rename_i hn
        obtain ⟨o, ho⟩ := hL.dom r x hx
        have : aget L0' r = none := by
          unfold inL at hn
          simpa using hn
        exact ⟨o, by rw [this]; exact ho⟩
    · have mix : ∀ r r' x x', inL L0' r = true → inL L0' r' = false → ρ'.m r = some x → ρ.m r' = some x' → x.2.blk = some b → x'.2.blk = some b → False := by
        intro r r' x x' i1 i2 k1 k2 k3 k4
        have hlt := hL.lt (b := b) ⟨r', x'.1, x'.2, k2, k4⟩
        exact hout r' x'.1 x'.2 b i2 k2 k4 (h3.new b hlt ⟨r, x.1, x.2, k1, k3⟩)
      simp only [back] at q1 q2
      split at q1 <;> split at q2
      · exact h2.inj r1 r2 x1 x2 b q1 q2 q3 q4
      · rename_i i1 i2
        exact (mix r1 r2 x1 x2 i1 (by simpa using i2) q1 q2 q3 q4).elim
      · rename_i i1 i2
        exact (mix r2 r1 x2 x1 i2 (by simpa using i1) q2 q1 q4 q3).elim
      · exact hL.inj r1 r2 x1 x2 b q1 q2 q3 q4
    · rintro ⟨r, g, l, q1, q2⟩ hx
      simp only [back] at q1
      split at q1
      · refine h2.dis b ⟨r, g, l, q1, q2⟩ ?_
        rw [h3.ext]
        exact .inl hx
      · exact hL.dis b ⟨r, g, l, q1, q2⟩ hx
def Fn (P : Program) (f : FuncId) (args : List AVal) (v : AVal) : Prop := Ev P f args [] (.ret v) []
end Go.Sk