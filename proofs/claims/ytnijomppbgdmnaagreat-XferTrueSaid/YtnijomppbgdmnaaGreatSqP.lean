/- Append of zeros, a slice as an array, frames with a deferred function, recover: more rules of the small symbolic-execution layer. General. -/
import Derived.Test.YtnijomppbgdmnaaGreatSpP
import Derived.Lib.AppendZerosOnto
set_option linter.unusedSimpArgs false
set_option linter.unusedVariables false
namespace Go.Sx
open Go.RowKit
section
variable {P : Program} {n : Fr} {w0 : World} {σ : Env} {H : List SA} {Q : Post} {d : Option Nat} {ty : TypeId} {pos : String} {aft : Array Edge} {g : Option (Nat × Bool)} {K : Value → List SA → Prop}
/-- Of a slice of bytes as an array. -/
theorem Qt_arrayAt {x : Operand} {arr e c m : Nat} {a : Option Addr} {l : List UInt8} (hx : ev σ x = .slice a l.length c) (ht : P.underlying arr = some (.array m e)) [hr : RdB w0 H (.slice a l.length c) l] (hm : m ≤ l.length) (h0 : 0 < m) :
    Qt P w0 H σ ⟨d, .sliceToArrayPointer arr x, ty, pos, aft, g⟩ (.pointer (ptrOf (.slice a l.length c) 0)) := fun w hw => by
  obtain ⟨b, o, rfl, h2⟩ := ptrOf_add (hr.rd w hw) (by simp; omega) 0
  rw [h2]
  have hn : ¬ l.length < m := by omega
  simp [execOp, hx, Instr.arrayAt, run_underlying ht, hn]
end
/-! ## Frames with a deferred function -/
section
variable {P : Program} {n : Fr} {w0 : World} {σ : Env} {H : List SA} {R : Exit → Act → World → Prop}
/-- As 'T', over any post on activations. -/
def TA (P : Program) (n : Fr) (w0 : World) (c : Code) (σ : Env) (H : List SA) (R : Exit → Act → World → Prop) : Prop := ∀ a w, Rep n a σ → St w0 H w → c.wp P R a w
def baseR (n : Fr) (R : Exit → Act → World → Prop) : Post := fun e σ w => match e with
  | .panic c => ∀ a, a.defers = n.ds → R (.panic c) a w
  | .outgrown => False
  | e => ∀ a, Rep n a σ → R e a w
def thenR (P : Program) (n : Fr) (w0 : World) (y : Code) (R : Exit → Act → World → Prop) : Post := fun e σ w => match e with
  | .normal => ∀ a, Rep n a σ → y.wp P R a w
  | e => baseR n R e σ w
theorem lift_base {e : Exit} {a : Act} {w : World} (h : lift n (baseR n R) e a w) : R e a w := by
  cases e with
  | panic c => exact h.2 a h.1
  | outgrown => exact h.elim
  | _ => obtain ⟨σ', h1, h2⟩ := h; exact h2 a h1
theorem TA_leaf {c : Code} (h : T P n w0 c σ H (baseR n R)) : TA P n w0 c σ H R := fun a w ha hw => wp_mono (h a w ha hw) fun _ _ _ hq => lift_base hq
theorem TA_seq {x y : Code} (h : T P n w0 x σ H (thenR P n w0 y R)) : TA P n w0 (.seq x y) σ H R := fun a w ha hw =>
  wp_seq (wp_mono (h a w ha hw) fun e a w hq => by
    cases e with
    | normal => obtain ⟨σ', h1, h2⟩ := hq; exact h2 a h1
    | panic c => exact hq.2 a hq.1
    | outgrown => exact hq.elim
    | _ => obtain ⟨σ', h1, h2⟩ := hq; exact h2 a h1)
theorem XA_then {y : Code} (h : TA P n w0 y σ H R) : X w0 .normal (thenR P n w0 y R) σ H := fun w hw a ha => h a w ha hw
theorem XA_then_ret {y : Code} (h : X w0 .ret (baseR n R) σ H) : X w0 .ret (thenR P n w0 y R) σ H := h
/-- As 'TL', over any post on activations. -/
def TLA (P : Program) (n : Fr) (w0 : World) (all : Array Oper) (l : List Oper) (σ : Env) (H : List SA) (R : Exit → Act → World → Prop) : Prop := ∀ a w, Rep n a σ → St w0 H w → wpList P all R l a w
def afterA (P : Program) (y : Code) (R : Exit → Act → World → Prop) : Exit → Act → World → Prop := fun e a w => match e with
  | .normal => y.wp P R a w
  | e => R e a w
theorem TA_regionA {id : Nat} {l : List Oper} {y : Code} (h : TLA P n w0 l.toArray l σ H (afterA P y R)) : TA P n w0 (.seq (.region id l.toArray false) y) σ H R := fun a w ha hw =>
  wp_seq (wp_mono (wp_region_lit (h a w ha hw)) fun e a w hq => by cases e <;> exact hq)
theorem TLA_q {all : Array Oper} {rest : List Oper} {d : Nat} {op : Op} {ty : TypeId} {pos : String} {aft : Array Edge} {v : Value} (hq : Qt P w0 H σ ⟨some d, op, ty, pos, aft, none⟩ v) (hd : Nat.blt d n.n = true) (h : TLA P n w0 all rest (upd σ d v) H R) :
    TLA P n w0 all (⟨some d, op, ty, pos, aft, none⟩ :: rest) σ H R := fun a w ha hw => by
  refine wpList_step fun N hN => ?_
  rw [if_pos (by rfl)]
  unfold Oper.wp
  rw [ha.eval, hq w hw]
  exact hN _ _ (h _ w (ha.put hd) hw)
theorem TLA_eP {all : Array Oper} {rest : List Oper} {d : Nat} {op : Op} {ty : TypeId} {pos : String} {aft : Array Edge} (hd : Nat.blt d n.n = true)
    (h : EfP P w0 H σ ⟨some d, op, ty, pos, aft, none⟩ (fun v H' => TLA P n w0 all rest (upd σ d v) H' R) (fun c H' => ∀ w, St w0 H' w → ∀ a, Rep n a σ → R (.panic c) a w)) :
    TLA P n w0 all (⟨some d, op, ty, pos, aft, none⟩ :: rest) σ H R := fun a w ha hw =>
  wpList_step fun N hN => by
    rw [if_pos (by rfl)]
    exact h.wp ha hw (fun v H' w' hk hs => hN _ _ (hk _ w' (ha.put hd) hs)) (fun c H' w' hk hs => hk w' hs a ha)
/-- The region that defers a function literal. -/
theorem TA_defer {C : Code} {id t : Nat} {f : FuncId} {caps : List Operand} {ty ty2 : TypeId} {pos pos2 : String} {aft aft2 : Array Edge} {m : Nat} {args : List Value} (ht : Nat.blt t m = true) (hc : caps.map (ev σ) = args)
    (h : TA P ⟨m, [⟨.fn (.func f) args.toArray, #[]⟩]⟩ w0 C (upd σ t (.func (.func f) #[] args.toArray)) H R) :
    TA P ⟨m, []⟩ w0 (.seq (.region id #[⟨some t, .makeFunc (.func f) #[] caps.toArray, ty, pos, aft, none⟩, ⟨none, .defer ⟨.value (.tmp t), #[], #[]⟩, ty2, pos2, aft2, none⟩] false) C) σ H R := fun a w ha hw => by
  have h1 : (execOp (ev σ) ⟨some t, .makeFunc (.func f) #[] caps.toArray, ty, pos, aft, none⟩).run P w = .ok (.value (.func (.func f) #[] args.toArray)) w := by
    simp [execOp, Instr.makeFunc, hc]
  have ha2 := ha.put (v := .func (.func f) #[] args.toArray) ht
  have hev : ev (upd σ t (.func (.func f) #[] args.toArray)) (.tmp t) = .func (.func f) #[] args.toArray := by simp [ev, upd]
  have h2 : (execOp (ev (upd σ t (.func (.func f) #[] args.toArray))) ⟨none, .defer ⟨.value (.tmp t), #[], #[]⟩, ty2, pos2, aft2, none⟩).run P w = .ok (.defer ⟨.fn (.func f) args.toArray, #[]⟩) w := by
    simp [execOp, resolve, hev, Deferred.ofValue]
  refine wp_seq (wp_region_list ?_)
  refine wpList_step fun N hN => ?_
  rw [if_pos (by rfl)]
  unfold Oper.wp
  rw [ha.eval, h1]
  refine hN _ _ ?_
  refine wpList_step fun N' hN' => ?_
  rw [if_pos (by rfl)]
  unfold Oper.wp
  rw [ha2.eval, h2]
  refine hN' _ _ ?_
  refine wpList_nil ?_
  refine h _ w ⟨ha2.1, ?_, ha2.2.2⟩ hw
  have := ha2.2.1
  show _ :: _ = _
  rw [this]
theorem CT_introA {f m : Nat} {args : List Value} {α : Type} {val : α → Value} {H' : α → List SA} {fn : Func} {c : Code} (hf : P.funcs[f]? = some fn) (hb : fn.body = some c) (hn : fn.ntmps = m) (hl : Nat.ble args.length m = true)
    (h : TA P ⟨m, []⟩ w0 c (initE 0 args env0) H (bodyPostD P fn fun e w' => ∃ x, e = .returned (val x) ∧ St w0 (H' x) w')) : CT P w0 H f args val H' := fun w hw => by
  refine calls_of_wp_defers hf hb ?_
  have ha := rep_init (args := args) (n := m) (Nat.le_of_ble_eq_true hl)
  rw [hn]
  exact h _ w ha hw
end
/-! ## recover -/
section
variable {P : Program} {n : Fr} {w0 : World} {σ : Env} {H : List SA} {Q : Exit → Act → List Frame → World → Prop}
theorem wpOpsS_of {ops : Array Oper} {cs : List Frame} (hout : ¬ LetsOut (fun e a w => Q e a cs w)) : ∀ (l : List Nat) (a : Act) (w : World), wpOps P ops (fun e a w => Q e a cs w) l a w → wpOpsS P ops Q l a cs w
  | [], a, w, h => h
  | i :: rest, a, w, h => by
    unfold wpOps at h
    unfold wpOpsS
    split
    · rename_i ho; rw [ho] at h; exact wpOpsS_of hout rest a w h
    · rename_i o ho
      rw [ho] at h
      simp only at h
      split
      · rename_i hw
        rw [if_pos hw] at h
        rcases h with h | h
        · have h := Oper.wp_mono (K' := fun a' w' => wpOpsS P ops Q rest a' cs w') (fun a' w' h' => wpOpsS_of hout rest a' w' h') h
          unfold Oper.wp at h
          generalize (execOp a.eval o).run P w = r at h ⊢
          split
          · exact h.elim
          · exact h
        · exact absurd h.2 hout
      · rename_i hw
        rw [if_neg hw] at h
        exact wpOpsS_of hout rest _ w h
theorem wpList_mono {ops : Array Oper} {Q Q' : Exit → Act → World → Prop} (hq : ∀ e a w, Q e a w → Q' e a w) : ∀ (l : List Oper) (a : Act) (w : World), wpList P ops Q l a w → wpList P ops Q' l a w
  | [], a, w, h => hq _ _ _ h
  | o :: l, a, w, h => by
    have hl : LetsOut Q → LetsOut Q' := fun ⟨a, w, h⟩ => ⟨a, w, hq _ _ _ h⟩
    unfold wpList at h ⊢
    split
    · rename_i hw
      rw [if_pos hw] at h
      rcases h with h | h
      · left
        unfold Oper.wp at h ⊢
        generalize (execOp a.eval o).run P w = r at h ⊢
        cases r with
        | ok n w' =>
          cases n <;> simp only [Oper.upon] at h ⊢ <;>
            first
              | exact wpList_mono hq l _ _ h
              | exact Calls.mono h (fun e w'' he => by cases e <;> first | exact wpList_mono hq l _ _ he | exact hq _ _ _ he | exact hl he)
              | exact Rows.mono h (fun _ _ he => wpList_mono hq l _ _ he)
        | halt x w' => cases x <;> simp only [Oper.upon] at h ⊢ <;> exact hq _ _ _ h
      · exact .inr ⟨h.1, hl h.2⟩
    · rename_i hw
      rw [if_neg hw] at h
      exact wpList_mono hq l _ _ h
def caught (cs : List Frame) : Value × List Frame := match recoverD cs with
  | some p => p
  | none => (.nilIface, cs)
theorem TS_recover {id t : Nat} {l : List Oper} {ty : TypeId} {pos : String} {aft : Array Edge} {cs : List Frame} (hd : Nat.blt t n.n = true) (hout : ¬ LetsOut (fun e a w => Q e a (caught cs).2 w))
    (h : TL P n w0 (⟨some t, .call ⟨.builtin .recover, #[], #[]⟩, ty, pos, aft, none⟩ :: l).toArray l (upd σ t (caught cs).1) H (baseR n fun e a w => Q e a (caught cs).2 w)) {a : Act} {w : World} (ha : Rep n a σ) (hw : St w0 H w) :
    (Code.region id (⟨some t, .call ⟨.builtin .recover, #[], #[]⟩, ty, pos, aft, none⟩ :: l).toArray false).wpS P Q a cs w := by
  refine wpS_region ?_
  have hr : List.range (⟨some t, .call ⟨.builtin .recover, #[], #[]⟩, ty, pos, aft, none⟩ :: l : List Oper).toArray.size = 0 :: List.range' 1 l.length := by
    simp [List.range_eq_range', List.range'_succ]
  rw [hr]
  have key : wpOpsS P (⟨some t, .call ⟨.builtin .recover, #[], #[]⟩, ty, pos, aft, none⟩ :: l).toArray Q (List.range' 1 l.length) (a.put (some t) (caught cs).1) (caught cs).2 w := by
    refine wpOpsS_of hout _ _ _ ?_
    rw [wpOps_eq_wpList l 1 (fun j => by simp [Nat.add_comm 1 j])]
    exact wpList_mono (fun e a w hq => lift_base hq) l _ _ (h _ w (ha.put hd) hw)
  unfold wpOpsS
  simp only [List.getElem?_toArray, List.getElem?_cons_zero]
  rw [if_pos (by rfl)]
  have he : (execOp a.eval ⟨some t, .call ⟨.builtin .recover, #[], #[]⟩, ty, pos, aft, none⟩).run P w = .ok .recover w := by
    simp [execOp, resolve, invoke, builtin]
  rw [he]
  unfold caught at key
  cases hc : recoverD cs with
  | none => rw [hc] at key; exact key
  | some p => obtain ⟨v, cs'⟩ := p; rw [hc] at key; exact key
/-- A deferred function that recovers first, and then goes on as any. -/
def CTD (P : Program) (w0 : World) (H : List SA) (f : FuncId) (args : Array Value) (u u' : FrameMode) (H' : List SA) : Prop :=
  ∀ w, St w0 H w → CallsD P f args u w fun e v w' => v = u' ∧ (∃ x, e = .returned x) ∧ St w0 H' w'
end
theorem TLA_tail {P : Program} {n : Fr} {w0 : World} {σ : Env} {H : List SA} {R : Exit → Act → World → Prop} {all : Array Oper} {l : List Oper} {y : Code} (h : TL P n w0 all l σ H (thenR P n w0 y R)) : TLA P n w0 all l σ H (afterA P y R) := fun a w ha hw =>
  wpList_mono (fun e a w hq => by
    cases e with
    | normal => obtain ⟨σ', h1, h2⟩ := hq; exact h2 a h1
    | panic c => exact hq.2 a hq.1
    | outgrown => exact hq.elim
    | _ => obtain ⟨σ', h1, h2⟩ := hq; exact h2 a h1) l _ _ (h a w ha hw)
/-! ## Leaves of frames with and without a deferred function -/
section
variable {P : Program} {m : Nat} {w0 : World} {σ : Env} {H H1 : List SA} {fn : Func} {α : Type} {val : α → Value} {H' : α → List SA}
/-- What a call is to come to. -/
def RetR (w0 : World) {α : Type} (val : α → Value) (H' : α → List SA) : Ending → World → Prop := fun e w' => ∃ x, e = .returned (val x) ∧ St w0 (H' x) w'
theorem XD_ret0 {e : Exit} (he : e = .normal ∨ e = .ret) (h : X w0 .ret (retQ P ⟨m, []⟩ w0 fn val H') σ H) : X w0 e (baseR ⟨m, []⟩ (bodyPostD P fn (RetR w0 val H'))) σ H := fun w hw => by
  obtain ⟨x, h1, h2⟩ := h w hw
  have key : ∀ a, Rep ⟨m, []⟩ a σ → Leaves P fn a.tmps (RetR w0 val H') a.defers .returning w := fun a ha => by
    rw [ha.2.1]
    exact ⟨val x, h1 a ha, x, rfl, h2⟩
  rcases he with rfl | rfl <;> exact key
theorem invoke_fn {f : FuncId} {args : Array Value} {w : World} [hf : FnOk P f] : (invoke (.fn (.func f) args) #[]).run P w = .ok (.enter f args) w := by
  have hok := hf.ok
  split at hok
  · rename_i fn hfn
    simp only [Bool.and_eq_true, Bool.not_eq_true', beq_eq_false_iff_ne, ne_eq] at hok
    obtain ⟨h1, h2⟩ := hok
    obtain ⟨bd, hbd⟩ := Option.isSome_iff_exists.1 h2
    simp [invoke, callFunc, hfn, h1, hbd]
  · cases hok
theorem leaves_one {f : FuncId} {args : Array Value} [hf : FnOk P f] {u u' : FrameMode} {ds : List Deferred} (hru : u ≠ .run) (hc : CTD P w0 H f args u u' H1) (hu : settle u' = .returning) {a : Act} (ha : Rep ⟨m, ds⟩ a σ)
    (h : X w0 .ret (retQ P ⟨m, ds⟩ w0 fn val H') σ H1) {w : World} (hw : St w0 H w) : Leaves P fn a.tmps (RetR w0 val H') [⟨.fn (.func f) args, #[]⟩] u w := by
  refine ⟨hru, _, _, f, args, rfl, invoke_fn, fun c cs hcu => ?_⟩
  obtain ⟨e, v, w', fr, ⟨rfl, ⟨x, rfl⟩, hs⟩, h2, h3, h4⟩ := hc w hw c cs hcu
  refine ⟨_, _, _, _, ?_, h2, h3, h4⟩
  simp only [hu]
  obtain ⟨y, h5, h6⟩ := h w' hs
  exact ⟨val y, h5 a ha, y, rfl, h6⟩
theorem XD_ret {f : FuncId} {args : Array Value} [hf : FnOk P f] {u' : FrameMode} {e : Exit} (he : e = .normal ∨ e = .ret) (hc : CTD P w0 H f args .returning u' H1) (hu : settle u' = .returning)
    (h : X w0 .ret (retQ P ⟨m, [⟨.fn (.func f) args, #[]⟩]⟩ w0 fn val H') σ H1) : X w0 e (baseR ⟨m, [⟨.fn (.func f) args, #[]⟩]⟩ (bodyPostD P fn (RetR w0 val H'))) σ H := fun w hw => by
  have key : ∀ a, Rep ⟨m, [⟨.fn (.func f) args, #[]⟩]⟩ a σ → Leaves P fn a.tmps (RetR w0 val H') a.defers .returning w := fun a ha => by
    rw [ha.2.1]
    exact leaves_one (by simp) hc hu ha h hw
  rcases he with rfl | rfl <;> exact key
theorem XD_panic {f : FuncId} {args : Array Value} [hf : FnOk P f] {u' : FrameMode} {c : List PanicEntry} (hc : CTD P w0 H f args (.panicking c) u' H1) (hu : settle u' = .returning)
    (h : X w0 .ret (retQ P ⟨m, [⟨.fn (.func f) args, #[]⟩]⟩ w0 fn val H') σ H1) : ∀ w, St w0 H w → ∀ a, Rep ⟨m, [⟨.fn (.func f) args, #[]⟩]⟩ a σ → bodyPostD P fn (RetR w0 val H') (.panic c) a w := fun w hw a ha => by
  show Leaves P fn a.tmps (RetR w0 val H') a.defers (.panicking c) w
  rw [ha.2.1]
  exact leaves_one (by simp) hc hu ha h hw
/-- The body of a deferred function that recovers first. -/
theorem CTD_intro {f : FuncId} {args : List Value} {c : Code} {u u' : FrameMode} (hf : P.funcs[f]? = some fn) (hb : fn.body = some c) (hn : fn.ntmps = m) (hl : Nat.ble args.length m = true)
    (h : ∀ (c₀ : Frame) (cs : List Frame) (a : Act) (w : World), c₀.mode = u → Rep ⟨m, []⟩ a (initE 0 args env0) → St w0 H w →
      c.wpS P (bodyPostS P fn c₀ cs fun e v w' => v = u' ∧ (∃ x, e = .returned x) ∧ St w0 H1 w') a (c₀ :: cs) w) : CTD P w0 H f args.toArray u u' H1 := fun w hw => by
  refine callsD_of_wpS hf hb fun c₀ cs hu => ?_
  have ha := rep_init (args := args) (n := m) (Nat.le_of_ble_eq_true hl)
  rw [hn]
  exact h c₀ cs _ w hu ha hw
end
end Go.Sx
