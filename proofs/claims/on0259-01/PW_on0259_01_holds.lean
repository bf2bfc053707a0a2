import PyProof.Rows.All
import Wide.All
import OpenK.AllK
import Wide.FinOn
import PySem.Challenge.RW_on0259_01
open PySem PySem.W PyProof.Rows PySem.Calls
set_option Elab.async false
set_option compiler.extract_closed false
set_option maxRecDepth 100000
set_option maxHeartbeats 8000000
namespace Mine
noncomputable def viewQ : Program := { PySem.Challenge.rw_on0259_01.row.toRowW.prog with main := { PySem.Challenge.rw_on0259_01.row.toRowW.prog.main with body := (PySem.Challenge.rw_on0259_01.row.toRowW.prog.main.body.zipIdx.filter fun x => !(x.2 == 1 || x.2 == 4 || x.2 == 6 || x.2 == 9)).map (·.1) } }
noncomputable def topRunT (tb : String → Option Builtin) (p : Program) (w : World) (n₀ : Nat) (ann : Option Value) : Nat → SharedT → Thread → Option SharedT
  | 0, _, _ => none
  | n + 1, s, t => match through t with
    | true => some s
    | false => match stepOk n₀ ann t with
      | false => none
      | true => match stepT (denote tb) p w s t with
        | some (s', t') => topRunT tb p w n₀ ann n s' t'
        | none => none
theorem topRunT_of {tb : String → Option Builtin} {p : Program} {w : World} {n₀ : Nat} {ann : Option Value} : ∀ {n : Nat} {s r : SharedT} {t : Thread}, topRunT tb p w n₀ ann n s t = some r → topRun tb p w n₀ ann n s.abs t = some r.abs
  | 0, _, _, _, h => by cases h
  | n + 1, s, r, t, h => by
    unfold topRunT at h
    unfold topRun
    cases ht : through t with
    | true => rw [ht] at h; cases h; rfl
    | false =>
      rw [ht] at h
      cases hk : stepOk n₀ ann t with
      | false => rw [hk] at h; cases h
      | true =>
        rw [hk] at h
        cases hs : stepT (denote tb) p w s t with
        | none => rw [hs] at h; cases h
        | some x => obtain ⟨s₂, t₂⟩ := x; rw [hs] at h; rw [stepT_spec hs]; exact topRunT_of h
noncomputable def bootTree (P : Params) : BT := (boot_heap P).objs.toList.zipIdx.foldl (fun t x => t.ins x.2 x.1) .nil
theorem bootTree_abs : ∀ P : Params, absHeap (bootTree P) 11 (boot_heap P).life = boot_heap P := fun P => by kernel_rfl
theorem boot_size : ∀ P : Params, (boot_heap P).objs.size = 11 := fun P => by kernel_rfl
theorem left_of_tree {p q : Program} {loose : List Str} {Xt : Shared → Bool} {α : Type} {Yf : Shared → α} {Ya : World → α} {N : Nat} {g0 : Bool} (e : opening p = plainProg p.main.scope.names) (hN : Nat.ble 600 N = true) (f : ∀ s, fenceModules? p s = some s)
    (z : ∀ w : World, ((boot_heap w.params).isNs mainGlobals && (Array.mk [] : Array GenState).size == 0) = true)
    (run : ∀ w : World, (fun os => (topRunT treeTable p w 11 ((boot_heap w.params).nsMap mainGlobals "__annotations__") N ⟨bootTree w.params, 11, (boot_heap w.params).life, Array.mk [], boot_drawn, boot_toks, os⟩ (topStub p)).map (fun s =>
      ((staticsOk (importedModules p.main.body) (boot_heap w.params) s.abs.heap && namesBound p s.abs.heap && gensDone s.abs && laidKept (boot_heap w.params) s.abs.heap), openSeen q loose (importedModules p.main.body) Xt g0 s.abs, Yf s.abs))) = fun _ => some (true, openGood q loose, Ya w)) : LeftO p q loose Xt Yf Ya N g0 := fun w => by
  obtain ⟨⟨h, gs, d, k, os⟩, a, b⟩ := Option.map_eq_some_iff.mp (boot_open e hN f w)
  obtain ⟨rfl, rfl, rfl, rfl⟩ : h = boot_heap w.params ∧ gs = Array.mk [] ∧ d = boot_drawn ∧ k = boot_toks := by simpa using b
  obtain ⟨r, x, y⟩ := Option.map_eq_some_iff.mp (congrFun (run w) os)
  obtain ⟨l1, l2, l3⟩ : _ ∧ _ ∧ _ := by simpa only [Prod.mk.injEq] using y
  have x' := topRunT_of x
  have ab : (SharedT.mk (bootTree w.params) 11 (boot_heap w.params).life (Array.mk []) boot_drawn boot_toks os).abs = ⟨boot_heap w.params, Array.mk [], boot_drawn, boot_toks, os⟩ := congrArg (fun h => Shared.mk h (Array.mk []) boot_drawn boot_toks os) (bootTree_abs w.params)
  rw [ab] at x'
  have t : topFrom treeTable p w N ⟨boot_heap w.params, Array.mk [], boot_drawn, boot_toks, os⟩ = some r.abs := by
    unfold topFrom
    dsimp only
    rw [z w, boot_size, x']
    show (match staticsOk (importedModules p.main.body) (boot_heap w.params) r.abs.heap && namesBound p r.abs.heap && gensDone r.abs && laidKept (boot_heap w.params) r.abs.heap with | true => _ | false => _) = _
    rw [l1]
  unfold openEnds
  rw [a]
  show (topFrom treeTable p w N _).map _ = _
  rw [t]
  exact congrArg some (Prod.ext l2 l3)
section P_H
theorem said0 : PySem.Challenge.rw_on0259_01.wellSaid = true := by kernel_rfl
local macro_rules | `(tactic| o_law) => `(tactic| refine holds_law said0 fun said => ?_)
local macro_rules | `(tactic| o_head $H) => do
  let hw := Lean.mkIdent `hw
  let hc := Lean.mkIdent `hc
  `(tactic| (refine holds_open (q := viewQ) (loose := [Str.ofString "PostError", Str.ofString "Stack", Str.ofString "Thing"]) (Xt := fun s => xlAt viewQ [] s && recOk (RowW.records (OpenRow.toRowW PySem.Challenge.rw_on0259_01.row)) s) (XP := XL viewQ []) (Yf := Hook.obs $H) (Ya := Hook.val $H) (YP := Hook.says $H) (N := 3454) ?hl (Hook.of $H) (Hook.keeps $H) (fun s e => xl_of s (Bool.and_eq_true_iff.mp e).1) XL.keeps (by rfl) (by rfl) (by rfl) (fun s e => recFacts_of (Bool.and_eq_true_iff.mp e).2) ?x4 ?x5 ?x6 ?x7 ?$hw ?$hc; (case x4 => rfl); (case x5 => assumption); (case x6 => (decide +kernel)); (case x7 => exact ⟨rfl, rfl, rfl, rfl, rfl, by decide +kernel⟩); (case hl => exact left_of_tree (by kernel_rfl) (by decide) (fun _ => by kernel_rfl) (fun _ => by kernel_rfl) (fun w => by kernel_rfl))))
open_top hd for PySem.Challenge.rw_on0259_01
end P_H
section P_C1
local macro_rules | `(tactic| k_room) => `(tactic| ktr_room)
local macro_rules | `(tactic| k_all) => `(tactic| assumption)
local macro_rules | `(tactic| size_fits) => `(tactic| (simp only [List.size_toArray, Array.size_append, Array.size_push, List.length_append, List.length_cons, List.length_nil, List.length_take, List.length_drop, List.length_dropLast, List.length_reverse, List.length_map, PySem.sizeLine_eq]; omega))
local macro_rules | `(tactic| units_room) => `(tactic| ktr_units)

local macro_rules | `(tactic| k_steps) => `(tactic| repeat' (first | (k_unfold; (try dsimp only)) | (k_end; wrow_close) | walk1 | (dsimp only; walk1) | (dsimp only [List.nil_append, List.cons_append]; walk1) | (leave1; walk_say "STEP leave1"; try dsimp only)))
theorem fmod_rng {x b : Int} (hb : 0 < b) : 0 ≤ x.fmod b ∧ x.fmod b < b := ⟨Int.fmod_nonneg_of_pos x hb, Int.fmod_lt_of_pos x hb⟩

section
variable {w : World} {p : Program} {loose : List Str} {mean : ExcName → Option Value} {mg mb : Str → Option Value} {dp un : Nat} {gd : Option (List Code)} {cn : Str} {cs : Scope} {L a : Addr} {ccd : Value} {cl : List (Str × Addr)} {outer : List Env} {A₀ : Around} {base h₀ : Heap} {m : Str → Option Value} {s : Shared} {Q E : Value → Shared → Prop}

theorem draw_call {d D : Addr} {o : Obj} {ws : List Value} {cells : List Int} {n : Nat} {R : List (Addr × Obj)} {M T : Int} {t1 t2 tb : Tok} {below : Int}
    (B : Below A₀ base outer h₀) (F : Fr h₀ L s.heap m) (X : (hd.heap_1 w.params).In h₀) (TP : Top p loose mean mg mb h₀) (hk : cs.kind = .function) (hdp : dp + 1 < recursionLimit) (hun : un + 400 < cLine)
    (N : News h₀ L s.heap ((d, o) :: (D, listOf ws.toArray n) :: R))
    (ho : o.IsDictOf (PySem.strKind Challenge.rw_on0259_01.row.prog w) [(Str.ofString "cells", Value.ref D), (Str.ofString "mixed", Value.int M t1), (Str.ofString "turn", Value.int T t2)]) (hi : IntsAre ws cells) (hlen : cells.length ≤ 16)
    (hne : @Ne Nat d D) (offd : ∀ p ∈ R, p.1 ≠ d) (offD : ∀ p ∈ R, p.1 ≠ D) (hb0 : 0 < below) (hb1 : below ≤ 100) (hT0 : 0 ≤ T) (hT1 : T ≤ 1000) (hM0 : 0 ≤ M) (hM1 : M < 2147483587)
    (ret : ∀ (v : Int) (t : Tok) (o' : Obj) (ws' : List Value) (cells' : List Int) (n' : Nat) (t1' t2' : Tok) (h' : Heap) (tk' : Tok), 0 ≤ v → v < below → Fr h₀ L h' m → News h₀ L h' ((d, o') :: (D, listOf ws'.toArray n') :: R) →
      o'.IsDictOf (PySem.strKind Challenge.rw_on0259_01.row.prog w) [(Str.ofString "cells", Value.ref D), (Str.ofString "mixed", Value.int M t1'), (Str.ofString "turn", Value.int (T + 1) t2')] → IntsAre ws' cells' → cells'.length ≤ 16 → Q (.int v t) { s with heap := h', toks := tk' }) :
    wpAny (model Challenge.rw_on0259_01.row.prog w) (ktrTop dp un gd cn cs L a ccd cl outer) (call (.ref 194) [.ref d, .int below tb]) Q E s := by
  revert X
  k_fill
  intro X
  w_on
  have hws := hi.length
  have hwz : ws.length ≤ sizeLine := by rw [sizeLine_eq]; omega
  by_cases hz : cells = []
  all_goals first | (have hpos : 0 < ws.length := by (rw [hws]; exact List.length_pos_iff.mpr hz)) | skip
  all_goals w_strict (refine wpAny_call ?_; k_dflt ktr_enter; k_steps)
  all_goals (try simp only [List.push_toArray] at *)
  all_goals (try dsimp only)
  all_goals (first | (refine' ret _ _ _ _ _ _ _ _ _ _ (fmod_rng hb0).1 (fmod_rng hb0).2 (by k_asm) ?N ?o ?i ?l; (case N => (refine' cb_drop ?cbN ?cbS; (case cbN => assumption); (case cbS => kcj_all))); (case o => assumption); (case i => first | assumption | exact IntsAre.append (by assumption) (.cons _ _ .nil) | exact hi); (case l => first | omega | ((try simp only [List.length_dropLast, List.length_append, List.length_cons, List.length_nil]); omega))))
end
end P_C1
section P_S1
local macro_rules | `(tactic| k_room) => `(tactic| ktr_room)
local macro_rules | `(tactic| k_all) => `(tactic| assumption)
local macro_rules | `(tactic| size_fits) => `(tactic| (simp only [List.size_toArray, Array.size_append, Array.size_push, List.length_append, List.length_cons, List.length_nil, List.length_take, List.length_drop, List.length_dropLast, List.length_reverse, List.length_map, PySem.sizeLine_eq]; omega))
local macro_rules | `(tactic| units_room) => `(tactic| ktr_units)
local macro_rules | `(tactic| k_steps) => `(tactic| repeat' (first | (k_unfold; (try dsimp only)) | (k_end; wrow_close) | walk1 | (dsimp only; walk1) | (dsimp only [List.nil_append, List.cons_append]; walk1) | (leave1; walk_say "STEP leave1"; try dsimp only)))

section
variable {prog : Program} {w : World} {A : Around} {E : Value → Shared → Prop} {s : Shared}
theorem my_len {l : Addr} {vs : List Value} {Q : Value → Shared → Prop} (hl : s.heap.IsList l vs.toArray) (hz : vs.length ≤ 1000) (h : Q (.int (vs.length : Int) (s.toks + 1)) { s with toks := s.toks + 1 + 1 }) :
    wpAny (model prog w) A (call (.builtin "len") [.ref l]) Q E s := by
  have e : (List.toArray vs).size = vs.length := List.size_toArray
  exact call_len_list hl (by rw [e]; omega) (by rw [e]; exact h)
end
local macro_rules | `(tactic| walk_at "call builtin:len") => `(tactic| (k_here; (with_reducible show wpAny _ _ (call (Value.builtin "len") [Value.ref _]) _ _ _); k_dflt (refine' my_len ?k1 ?k2 ?_; (case k1 => exact News.isList (by k_asm) (by k_mem)); (case k2 => first | omega | ((try simp only [List.length_append, List.length_cons, List.length_nil, List.length_take, List.length_drop, List.length_dropLast]); omega)); k_whole)))

abbrev stkD (w : World) (k1 k2 : Tok) (most : Int) (tm : Tok) (l : Addr) (n : Nat) : Obj :=
  dictOf [{ hash := PyData.keyHash w.params (Str.ofString "most"), key := Value.str (Str.ofString "most") k1, val := Value.int most tm }, { hash := PyData.keyHash w.params (Str.ofString "things"), key := Value.str (Str.ofString "things") k2, val := Value.ref l }] n

section
variable {w : World} {p : Program} {loose : List Str} {mean : ExcName → Option Value} {mg mb : Str → Option Value} {dp un : Nat} {gd : Option (List Code)} {cn : Str} {cs : Scope} {L a : Addr} {ccd : Value} {cl : List (Str × Addr)} {outer : List Env} {A₀ : Around} {base h₀ : Heap} {m : Str → Option Value} {s : Shared} {Q E : Value → Shared → Prop}

theorem push_ok {it sd l : Addr} {k1 k2 tm : Tok} {most : Int} {nd n : Nat} {vs : List Value} {v : Value} {R : List (Addr × Obj)}
    (B : Below A₀ base outer h₀) (F : Fr h₀ L s.heap m) (X : (hd.heap_1 w.params).In h₀) (TP : Top p loose mean mg mb h₀) (hk : cs.kind = .function) (hdp : dp + 1 < recursionLimit) (hun : un + 400 < cLine)
    (N : News h₀ L s.heap ((l, listOf vs.toArray n) :: (sd, stkD w k1 k2 most tm l nd) :: (it, instObj 156 sd) :: R))
    (h1 : @Ne Nat sd l) (h2 : @Ne Nat it l) (h3 : @Ne Nat it sd) (offl : ∀ p ∈ R, p.1 ≠ l) (offd : ∀ p ∈ R, p.1 ≠ sd)
    (hlen : vs.length ≤ 20) (hm : (vs.length : Int) < most)
    (ret : ∀ (n' : Nat) (h' : Heap) (tk' : Tok), Fr h₀ L h' m → News h₀ L h' ((l, listOf (vs ++ [v]).toArray n') :: (sd, stkD w k1 k2 most tm l nd) :: (it, instObj 156 sd) :: R) → Q .none { s with heap := h', toks := tk' }) :
    wpAny (model Challenge.rw_on0259_01.row.prog w) (ktrTop dp un gd cn cs L a ccd cl outer) (call (.ref 83) [.ref it, v]) Q E s := by
  revert X
  k_fill
  intro X
  w_on
  w_strict (refine wpAny_call ?_; k_dflt ktr_enter; k_steps)
  exact ret _ _ _ (by k_asm) (by (try simp only [List.push_toArray] at *); refine' cb_drop ?cbN ?cbS; (case cbN => assumption); (case cbS => kcj_all))

end
end P_S1
section P_X1
section
variable {prog : Program} {w : World} {A : Around} {R : Result → Shared → Prop} {h : Heap} {g : Array GenState} {d : Drawn} {t : Nat} {os : OsState}
variable {nm q : Str} {C N : Addr} {bs bm bmB : List Value} {hdct : Bool} {sn : List Str} {sub : List Value} {ab : Bool} {col : Option Bool} {dd : Option Addr} {k0 k1 k2 k3 k5 : Option Value} {B newId initId : String}

abbrev tupO (rest : List Value) : Obj := { cls := .type "tuple", data := .seq rest.toArray }
abbrev excO (C t : Addr) : Obj := { cls := .ref C, data := .fields #[.ref t, .none, .none, .none, .bool false, .none] }

/-- an own class's exception is made: its first half, before its own __init__ -/
theorem exc_new (F : ExcBaseFacts B newId initId bmB) (hb : bm.contains (.type B) = true) (ha : bm.contains (.type "AttributeError") = false) (hne : bm.contains (.type "NameError") = false) {rest : List Value}
    (hC : h.get? C = some (excClassObj nm q C N bs bm hdct sn sub ab col dd k0 k1 k2 k3 k5 newId))
    (hq : R (.ok (.ret (.ref (h.objs.size + 1)))) ⟨(h.push (tupO rest)).push (excO C h.objs.size), g, d, t, os⟩) (hrest : rest.length ≤ sizeLine := by size_fits) :
    codeAny (model prog w) A (.builtin newId ⟨.ref C :: rest, []⟩) R ⟨h, g, d, t, os⟩ := by
  have hends := F.ends
  have hcB : (Value.ref C :: bm).contains (.type B) = true := by rw [List.contains_cons, hb, Bool.or_true]
  have hcA : (Value.ref C :: bm).contains (.type "AttributeError") = false := by rw [List.contains_cons, ha]; rfl
  have hcN : (Value.ref C :: bm).contains (.type "NameError") = false := by rw [List.contains_cons, hne]; rfl
  refine codeAny_builtinAt F.entry ?_
  unfold Builtin.«BaseException.__new__»
  refine PySem.wpAt_bind ?_
  show PySem.wpAt _ _ _ (stack >>= _) _ _ _
  refine PySem.wpAt_bind (PySem.wpAt_stack fun p below => PySem.wpAt_of_wpAny ?_)
  wp_walk
  refine PySem.wpAt_of_wpAny ?_
  rw [F.owner]
  repeat (first | with_reducible refine wpAny_madeHere_exc F.canon hC ?_ | with_reducible refine wpAny_loadPart_at hC ?_ | (with_reducible refine wpAny_isSubtype_exc hC ?_; first | rw [hcB] | rw [hcA] | rw [hcN]) | wp_step)
  show R _ _
  rw [Heap.size_push]
  exact hq

/-- an own exception class with an own __init__ is called -/
theorem exc_call (F : ExcBaseFacts B newId initId bmB) (hb : bm.contains (.type B) = true) (ha : bm.contains (.type "AttributeError") = false) (hne : bm.contains (.type "NameError") = false) {rest : List Value} {init : Addr}
    (hC : h.get? C = some (excClassObj nm q C N bs bm hdct sn sub ab col dd k0 k1 k2 k3 k5 newId))
    (hi : Looks (model prog w) h (typeLookup (.ref C) "__init__") (some (.ref init))) (hbd : ∀ self, Looks (model prog w) h (bindSpecial (.ref init) self) (.ref init, [self]))
    (hq : codeAny (model prog w) (A.under (.builtin "type.__call__" ⟨.ref C :: rest, []⟩)) (.call (.ref init) ⟨.ref (h.objs.size + 1) :: rest, []⟩) (InitBack (h.objs.size + 1) R) ⟨(h.push (tupO rest)).push (excO C h.objs.size), g, d, t, os⟩)
    (hrest : rest.length ≤ sizeLine := by size_fits) :
    codeAny (model prog w) A (.call (.ref C) ⟨rest, []⟩) R ⟨h, g, d, t, os⟩ := by
  have f1 := tc_lookup
  have f2 := tc_bind (.ref C)
  have hT : (⟨h, g, d, t, os⟩ : Shared).TypeIs (.ref C) "type" := ⟨_, hC, rfl⟩
  refine codeAny_of_tree ?_
  show wpAny _ _ (callAny (.ref C) _) _ _ _
  repeat (any_goals (first | assumption | with_reducible refine wpAny_loadPart_at hC ?_ | wp_step))
  refine ⟨rfl, ?_⟩
  refine codeAny_call_builtin_at (Code.quiet_builtin _ (by decide +kernel)) entry_typeCall (wpAny_check_type_call_sub hC ?_)
  unfold Builtin.«type.__call__»
  repeat (first | with_reducible refine wpAny_loadPart_at hC ?_ | with_reducible refine wpAny_madeBy_exc hC ?_ | wp_step)
  refine codeAny_call_builtin_code (Code.quiet_builtin _ F.quiet) (wpAny_check_new_subU F hb OwnTail.base hC ?_)
  refine exc_new F hb ha hne hC ?_ hrest
  show wpAny _ _ _ _ _ _
  have k : ∀ b o, h.get? b = some o → ((h.push (tupO rest)).push (excO C h.objs.size)).get? b = some o := fun b o e => Heap.get?_push_of_some _ (Heap.get?_push_of_some _ e)
  have hC₁ := k _ _ hC
  have hx : ((h.push (tupO rest)).push (excO C h.objs.size)).get? (h.objs.size + 1) = some (excO C h.objs.size) := by heap_get
  have hcC : (Value.ref C :: bm).contains (.ref C) = true := by simp
  have t1 : Looks (model prog w) ((h.push (tupO rest)).push (excO C h.objs.size)) (typeOf (.ref (h.objs.size + 1))) (.ref C) := (Looks.ld hx).andThen .now
  have i1 := hi.keeps k
  have b1 := (hbd (.ref (h.objs.size + 1))).keeps k
  unfold isInstance callSpecial? specialOf
  repeat (first | with_reducible refine wpAny_call ?_ | (with_reducible refine wpAny_isSubtype_exc hC₁ ?_; rw [hcC]) | lk)
  rw [hcC]
  simp only [Bool.not_true, Bool.false_eq_true, if_false, List.append_eq, List.nil_append, List.cons_append, List.map_nil, List.append_nil]
  repeat (first | with_reducible refine wpAny_call ?_ | lk)
  refine codeAny_mono hq fun r s' z => ?_
  rcases r with e | (v | _ | _ | _) <;> first | exact z | exact z.elim | skip
  obtain ⟨rfl, z⟩ := z
  exact wpAny_pure (wpAny_pure z)
end

abbrev excD (C t d : Addr) : Obj := { cls := .ref C, dict := some d, data := .fields #[.ref t, .none, .none, .none, .bool false, .none] }

section
variable {prog : Program} {w : World} {A : Around} {E : Value → Shared → Prop} {s : Shared} {K : Frag} {C C' x t L : Addr} {h₀ : Heap} {m : Str → Option Value} {news : List (Addr × Obj)} {name : Str} {v : Value}

/-- a field's first store on an exception of an own class -/
theorem exc_set {Q : Unit → Shared → Prop} {cd : ClassData} {gl : Obj → List (Addr × Obj)} (F : Fr h₀ L s.heap m) (X₀ : K.In h₀) (N : News h₀ L s.heap news) (U : UpdF x (excO C t) news gl)
    (hs : findIn K (.ref C) "__setattr__" = some (some (.builtin "object.__setattr__"))) (hc : clsIn K C = some cd) (hm : cd.mro = [.ref C, .ref C', .type "Exception", .type "BaseException", .type "object"]) (hd : cd.hasDict = true)
    (hf : findIn K (.ref C) name = some none)
    (h : ∀ d h', Fr h₀ L h' m → News h₀ L h' ((d, dictOf [⟨PyData.keyHash w.params name, .str name (s.toks + 1), v⟩] 1) :: gl (excD C t d)) → (∀ p ∈ news, p.1 < d) → Q () { s with heap := h', toks := s.toks + 2 }) :
    wpAny (model prog w) A (setAttr (.ref x) name v) Q E s := by
  have SF := PySem.F.store_Exception
  obtain ⟨hp, g, dr, tk, os⟩ := s
  dsimp only at F N h ⊢
  have X := X₀.keeps F.keep
  obtain ⟨pre, post, rfl, hg, hp1, hp2⟩ := U.split
  have hx := (N (x, excO C t) (by simp)).1
  have I : InstAt hp x (excO C t) C none := ⟨hx, rfl, rfl, trivial⟩
  refine set_plain X I hs ?_
  have hmro : Looks (model prog w) hp (mroOf (.ref C)) cd.mro := (looks_clsIn X hc).andThen .now
  have sub : Looks (model prog w) hp (isInstance (.ref x) (.type "object")) true := I.type.andThen (looks_mroIn X (by unfold mroIn; rw [hc, Option.bind_some, hm]; rfl))
  refine codeAny_call_builtin SF.slot.plain SF.entry (@check_slot (model prog w) _ _ ⟨hp, g, dr, tk + 1, os⟩ "object.__setattr__" "object" "__setattr__" (.ref x) [.str name tk, v] [] _ SF.kind SF.split sub (SF.args (.ref x) (.str name tk) v) ?_)
  rw [osa_eq, refuse_eq]
  refine wpAny_bind (wpAny_bind (I.type.here (wpAny_bind (hmro.here ?_))))
  rw [hm, refuseLoop_ref, refuseLoop_ref, SF.passes]
  refine wpAny_pure (wpAny_bind (I.type.here (wpAny_bind ((looks_findIn X hf).here (wpAny_bind ((Looks.now (M := model prog w) (h := hp) (a := (none : Option Value))).here ?_))))))
  refine wpAny_bind (wpAny_pure (wpAny_bind (wpAny_bind (wpAny_loadPart hx (wpAny_bind ((looks_clsIn X hc).here ?_))))))
  rw [hd]
  show wpAny _ _ (alloc emptyDict >>= fun d => update x (fun o => { o with dict := some d }) >>= fun _ => pure (some d)) _ _ _
  refine wpAny_bind (wpAny_alloc (wpAny_bind ?_))
  have hx₁ := Heap.get?_push_of_some (h := hp) emptyDict hx
  refine wpAny_update hx₁ (wpAny_pure ?_)
  dsimp only
  have hxs : x < hp.objs.size := Heap.lt_size hx
  have hne : x ≠ hp.objs.size := Nat.ne_of_lt hxs
  have hD : ((hp.push emptyDict).update x fun o => { o with dict := some hp.objs.size }).get? hp.objs.size = some emptyDict := by
    rw [Heap.get?_update_other _ _ hne]; exact Heap.get?_push_size _ rfl
  unfold Builtin.ObjectAttr.storeInDict
  refine wpAny_bind (wpAny_pure (wpAny_bind ?_))
  unfold nsSet
  refine wpAny_bind (wpAny_bind (wpAny_askSetting (wpAny_pure (wpAny_bind (wpAny_mkText (wpAny_bind (wpAny_loadPart hD ?_)))))))
  dsimp only
  rw [if_neg (by rw [aRefKeyMayBeTheName_at]; simp)]
  refine wpAny_updatePart hD ?_
  have hput : Obj.putName name (PyData.keyHash w.params name) (.str name (tk + 1)) v emptyDict = dictOf [⟨PyData.keyHash w.params name, .str name (tk + 1), v⟩] 1 := putName_dict name _ _ v [] 0
  have hD' : (((hp.push emptyDict).update x fun o => { o with dict := some hp.objs.size }).update hp.objs.size (Obj.putName name (PyData.keyHash w.params name) (.str name (tk + 1)) v)).get? hp.objs.size = some (dictOf [⟨PyData.keyHash w.params name, .str name (tk + 1), v⟩] 1) := by
    rw [Heap.get?_update_self _ hD (by rw [hput]; rfl), hput]
  refine wpAny_bind (wpAny_lookBehind hD' (pastItsLine_dict (by rw [List.size_toArray, sizeLine_eq]; simp)) ?_)
  refine wpAny_pure (h _ _ ?_ ?_ fun p hp => Heap.lt_size (N p hp).1)
  · have old : ∀ b, b ≠ x → b < hp.objs.size → (((hp.push emptyDict).update x fun o => { o with dict := some hp.objs.size }).update hp.objs.size (Obj.putName name (PyData.keyHash w.params name) (.str name (tk + 1)) v)).get? b = (hp.push emptyDict).get? b := fun b h1 h2 => by
      rw [Heap.get?_update_other _ _ (Nat.ne_of_gt h2), Heap.get?_update_other _ _ (Ne.symm h1)]
    have xn := N (x, excO C t) (by simp)
    obtain ⟨oL, es, ep, hL, r⟩ := F.ns
    refine ⟨⟨oL, es, ep, (old L (Ne.symm xn.2.1) (Heap.lt_size hL)).trans (Heap.get?_push_of_some _ hL), r⟩, fun b o e => ?_, F.above⟩
    have e' := F.keep b o e
    exact (old b (fun q => by have := xn.2.2; rw [← q, e] at this; cases this) (Heap.lt_size e')).trans (Heap.get?_push_of_some _ e')
  · have old : ∀ b o, b ≠ x → hp.get? b = some o → (((hp.push emptyDict).update x fun o => { o with dict := some hp.objs.size }).update hp.objs.size (Obj.putName name (PyData.keyHash w.params name) (.str name (tk + 1)) v)).get? b = some o := fun b o h1 e => by
      rw [Heap.get?_update_other _ _ (Nat.ne_of_gt (Heap.lt_size e)), Heap.get?_update_other _ _ (Ne.symm h1)]
      exact Heap.get?_push_of_some _ e
    have xn := N (x, excO C t) (by simp)
    have hLs := F.ns.lt
    intro q hq
    rcases List.mem_cons.mp hq with rfl | hq
    · exact ⟨hD', Nat.ne_of_gt hLs, Heap.get?_none_of_le (Nat.le_trans F.above (Nat.le_of_lt hLs))⟩
    rw [hg] at hq
    rcases List.mem_append.mp hq with hq | hq
    · have n := N q (List.mem_append_left _ hq)
      exact ⟨old _ _ (hp1 q hq) n.1, n.2⟩
    · rcases List.mem_cons.mp hq with rfl | hq
      · refine ⟨?_, xn.2⟩
        rw [Heap.get?_update_other _ _ (Ne.symm hne)]
        exact Heap.get?_update_self _ hx₁ rfl
      · have n := N q (List.mem_append_right _ (.tail _ hq))
        exact ⟨old _ _ (hp2 q hq) n.1, n.2⟩
end
end P_X1
section P_X2
theorem dict_mapFields (f : Array Value → Array Value) (o : Obj) : (Obj.mapFields f o).dict = o.dict := by
  obtain ⟨c, d, dt, sl⟩ := o
  cases dt <;> rfl

/-- an exception that flies: its class, its own dict, its traceback with the mark `fl` -/
def TrP (h base : Heap) (e C d : Addr) (fl : Value) : Prop :=
  ∃ oe vs T oT ts, h.get? e = some oe ∧ (oe.cls = .ref C ∧ oe.dict = some d) ∧ oe.data = .fields vs ∧ vs[1]? = some (.ref T) ∧ base.get? T = none ∧ T ≠ e ∧ h.get? T = some oT ∧ oT.data = .fields ts ∧ ts[3]? = some fl

section
variable {M : Model} {A : Around} {E : Value → Shared → Prop} {s : Shared} {base : Heap} {env : Env} {outer : List Env} {L e C d : Addr} {Q : Unit → Shared → Prop}

theorem entryP {oe : Obj} {vs : Array Value} {head : Value} {hadNext : Bool}
    (hfr : A.frames = some (env :: outer)) (hl : s.heap.FunFrames base (env :: outer)) (hf : env.frame = some L)
    (he : s.heap.get? e = some oe) (hcd : oe.cls = .ref C ∧ oe.dict = some d) (hkb : base.StaysIn s.heap) (hen : base.get? e = none) (hd : oe.data = .fields vs) (hsz : 1 < vs.size)
    (h : ∀ h', base.StaysIn h' → h'.FunFrames base (env :: outer) → TrP h' base e C d (rawInt L) → s.heap.UpToSlots h' → Q () { s with heap := h' }) :
    wpAny M A (do let a ← frameOf env; let pl ← entryPlaceOf L hadNext; let b ← EntryCells.newEntry head a .none (rawInt L) .none pl; setField (.ref e) 1 b) Q E s := by
  have hene : e ∉ (env :: outer).filterMap (·.frame) := fun hm => by
    obtain ⟨_, o, ho, hnf⟩ := hl.mem hm
    rw [he] at ho; injection ho with ho; subst ho; exact hnf vs hd
  refine wpAny_bind (wpAny_frameOf_fun hfr hl hf fun h₁ hs₁ => ?_)
  refine wpAny_bind (wpAny_entryPlaceOf fun pl hpl => ?_)
  unfold EntryCells.newEntry newFields
  refine wpAny_bind (wpAny_newObj_type ?_ (hpl.sizeOk5 _ _ _ _ _))
  have he₁ : h₁.get? e = some oe := (hs₁.2.1 e hene).trans he
  have kb₁ : base.StaysIn h₁ := fun b o hbo => (hs₁.2.1 b fun hm => by rw [(hl.mem hm).1] at hbo; cases hbo).trans (hkb b o hbo)
  generalize hT : ({ cls := .type "traceback", dict := none, data := .fields ([head, .ref L, .none, rawInt L, .none] ++ (if pl.isEmpty then List.replicate 6 Value.none else pl)).toArray } : Obj) = oT
  have hTd : oT.data = .fields ([head, .ref L, .none, rawInt L, .none] ++ (if pl.isEmpty then List.replicate 6 Value.none else pl)).toArray := by rw [← hT]
  have hTf : oT.isFreed = false := by rw [← hT]; rfl
  have he₂ := Heap.get?_push_of_some (h := h₁) oT he₁
  refine wpAny_setField he₂ hd hsz (h _ ?_ ?_ ?_ ?_)
  all_goals have hTe : h₁.objs.size ≠ e := Nat.ne_of_gt (Heap.lt_size he₁)
  all_goals have hd₃ := Obj.data_mapFields hd (·.setIfInBounds 1 (Value.ref h₁.objs.size))
  all_goals have he₃ := Heap.get?_update_self (Obj.mapFields (·.setIfInBounds 1 (Value.ref h₁.objs.size))) he₂ (Obj.isFreed_of_fields hd₃)
  all_goals have hT₃ := (Heap.get?_update_other (h₁.push oT) (Obj.mapFields (·.setIfInBounds 1 (Value.ref h₁.objs.size))) (Ne.symm hTe)).trans (Heap.get?_push_size h₁ hTf)
  all_goals have keep : ∀ b o, b ≠ e → h₁.get? b = some o → ((h₁.push oT).update e (Obj.mapFields (·.setIfInBounds 1 (Value.ref h₁.objs.size)))).get? b = some o := (by intro b o hbe hb; rw [Heap.get?_update_other _ _ (Ne.symm hbe)]; exact Heap.get?_push_of_some _ hb)
  all_goals have noRecord : ∀ b o, s.heap.get? b = some o → (∀ vs, o.data ≠ .fields vs) → b ≠ e := (by intro b o hb hnf q; rw [q, he] at hb; injection hb with hb; subst hb; exact hnf vs hd)
  · exact fun b o hbo => keep b o (fun q => by rw [q, hen] at hbo; cases hbo) (kb₁ b o hbo)
  · refine hl.of_keeps fun b o hb hnf => ?_
    obtain ⟨sl, hs⟩ := hs₁.2.2 b o hb
    exact ⟨_, keep b _ (noRecord b o hb hnf) hs, rfl⟩
  · refine ⟨_, _, h₁.objs.size, _, _, he₃, ⟨(Obj.cls_mapFields _ _).trans hcd.1, (dict_mapFields _ _).trans hcd.2⟩, hd₃, by simp [hsz], kb₁.fresh, hTe, hT₃, hTd, ?_⟩
    simp
  · intro b o hb hnf
    obtain ⟨sl, hs⟩ := hs₁.2.2 b o hb
    exact ⟨sl, keep b _ (noRecord b o hb hnf) hs⟩

theorem flightP {l : List Env} {fl : Value} (hkb : base.StaysIn s.heap) (hl : s.heap.FunFrames base l) (ht : TrP s.heap base e C d fl)
    (h : ∀ h', base.StaysIn h' → h'.FunFrames base l → TrP h' base e C d .none → s.heap.UpToSlots h' → Q () { s with heap := h' }) :
    wpAny M A (setFlight (.ref e) none) Q E s := by
  obtain ⟨oe, vs, T, oT, ts, he, hcls, hd, h1, hnT, hTe, hT, hdT, h3⟩ := ht
  have hsz3 : 3 < ts.size := (Array.getElem?_eq_some_iff.mp h3).1
  have other : ∀ b, b ≠ T → (s.heap.update T (Obj.mapFields (·.setIfInBounds 3 ((none : Option Addr).elim Value.none fun f => rawInt f)))).get? b = s.heap.get? b :=
    fun b hb => Heap.get?_update_other _ _ (Ne.symm hb)
  have noRecord : ∀ b o, s.heap.get? b = some o → (∀ vs, o.data ≠ .fields vs) → b ≠ T := fun b o hb hnf q => by
    rw [q, hT] at hb; injection hb with hb; subst hb; exact hnf ts hdT
  unfold setFlight
  refine wpAny_bind (wpAny_field he hd h1 ?_)
  rw [if_pos (show (Value.ref T != Value.none) = true from by simp)]
  refine wpAny_setField hT hdT hsz3 (h _ (fun b o hbo => (other b fun q => by rw [q, hnT] at hbo; cases hbo).trans (hkb b o hbo))
    (hl.of_keeps fun b o hb hnf => ⟨o, (other b (noRecord b o hb hnf)).trans hb, rfl⟩) ?_ fun b o hb hnf => ⟨o.slots, (other b (noRecord b o hb hnf)).trans hb⟩)
  exact ⟨oe, vs, T, _, _, (other e (Ne.symm hTe)).trans he, hcls, hd, h1, hnT, hTe, Heap.get?_update_self _ hT (Obj.isFreed_of_fields (Obj.data_mapFields hdT _)), Obj.data_mapFields hdT _, by simp [hsz3]⟩

/-- the first frame takes note of it -/
theorem note_firstP {oe : Obj} {vs : Array Value} (hfr : A.frames = some (env :: outer)) (hl : s.heap.FunFrames base (env :: outer)) (hf : env.frame = some L)
    (he : s.heap.get? e = some oe) (hcd : oe.cls = .ref C ∧ oe.dict = some d) (hkb : base.StaysIn s.heap) (hen : base.get? e = none) (hd : oe.data = .fields vs) (h1 : vs[1]? = some .none)
    (h : ∀ h', base.StaysIn h' → h'.FunFrames base (env :: outer) → TrP h' base e C d (rawInt L) → s.heap.UpToSlots h' → Q () { s with heap := h' }) :
    wpAny M A (noteFrame (.ref e) env) Q E s := by
  unfold noteFrame
  simp only [hf]
  refine wpAny_bind (wpAny_field he hd h1 ?_)
  rw [if_neg (by decide)]
  exact entryP hfr hl hf he hcd hkb hen hd (Array.getElem?_eq_some_iff.mp h1).1 h

/-- a further frame takes note of it -/
theorem note_nextP (hfr : A.frames = some (env :: outer)) (hl : s.heap.FunFrames base (env :: outer)) (hf : env.frame = some L) (ht : TrP s.heap base e C d .none) (hkb : base.StaysIn s.heap) (hen : base.get? e = none)
    (h : ∀ h', base.StaysIn h' → h'.FunFrames base (env :: outer) → TrP h' base e C d (rawInt L) → s.heap.UpToSlots h' → Q () { s with heap := h' }) :
    wpAny M A (noteFrame (.ref e) env) Q E s := by
  obtain ⟨oe, vs, T, oT, ts, he, hcd, hd, h1, hnT, hTe, hT, hdT, h3⟩ := ht
  unfold noteFrame
  simp only [hf]
  refine wpAny_bind (wpAny_field he hd h1 ?_)
  rw [if_pos (show (Value.ref T != Value.none) = true from by simp)]
  refine wpAny_bind (wpAny_field hT hdT h3 ?_)
  rw [if_neg (show ¬ ((Value.none == rawInt L) = true) from by simp [rawInt])]
  refine wpAny_bind (wpAny_setField hT hdT (Array.getElem?_eq_some_iff.mp h3).1 ?_)
  have other : ∀ b, b ≠ T → (s.heap.update T (Obj.mapFields (·.setIfInBounds 3 Value.none))).get? b = s.heap.get? b := fun b hb => Heap.get?_update_other _ _ (Ne.symm hb)
  have noRecord : ∀ b o, s.heap.get? b = some o → (∀ vs, o.data ≠ .fields vs) → b ≠ T := fun b o hb hnf q => by
    rw [q, hT] at hb; injection hb with hb; subst hb; exact hnf ts hdT
  refine entryP hfr (hl.of_keeps fun b o hb hnf => ⟨o, (other b (noRecord b o hb hnf)).trans hb, rfl⟩) hf ((other e (Ne.symm hTe)).trans he) hcd
    (fun b o hbo => (other b fun q => by rw [q, hnT] at hbo; cases hbo).trans (hkb b o hbo)) hen hd (Array.getElem?_eq_some_iff.mp h1).1
    fun h' x1 x2 x3 x4 => h h' x1 x2 x3 fun b o hb hnf => x4 b o ((other b (noRecord b o hb hnf)).trans hb) hnf


/-- what flies, and the frames above which it flies -/
def FlyP (B : Heap) (l : List Env) (e C d : Addr) (h : Heap) : Prop := B.StaysIn h ∧ B.get? e = none ∧ h.FunFrames B l ∧ TrP h B e C d .none

theorem leave_firstP {oe : Obj} {vs : Array Value} (hfr : A.frames = some (env :: outer)) (hl : s.heap.FunFrames base (env :: outer)) (hf : env.frame = some L)
    (he : s.heap.get? e = some oe) (hcd : oe.cls = .ref C ∧ oe.dict = some d) (hkb : base.StaysIn s.heap) (hen : base.get? e = none) (hd : oe.data = .fields vs) (h1 : vs[1]? = some .none)
    (h : ∀ h', FlyP base outer e C d h' → s.heap.UpToSlots h' → Q () { s with heap := h' }) : wpAny M A (leaving env (.ref e)) Q E s := by
  unfold leaving
  refine wpAny_bind (note_firstP hfr hl hf he hcd hkb hen hd h1 fun h₁ a1 a2 a3 a4 => ?_)
  refine flightP (s := { s with heap := h₁ }) a1 a2 a3 fun h₂ b1 b2 b3 b4 => ?_
  obtain ⟨_, _, b2⟩ := b2
  exact h h₂ ⟨b1, hen, b2, b3⟩ (a4.trans b4)

theorem leave_nextP (hfr : A.frames = some (env :: outer)) (hf : env.frame = some L) (hfl : FlyP base (env :: outer) e C d s.heap)
    (h : ∀ h', FlyP base outer e C d h' → s.heap.UpToSlots h' → Q () { s with heap := h' }) : wpAny M A (leaving env (.ref e)) Q E s := by
  obtain ⟨f1, f2, f3, f4⟩ := hfl
  unfold leaving
  refine wpAny_bind (note_nextP hfr f3 hf f4 f1 f2 fun h₁ a1 a2 a3 a4 => ?_)
  refine flightP (s := { s with heap := h₁ }) a1 a2 a3 fun h₂ b1 b2 b3 b4 => ?_
  obtain ⟨_, _, b2⟩ := b2
  exact h h₂ ⟨b1, f2, b2, b3⟩ (a4.trans b4)
end
end P_X2
section P_X3
def RaisedP (base G : Heap) (l : List Env) (e C d : Addr) (news : List (Addr × Obj)) (h : Heap) : Prop :=
  ∃ B, base.StaysIn B ∧ (∀ b o, G.get? b = some o → b ∉ l.filterMap (·.frame) → B.get? b = some o) ∧ (∀ q ∈ news, B.get? q.1 = some q.2 ∧ G.get? q.1 = none ∧ base.get? q.1 = none) ∧ FlyP B l e C d h

theorem memX {env : Env} {L b : Addr} {outer : List Env} (hf : env.frame = some L) (hm : b ∈ (env :: outer).filterMap (·.frame)) : b = L ∨ b ∈ outer.filterMap (·.frame) := by
  obtain ⟨env', he, hf'⟩ := List.mem_filterMap.mp hm
  rcases List.mem_cons.mp he with rfl | he
  · rw [hf] at hf'; exact .inl (Option.some.inj hf').symm
  · exact .inr (List.mem_filterMap.mpr ⟨env', he, hf'⟩)

section
variable {M : Model} {A : Around} {E : Value → Shared → Prop} {s' : Shared} {base g g₂ : Heap} {env : Env} {outer : List Env} {L e C d : Addr} {m : Str → Option Value} {Q : Unit → Shared → Prop} {news : List (Addr × Obj)}

theorem leave_raiseP {oe : Obj} {vs : Array Value} (K : Below A base outer g) (F : Fr g L s'.heap m) (N : News g L s'.heap ((e, oe) :: news)) (hne : ∀ p ∈ news, p.1 ≠ e) (hcd : oe.cls = .ref C ∧ oe.dict = some d) (hd : oe.data = .fields vs) (h1 : vs[1]? = some .none)
    (hf : env.frame = some L) (hk : env.scope.kind = .function)
    (hQ : ∀ h', RaisedP base g outer e C d news h' → g.UpToSlots h' → Q () { s' with heap := h' }) :
    wpAny M (A.deeper env) (leaving env (.ref e)) Q E s' := by
  have K' := pushX K F hf hk
  have Ne := N (e, oe) (.head _)
  have hin : ∀ env' ∈ (env :: outer), ∀ b, env'.frame = some b → b ∈ e :: (env :: outer).filterMap (·.frame) := fun env' he b hb => .tail _ (List.mem_filterMap.mpr ⟨env', he, hb⟩)
  have nomem : ∀ b o, g.get? b = some o → b ∉ outer.filterMap (·.frame) → b ∉ e :: (env :: outer).filterMap (·.frame) := fun b o q nm hm => by
    rcases List.mem_cons.mp hm with z | hm
    · have := Ne.2.2; rw [← z, q] at this; cases this
    · rcases memX hf hm with z | z
      · rw [z, kts_self F] at q; cases q
      · exact nm z
  have sg : ∀ b o, g.get? b = some o → b ∉ outer.filterMap (·.frame) → (hideAll s'.heap (e :: (env :: outer).filterMap (·.frame))).get? b = some o :=
    fun b o q nm => hideAll_get _ (F.keep b o q) (nomem b o q nm)
  have st : base.StaysIn (hideAll s'.heap (e :: (env :: outer).filterMap (·.frame))) := fun b o q => sg b o (K.stays b o q) fun hm => by
    rw [(K.frames.mem hm).1] at q; cases q
  have hl : ∀ q ∈ news, (hideAll s'.heap (e :: (env :: outer).filterMap (·.frame))).get? q.1 = some q.2 ∧ g.get? q.1 = none ∧ base.get? q.1 = none := fun q hq => by
    have n := N q (.tail _ hq)
    refine ⟨hideAll_get _ n.1 fun hm => ?_, n.2.2, fresh_of_stays K.stays n.2.2⟩
    rcases List.mem_cons.mp hm with z | hm
    · exact hne q hq z
    · rcases memX hf hm with z | z
      · exact n.2.1 z
      · obtain ⟨o, ho, _⟩ := (K.frames.mem z).2
        rw [n.2.2] at ho; cases ho
  refine leave_firstP (base := hideAll s'.heap (e :: (env :: outer).filterMap (·.frame))) K'.stack (funFrames_hide K'.frames hin) hf Ne.1 hcd (fun b o q => of_hideAll _ q) (hideAll_none _ (.head _)) hd h1 fun h' x1 x2 => ?_
  exact hQ h' ⟨_, st, sg, hl, x1⟩ ((Heap.UpToSlots.of_keeps F.keep).trans x2)

theorem leave_onP (F : Fr g L g₂ m) (hA : A.frames = some outer) (R : RaisedP base g₂ (env :: outer) e C d news s'.heap) (hsm : g₂.UpToSlots s'.heap)
    (hf : env.frame = some L)
    (hQ : ∀ h', RaisedP base g outer e C d news h' → g.UpToSlots h' → Q () { s' with heap := h' }) :
    wpAny M (A.deeper env) (leaving env (.ref e)) Q E s' := by
  obtain ⟨B, hB, hBG, hl, hfl⟩ := R
  refine leave_nextP (Around.frames_deeper hA) hf hfl fun h' x1 x2 => ?_
  exact hQ h' ⟨B, hB, fun b o q nm => hBG b o (F.keep b o q) (fun hm => by
      rcases memX hf hm with z | z
      · rw [z, kts_self F] at q; cases q
      · exact nm z), fun q hq => ⟨(hl q hq).1, kts_none F.keep (hl q hq).2.1, (hl q hq).2.2⟩, x1⟩ ((Heap.UpToSlots.of_keeps F.keep).trans (hsm.trans x2))
end

section
variable {prog : Program} {w : World} {A₀ : Around} {E : Value → Shared → Prop} {s' : Shared} {base g G : Heap} {outer : List Env} {L a e C d : Addr} {m : Str → Option Value} {name : Str} {scope : Scope} {cd : Value}
  {n : Str} {b₀ : Stmt} {suite : List Stmt} {pos np : Pos} {rest : List ExceptHandler} {Q : Flow → Shared → Prop} {news : List (Addr × Obj)} {KF : Frag}
  {p : Program} {loose : List Str} {mean : ExcName → Option Value} {mg mb : Str → Option Value} {x : Str}

theorem caughtP (R : RaisedP base G (envOf name scope L a cd :: outer) e C d news s'.heap) (F : Fr g L G m) (K : Below A₀ base outer g) (hsm : G.UpToSlots s'.heap) (XB : KF.In base) (TB : Top p loose mean mg mb base)
    (ex : nsIn KF mainGlobals x = some (some (.ref C))) (q : ktsIn KF C "BaseException" = true)
    (k : ∀ h' g' oe vs tk, KtsTurn (outer.filterMap (·.frame)) g g' → Fr g' L h' (fun y => if y = n then some (.ref e) else m y) → News g' L h' ((e, oe) :: news) → oe.cls = .ref C ∧ oe.dict = some d → oe.data = .fields vs → Below A₀ base outer g' → KF.In g' → Top p loose mean mg mb g' →
      wpAny (model prog w) ((A₀.deeper (envOf name scope L a cd)).mark (some (.ref e))) (execs (b₀ :: suite) (envOf name scope L a cd))
        (fun f s₄ => wpAny (model prog w) (A₀.deeper (envOf name scope L a cd)) (do bindName (envOf name scope L a cd) n .none; unbindBehindTheSuite (envOf name scope L a cd) n pos) (fun _ s₅ => Q f s₅) E s₄)
        (AsSuiteRaised (model prog w) ((A₀.deeper (envOf name scope L a cd)).mark (some (.ref e))) (envOf name scope L a cd) n pos (notedBy (model prog w) ((A₀.deeper (envOf name scope L a cd)).mark (some (.ref e))) (envOf name scope L a cd) (cameBackBy (model prog w) (A₀.deeper (envOf name scope L a cd)) (envOf name scope L a cd) E)))
        { s' with heap := h', toks := tk })
    (hk : scope.kind = .function := by rfl) (hlo : (envOf name scope L a cd).kindOf n = some .local := by rfl) (hx : (envOf name scope L a cd).kindOf x = some .globalImplicit := by rfl) (hd : (x == ("__debug__" : Str)) = false := by decide) :
    wpAny (model prog w) (A₀.deeper (envOf name scope L a cd)) (noteFrame (.ref e) (envOf name scope L a cd))
      (fun _ s₂ => wpAny (model prog w) (A₀.deeper (envOf name scope L a cd)) (setFlight (.ref e) none) (fun _ s₃ =>
        wpAny (model prog w) (A₀.deeper (envOf name scope L a cd)) (handleBy (.ref e) (envOf name scope L a cd) (.ExceptHandler (some (.Name x np)) (some n) (b₀ :: suite) pos :: rest)) Q E s₃) E s₂) E s' := by
  obtain ⟨B, hB, hBG, hl, hfl⟩ := R
  have hL : B.get? L = none := by
    obtain ⟨_, ⟨L', _, hf, hn', _⟩, _⟩ := hfl.2.2.1
    obtain rfl : L = L' := Option.some.inj hf
    exact hn'
  obtain ⟨f1, f2, f3, f4⟩ := hfl
  refine note_nextP (Around.frames_deeper K.stack) f3 rfl f4 f1 f2 fun h₄ a1 a2 a3 a4 => ?_
  refine flightP (s := { s' with heap := h₄ }) a1 a2 a3 fun h₅ b1 b2 b3 b4 => ?_
  have hsm₅ := a4.trans b4
  obtain ⟨g₅, T₅, F₅, K₅⟩ := kts_ground K F hBG b1 (hsm.trans hsm₅)
  have X₅ : KF.In g₅ := XB.keeps K₅.stays
  have P₅ : TopRead p loose mg mb g₅ := topRead_of (TB.keeps K₅.stays)
  obtain ⟨ob, _, _, _, _, hob, hobc, _⟩ := id b3
  obtain ⟨nm, q', N, bs, bm, hdct, sn, sub, ab, col, dd, k0, k1, k2, k3, k5, newId, hC, hbase, hbT⟩ := kts_cls X₅ q
  have hC₅ := F₅.keep _ _ hC
  refine wpAny_handleBy_cons (codeAny_handlers_test (name_K F₅ X₅ P₅ ex ?_ hk hx hd)) (by intro q; cases q)
  refine wpAny_excMatches_sub_self hC₅ hob hobc.1 hbase (codeAny_handlers_suite_as ?_)
  refine flightP (l := envOf name scope L a cd :: outer) b1 b2 b3 fun h₆ c1 c2 c3 c4 => ?_
  obtain ⟨g₆, T₆, F₆, K₆⟩ := kts_ground K F hBG c1 ((hsm.trans hsm₅).trans c4)
  obtain ⟨oe, ws, _, _, _, hoe, hoec, hoed, _⟩ := c3
  have ne₆ : g₆.get? e = none := T₆.none_ _ (kts_fresh F hBG f2 fun o ho m => by
    obtain ⟨_, o', ho', hd⟩ := K.frames.mem m
    rw [ho] at ho'
    cases ho'
    obtain ⟨sl, hs⟩ := ((hsm.trans hsm₅).trans c4) _ _ (F.keep _ _ ho) hd
    rw [hoe] at hs
    cases hs
    exact hd _ hoed)
  have N₆ := News.more F₆ News.nil hoe (fun es n q => by rw [hoed] at q; cases q) ne₆
  have Nl : News g₆ L h₆ news := fun q hq => ⟨c1 _ _ (hl q hq).1, (fun z => by have := (hl q hq).1; rw [z, hL] at this; cases this), T₆.none_ _ (kts_none F.keep (hl q hq).2.1)⟩
  have X₆ : KF.In g₆ := XB.keeps K₆.stays
  have P₆ : Top p loose mean mg mb g₆ := TB.keeps K₆.stays
  refine stN F₆ (news := (e, oe) :: news) (fun q hq => (List.mem_cons.mp hq).elim (fun z => N₆ q (z ▸ .head _)) (Nl q)) (fun h₇ F₇ N₇ => ?_) hk hlo
  exact k h₇ g₆ oe ws _ T₆ F₇ N₇ hoec hoed K₆ X₆ P₆
end
end P_X3
section P_X4
/-- the way back out of a frame whose ground was turned (its outer frames' slots alone) -/
def LeaveT (fs : List Addr) (A₀ : Around) (base : Heap) (outer : List Env) (h₀ : Heap) (L : Addr) (m : Str → Option Value) (g : Heap) (R : Result → Shared → Prop) (v : Value) (s' : Shared) : Prop :=
  ∃ g' L' m' news', KtsTurn fs g g' ∧ Fr g' L' s'.heap m' ∧ News g' L' s'.heap news' ∧
    ∀ h₀', KtsTurn (outer.filterMap (·.frame)) h₀ h₀' → Fr h₀' L s'.heap m → News h₀' L s'.heap news' → Below A₀ base outer h₀' → R (.ok (.ret v)) s'

theorem leaveT_ {fs : List Addr} {A₀ : Around} {base : Heap} {outer : List Env} {h₀ g g' : Heap} {L L' : Addr} {m m' : Str → Option Value} {news' : List (Addr × Obj)} {R : Result → Shared → Prop} {v : Value} {s' : Shared}
    (F' : Fr g' L' s'.heap m') (N' : News g' L' s'.heap news') (T : KtsTurn fs g g')
    (k : ∀ h₀', KtsTurn (outer.filterMap (·.frame)) h₀ h₀' → Fr h₀' L s'.heap m → News h₀' L s'.heap news' → Below A₀ base outer h₀' → R (.ok (.ret v)) s') : LeaveT fs A₀ base outer h₀ L m g R v s' := ⟨g', L', m', news', T, F', N', k⟩

/-- where there is no outer frame, a turned ground is the ground itself -/
theorem unturn {h₀ h₀' h : Heap} {L : Addr} {m : Str → Option Value} {news : List (Addr × Obj)} (T : KtsTurn [] h₀ h₀') (F : Fr h₀' L h m) (N : News h₀' L h news) : Fr h₀ L h m ∧ News h₀ L h news :=
  ⟨⟨F.ns, fun b o e => F.keep b o (T.other b o e (fun q => nomatch q)), by rw [← T.size]; exact F.above⟩, fun p hp => ⟨(N p hp).1, (N p hp).2.1, by
    cases q : h₀.get? p.1 with
    | none => rfl
    | some o => have := (N p hp).2.2; rw [T.other _ _ q (fun q => nomatch q)] at this; cases this⟩⟩

section
variable {prog : Program} {w : World} {A₀ A : Around} {s : Shared} {base h₀ : Heap} {outer : List Env} {L : Addr} {m : Str → Option Value} {env : Env} {news : List (Addr × Obj)} {K : Frag}
  {R : Result → Shared → Prop} {name qual : Str} {params : Arguments} {body : List Stmt} {scope : Scope} {dV kV doc pm cdv ct oc : Value} {an od : Option Addr} {osl : Array (Option Value)} {f : Addr} {args : Args} {binds : List (Str × Value)}
  {p : Program} {loose : List Str} {mean : ExcName → Option Value} {mg mb : Str → Option Value}

theorem groundT (B : Below A₀ base outer h₀) (F : Fr h₀ L s.heap m) (N : News h₀ L s.heap news) (hA : A.frames = some (env :: outer)) (hf : env.frame = some L) (hke : env.scope.kind = .function) :
    Fr h₀ L (hideAll s.heap (news.map (·.1))) m ∧ Below A base (env :: outer) (hideAll s.heap (news.map (·.1))) ∧ h₀.StaysIn (hideAll s.heap (news.map (·.1))) ∧
      ∀ v s', LeaveT ((env :: outer).filterMap (·.frame)) A₀ base outer h₀ L m (hideAll s.heap (news.map (·.1))) R v s' → R (.ok (.ret v)) s' := by
  obtain ⟨FG, BG, st, _⟩ := groundX (R := R) B F N hA hf hke
  refine ⟨FG, BG, st, fun v s' hl => ?_⟩
  obtain ⟨g', L', m', news', T', F', N', k⟩ := hl
  obtain ⟨oL, es, ep, hLg, hLd, hLk, hLf⟩ := FG.ns
  have nL₀ : h₀.get? L = none := kts_self F
  obtain ⟨sl, hs⟩ := T'.up hLg
  obtain ⟨T₁, S₁⟩ := kts_turn_at (h := s'.heap) (fs := outer.filterMap (·.frame)) (g := h₀)
    (fun b hb => by
      obtain ⟨_, o, ho', _⟩ := B.frames.mem hb
      exact ⟨o, ho'⟩)
    (fun b o e nmem => F'.keep b o (T'.other b o (st b o e) (fun q => by
      rcases memX hf q with z | z
      · rw [z, nL₀] at e; cases e
      · exact nmem z)))
    (fun b o e _ => by
      obtain ⟨sl', hs'⟩ := T'.up (st b o e)
      exact ⟨sl', F'.keep _ _ hs'⟩)
  refine k _ T₁ ⟨⟨_, es, ep, F'.keep _ _ hs, hLd, hLk, hLf⟩, S₁, by rw [T₁.size]; exact F.above⟩ (fun q hq => ⟨(N' q hq).1, fun z => ?_, ?_⟩) ⟨B.stack, fun b o e => T₁.other b o (B.stays b o e) (fun hm => by
    rw [(B.frames.mem hm).1] at e; cases e), B.frames.of_keeps fun b o e _ => ?_⟩
  · have := (N' q hq).2.2; rw [z, hs] at this; cases this
  · cases z : (ktsHeap s'.heap (outer.filterMap (·.frame)) h₀).get? q.1 with
    | none => rfl
    | some o =>
      cases y : h₀.get? q.1 with
      | none => rw [T₁.none_ _ y] at z; cases z
      | some o₁ =>
        obtain ⟨sl', hs'⟩ := T'.up (st _ _ y)
        have := (N' q hq).2.2
        rw [hs'] at this; cases this
  · obtain ⟨sl', hs'⟩ := T₁.up e
    exact ⟨_, hs', rfl⟩

theorem code_defT (B : Below A₀ base outer h₀) (F : Fr h₀ L s.heap m) (X₀ : K.In h₀) (N : News h₀ L s.heap news) (T : Top p loose mean mg mb h₀) (hA : A.frames = some (env :: outer)) (hf : env.frame = some L) (hke : env.scope.kind = .function)
    (ho : K.lookup f = some ⟨oc, od, .func (fnOf name qual params body scope dV kV doc pm an cdv ct), osl⟩) (hcd : codeIn K cdv qual = true) (hroom : A.depth < recursionLimit)
    (hbind : BindsTo s (fnOf name qual params body scope dV kV doc pm an cdv ct) args binds) (hloc : ∀ y ∈ binds, scope.names.lookup y.1 = some .local)
    (h : ∀ g L' h₁, Fr h₀ L g m → Fr g L' h₁ (fun y => binds.reverse.lookup y) → News g L' h₁ news → Below A base (env :: outer) g → K.In g → Top p loose mean mg mb g →
      wpAny (model prog w) (A.deeper (envOf qual scope L' f cdv)) (execs body (envOf qual scope L' f cdv))
        (fun fl s' => LeaveT ((env :: outer).filterMap (·.frame)) A₀ base outer h₀ L m g R (match fl with | .ret v => v | _ => .none) s')
        (fun e s' => wpAny (model prog w) (A.deeper (envOf qual scope L' f cdv)) (leaving (envOf qual scope L' f cdv) e) (fun _ s'' => R (.error e) s'') (fun e' s'' => R (.error e') s'') s')
        { s with heap := h₁, toks := s.toks + binds.length })
    (hco : scope.isCoroutine = false) (hgen : scope.isGenerator = false) (hk : scope.kind = .function)
    (hcell : ∀ x ∈ scope.names, x.2 ≠ .cell) : codeAny (model prog w) A (.call (.ref f) args) R s := by
  have X := X₀.keeps F.keep
  obtain ⟨FG, BG, st, lv⟩ := groundT (R := R) B F N hA hf hke
  refine codeAny_call_def (fd := fnOf name qual params body scope dV kV doc pm an cdv ct) (body := body) (binds := binds) hroom (X _ _ ho) rfl (T.nolimit.keeps F.keep) (codeRec_of X hcd) rfl hbind hcell hloc (fun h₁ hns hk₁ => ?_) hco hgen hk
  exact wpAny_mono (h _ s.heap.objs.size h₁ FG ⟨hns, fun b o e => hk₁ b o (of_hideAll _ e), Nat.le_of_eq (hideAll_size _ _)⟩
    (fun p hp => ⟨hk₁ _ _ (N p hp).1, Nat.ne_of_lt (Heap.lt_size (N p hp).1), hideAll_none _ (List.mem_map_of_mem hp)⟩) BG (X₀.keeps st) (T.keeps st)) (fun fl s' hl => lv _ _ hl) fun _ _ y => y

theorem code_defCT (B : Below A₀ base outer h₀) (F : Fr h₀ L s.heap m) (X₀ : K.In h₀) (N : News h₀ L s.heap news) (T : Top p loose mean mg mb h₀) (hA : A.frames = some (env :: outer)) (hf : env.frame = some L) (hke : env.scope.kind = .function)
    (ho : K.lookup f = some ⟨oc, od, .func (fnOf name qual params body scope dV kV doc pm an cdv ct), osl⟩) (hcd : codeIn K cdv qual = true) (hroom : A.depth < recursionLimit)
    (hbind : BindsTo s (fnOf name qual params body scope dV kV doc pm an cdv ct) args binds) (hkind : (binds.all fun y => scope.names.lookup y.1 == some .local || scope.names.lookup y.1 == some .cell) = true)
    (hnd : ((cellsFrom 0 scope.names []).map (·.1)).Nodup)
    (h : ∀ g L' h₁ tk cells, Fr h₀ L g m → Fr g L' h₁ (bindL (envOfC qual scope L' f cdv).kindOf binds fun _ => none) → News g L' h₁ (cells ++ news) →
      CellsAre (bindC (envOfC qual scope L' f cdv).kindOf binds fun _ => none) (cellsFrom (L' + 1) scope.names []) cells → Below A base (env :: outer) g → K.In g → Top p loose mean mg mb g → (∀ p ∈ news, p.1 < L') →
      wpAny (model prog w) (A.deeper (envOfC qual scope L' f cdv)) (execs body (envOfC qual scope L' f cdv))
        (fun fl s' => LeaveT ((env :: outer).filterMap (·.frame)) A₀ base outer h₀ L m g R (match fl with | .ret v => v | _ => .none) s')
        (fun e s' => wpAny (model prog w) (A.deeper (envOfC qual scope L' f cdv)) (leaving (envOfC qual scope L' f cdv) e) (fun _ s'' => R (.error e) s'') (fun e' s'' => R (.error e') s'') s')
        { s with heap := h₁, toks := tk })
    (hco : scope.isCoroutine = false) (hgen : scope.isGenerator = false) (hk : scope.kind = .function) : codeAny (model prog w) A (.call (.ref f) args) R s := by
  have X := X₀.keeps F.keep
  obtain ⟨FG, BG, st, lv⟩ := groundT (R := R) B F N hA hf hke
  refine codeAny_call_function hroom (X _ _ ho) rfl hco hgen rfl (codeRec_of X hcd) (hbind _ _ _ _ ?_)
  refine wpAny_newFunctionEnv_cells hk (kindsX hkind _) fun env' he s' x => ?_
  subst he
  refine ⟨(T.nolimit.keeps F.keep).keeps x.toInCall.keep, codeAny_func ?_⟩
  obtain ⟨h₁, tk, rfl, _⟩ := x.done
  have hk₁ := x.toInCall.keep
  obtain ⟨cells, NC, Y⟩ := Cl.news (h₀ := s.heap) (Nat.le_refl _) fun n c hm => ⟨x.cell n c (lookup_of_mem_nodup (cellsFrom_names scope.names 0 (s.heap.objs.size + 1) [] [] rfl ▸ hnd) hm), x.above n c hm⟩
  refine wpAny_mono (h _ s.heap.objs.size h₁ tk cells FG ⟨x.toInCall.ns, fun b o e => hk₁ b o (of_hideAll _ e), Nat.le_of_eq (hideAll_size _ _)⟩ (fun p hp => ?_) Y BG (X₀.keeps st) (T.keeps st) (fun p hp => Heap.lt_size (N p hp).1)) (fun fl s' hl => lv _ _ hl) fun _ _ y => y
  rcases List.mem_append.mp hp with hp | hp
  · refine ⟨(NC p hp).1, (NC p hp).2.1, ?_⟩
    cases q : (hideAll s.heap (news.map (·.1))).get? p.1 with
    | none => rfl
    | some o => have := of_hideAll _ q; rw [(NC p hp).2.2] at this; cases this
  · exact ⟨hk₁ _ _ (N p hp).1, Nat.ne_of_lt (Heap.lt_size (N p hp).1), hideAll_none _ (List.mem_map_of_mem hp)⟩
end
end P_X4
section P_X5
section
variable {prog : Program} {w : World} {A : Around} {E : Value → Shared → Prop} {s : Shared} {K : Frag} {x C : Addr} {ox : Obj} {od : Option Obj} {name : Str} {expr : Bool} {Q : Value → Shared → Prop} {v : Value}

theorem exc_get (X : K.In s.heap) (I : InstAt s.heap x ox C od) (hga : findIn K (.ref C) "__getattribute__" = some (some (.builtin "BaseException.__getattribute__"))) (hgt : findIn K (.ref C) "__getattr__" = some none)
    (hm : mroIn K C (.type "BaseException") = some true) (hf : findObj K C od name = some (.value v)) (hh : handedIn v = true) (h : Q v { s with toks := s.toks + 1 }) : wpAny (model prog w) A (getAttr (.ref x) name expr) Q E s := by
  obtain ⟨hp, g, d, t, os⟩ := s
  have L0 := I.type (M := model prog w)
  have L1 := looks_findIn (M := model prog w) X hga
  have L2 := looks_findIn (M := model prog w) X hgt
  have L3 := looks_find (M := model prog w) X I hf
  have L4 : Looks (model prog w) hp (isInstance (.ref x) (.type "BaseException")) true := L0.andThen (looks_mroIn X hm)
  have hk : builtinKind "BaseException.__getattribute__" = some .slot := by decide +kernel
  have hsplit : splitId "BaseException.__getattribute__" = some ("BaseException", "__getattribute__") := by decide +kernel
  have hplain : plainId "BaseException.__getattribute__" = true := by decide +kernel
  unfold getAttr getAttrBy
  refine wpAny_bind (wpAny_mkText (wpAny_holding (wpAny_bind (L0.at (wpAny_bind (L1.at ?_))))))
  show wpAny _ _ (if (onTheHeap (Value.ref C) && Value.builtin "BaseException.__getattribute__" == Value.builtin "object.__getattribute__") = true then _ else _) _ _ _
  have hx2 : (Value.builtin "BaseException.__getattribute__" == Value.builtin "object.__getattribute__") = false := by decide +kernel
  rw [hx2, Bool.and_false, if_neg (by decide)]
  unfold getAttrByItsOwn hookBefore
  refine wpAny_bind ?_
  show wpAny _ _ (typeLookup (Value.ref C) (Str.ofString "__getattr__")) _ _ _
  refine L2.at ?_
  refine wpAny_bind (wpAny_attempt (wpAny_holding ?_))
  unfold callGetattribute
  have hx0 : (expr && onTheHeap (Value.builtin "BaseException.__getattribute__")) = false := by cases expr <;> rfl
  rw [hx0, if_neg (by decide)]
  unfold boundAndCalled
  have hb : bindSpecial (.builtin "BaseException.__getattribute__") (.ref x) = pure (.builtin "BaseException.__getattribute__", [.ref x]) := by
    have hop : withoutEnding? "BaseException.__getattribute__" "#opaque" = none := by decide +kernel
    have hdat : withoutEnding? "BaseException.__getattribute__" "#data" = none := by decide +kernel
    simp only [bindSpecial, typeOf, builtinType, hop, hdat, hk]; rfl
  rw [hb]
  refine wpAny_bind (wpAny_pure (wpAny_call ?_))
  refine codeAny_call_builtin hplain F.entry_bexc_ga (@check_slot (model prog w) _ _ ⟨hp, g, d, t + 1, os⟩ "BaseException.__getattribute__" "BaseException" "__getattribute__" (.ref x) [.str name t] [] _ hk hsplit L4 (F.args_bexc_ga (.ref x) (.str name t)) ?_)
  unfold Builtin.«object.__getattribute__»
  refine wpAny_bind (wpAny_pure (wpAny_bind (wpAny_pure (wpAny_bind (L0.at (wpAny_bind (L3.at ?_)))))))
  refine wpAny_pure ?_
  show wpAny _ _ (handedOut v) _ _ _
  rw [handedOut_of hh]; exact wpAny_pure h
end
end P_X5
section P_X6
/-- what a raise may be handed: an exception of an own class, just made -/
def RaisableP (K : Frag) (C : Addr) (E : Value → Shared → Prop) (v : Value) (s₁ : Shared) : Prop :=
  ∃ e oe vs, v = .ref e ∧ K.In s₁.heap ∧ s₁.heap.get? e = some oe ∧ oe.cls = .ref C ∧ oe.data = .fields vs ∧ vs[1]? = some .none ∧ E (.ref e) s₁

section
variable {prog : Program} {w : World} {A : Around} {E : Value → Shared → Prop} {s : Shared} {K : Frag} {C : Addr} {env : Env} {Q : Flow → Shared → Prop} {xe : Expr} {pos : Pos}

theorem raise_own {h₀ : Heap} (_X₀ : K.In h₀) (hh : A.handled = none) (hm : mroIn K C (.type "BaseException") = some true) (ht : typeIn K (.ref C) = some (.type "type"))
    (h : wpAny (model prog w) A (eval xe env) (RaisableP K C E) E s) : wpAny (model prog w) A (exec (.Raise (some xe) none pos) env) Q E s := by
  rw [arm_exec_Raise]
  simp only [evalOpt, Option.map]
  refine wpAny_bind (wpAny_standAt ?_)
  unfold raiseStmt
  refine wpAny_bind (wpAny_bind (wpAny_mono h (fun v s₁ h₁ => ?_) fun _ _ x => x))
  obtain ⟨e, oe, vs, rfl, X, he, hc, hd, h1, hE⟩ := h₁
  obtain ⟨hp, g, d, tk, os⟩ := s₁
  have L0 : Looks (model prog w) hp (typeOf (.ref e)) (.ref C) := hc ▸ (Looks.ld he).andThen .now
  have L1 : Looks (model prog w) hp (isInstance (.ref e) (.type "BaseException")) true := L0.andThen (looks_mroIn X hm)
  have L2 := looks_typeIn (M := model prog w) X ht
  have L3 : Looks (model prog w) hp (isType (.ref e)) false := by
    refine (Looks.ld he).andThen ?_
    rw [hd]
    exact .now
  refine wpAny_bind (wpAny_standAt (wpAny_pure ?_))
  dsimp only
  refine wpAny_bind (wpAny_pure ?_)
  dsimp only [Option.toList]
  refine wpAny_bind (wpAny_holding ?_)
  unfold excFromValue isExcClass
  refine wpAny_bind (wpAny_bind (L3.at ?_))
  rw [if_neg (by decide)]
  refine wpAny_pure ?_
  rw [if_neg (by decide)]
  refine wpAny_bind (L1.at ?_)
  rw [if_pos rfl]
  refine wpAny_pure ?_
  refine wpAny_bind (L3.at ?_)
  rw [if_neg (by decide)]
  unfold raisedInstance
  refine wpAny_bind (wpAny_bind (L0.at (wpAny_bind (L2.at ?_))))
  rw [if_pos (by decide)]
  refine wpAny_pure ?_
  unfold setFlight
  refine wpAny_bind (wpAny_bind (wpAny_field he hd h1 ?_))
  rw [if_neg (by decide)]
  refine wpAny_pure ?_
  exact wpAny_raiseNew_none hh hE
end
end P_X6
section P_X7
section
variable {prog : Program} {w : World} {A : Around} {E : Value → Shared → Prop} {s : Shared} {K : Frag} {C L : Addr} {h₀ : Heap} {m : Str → Option Value} {news : List (Addr × Obj)} {Q : Value → Shared → Prop}
variable {nm q : Str} {N' : Addr} {bs bm bmB : List Value} {hdct : Bool} {sn : List Str} {sub : List Value} {ab : Bool} {col : Option Bool} {dd : Option Addr} {k0 k1 k2 k3 k5 : Option Value} {B newId initId : String}

/-- an own exception class with an own __init__ is called: over the frame and the ledger -/
theorem exc_callK {v : Value} {init : Addr} (F : Fr h₀ L s.heap m) (X₀ : K.In h₀) (N : News h₀ L s.heap news) (FB : ExcBaseFacts B newId initId bmB)
    (hC : K.lookup C = some (excClassObj nm q C N' bs bm hdct sn sub ab col dd k0 k1 k2 k3 k5 newId)) (hb : bm.contains (.type B) = true) (ha : bm.contains (.type "AttributeError") = false) (hne : bm.contains (.type "NameError") = false)
    (hi : findIn K (.ref C) "__init__" = some (some (.ref init))) (hf : isFn K (.ref init) = true)
    (h : ∀ e t h', Fr h₀ L h' m → News h₀ L h' ((e, excO C t) :: (t, tupO [v]) :: news) → (∀ p ∈ news, p.1 < t) → (∀ p ∈ (t, tupO [v]) :: news, p.1 < e) →
      codeAny (model prog w) (A.under (.builtin "type.__call__" ⟨.ref C :: [v], []⟩)) (.call (.ref init) ⟨.ref e :: [v], []⟩) (InitBack e fun r s' => match r with | .ok (.ret v) => Q v s' | .ok _ => False | .error e => E e s') { s with heap := h' }) :
    wpAny (model prog w) A (call (.ref C) [v]) Q E s := by
  obtain ⟨hh, g, d, t, os⟩ := s
  have X := X₀.keeps F.keep
  refine wpAny_call (exc_call FB hb ha hne (X _ _ hC) (looks_findIn X hi) (fun self => bind_fn X self (beq_iff_eq.mp hf)) (h (hh.objs.size + 1) hh.objs.size _ ((F.push _).push _) ?_ (fun p hp => Heap.lt_size (N p hp).1) fun p hp => ?_) (by rw [sizeLine_eq]; simp))
  · have := (N.push F (tupO [v])).push (F.push _) (excO C hh.objs.size)
    rwa [Heap.size_push] at this
  · rcases List.mem_cons.mp hp with rfl | hp
    · exact Nat.lt_succ_self _
    · exact Nat.lt_succ_of_lt (Heap.lt_size (N p hp).1)
end

section
variable {M : Model} {A : Around} {E : Value → Shared → Prop} {s' : Shared} {base g : Heap} {env : Env} {outer : List Env} {L e C d : Addr} {m : Str → Option Value} {Q : Unit → Shared → Prop} {news : List (Addr × Obj)}
/-- the frame that raised it is left: the ledger begins with the exception's dict, then the exception -/
theorem leave_raiseP1 {x : Addr × Obj} {oe : Obj} {vs : Array Value} (K : Below A base outer g) (F : Fr g L s'.heap m) (N : News g L s'.heap (x :: (e, oe) :: news)) (hx : @Ne Nat x.1 e) (hne : ∀ p ∈ news, p.1 ≠ e) (hcd : oe.cls = .ref C ∧ oe.dict = some d) (hd : oe.data = .fields vs) (h1 : vs[1]? = some .none)
    (hf : env.frame = some L) (hk : env.scope.kind = .function)
    (hQ : ∀ h', RaisedP base g outer e C d (x :: news) h' → g.UpToSlots h' → Q () { s' with heap := h' }) :
    wpAny M (A.deeper env) (leaving env (.ref e)) Q E s' :=
  leave_raiseP K F (news := x :: news) (fun p hp => N p (by
    rcases List.mem_cons.mp hp with rfl | hp
    · exact .tail _ (.head _)
    · rcases List.mem_cons.mp hp with rfl | hp
      · exact .head _
      · exact .tail _ (.tail _ hp))) (fun p hp => (List.mem_cons.mp hp).elim (fun z => z ▸ hx) (hne p)) hcd hd h1 hf hk hQ
end

theorem raisableP {K : Frag} {C e : Addr} {E : Value → Shared → Prop} {s : Shared} {oe : Obj} {vs : Array Value} {h₀ : Heap} {L : Addr} {m : Str → Option Value} {news : List (Addr × Obj)} (F : Fr h₀ L s.heap m) (X : K.In h₀) (N : News h₀ L s.heap news) (hm : (e, oe) ∈ news) (hc : oe.cls = .ref C) (hd : oe.data = .fields vs) (h1 : vs[1]? = some .none) (h : E (.ref e) s) :
    RaisableP K C E (.ref e) s := ⟨e, oe, vs, rfl, X.keeps F.keep, (N _ hm).1, hc, hd, h1, h⟩

/-- one entry taken out of a ledger -/
inductive Pick (q : Addr × Obj) : List (Addr × Obj) → List (Addr × Obj) → Prop
  | head {r} : Pick q (q :: r) r
  | tail {p r r'} : Pick q r r' → Pick q (p :: r) (p :: r')
theorem Pick.all {q : Addr × Obj} : ∀ {l r : List (Addr × Obj)}, Pick q l r → ∀ p ∈ q :: r, p ∈ l
  | _, _, .head, _, hp => hp
  | _, _, .tail h, p, hp => by
    rcases List.mem_cons.mp hp with rfl | hp
    · exact .tail _ (h.all _ (.head _))
    · rcases List.mem_cons.mp hp with rfl | hp
      · exact .head _
      · exact .tail _ (h.all _ (.tail _ hp))
theorem Pick.news {h₀ h : Heap} {L : Addr} {q : Addr × Obj} {l r : List (Addr × Obj)} (P : Pick q l r) (N : News h₀ L h l) : News h₀ L h (q :: r) := fun p hp => N p (P.all p hp)
end P_X7
theorem sz_app {α : Type} {a b : List α} {k : Nat} (ha : a.length ≤ k / 2) (hb : b.length ≤ k / 2) : (a ++ b).length ≤ k := by rw [List.length_append]; omega
theorem sz_add {a b k : Nat} (ha : a ≤ k / 2) (hb : b ≤ k / 2) : a + b ≤ k := by omega
theorem sz_take {α : Type} {a : List α} {k n : Nat} (h : a.length ≤ k) : (a.take n).length ≤ k := Nat.le_trans (List.length_take_le' n a) h
theorem sz_drop {α : Type} {a : List α} {k n : Nat} (h : a.length ≤ k) : (a.drop n).length ≤ k := by rw [List.length_drop]; omega
local macro_rules | `(tactic| walk_at "sz") => `(tactic| first | (refine sz_add ?_ ?_ <;> walk_at "sz") | (refine sz_app ?_ ?_ <;> walk_at "sz") | (refine sz_take ?_; walk_at "sz") | (refine sz_drop ?_; walk_at "sz") | assumption | ((try simp only [List.length_cons, List.length_nil, List.length_dropLast, List.length_reverse, List.length_map]); omega))
local macro_rules | `(tactic| walk_at "cj") => `(tactic| with_reducible (first | assumption | (apply And.left; first | assumption | (apply And.right; first | assumption | (apply And.right; first | assumption | (apply And.right; first | assumption | (apply And.right; first | assumption | (apply And.right; first | assumption | (apply And.right; first | assumption | (apply And.right; first | assumption | (apply And.right; first | assumption | (apply And.right; first | assumption | (apply And.right; first | assumption | (apply And.right; first | assumption | (apply And.right; first | assumption | (apply And.right; first | assumption | (apply And.right; first | assumption | (apply And.right; first | assumption | (apply And.right; first | assumption | (apply And.right; first | assumption | (apply And.right; first | assumption | (apply And.right; first | assumption | (apply And.right; first | assumption | (apply And.right; first | assumption | (apply And.right; first | assumption | (apply And.right; first | assumption | (apply And.right; first | assumption | (apply And.right; first | assumption | (apply And.right; assumption)))))))))))))))))))))))))))))
local macro_rules | `(tactic| walk_at "cjs") => `(tactic| (first | walk_at "cj" | (with_reducible apply Nat.lt_succ_of_lt; first | walk_at "cj" | (with_reducible apply Nat.lt_succ_of_lt; first | walk_at "cj" | (with_reducible apply Nat.lt_succ_of_lt; walk_at "cj")))))
local macro_rules | `(tactic| walk_at "cne") => `(tactic| first | (exact Nat.ne_of_gt (by walk_at "cj")) | (exact Nat.ne_of_lt (by walk_at "cj")) | (exact Nat.ne_of_gt (by walk_at "cjs")) | (exact Nat.ne_of_lt (by walk_at "cjs")))
local macro_rules | `(tactic| k_ne) => `(tactic| ((try dsimp only); walk_at "cne"))
local macro_rules | `(tactic| k_lt $h:ident) => `(tactic| (replace $h := allLt_of $h; dsimp only [AllLt] at $h:ident))
local macro_rules | `(tactic| k_in) => `(tactic| (with_reducible exact Frag.In.keeps (by k_asm) (Fr.keep (by k_asm))))
local macro_rules | `(tactic| k_ne) => `(tactic| first | assumption | (refine Ne.symm ?_; assumption))
local macro_rules | `(tactic| k_room) => `(tactic| ktr_room)
local macro_rules | `(tactic| k_all) => `(tactic| assumption)
local macro_rules | `(tactic| size_fits) => `(tactic| (simp only [List.size_toArray, Array.size_append, Array.size_push, List.length_append, List.length_cons, List.length_nil, List.length_take, List.length_drop, List.length_dropLast, List.length_reverse, List.length_map, PySem.sizeLine_eq]; omega))
local macro_rules | `(tactic| size_fits) => `(tactic| ((try simp only [List.size_toArray, PySem.sizeLine_eq]); walk_at "sz"))
local macro_rules | `(tactic| units_room) => `(tactic| ktr_units)
local macro_rules | `(tactic| walk_at "exec Raise some none") => `(tactic| (k_here; k_dflt (refine' raise_own (C := 52) ?X ?a ?b ?c ?_; (case X => assumption); (case a => exact rfl); (case b => k_is); (case c => k_is))))
local macro_rules | `(tactic| walk_at "setAttr ref") => `(tactic| (k_here; k_dflt (refine' exc_set (t := _) ?F ?X ?N ?U ?a ?b ?c ?d ?e ?_; (case F => k_asm); (case X => k_asm); (case N => k_asm); (case U => k_updF); (case a => k_is); (case b => k_is); (case c => exact rfl); (case d => exact rfl); (case e => k_is)); intro d' h' F' N' l1; (try dsimp only at N'); (try k_lt l1); (try k_sweep)))
local macro_rules | `(tactic| walk_at "RaisableP") => `(tactic| (k_dflt (refine' raisableP ?F ?X ?N ?m ?a ?b ?c ?_; (case F => k_asm); (case X => k_asm); (case N => k_asm); (case m => k_mem); (case a => exact rfl); (case b => exact rfl); (case c => exact rfl))))
local macro_rules | `(tactic| walk_at "leaving ref") => `(tactic| (k_here; k_dflt (first
  | (refine' leave_raiseP1 ?K ?F ?N ?x ?ne ?cd ?d ?a ?f ?k ?_; (case F => assumption); (case N => k_asm); (case K => assumption); (case x => k_ne); (case ne => k_all); (case cd => exact ⟨rfl, rfl⟩); (case d => exact rfl); (case a => exact rfl); (case f => exact rfl); (case k => exact rfl); intro h' R' U'; (try dsimp only at R' U' ⊢))
  | (refine' leave_onP ?F ?A ?R ?U ?f ?_; (case R => assumption); (case F => assumption); (case A => exact rfl); (case U => assumption); (case f => exact rfl); intro h' R' U'; (try dsimp only at R' U' ⊢)))))
local macro_rules | `(tactic| k_units) => `(tactic| ktr_units)
local macro_rules | `(tactic| kn_triples) => `(tactic| first | assumption | exact TabInv.triples (by assumption))
local macro_rules | `(tactic| kn_among) => `(tactic| assumption)
local macro_rules | `(tactic| kn_hit) => `(tactic| assumption)
local macro_rules | `(tactic| walk_at "s7") => `(tactic| ((case B => k_asm); (case F => k_asm); (case X => k_asm); (case TP => k_asm); (case hk => first | exact rfl | assumption); (case hdp => ktr_room); (case hun => ktr_units)))
local macro_rules | `(tactic| walk_at "n2") => `(tactic| (case N => k_asm))
local macro_rules | `(tactic| walk_at "pk") => `(tactic| (repeat (first | exact Pick.head | apply Pick.tail)))
local macro_rules | `(tactic| walk_at "p3") => `(tactic| ((case P1 => walk_at "pk"); (case P2 => walk_at "pk"); (case P3 => walk_at "pk")))
local macro_rules | `(tactic| walk_at "of") => `(tactic| (repeat' (first | exact List.forall_mem_nil _ | refine List.forall_mem_cons.mpr ⟨by first | walk_at "cne" | exact Nat.ne_of_lt (by omega) | exact Nat.ne_of_gt (by omega), ?_⟩)))
local macro_rules | `(tactic| walk_at "ln") => `(tactic| ((try simp only [List.length_append, List.length_cons, List.length_nil, List.length_take, List.length_drop, List.length_dropLast]); omega))
section P_D0
def DrawN (v below : Int) : Prop := 0 ≤ v ∧ v < below

section
variable {w : World} {p : Program} {loose : List Str} {mean : ExcName → Option Value} {mg mb : Str → Option Value} {dp un : Nat} {gd : Option (List Code)} {cn : Str} {cs : Scope} {L a : Addr} {ccd : Value} {cl : List (Str × Addr)} {outer : List Env} {A₀ : Around} {base h₀ : Heap} {m : Str → Option Value} {s : Shared} {Q E : Value → Shared → Prop}

/-- a draw, wherever the deck stands in the ledger -/
theorem draw_use {d D : Addr} {o : Obj} {ws : List Value} {cells : List Int} {n : Nat} {news r R : List (Addr × Obj)} {M T : Int} {t1 t2 tb : Tok} {below : Int}
    (B : Below A₀ base outer h₀) (F : Fr h₀ L s.heap m) (X : (hd.heap_1 w.params).In h₀) (TP : Top p loose mean mg mb h₀) (hk : cs.kind = .function) (hdp : dp + 1 < recursionLimit) (hun : un + 400 < cLine)
    (N : News h₀ L s.heap news) (P1 : Pick (d, o) news r) (P2 : Pick (D, listOf ws.toArray n) r R)
    (ho : o.IsDictOf (PySem.strKind Challenge.rw_on0259_01.row.prog w) [(Str.ofString "cells", Value.ref D), (Str.ofString "mixed", Value.int M t1), (Str.ofString "turn", Value.int T t2)]) (hi : IntsAre ws cells) (hlen : cells.length ≤ 16)
    (hne : d ≠ D) (offd : ∀ p ∈ R, p.1 ≠ d) (offD : ∀ p ∈ R, p.1 ≠ D) (hb0 : 0 < below) (hb1 : below ≤ 100) (hT0 : 0 ≤ T) (hT1 : T ≤ 1000) (hM0 : 0 ≤ M) (hM1 : M < 2147483587)
    (ret : ∀ (v : Int) (t : Tok) (o' : Obj) (ws' : List Value) (cells' : List Int) (n' : Nat) (t1' t2' : Tok) (h' : Heap) (tk' : Tok), DrawN v below → 0 ≤ v → v < below → Fr h₀ L h' m → News h₀ L h' ((d, o') :: (D, listOf ws'.toArray n') :: R) →
      o'.IsDictOf (PySem.strKind Challenge.rw_on0259_01.row.prog w) [(Str.ofString "cells", Value.ref D), (Str.ofString "mixed", Value.int M t1'), (Str.ofString "turn", Value.int (T + 1) t2')] → IntsAre ws' cells' → cells'.length ≤ 16 → Q (.int v t) { s with heap := h', toks := tk' }) :
    wpAny (model Challenge.rw_on0259_01.row.prog w) (ktrTop dp un gd cn cs L a ccd cl outer) (call (.ref 194) [.ref d, .int below tb]) Q E s :=
  draw_call B F X TP hk hdp hun (fun p hp => P1.news N p (by
    rcases List.mem_cons.mp hp with rfl | hp
    · exact .head _
    · exact .tail _ (P2.all p hp))) ho hi hlen hne offd offD hb0 hb1 hT0 hT1 hM0 hM1 fun v t o' ws' cells' n' t1' t2' h' tk' a b F' N' c d' e => ret v t o' ws' cells' n' t1' t2' h' tk' ⟨a, b⟩ a b F' N' c d' e
end

/-- a thing: its value, its number -/
abbrev thgD (w : World) (ka kb kc kd : Tok) (kind : Str) (tk : Tok) (val : Value) (tx : Tok) (n : Nat) : Obj :=
  dictOf [{ hash := PyData.keyHash w.params (Str.ofString "kind"), key := .str (Str.ofString "kind") ka, val := .str kind tk }, { hash := PyData.keyHash w.params (Str.ofString "value"), key := .str (Str.ofString "value") kb, val := val },
    { hash := PyData.keyHash w.params (Str.ofString "is_exec"), key := .str (Str.ofString "is_exec") kc, val := .bool false }, { hash := PyData.keyHash w.params (Str.ofString "access"), key := .str (Str.ofString "access") kd, val := .int 3 tx }] n
def ThingIn (w : World) (R : List (Addr × Obj)) (v : Value) (k : Int) : Prop :=
  ∃ x dx ka kb kc kd kind tk val tx n, v = .ref x ∧ (x, instObj 178 dx) ∈ R ∧ (dx, thgD w ka kb kc kd kind tk val tx n) ∈ R ∧
    ((k = 0 ∧ kind = Str.ofString "mark" ∧ val = .none) ∨ (k ≠ 0 ∧ kind = Str.ofString "integer" ∧ ∃ t, val = .int k t))
inductive ThingsIn (w : World) (R : List (Addr × Obj)) : List Value → List Int → Prop
  | nil : ThingsIn w R [] []
  | cons {v vs k ks} : ThingIn w R v k → ThingsIn w R vs ks → ThingsIn w R (v :: vs) (k :: ks)
theorem ThingIn.mono {w : World} {R R' : List (Addr × Obj)} {v : Value} {k : Int} (h : ∀ p ∈ R, p ∈ R') (t : ThingIn w R v k) : ThingIn w R' v k := by
  obtain ⟨x, dx, ka, kb, kc, kd, kind, tk, val, tx, n, e, m1, m2, r⟩ := t
  exact ⟨x, dx, ka, kb, kc, kd, kind, tk, val, tx, n, e, h _ m1, h _ m2, r⟩
section
variable {w : World} {R R' : List (Addr × Obj)}
theorem ThingsIn.mono (h : ∀ p ∈ R, p ∈ R') : ∀ {vs : List Value} {ks : List Int}, ThingsIn w R vs ks → ThingsIn w R' vs ks
  | _, _, .nil => .nil
  | _, _, .cons t r => .cons (t.mono h) (r.mono h)
theorem ThingsIn.length : ∀ {vs : List Value} {ks : List Int}, ThingsIn w R vs ks → vs.length = ks.length
  | _, _, .nil => rfl
  | _, _, .cons _ r => congrArg (· + 1) r.length
theorem ThingsIn.append : ∀ {vs vs' : List Value} {ks ks' : List Int}, ThingsIn w R vs ks → ThingsIn w R vs' ks' → ThingsIn w R (vs ++ vs') (ks ++ ks')
  | _, _, _, _, .nil, h => h
  | _, _, _, _, .cons t r, h => .cons t (r.append h)
theorem ThingsIn.take : ∀ {vs : List Value} {ks : List Int} (n : Nat), ThingsIn w R vs ks → ThingsIn w R (vs.take n) (ks.take n)
  | _, _, 0, _ => .nil
  | _, _, _ + 1, .nil => .nil
  | _, _, n + 1, .cons t r => .cons t (r.take n)
theorem ThingsIn.drop : ∀ {vs : List Value} {ks : List Int} (n : Nat), ThingsIn w R vs ks → ThingsIn w R (vs.drop n) (ks.drop n)
  | _, _, 0, h => h
  | _, _, _ + 1, .nil => .nil
  | _, _, n + 1, .cons _ r => r.drop n
end

/-- the table of _law_deed's lambdas -/
def TabInv (R : List (Addr × Obj)) (ps : Array Value) : Prop :=
  TriplesOk ps.toList ∧ ∀ pos, codeAmong pos ps.toList = none ∨ ∃ c' oc vs t, codeAmong pos ps.toList = some (.ref c') ∧ (c', oc) ∈ R ∧ oc.data = .fields vs ∧ vs[1]? = some (.str (Str.ofString "_law_deed.<locals>.<lambda>") t)
theorem TabInv.mono {R R' : List (Addr × Obj)} {ps : Array Value} (h : ∀ p ∈ R, p ∈ R') (t : TabInv R ps) : TabInv R' ps :=
  ⟨t.1, fun pos => (t.2 pos).imp id fun ⟨c', oc, vs, t, a, b, c⟩ => ⟨c', oc, vs, t, a, h _ b, c⟩⟩
theorem triples_snoc {i j : Int} {t u : Tok} {c : Value} (l : List Value) (h : TriplesOk l) : TriplesOk (l ++ [.int i t, .int j u, c]) := by
  fun_induction TriplesOk l with
  | case1 => simp [TriplesOk]
  | case2 a t b u x rest ih => simpa [TriplesOk] using ih h
  | case3 l h1 h2 => exact h.elim
theorem among_snoc {pos pos' : Pos} {c : Value} (l : List Value) (h : TriplesOk l) (hn : codeAmong pos' l = none) :
    codeAmong pos' (l ++ [rawInt pos.line, rawInt pos.col, c]) = none ∨ codeAmong pos' (l ++ [rawInt pos.line, rawInt pos.col, c]) = some c := by
  fun_induction TriplesOk l with
  | case1 => simp only [List.nil_append, codeAmong, rawInt]; split <;> simp [codeAmong]
  | case2 a t b u x rest ih =>
    simp only [List.cons_append, codeAmong] at hn ⊢
    split at hn
    · cases hn
    · rename_i q; rw [if_neg q]; exact ih h hn
  | case3 l h1 h2 => exact h.elim
theorem among_some {pos pos' : Pos} {c v : Value} (l : List Value) (h : TriplesOk l) (hn : codeAmong pos' l = some v) :
    codeAmong pos' (l ++ [rawInt pos.line, rawInt pos.col, c]) = some v := by
  fun_induction TriplesOk l with
  | case1 => simp [codeAmong] at hn
  | case2 a t b u x rest ih =>
    simp only [List.cons_append, codeAmong] at hn ⊢
    split at hn
    · rename_i q; rw [if_pos q]; exact hn
    · rename_i q; rw [if_neg q]; exact ih h hn
  | case3 l h1 h2 => exact h.elim
theorem TabInv.push {R : List (Addr × Obj)} {ps : Array Value} {pos : Pos} {c' : Addr} {oc : Obj} {vs : Array Value} {t : Tok} (h : TabInv R ps) (hm : (c', oc) ∈ R) (hd : oc.data = .fields vs) (hv : vs[1]? = some (.str (Str.ofString "_law_deed.<locals>.<lambda>") t)) :
    TabInv R (ps ++ #[rawInt pos.line, rawInt pos.col, .ref c']) := by
  refine ⟨?_, fun pos' => ?_⟩
  · rw [Array.toList_append]; exact triples_snoc _ h.1
  · rw [Array.toList_append]
    rcases h.2 pos' with q | ⟨c₁, oc₁, vs₁, t₁, q, r⟩
    · rcases among_snoc (pos := pos) (c := .ref c') _ h.1 q with z | z
      · exact .inl z
      · exact .inr ⟨c', oc, vs, t, z, hm, hd, hv⟩
    · exact .inr ⟨c₁, oc₁, vs₁, t₁, among_some _ h.1 q, r⟩
theorem TabInv.triples {R : List (Addr × Obj)} {ps : Array Value} (t : TabInv R ps) : TriplesOk ps.toList := t.1
theorem TabInv.find {R : List (Addr × Obj)} {ps : Array Value} (t : TabInv R ps) (pos : Pos) : codeAmong pos ps.toList = none ∨ ∃ c' oc vs t, codeAmong pos ps.toList = some (.ref c') ∧ (c', oc) ∈ R ∧ oc.data = .fields vs ∧ vs[1]? = some (.str (Str.ofString "_law_deed.<locals>.<lambda>") t) := t.2 pos
/-- addresses all apart -/
noncomputable def NeAll (a : Addr) : List Addr → Prop
  | [] => True
  | b :: r => a ≠ b ∧ NeAll a r
noncomputable def AllNe : List Addr → Prop
  | [] => True
  | a :: r => NeAll a r ∧ AllNe r
theorem ne_of_allLt {a b : Addr} {l : List (Addr × Obj)} (h : AllLt a l) (hl : @LE.le Nat _ a b) : ∀ p ∈ l, p.1 ≠ b := fun p hp => Nat.ne_of_lt (Nat.lt_of_lt_of_le (tb_ltOf h p hp) hl)
end P_D0
section P_L0
section
variable {w : World} {p : Program} {prog : Program} {A : Around} {loose : List Str} {mean : ExcName → Option Value} {mg mb : Str → Option Value} {cn : Str} {cs : Scope} {L a : Addr} {ccd : Value} {cl : List (Str × Addr)} {base h₀ : Heap} {m : Str → Option Value} {s : Shared} {Q E : Value → Shared → Prop}
/-- the code of a lambda lies apart from these -/
theorem NeAll.of {c : Addr} : ∀ {bs : List Addr}, (∀ b ∈ bs, @Ne Nat c b) → NeAll c bs
  | [], _ => trivial
  | _ :: _, h => ⟨h _ (.head _), NeAll.of fun b hb => h b (.tail _ hb)⟩
theorem NeAll.one {c : Addr} : ∀ {bs : List Addr}, NeAll c bs → ∀ b ∈ bs, @Ne Nat c b
  | _ :: _, h, _, hb => by
    rcases List.mem_cons.mp hb with rfl | hb
    · exact h.1
    · exact NeAll.one h.2 _ hb
noncomputable def InAll (news : List (Addr × Obj)) : List Addr → Prop
  | [] => True
  | b :: r => (∃ o, (b, o) ∈ news) ∧ InAll news r
theorem InAll.one {news : List (Addr × Obj)} : ∀ {bs : List Addr}, InAll news bs → ∀ b ∈ bs, ∃ o, (b, o) ∈ news
  | _ :: _, h, _, hb => by
    rcases List.mem_cons.mp hb with rfl | hb
    · exact h.1
    · exact InAll.one h.2 _ hb
/-- a lambda of the deed: its code found in the table, or made -/
theorem lam_both {name qual : Str} {params : Arguments} {body : Expr} {scope : Scope} {pos : Pos} {firstLine : Nat} {clos : List (Str × Addr)} {ps : Array Value} {news R : List (Addr × Obj)} {g : Obj → List (Addr × Obj)} {c : Addr} {bs : List Addr} (F : Fr h₀ L s.heap m) (N : News h₀ L s.heap news) (T : Top p loose mean mg mb h₀) (C : CodeHd h₀ c 222) (hcd : ccd = .ref c) (U : UpdF 222 (tabObj ps) news g) (TI : TabInv R ps) (hq : qual = Str.ofString "_law_deed.<locals>.<lambda>") (hR : ∀ q ∈ R, q ∈ news)
    (hb : ∀ q ∈ R, NeAll q.1 bs) (hbn : InAll news bs)
    (hcl : closureFor scope (envX cn cs L a ccd cl) = pure clos)
    (h : ∀ f c' oc vs t ctv ps' h' tk, Fr h₀ L h' m → News h₀ L h' ((f, kla_obj name qual params body scope clos ((mg "__name__").getD .none) c' ctv) :: (c', oc) :: g (tabObj ps')) →
      oc.data = .fields vs → vs[1]? = some (.str qual t) → (∀ q ∈ news, q.1 < f) → @LT.lt Nat _ c' f → NeAll c' bs → TabInv ((c', oc) :: R) ps' → Q (.ref f) { s with heap := h', toks := tk }) :
    wpAny (model prog w) A (makeFunction name qual params (.expr body) scope (envX cn cs L a ccd cl) [] [] [] pos firstLine) Q E s := by
  have hm : (222, tabObj ps) ∈ news := by
    obtain ⟨own, rest, rfl, _⟩ := U.split
    exact List.mem_append_right _ (.head _)
  have hg : g (tabObj ps) = news := by
    obtain ⟨own, rest, e, h1, _⟩ := U.split
    rw [h1, e]
  rcases TI.find pos with hn | ⟨c', oc, vs, t, hf, hc, hd, hv⟩
  · refine kla_nest F N T C hcd U TI.1 hn hcl fun f c' oc vs t ctv h' tk F' N' d1 d2 l1 l2 => h f c' oc vs t ctv _ h' tk F' N' d1 d2 (fun q hq => Nat.lt_trans (l1 q hq) l2) l2 (NeAll.of fun b hb' => ?_) ((TI.mono fun q hq => .tail _ hq).push (.head _) d1 (hq ▸ d2))
    obtain ⟨o', hq⟩ := hbn.one b hb'
    exact Nat.ne_of_gt (l1 _ hq)
  · refine kla_hit F N T C hcd hm TI.1 hf hcl fun f ctv h' tk F' N' l1 => h f c' oc vs t ctv ps h' tk F' (fun q hq => ?_) hd (hq ▸ hv) l1 (l1 _ (hR _ hc)) (hb _ hc) (TI.mono fun q hq => .tail _ hq)
    rw [hg] at hq
    rcases List.mem_cons.mp hq with rfl | hq
    · exact N' _ (.head _)
    · rcases List.mem_cons.mp hq with rfl | hq
      · exact N' _ (.tail _ (hR _ hc))
      · exact N' _ (.tail _ hq)
end

section
variable {α : Type} {vs : List Value} {x y : Int}
theorem pk_all : (slicePick vs.toArray none none none).toList = vs := by rw [slicePick_all]
theorem pk_upto (h : 0 ≤ y) : (slicePick vs.toArray none (some y) none).toList = vs.take y.toNat := by
  have e : sliceBounds none (some y) none vs.toArray.size = (((0 : Nat) : Int), ((min y.toNat vs.toArray.size : Nat) : Int), 1) := by
    simp only [sliceBounds, Option.getD_none, show (1 : Int) > 0 by decide, if_true, if_neg (show ¬ (y < 0) by omega)]
    congr 1
    congr 1
    omega
  rw [kmk_pick_nat _ e]
  show (vs.drop 0).take (min y.toNat vs.toArray.size - 0) = _
  rw [List.drop_zero, Nat.sub_zero, List.size_toArray, kmk_take_min]
theorem pk_from (h : 0 ≤ x) : (slicePick vs.toArray (some x) none none).toList = vs.drop x.toNat := by
  have e : sliceBounds (some x) none none vs.toArray.size = (((min x.toNat vs.toArray.size : Nat) : Int), ((vs.toArray.size : Nat) : Int), 1) := by
    simp only [sliceBounds, Option.getD_none, show (1 : Int) > 0 by decide, if_true, if_neg (show ¬ (x < 0) by omega)]
    congr 1
    omega
  rw [kmk_pick_nat _ e]
  show (vs.drop (min x.toNat vs.toArray.size)).take (vs.toArray.size - min x.toNat vs.toArray.size) = _
  rw [List.size_toArray, kmk_drop_min, List.take_of_length_le (by rw [List.length_drop]; omega)]
theorem roll_len {β : Type} (l : List β) (i j : Nat) : (l.take i ++ ((l.drop i).drop j ++ (l.drop i).take j)).length = l.length := by
  rw [List.length_append, List.length_append, Nat.add_comm (List.length (List.drop j _)), ← List.length_append, List.take_append_drop, ← List.length_append, List.take_append_drop]
theorem min_sub (a b n : Nat) : min b n - min a n = min b n - a := by
  rcases Nat.le_total a n with h | h
  · rw [Nat.min_eq_left h]
  · rw [Nat.min_eq_right h, Nat.sub_eq_zero_of_le (Nat.min_le_right b n), Nat.sub_eq_zero_of_le (Nat.le_trans (Nat.min_le_right b n) h)]
theorem pk_run (h : 0 ≤ x) (h2 : 0 ≤ y) : (slicePick vs.toArray (some x) (some y) none).toList = (vs.drop x.toNat).take (min y.toNat vs.length - x.toNat) := by
  have e : sliceBounds (some x) (some y) none vs.toArray.size = (((min x.toNat vs.toArray.size : Nat) : Int), ((min y.toNat vs.toArray.size : Nat) : Int), 1) := by
    simp only [sliceBounds, Option.getD_none, show (1 : Int) > 0 by decide, if_true, if_neg (show ¬ (x < 0) by omega), if_neg (show ¬ (y < 0) by omega)]
    congr 1
    · omega
    · congr 1
      omega
  rw [kmk_pick_nat _ e]
  show (vs.drop (min x.toNat vs.toArray.size)).take (min y.toNat vs.toArray.size - min x.toNat vs.toArray.size) = _
  rw [List.size_toArray, kmk_drop_min, min_sub]
theorem pk_upto_neg (h : y < 0) : (slicePick vs.toArray none (some y) none).toList = vs.take (vs.length - (-y).toNat) := by
  have e : sliceBounds none (some y) none vs.toArray.size = (((0 : Nat) : Int), ((vs.toArray.size - (-y).toNat : Nat) : Int), 1) := by
    simp only [sliceBounds, Option.getD_none, show (1 : Int) > 0 by decide, if_true, if_pos h]
    congr 1
    congr 1
    omega
  rw [kmk_pick_nat _ e]
  show (vs.drop 0).take (vs.toArray.size - (-y).toNat - 0) = _
  rw [List.drop_zero, Nat.sub_zero, List.size_toArray]
end

section
variable {prog : Program} {w : World} {A : Around} {s : Shared} {h₀ : Heap} {L : Addr} {m : Str → Option Value} {env : Env}
theorem compRest_inv {elt : Expr} {x : Str} {scope : Scope} {cl : List (Str × Addr)} {S : List (Addr × Obj) → Prop} {P : Nat → Value → Prop} {Fin : List Value → List (Addr × Obj) → Prop} (J : Nat → List Value → List (Addr × Obj) → Prop) {n : Nat}
    (step : ∀ i ys news v I oI C oC D m₂ h tk (E' : Value → Shared → Prop), i < n → P i v → J i ys news → LCg.NsObj oC m₂ → m₂ x = some v → Fr h₀ L h m → News h₀ L h ((I, oI) :: (C, oC) :: (D, LCg.lst ys) :: news) → LCg.Off3 I C D news → ((@Ne Nat I C) ∧ (@Ne Nat I D) ∧ (@Ne Nat C D)) →
      wpAny (model prog w) A (eval elt (compEnvC scope cl C env)) (LCg.CompEnd h₀ L m { s with heap := h, toks := tk } I oI C oC D (LCg.lst ys) S (fun y news' => J (i + 1) (ys ++ [y]) news')) E' { s with heap := h, toks := tk })
    (fin : ∀ ys news, J n ys news → Fin ys news) : ∀ (k i : Nat) (ys : List Value) (news : List (Addr × Obj)), i + k = n → J i ys news → LCg.CompRest prog w A h₀ L m env elt x scope cl s S P Fin k i ys news
  | 0, i, ys, news, hi, hJ => LCg.CompRest.zero (fin ys news (by rw [← hi]; exact hJ))
  | k + 1, i, ys, news, hi, hJ => LCg.CompRest.succ fun v I oI C oC D m₂ h tk E' hP hN hx F N off ne =>
    wpAny_mono (step i ys news v I oI C oC D m₂ h tk E' (by omega) hP hJ hN hx F N off ne) (fun y s₂ ⟨h', tk', news', e, F', N', o', hS, r⟩ => ⟨h', tk', news', e, F', N', o', hS, compRest_inv J step fin k (i + 1) (ys ++ [y]) news' (by omega) r⟩) fun _ _ e => e
end

/-- the state between two deeds -/
def Wd (w : World) (d D it ol kp : Addr) (M most T : Int) (own : List Int) (ok : Obj) (R nw : List (Addr × Obj)) : Prop :=
  ∃ (l sd : Addr) (o : Obj) (ws : List Value) (cells : List Int) (n nl non : Nat) (t1 t2 k1 k2 tm : Tok) (vs ows : List Value) (ps : Array Value),
    nw = (222, tabObj ps) :: (d, o) :: (D, listOf ws.toArray n) :: (l, listOf vs.toArray nl) :: (sd, stkD w k1 k2 most tm l 2) :: (it, instObj 156 sd) :: (ol, listOf ows.toArray non) :: (kp, ok) :: R ∧
    AllNe [222, d, D, l, sd, it, ol, kp] ∧ (∀ q ∈ R, NeAll q.1 [222, d, D, l, sd, kp]) ∧
    o.IsDictOf (PySem.strKind Challenge.rw_on0259_01.row.prog w) [(Str.ofString "cells", Value.ref D), (Str.ofString "mixed", Value.int M t1), (Str.ofString "turn", Value.int T t2)] ∧ IntsAre ws cells ∧ cells.length ≤ 16 ∧
    TabInv R ps ∧ ThingsIn w R vs own ∧ IntsAre ows own ∧ (own.length : Int) ≤ most
theorem exc_inst {h₀ h : Heap} {L e C d : Addr} {oe od : Obj} {vs : Array Value} {news : List (Addr × Obj)} (N : News h₀ L h news) (h1 : (e, oe) ∈ news) (h2 : (d, od) ∈ news) (hc : oe.cls = .ref C ∧ oe.dict = some d) (hd : oe.data = .fields vs) : InstAt h e oe C (some od) := by
  refine ⟨(N _ h1).1, hc.1, by unfold notCls; rw [hd], ?_⟩
  rw [hc.2]; exact (N _ h2).1
section
variable {prog : Program} {w : World} {A : Around} {E : Value → Shared → Prop} {s : Shared} {K : Frag} {x C : Addr} {ox : Obj} {es : List DictEntry} {n : Nat} {name : Str} {expr : Bool} {Q : Value → Shared → Prop} {v : Value} {attr : Option Value}
theorem exc_told (X : K.In s.heap) (I : InstAt s.heap x ox C (some (dictOf es n))) (hga : findIn K (.ref C) "__getattribute__" = some (some (.builtin "BaseException.__getattribute__"))) (hgt : findIn K (.ref C) "__getattr__" = some none)
    (hm : mroIn K C (.type "BaseException") = some true) (hh : hasDictIn K C = true) (ha : findIn K (.ref C) name = some attr) (hn : noGet K attr = true) (hl : getL name es = some (some v)) (hv : handedIn v = true) (h : Q v { s with toks := s.toks + 1 }) : wpAny (model prog w) A (getAttr (.ref x) name expr) Q E s :=
  exc_get X I hga hgt hm (findObj_own hh ha hn (by show lookIn name (dictOf es n) = _; rw [lookIn_dict, hl])) hv h
end
noncomputable def LtAll (b : Addr) : List Addr → Prop
  | [] => True
  | a :: r => @LT.lt Nat _ a b ∧ LtAll b r
theorem NeAll.lt {b : Addr} : ∀ {l : List Addr}, LtAll b l → NeAll b l
  | [], _ => trivial
  | _ :: _, h => ⟨Nat.ne_of_gt h.1, NeAll.lt h.2⟩
/-- the things' list is another, a fresh one -/
theorem ap_l {c1 d D l sd it ol kp l' : Addr} (h : AllNe [c1, d, D, l, sd, it, ol, kp]) (x : LtAll l' [c1, d, D, sd, it, ol, kp]) : AllNe [c1, d, D, l', sd, it, ol, kp] := by
  simp only [AllNe, NeAll, LtAll, and_true] at h x ⊢
  obtain ⟨⟨a1, a2, a3, a4, a5, a6, a7⟩, ⟨b1, b2, b3, b4, b5, b6⟩, ⟨e1, e2, e3, e4, e5⟩, ⟨f1, f2, f3, f4⟩, ⟨g1, g2, g3⟩, ⟨i1, i2⟩, j⟩ := h
  obtain ⟨x1, x2, x3, x4, x5, x6, x7⟩ := x
  exact ⟨⟨a1, a2, Nat.ne_of_lt x1, a4, a5, a6, a7⟩, ⟨b1, Nat.ne_of_lt x2, b3, b4, b5, b6⟩, ⟨Nat.ne_of_lt x3, e2, e3, e4, e5⟩, ⟨Nat.ne_of_gt x4, Nat.ne_of_gt x5, Nat.ne_of_gt x6, Nat.ne_of_gt x7⟩, ⟨g1, g2, g3⟩, ⟨i1, i2⟩, j⟩
/-- the own list is another, a fresh one -/
theorem ap_ol {c1 d D l sd it ol kp l' : Addr} (h : AllNe [c1, d, D, l, sd, it, ol, kp]) (x : LtAll l' [c1, d, D, l, sd, it, kp]) : AllNe [c1, d, D, l, sd, it, l', kp] := by
  simp only [AllNe, NeAll, LtAll, and_true] at h x ⊢
  obtain ⟨⟨a1, a2, a3, a4, a5, a6, a7⟩, ⟨b1, b2, b3, b4, b5, b6⟩, ⟨e1, e2, e3, e4, e5⟩, ⟨f1, f2, f3, f4⟩, ⟨g1, g2, g3⟩, ⟨i1, i2⟩, j⟩ := h
  obtain ⟨x1, x2, x3, x4, x5, x6, x7⟩ := x
  exact ⟨⟨a1, a2, a3, a4, a5, Nat.ne_of_lt x1, a7⟩, ⟨b1, b2, b3, b4, Nat.ne_of_lt x2, b6⟩, ⟨e1, e2, e3, Nat.ne_of_lt x3, e5⟩, ⟨f1, f2, Nat.ne_of_lt x4, f4⟩, ⟨g1, Nat.ne_of_lt x5, g3⟩, ⟨Nat.ne_of_lt x6, i2⟩, Nat.ne_of_gt x7⟩
theorem off_l {c1 d D l sd kp l' : Addr} {R : List (Addr × Obj)} (h : ∀ q ∈ R, NeAll q.1 [c1, d, D, l, sd, kp]) (x : AllLt l' R) : ∀ q ∈ R, NeAll q.1 [c1, d, D, l', sd, kp] := fun q hq => by
  have y := h q hq
  simp only [NeAll, and_true] at y ⊢
  obtain ⟨a1, a2, a3, a4, a5, a6⟩ := y
  exact ⟨a1, a2, a3, Nat.ne_of_lt (tb_ltOf x q hq), a5, a6⟩
section
variable {w : World} {L : Addr} {h₀ kg : Heap} {m : Str → Option Value} {s : Shared} {Q : Value → Shared → Prop}
theorem deed_end {d D it kp ol' l' sd : Addr} {M T most : Int} {own' : List Int} {ok o' : Obj} {R R' nw0 : List (Addr × Obj)} {ps' : Array Value} {ws' vs' ows' : List Value} {cells' : List Int} {n' nl' non' : Nat} {t1' t2' k1 k2 tm : Tok} {h' : Heap} {tk' : Tok}
    (ret : ∀ ol' own' R' nw' h' tk', Fr h₀ L h' m → News h₀ L h' nw' → (∀ q ∈ R, q ∈ R') → Wd w d D it ol' kp M most (T + 1 + 1) own' ok R' nw' → Q (.ref ol') { s with heap := h', toks := tk' })
    (TU : KtsTurn [] h₀ kg) (F : Fr kg L h' m) (N : News kg L h' nw0) (TI : TabInv R' ps') (sub : ∀ q ∈ R, q ∈ R') (mR : ∀ q ∈ R', q ∈ nw0)
    (m1 : (222, tabObj ps') ∈ nw0) (m2 : (d, o') ∈ nw0) (m3 : (D, listOf ws'.toArray n') ∈ nw0) (m5 : (sd, stkD w k1 k2 most tm l' 2) ∈ nw0) (m4 : (l', listOf vs'.toArray nl') ∈ nw0) (m6 : (it, instObj 156 sd) ∈ nw0) (m7 : (ol', listOf ows'.toArray non') ∈ nw0) (m8 : (kp, ok) ∈ nw0)
    (ho : o'.IsDictOf (PySem.strKind Challenge.rw_on0259_01.row.prog w) [(Str.ofString "cells", Value.ref D), (Str.ofString "mixed", Value.int M t1'), (Str.ofString "turn", Value.int (T + 1 + 1) t2')]) (hi : IntsAre ws' cells') (hl : cells'.length ≤ 16)
    (ap : AllNe [222, d, D, l', sd, it, ol', kp]) (off : ∀ q ∈ R', NeAll q.1 [222, d, D, l', sd, kp])
    (HT : ThingsIn w R' vs' own') (HO : IntsAre ows' own') (hom : (own'.length : Int) ≤ most) : Q (.ref ol') { s with heap := h', toks := tk' } := by
  obtain ⟨F', N'⟩ := unturn TU F N
  refine ret ol' own' R' _ h' tk' F' (fun q hq => ?_) sub ⟨l', sd, o', ws', cells', n', nl', non', t1', t2', k1, k2, tm, vs', ows', ps', rfl, ap, off, ho, hi, hl, TI, HT, HO, hom⟩
  rcases List.mem_cons.mp hq with rfl | hq
  · exact N' _ m1
  rcases List.mem_cons.mp hq with rfl | hq
  · exact N' _ m2
  rcases List.mem_cons.mp hq with rfl | hq
  · exact N' _ m3
  rcases List.mem_cons.mp hq with rfl | hq
  · exact N' _ m4
  rcases List.mem_cons.mp hq with rfl | hq
  · exact N' _ m5
  rcases List.mem_cons.mp hq with rfl | hq
  · exact N' _ m6
  rcases List.mem_cons.mp hq with rfl | hq
  · exact N' _ m7
  rcases List.mem_cons.mp hq with rfl | hq
  · exact N' _ m8
  exact N' _ (mR q hq)
end
end P_L0
section P_L1
theorem updF_upd {d : Addr} {o o' : Obj} : ∀ {l : List (Addr × Obj)} {g : Obj → List (Addr × Obj)}, UpdF d o l g → Upd d o o' l (g o')
  | _, _, .head h => .head h
  | _, _, .tail h r => .tail h (updF_upd r)
section
variable {prog : Program} {w : World} {A : Around} {E : Value → Shared → Prop} {s : Shared} {h₀ : Heap} {L D b : Addr} {m : Str → Option Value} {news : List (Addr × Obj)} {g : Obj → List (Addr × Obj)} {vs ws : List Value} {n n2 : Nat} {Q : Value → Shared → Prop}
theorem eq_empty {es : Array Value} (hl : s.heap.IsList D vs.toArray) (hb : s.heap.IsList b es) (he : es = #[]) (hu : A.units < cLine) (h : Q (.bool (decide (vs.length = 0))) s) :
    wpAny (model prog w) A (compareOp .Eq (.ref D) (.ref b)) Q E s := by
  subst he
  cases vs with
  | nil => exact SeqAt.RcAt.lists (e := fun _ => true) hl hb rfl hu (fun j h1 _ => absurd h1 (by simp)) prog w E Q (by simpa using h)
  | cons v vs => exact SeqAt.RcAt.lists_lengths hl hb (by simp) hu prog w E Q (by simpa using h)
theorem my_add (F : Fr h₀ L s.heap m) (N : News h₀ L s.heap news) (ha : s.heap.IsList D vs.toArray) (hb : s.heap.IsList b ws.toArray)
    (h : ∀ D h', Fr h₀ L h' m → News h₀ L h' ((D, listOf (vs ++ ws).toArray 0) :: news) → (∀ p ∈ news, p.1 < D) → Q (.ref D) { s with heap := h' })
    (hz : vs.length + ws.length ≤ 1000) : wpAny (model prog w) A (binaryOp .Add (.ref D) (.ref b)) Q E s :=
  kmk_add_lit F N ha hb rfl h (by show vs.length + ws.length ≤ sizeLine; rw [sizeLine_eq]; omega)
theorem my_extend (F : Fr h₀ L s.heap m) (N : News h₀ L s.heap news) (hb : (b, listOf ws.toArray n2) ∈ news) (U : UpdF D (listOf vs.toArray n) news g) (hz : vs.length + ws.length ≤ 1000)
    (h : ∀ n' h', Fr h₀ L h' m → News h₀ L h' (g (listOf (vs ++ ws).toArray n')) → Q .none { s with heap := h' }) : wpAny (model prog w) A (call (.builtin "list.extend") [.ref D, .ref b]) Q E s := by
  have hd : ¬(!(vs.toArray).isEmpty && Builtin.List.listTooLong (vs.toArray.size + ws.toArray.size)) = true := by
    rw [List.size_toArray, List.size_toArray]
    intro q
    have q2 := (Bool.and_eq_true _ _ ▸ q).2
    unfold Builtin.List.listTooLong at q2
    simp only [decide_eq_true_eq] at q2
    first | omega | (rw [sizeLine_eq] at q2; omega)
  have z1 : vs.toArray.toList.length ≤ sizeLine := by rw [sizeLine_eq]; show vs.length ≤ _; omega
  have z2 : vs.toArray.size + ws.toArray.size ≤ sizeLine + 1 := by rw [sizeLine_eq, List.size_toArray, List.size_toArray]; omega
  by_cases hw : ws = []
  · subst hw
    refine kxn_extend F N hb rfl (updF_upd U) hd z1 z2 fun h' F' N' => h n h' F' ?_
    rw [List.append_nil]; exact N'
  · exact kl_extend F N hb rfl (by show ws.length ≠ 0; exact fun q => hw (List.length_eq_zero_iff.mp q)) (updF_upd U) hd z1 z2 fun h' F' N' => h _ h' F' N'
theorem last_of : ∀ {vs : List Value}, vs ≠ [] → ∃ y, kl_last vs = some (vs.dropLast, y)
  | [v], _ => ⟨v, rfl⟩
  | v :: u :: r, _ => by
    obtain ⟨y, e⟩ := last_of (vs := u :: r) (List.cons_ne_nil _ _)
    refine ⟨y, ?_⟩
    rw [kl_last, e]
    rfl
theorem my_pop (F : Fr h₀ L s.heap m) (N : News h₀ L s.heap news) (U : UpdF D (listOf vs.toArray n) news g) (hne : ¬ vs.length = 0) (hz : vs.length ≤ 1000)
    (h : ∀ y n' h', Fr h₀ L h' m → News h₀ L h' (g (listOf vs.dropLast.toArray n')) → Q y { s with heap := h' }) : wpAny (model prog w) A (call (.builtin "list.pop") [.ref D]) Q E s := by
  obtain ⟨y, e⟩ := last_of (vs := vs) (fun q => hne (by rw [q]; rfl))
  exact kl_pop F N e (updF_upd U) (by rw [sizeLine_eq]; show vs.length ≤ _; omega) fun h' F' N' => h y _ h' F' N'
end
theorem TabInv.app {R : List (Addr × Obj)} {ps : Array Value} (X : List (Addr × Obj)) (h : TabInv R ps) : TabInv (X ++ R) ps := h.mono fun _ hq => List.mem_append_right _ hq
theorem ThingsIn.push {w : World} {X R R2 : List (Addr × Obj)} {v : Value} {vs : List Value} {k : Int} {ks : List Int} (h : ThingIn w X v k) (H : ThingsIn w R vs ks) (sub : ∀ q ∈ R, q ∈ R2) : ThingsIn w (X ++ R2) (vs ++ [v]) (ks ++ [k]) :=
  (H.mono fun q hq => List.mem_append_right _ (sub q hq)).append (.cons (h.mono fun q hq => List.mem_append_left _ hq) .nil)
theorem TabInv.appOf {w : World} {X R : List (Addr × Obj)} {ps : Array Value} {v : Value} {k : Int} (_ : ThingIn w X v k) (h : TabInv R ps) : TabInv (X ++ R) ps := h.app X
end P_L1
section P_PE
local macro_rules | `(tactic| k_all) => `(tactic| (tbn_letter; refine' ne_of_allLt ?h9 ?l9; (case h9 => tbn_find); (case l9 => omega)))
local macro_rules | `(tactic| k_all) => `(tactic| assumption)
section
variable {w : World} {p : Program} {loose : List Str} {mean : ExcName → Option Value} {mg mb : Str → Option Value} {dp un : Nat} {gd : Option (List Code)} {cn : Str} {cs : Scope} {L a : Addr} {ccd : Value} {cl : List (Str × Addr)} {outer : List Env} {A₀ : Around} {base h₀ : Heap} {m : Str → Option Value} {s : Shared} {Q E : Value → Shared → Prop}
/-- the program's own error is made -/
theorem pserr_call {v : Value} {R : List (Addr × Obj)}
    (B : Below A₀ base outer h₀) (F : Fr h₀ L s.heap m) (X : (hd.heap_1 w.params).In h₀) (TP : Top p loose mean mg mb h₀) (hk : cs.kind = .function) (hdp : dp + 3 < recursionLimit) (hun : un + 400 < cLine)
    (N : News h₀ L s.heap R)
    (ret : ∀ (e d t : Addr) (k1 : Tok) (h' : Heap) (tk' : Tok), Fr h₀ L h' m → News h₀ L h' ((d, dictOf [{ hash := PyData.keyHash w.params (Str.ofString "told"), key := Value.str (Str.ofString "told") k1, val := v }] 1) :: (e, excD 52 t d) :: (t, tupO [v]) :: R) → AllLt d ((e, excO 52 t) :: (t, tupO [v]) :: R) → AllLt e ((t, tupO [v]) :: R) → AllLt t R → Q (.ref e) { s with heap := h', toks := tk' }) :
    wpAny (model Challenge.rw_on0259_01.row.prog w) (ktrTop dp un gd cn cs L a ccd cl outer) (call (.ref 52) [v]) Q E s := by
  revert X
  k_fill
  intro X
  w_on
  w_strict ((refine' exc_callK ?F ?X ?N PySem.F.excBase_Exception ?C ?a ?b ?c ?d ?e ?_; (case F => k_asm); (case X => k_asm); (case N => k_asm); (case C => k_is); (case a => decide +kernel); (case b => decide +kernel); (case c => decide +kernel); (case d => k_is); (case e => k_is)); intro e' t' h' F' N' l1 l2; (replace l1 := allLt_of l1); (k_lt l2); (refine' code_def ?k1 ?k2 ?k3 ?k4 ?k5 ?kA ?kF ?kK ?k6 ?k7 ?k8 ?k9 ?kB ?_ ?c2 ?c3 ?c4 ?c5; (case kA => exact rfl); (case kF => exact rfl); (case kK => assumption); (case k1 => k_asm); (case k2 => k_asm); (case k3 => k_asm); (case k4 => k_asm); (case k5 => k_asm); (case k6 => k_is); (case k7 => k_is); (case k8 => ktr_room); (case k9 => exact binds_K (by k_in) rfl (by k_is) rfl rfl rfl); (case c5 => decide); (case kB => exact locs rfl); (case c2 => exact rfl); (case c3 => exact rfl); (case c4 => exact rfl); k_whole; intro g' L' h' FG' F' N' B' X' T'; (try dsimp only); (try k_fold)); (repeat' (first | (k_unfold; (try dsimp only)) | (k_end; wrow_close) | ((with_reducible show wpAny _ _ (call _ _) _ _ _); first | (with_reducible ((with_reducible show wpAny _ _ (call (Value.builtin "len") [Value.ref _]) _ _ _); k_dflt (refine' my_len ?z4k1 ?z4k2 ?_; (case z4k1 => exact News.isList (by k_asm) (by k_mem)); (case z4k2 => ((try simp only [List.length_append, List.length_cons, List.length_nil, List.length_take, List.length_drop, List.length_dropLast]); omega)); k_whole)))) | walk1 | (dsimp only; walk1) | (dsimp only [List.nil_append, List.cons_append]; walk1) | (leave1; walk_say "STEP leave1"; try dsimp only))))
  all_goals (exact ret _ _ _ _ _ _ (by k_asm) (by k_asm) (by assumption) (by assumption) (by assumption))
end
end P_PE
section P_S3
section
variable {w : World} {p : Program} {loose : List Str} {mean : ExcName → Option Value} {mg mb : Str → Option Value} {dp un : Nat} {gd : Option (List Code)} {cn : Str} {cs : Scope} {L a : Addr} {ccd : Value} {cl : List (Str × Addr)} {outer : List Env} {A₀ : Around} {base h₀ : Heap} {m : Str → Option Value} {s : Shared} {Q E : Value → Shared → Prop}

theorem thing_call {k : Int} {t : Tok} {R : List (Addr × Obj)}
    (B : Below A₀ base outer h₀) (F : Fr h₀ L s.heap m) (X : (hd.heap_1 w.params).In h₀) (TP : Top p loose mean mg mb h₀) (hk : cs.kind = .function) (hdp : dp + 5 < recursionLimit) (hun : un + 400 < cLine)
    (N : News h₀ L s.heap R)
    (ret : ∀ (x dx : Addr) (od : Obj) (h' : Heap) (tk' : Tok), Fr h₀ L h' m → News h₀ L h' ((x, instObj 178 dx) :: (dx, od) :: R) → (∀ q ∈ R, q.1 < x) → (∀ q ∈ R, q.1 < dx) → ThingIn w [(x, instObj 178 dx), (dx, od)] (.ref x) k → Q (.ref x) { s with heap := h', toks := tk' }) :
    wpAny (model Challenge.rw_on0259_01.row.prog w) (ktrTop dp un gd cn cs L a ccd cl outer) (call (.ref 208) [.int k t]) Q E s := by
  revert X
  k_fill
  intro X
  w_on
  w_strict (refine wpAny_call ?_; k_dflt ktr_enter; (repeat' (first | (k_unfold; (try dsimp only)) | (k_end; wrow_close) | ((with_reducible show wpAny _ _ (call _ _) _ _ _); first | (with_reducible ((with_reducible show wpAny _ _ (call (Value.builtin "len") [Value.ref _]) _ _ _); k_dflt (refine' my_len ?z6k1 ?z6k2 ?_; (case z6k1 => exact News.isList (by k_asm) (by k_mem)); (case z6k2 => ((try simp only [List.length_append, List.length_cons, List.length_nil, List.length_take, List.length_drop, List.length_dropLast]); omega)); k_whole)))) | walk1 | (dsimp only; walk1) | (dsimp only [List.nil_append, List.cons_append]; walk1) | (leave1; walk_say "STEP leave1"; try dsimp only))))
  · with_reducible rename ∀ q ∈ R, q.1 < _ => l1
    with_reducible rename @LT.lt Nat _ _ _ => l2
    exact ret _ _ _ _ _ (by k_asm) (by k_asm) (fun q hq => Nat.lt_trans (l1 q hq) l2) l1 ⟨_, _, _, _, _, _, _, _, _, _, _, rfl, .head _, .tail _ (.head _), .inl ⟨by assumption, rfl, rfl⟩⟩
  · with_reducible rename ∀ q ∈ R, q.1 < _ => l1
    with_reducible rename @LT.lt Nat _ _ _ => l2
    exact ret _ _ _ _ _ (by k_asm) (by k_asm) (fun q hq => Nat.lt_trans (l1 q hq) l2) l1 ⟨_, _, _, _, _, _, _, _, _, _, _, rfl, .head _, .tail _ (.head _), .inr ⟨by assumption, rfl, _, rfl⟩⟩
end
end P_S3
section P_L2
/-- a ledger that ends in R -/
inductive Tail (R : List (Addr × Obj)) : List (Addr × Obj) → (List (Addr × Obj) → List (Addr × Obj)) → Prop
  | head : Tail R R (fun R' => R')
  | tail {p r g} : Tail R r g → Tail R (p :: r) (fun R' => p :: g R')
theorem Tail.sub {R R' : List (Addr × Obj)} : ∀ {l : List (Addr × Obj)} {g : List (Addr × Obj) → List (Addr × Obj)}, Tail R l g → ∀ q ∈ g R', q ∈ R' ∨ q ∈ l
  | _, _, .head, _, h => .inl h
  | _, _, .tail t, q, h => by
    rcases List.mem_cons.mp h with rfl | h
    · exact .inr (.head _)
    · exact (t.sub q h).imp id fun x => .tail _ x
theorem Tail.has {R : List (Addr × Obj)} : ∀ {l : List (Addr × Obj)} {g : List (Addr × Obj) → List (Addr × Obj)}, Tail R l g → ∀ q ∈ R, q ∈ l
  | _, _, .head, _, h => h
  | _, _, .tail t, q, h => .tail _ (t.has q h)
theorem off1_of {D : Addr} {l : List (Addr × Obj)} (h : LCg.Off1 D l) : ∀ q ∈ l, @Ne Nat q.1 D := by
  induction l with
  | nil => intro q hq; cases hq
  | cons p l ih =>
    intro q hq
    rcases List.mem_cons.mp hq with e | hq
    · rw [e]; exact h.1
    · exact ih h.2 q hq
theorem ints_get : ∀ {vs : List Value} {ns : List Int} {i : Nat} {v : Value}, IntsAre vs ns → vs[i]? = some v → ∃ n t, v = .int n t ∧ ns[i]? = some n
  | _, _, _, _, .nil, h => by simp at h
  | _, _, 0, _, .cons n t _, h => ⟨n, t, by simpa using h.symm, rfl⟩
  | _, _, i + 1, _, .cons _ _ r, h => by
    obtain ⟨n, t, a, b⟩ := ints_get r (i := i) (by simpa using h)
    exact ⟨n, t, a, by simpa using b⟩
def ThElt (w : World) (s₁ : Shared) (h₀ : Heap) (L : Addr) (m : Str → Option Value) (I C D : Addr) (oI oC oD : Obj) (X : List (Addr × Obj)) (v : Int) (y : Value) (s₂ : Shared) : Prop :=
  ∃ x' dx' od' h' tk', s₂ = { s₁ with heap := h', toks := tk' } ∧ y = .ref x' ∧ Fr h₀ L h' m ∧ News h₀ L h' ((x', instObj 178 dx') :: (dx', od') :: (I, oI) :: (C, oC) :: (D, oD) :: X) ∧
        (∀ q ∈ (I, oI) :: (C, oC) :: (D, oD) :: X, @LT.lt Nat _ q.1 x') ∧ (∀ q ∈ (I, oI) :: (C, oC) :: (D, oD) :: X, @LT.lt Nat _ q.1 dx') ∧ ThingIn w [(x', instObj 178 dx'), (dx', od')] (.ref x') v
theorem lt3 {I C D x : Addr} {oI oC oD : Obj} {X : List (Addr × Obj)} (h : @LT.lt Nat _ I x ∧ @LT.lt Nat _ C x ∧ @LT.lt Nat _ D x ∧ AllLt x X) : ∀ q ∈ (I, oI) :: (C, oC) :: (D, oD) :: X, @LT.lt Nat _ q.1 x := by
  intro q hq
  rcases List.mem_cons.mp hq with rfl | hq
  · exact h.1
  rcases List.mem_cons.mp hq with rfl | hq
  · exact h.2.1
  rcases List.mem_cons.mp hq with rfl | hq
  · exact h.2.2.1
  exact tb_ltOf h.2.2.2 q hq
def ThJ (w : World) (ns : List Int) (news : List (Addr × Obj)) (i : Nat) (ys : List Value) (nx : List (Addr × Obj)) : Prop :=
  ∃ X, nx = X ++ news ∧ ThingsIn w X ys (ns.take i) ∧ ∀ q ∈ X, ∀ p ∈ news, @LT.lt Nat _ p.1 q.1
section
variable {prog : Program} {w : World} {A : Around} {E : Value → Shared → Prop} {s₁ : Shared} {h₀ : Heap} {L : Addr} {m : Str → Option Value} {env : Env}
/-- a comprehension that makes a thing of every int -/
theorem things_src {elt : Expr} {x : Str} {scope : Scope} {cl : List (Str × Addr)} {Q : Value → Shared → Prop} {ax : Addr} {vs : List Value} {ns : List Int} {k : Nat} {news R : List (Addr × Obj)} {g : List (Addr × Obj) → List (Addr × Obj)} {bs : List Addr}
    (hh : A.handled = none) (F : Fr h₀ L s₁.heap m) (N : News h₀ L s₁.heap news) (hm : (ax, listOf vs.toArray k) ∈ news) (hi : IntsAre vs ns) (hsz : ns.length ≤ 1000)
    (T : Tail R news g) (hb : ∀ q ∈ R, NeAll q.1 bs) (hbn : InAll news bs)
    (helt : ∀ v t I oI C oC D oD m₂ h tk X (E' : Value → Shared → Prop), LCg.NsObj oC m₂ → m₂ x = some (.int v t) → Fr h₀ L h m → News h₀ L h ((I, oI) :: (C, oC) :: (D, oD) :: X) →
      wpAny (model prog w) A (eval elt (compEnvC scope cl C env)) (ThElt w s₁ h₀ L m I C D oI oC oD X v) E' { s₁ with heap := h, toks := tk })
    (h : ∀ ys R₁ D h' tk, ThingsIn w R₁ ys ns → (∀ q ∈ R, q ∈ R₁) → (∀ q ∈ R₁, NeAll q.1 bs) → Fr h₀ L h' m → News h₀ L h' ((D, listOf ys.toArray ys.length) :: g R₁) → (∀ q ∈ g R₁, q.1 ≠ D) → Q (.ref D) { s₁ with heap := h', toks := tk }) :
    LCg.CompSrc prog w A h₀ L m env elt x scope cl (fun s₂ => LCg.FinE h₀ L m s₂ Q) (.ref ax) s₁ := by
  have hl : vs.length = ns.length := hi.length
  refine LCg.CompSrc.ledger hh F N hm (by rw [sizeLine_eq, List.size_toArray]; omega) fun g' => ?_
  refine compRest_inv (ThJ w ns news) (n := vs.toArray.size) ?_ ?_ _ 0 [] news (by simp) ⟨[], rfl, by simpa using ThingsIn.nil, fun _ hq => nomatch hq⟩
  · rintro i ys _ v I oI C oC D m₂ h tk E' hin hv ⟨X, rfl, HX, hX⟩ hN hx F' N' off ne
    obtain ⟨n, t, rfl, hn⟩ : ∃ n t, v = .int n t ∧ ns.take (i + 1) = ns.take i ++ [n] := by
      have hin' : i < vs.length := by simpa using hin
      have hv' : vs[i]? = some v := by simpa using hv
      obtain ⟨n, t, e, hn⟩ := ints_get hi hv'
      exact ⟨n, t, e, by rw [List.take_succ, hn]; rfl⟩
    refine wpAny_mono (helt n t I oI C oC D _ m₂ h tk _ E' hN hx F' N') (fun y s₂ ⟨x', dx', od', h', tk', e, ey, F₂, N₂, l1, l2, HT⟩ => ?_) fun _ _ e => e
    subst e ey
    have off' := off.mem
    refine LCg.CompEnd.intro F₂ N₂ ((x', instObj 178 dx') :: (dx', od') :: (X ++ news)) ?_ ?_ ?_ ?_
    · intro p hp
      simp only [List.mem_cons] at hp ⊢
      rcases hp with hp | hp | hp | hp | hp | hp <;> simp [hp]
    · refine LCg.Off3.of fun p hp => ?_
      rcases List.mem_cons.mp hp with rfl | hp
      · exact ⟨Nat.ne_of_gt (l1 (I, oI) (by simp)), Nat.ne_of_gt (l1 (C, oC) (by simp)), Nat.ne_of_gt (l1 (D, _) (by simp; exact .inr (.inr (.inl rfl))))⟩
      rcases List.mem_cons.mp hp with rfl | hp
      · exact ⟨Nat.ne_of_gt (l2 (I, oI) (by simp)), Nat.ne_of_gt (l2 (C, oC) (by simp)), Nat.ne_of_gt (l2 (D, _) (by simp; exact .inr (.inr (.inl rfl))))⟩
      · exact off' p hp
    · exact .inr ⟨_, .tail _ (.tail _ (List.mem_append_right _ hm)), rfl, _, rfl⟩
    · refine ⟨(x', instObj 178 dx') :: (dx', od') :: X, rfl, ?_, fun q hq p hp => ?_⟩
      · rw [hn]
        exact (HX.mono fun q hq => .tail _ (.tail _ hq)).append (.cons (HT.mono fun q hq => by
          rcases List.mem_cons.mp hq with rfl | hq
          · exact .head _
          · rcases List.mem_cons.mp hq with rfl | hq
            · exact .tail _ (.head _)
            · cases hq) .nil)
      · have hp' : p ∈ (I, oI) :: (C, oC) :: (D, LCg.lst ys) :: (X ++ news) := .tail _ (.tail _ (.tail _ (List.mem_append_right _ hp)))
        rcases List.mem_cons.mp hq with rfl | hq
        · exact l1 p hp'
        rcases List.mem_cons.mp hq with rfl | hq
        · exact l2 p hp'
        · exact hX q hq p hp
  · rintro ys _ ⟨X, rfl, HX, hX⟩ D h' tk F' N' o1
    have e : ns.take vs.toArray.size = ns := by rw [List.size_toArray, hl, List.take_length]
    rw [e] at HX
    have o1' := off1_of o1
    have sub : ∀ q ∈ g (X ++ R), q ∈ X ++ news := fun q hq => by
      rcases T.sub q hq with hq | hq
      · rcases List.mem_append.mp hq with hq | hq
        · exact List.mem_append_left _ hq
        · exact List.mem_append_right _ (T.has q hq)
      · exact List.mem_append_right _ hq
    refine h ys (X ++ R) D h' tk (HX.mono fun q hq => List.mem_append_left _ hq) (fun q hq => List.mem_append_right _ hq) (fun q hq => ?_) F' (fun q hq => ?_) fun q hq => o1' q (sub q hq)
    · rcases List.mem_append.mp hq with hq | hq
      · exact NeAll.of fun b hb' => by
          obtain ⟨ob, hob⟩ := hbn.one b hb'
          exact Nat.ne_of_gt (hX q hq _ hob)
      · exact hb q hq
    · rcases List.mem_cons.mp hq with rfl | hq
      · exact N' _ (.head _)
      · exact N' q (.tail _ (sub q hq))
end
theorem off_at3 {c1 d D l sd kp : Addr} {R : List (Addr × Obj)} (h : ∀ q ∈ R, NeAll q.1 [c1, d, D, l, sd, kp]) : ∀ q ∈ R, q.1 ≠ l := fun q hq => (h q hq).one _ (by simp)
section
variable {prog : Program} {w : World} {A : Around} {E : Value → Shared → Prop} {s : Shared}
theorem my_len_ints {l : Addr} {vs : List Value} {ns : List Int} {Q : Value → Shared → Prop} (hl : s.heap.IsList l vs.toArray) (hi : IntsAre vs ns) (hz : ns.length ≤ 1000) (h : vs.length = ns.length → Q (.int (vs.length : Int) (s.toks + 1)) { s with toks := s.toks + 1 + 1 }) :
    wpAny (model prog w) A (call (.builtin "len") [.ref l]) Q E s := my_len hl (by rw [hi.length]; exact hz) (h hi.length)
end
theorem TabInv.up {R R' : List (Addr × Obj)} {e : Addr × Obj} {ps : Array Value} (h : TabInv (e :: R) ps) (s : ∀ q ∈ R, q ∈ R') : TabInv (e :: R') ps := h.mono fun q hq => by
  rcases List.mem_cons.mp hq with rfl | hq
  · exact .head _
  · exact .tail _ (s q hq)
theorem pair_of {w : World} {R : List (Addr × Obj)} {vs ws : List Value} {ks : List Int} (h : ThingsIn w R vs ks) (h2 : IntsAre ws ks) : ∃ ks', ks' = ks ∧ ThingsIn w R vs ks' ∧ IntsAre ws ks' := ⟨ks, rfl, h, h2⟩
theorem roll_eq {α : Type} {v : Int} (own : List α) (h1 : 1 ≤ v) (hv : v ≤ own.length) :
    (own.take ((own.length : Int) - v).toNat ++ (own.drop ((own.length : Int) - 1).toNat).take v.toNat) ++ (own.drop ((own.length : Int) - v).toNat).take (min ((own.length : Int) - 1).toNat own.length - ((own.length : Int) - v).toNat)
      = own.take ((own.length : Int) - v).toNat ++ ((own.drop ((own.length : Int) - v).toNat).drop (v - 1).toNat ++ (own.drop ((own.length : Int) - v).toNat).take (v - 1).toNat) := by
  rw [List.append_assoc, List.drop_drop, List.take_of_length_le (l := own.drop ((own.length : Int) - 1).toNat) (by rw [List.length_drop]; omega)]
  have e1 : ((own.length : Int) - v).toNat + (v - 1).toNat = ((own.length : Int) - 1).toNat := by omega
  have e2 : min ((own.length : Int) - 1).toNat own.length - ((own.length : Int) - v).toNat = (v - 1).toNat := by omega
  rw [e1, e2]
theorem roll_one {α : Type} {v : Int} (own : List α) (h1 : v = 1) (hv : v ≤ own.length) :
    (own.take ((own.length : Int) - v).toNat ++ (own.drop ((own.length : Int) - 1).toNat).take v.toNat) ++ (own.drop ((own.length : Int) - v).toNat).take (min ((own.length : Int) - 1).toNat own.length - ((own.length : Int) - v).toNat) = own := by
  rw [roll_eq own (by omega) hv]
  subst h1
  rw [show ((1 : Int) - 1).toNat = 0 by decide, List.drop_zero, List.take_zero, List.append_nil, List.take_append_drop]
end P_L2
section P_L3
def NumElt (s₁ : Shared) (h₀ : Heap) (L : Addr) (m : Str → Option Value) (nw : List (Addr × Obj)) (k : Int) (y : Value) (s₂ : Shared) : Prop :=
  ∃ t h' tk', s₂ = { s₁ with heap := h', toks := tk' } ∧ y = .int k t ∧ Fr h₀ L h' m ∧ News h₀ L h' nw
theorem things_get {w : World} {R : List (Addr × Obj)} : ∀ {vs : List Value} {ns : List Int} {i : Nat} {v : Value}, ThingsIn w R vs ns → vs[i]? = some v → ∃ n, ThingIn w R v n ∧ ns[i]? = some n
  | _, _, _, _, .nil, h => by simp at h
  | _, _, 0, _, .cons t _, h => by
    simp only [List.getElem?_cons_zero, Option.some.injEq] at h
    subst h
    exact ⟨_, t, rfl⟩
  | _, _, i + 1, _, .cons _ r, h => by
    obtain ⟨n, a, b⟩ := things_get r (i := i) (by simpa using h)
    exact ⟨n, a, by simpa using b⟩
section
variable {prog : Program} {w : World} {A : Around} {E : Value → Shared → Prop} {s₁ : Shared} {h₀ : Heap} {L : Addr} {m : Str → Option Value} {env : Env}
/-- a comprehension that reads the number of every thing -/
theorem nums_src {elt : Expr} {x : Str} {scope : Scope} {cl : List (Str × Addr)} {Q : Value → Shared → Prop} {ax : Addr} {vs : List Value} {ns : List Int} {k : Nat} {news R : List (Addr × Obj)}
    (hh : A.handled = none) (F : Fr h₀ L s₁.heap m) (N : News h₀ L s₁.heap news) (hm : (ax, listOf vs.toArray k) ∈ news) (HT : ThingsIn w R vs ns) (hR : ∀ q ∈ R, q ∈ news) (hsz : ns.length ≤ 1000)
    (helt0 : ∀ y I oI C oC D oD m₂ h tk dx ka kb kc kd tki tx n (E' : Value → Shared → Prop), LCg.NsObj oC m₂ → m₂ x = some (.ref y) → Fr h₀ L h m → News h₀ L h ((y, instObj 178 dx) :: (dx, thgD w ka kb kc kd (Str.ofString "mark") tki .none tx n) :: (I, oI) :: (C, oC) :: (D, oD) :: news) →
      wpAny (model prog w) A (eval elt (compEnvC scope cl C env)) (NumElt s₁ h₀ L m ((y, instObj 178 dx) :: (dx, thgD w ka kb kc kd (Str.ofString "mark") tki .none tx n) :: (I, oI) :: (C, oC) :: (D, oD) :: news) 0) E' { s₁ with heap := h, toks := tk })
    (helt1 : ∀ v t y I oI C oC D oD m₂ h tk dx ka kb kc kd tki tx n (E' : Value → Shared → Prop), LCg.NsObj oC m₂ → m₂ x = some (.ref y) → Fr h₀ L h m → News h₀ L h ((y, instObj 178 dx) :: (dx, thgD w ka kb kc kd (Str.ofString "integer") tki (.int v t) tx n) :: (I, oI) :: (C, oC) :: (D, oD) :: news) →
      wpAny (model prog w) A (eval elt (compEnvC scope cl C env)) (NumElt s₁ h₀ L m ((y, instObj 178 dx) :: (dx, thgD w ka kb kc kd (Str.ofString "integer") tki (.int v t) tx n) :: (I, oI) :: (C, oC) :: (D, oD) :: news) v) E' { s₁ with heap := h, toks := tk })
    (h : ∀ ws D h' tk, IntsAre ws ns → Fr h₀ L h' m → News h₀ L h' ((D, listOf ws.toArray ws.length) :: news) → (∀ q ∈ news, @Ne Nat q.1 D) → Q (.ref D) { s₁ with heap := h', toks := tk }) :
    LCg.CompSrc prog w A h₀ L m env elt x scope cl (fun s₂ => LCg.FinE h₀ L m s₂ Q) (.ref ax) s₁ := by
  have hl : vs.length = ns.length := HT.length
  refine LCg.CompSrc.ledger hh F N hm (by rw [sizeLine_eq, List.size_toArray]; omega) fun g' => ?_
  refine compRest_inv (fun i ys nx => news = nx ∧ IntsAre ys (ns.take i)) (n := vs.toArray.size) ?_ ?_ _ 0 [] news (by simp) ⟨rfl, by simpa using IntsAre.nil⟩
  · rintro i ys nx v I oI C oC D m₂ h tk E' hin hv ⟨hnx, HX⟩ hN hx F' N' off ne
    obtain ⟨n, HV, hn⟩ : ∃ n, ThingIn w R v n ∧ ns.take (i + 1) = ns.take i ++ [n] := by
      have hv' : vs[i]? = some v := by simpa using hv
      obtain ⟨n, e, hn⟩ := things_get HT hv'
      exact ⟨n, e, by rw [List.take_add_one, hn]; rfl⟩
    subst hnx
    have done : ∀ e1 e2 y s₂, NumElt s₁ h₀ L m (e1 :: e2 :: (I, oI) :: (C, oC) :: (D, LCg.lst ys) :: news) n y s₂ → LCg.CompEnd h₀ L m { s₁ with heap := h, toks := tk } I oI C oC D (LCg.lst ys) (LCg.SrcAt h₀ ax vs.toArray) (fun y news' => news = news' ∧ IntsAre (ys ++ [y]) (ns.take (i + 1))) y s₂ := by
      rintro e1 e2 y s₂ ⟨t, h', tk', e, ey, F₂, N₂⟩
      subst e ey
      refine LCg.CompEnd.intro F₂ N₂ news ?_ off ?_ ?_
      · intro p hp; exact .tail _ (.tail _ hp)
      · exact .inr ⟨_, hm, rfl, _, rfl⟩
      · exact ⟨rfl, by rw [hn]; exact HX.append (.cons _ _ .nil)⟩
    have aug : ∀ {e1 e2 : Addr × Obj}, News h₀ L h ((I, oI) :: (C, oC) :: (D, LCg.lst ys) :: news) → e1 ∈ news → e2 ∈ news → News h₀ L h (e1 :: e2 :: (I, oI) :: (C, oC) :: (D, LCg.lst ys) :: news) := fun N' m1 m2 q hq => N' q (by
      rcases List.mem_cons.mp hq with rfl | hq
      · exact .tail _ (.tail _ (.tail _ m1))
      rcases List.mem_cons.mp hq with rfl | hq
      · exact .tail _ (.tail _ (.tail _ m2))
      exact hq)
    obtain ⟨y, dx, ka, kb, kc, kd, kind, tki, val, tx, nn, rfl, m1, m2, c⟩ := HV
    rcases c with ⟨rfl, rfl, rfl⟩ | ⟨_, rfl, t, rfl⟩
    · exact wpAny_mono (helt0 y I oI C oC D _ m₂ h tk dx ka kb kc kd tki tx nn E' hN hx F' (aug N' (hR _ m1) (hR _ m2))) (done _ _) fun _ _ e => e
    · exact wpAny_mono (helt1 n t y I oI C oC D _ m₂ h tk dx ka kb kc kd tki tx nn E' hN hx F' (aug N' (hR _ m1) (hR _ m2))) (done _ _) fun _ _ e => e
  · rintro ys nx ⟨hnx, HX⟩ D h' tk F' N' o1
    subst hnx
    have e : ns.take vs.toArray.size = ns := by rw [List.size_toArray, hl, List.take_length]
    rw [e] at HX
    exact h ys D h' tk HX F' N' (off1_of o1)
end
end P_L3
section P_LP
/-- an iterator of a range -/
abbrev iterO (x l s : Int) : Obj := { cls := .type "range_iterator", dict := none, data := .fields #[rawInt x, rawInt l, rawInt s], slots := #[] }
def IterLike (o : Obj) : Prop := ∃ x l s : Int, o = { cls := .type "range_iterator", dict := none, data := .fields #[rawInt x, rawInt l, rawInt s], slots := #[] }
def KeepsBut (R R' : List (Addr × Obj)) : Prop := ∀ q ∈ R, ¬ IterLike q.2 → q ∈ R'
theorem iter_inst {C d : Addr} : ¬ IterLike (instObj C d) := fun ⟨_, _, _, e⟩ => by
  have := congrArg Obj.cls e
  cases this
theorem iter_list {vs : Array Value} {n : Nat} : ¬ IterLike (listOf vs n) := fun ⟨_, _, _, e⟩ => by
  have := congrArg Obj.data e
  cases this
theorem iter_dict {es : List DictEntry} {n : Nat} : ¬ IterLike (dictOf es n) := fun ⟨_, _, _, e⟩ => by
  have := congrArg Obj.data e
  cases this
theorem iter_tup {vs : List Value} : ¬ IterLike (tupO vs) := fun ⟨_, _, _, e⟩ => by
  have := congrArg Obj.data e
  cases this
section
variable {w : World} {R R' : List (Addr × Obj)}
theorem ThingIn.keeps {v : Value} {k : Int} (h : KeepsBut R R') (t : ThingIn w R v k) : ThingIn w R' v k := by
  obtain ⟨x, dx, ka, kb, kc, kd, kind, tk, val, tx, n, e, m1, m2, r⟩ := t
  exact ⟨x, dx, ka, kb, kc, kd, kind, tk, val, tx, n, e, h _ m1 iter_inst, h _ m2 iter_dict, r⟩
theorem ThingsIn.keeps (h : KeepsBut R R') : ∀ {vs : List Value} {ks : List Int}, ThingsIn w R vs ks → ThingsIn w R' vs ks
  | _, _, .nil => .nil
  | _, _, .cons t r => .cons (t.keeps h) (r.keeps h)
theorem TabInv.keeps {ps : Array Value} (h : KeepsBut R R') (t : TabInv R ps) : TabInv R' ps :=
  ⟨t.1, fun pos => (t.2 pos).imp id fun ⟨c', oc, vs, t, a, b, c, e⟩ => ⟨c', oc, vs, t, a, h _ b (fun ⟨_, _, _, q⟩ => by
    simp only at q
    subst q
    cases c
    simp [rawInt] at e), c, e⟩⟩
end
section
variable {w : World} {d D it ol kp : Addr} {M most T : Int} {own : List Int} {ok : Obj} {R nw : List (Addr × Obj)} {h₀ h : Heap} {L I : Addr} {o : Obj}
theorem Wd.mem (W : Wd w d D it ol kp M most T own ok R nw) : ∀ q ∈ R, q ∈ nw := by
  obtain ⟨l, sd, o', ws, cells, n, nl, non, t1, t2, k1, k2, tm, vs, ows, ps, rfl, _⟩ := W
  intro q hq
  repeat (first | exact hq | apply List.mem_cons_of_mem)
theorem Wd.addI (W : Wd w d D it ol kp M most T own ok R nw) (hI : ∀ q ∈ nw, q.1 ≠ I) : ∃ nw', Wd w d D it ol kp M most T own ok ((I, o) :: R) nw' ∧ ∀ q ∈ nw', q = (I, o) ∨ q ∈ nw := by
  obtain ⟨l, sd, o', ws, cells, n, nl, non, t1, t2, k1, k2, tm, vs, ows, ps, rfl, hap, hoff, ho, hi, hl, TI, HT, HO, hom⟩ := W
  refine ⟨_, ⟨l, sd, o', ws, cells, n, nl, non, t1, t2, k1, k2, tm, vs, ows, ps, rfl, hap, ?_, ho, hi, hl, TI.mono fun q hq => .tail _ hq, HT.mono fun q hq => .tail _ hq, HO, hom⟩, ?_⟩
  · intro q hq
    rcases List.mem_cons.mp hq with rfl | hq
    · have e : ∀ b ob, (b, ob) ∈ (222, tabObj ps) :: (d, o') :: (D, listOf ws.toArray n) :: (l, listOf vs.toArray nl) :: (sd, stkD w k1 k2 most tm l 2) :: (it, instObj 156 sd) :: (ol, listOf ows.toArray non) :: (kp, ok) :: R → I ≠ b := fun b ob hb => (hI _ hb).symm
      exact ⟨e 222 (tabObj ps) (by simp), e d o' (by simp), e D _ (by repeat (first | exact List.mem_cons_self | apply List.mem_cons_of_mem)), e l _ (by repeat (first | exact List.mem_cons_self | apply List.mem_cons_of_mem)), e sd _ (by repeat (first | exact List.mem_cons_self | apply List.mem_cons_of_mem)), e kp ok (by repeat (first | exact List.mem_cons_self | apply List.mem_cons_of_mem)), trivial⟩
    · exact hoff q hq
  · intro q hq
    simp only [List.mem_cons] at hq ⊢
    rcases hq with h | h | h | h | h | h | h | h | h | h
    · exact .inr (.inl h)
    · exact .inr (.inr (.inl h))
    · exact .inr (.inr (.inr (.inl h)))
    · exact .inr (.inr (.inr (.inr (.inl h))))
    · exact .inr (.inr (.inr (.inr (.inr (.inl h)))))
    · exact .inr (.inr (.inr (.inr (.inr (.inr (.inl h))))))
    · exact .inr (.inr (.inr (.inr (.inr (.inr (.inr (.inl h)))))))
    · exact .inr (.inr (.inr (.inr (.inr (.inr (.inr (.inr (.inl h))))))))
    · exact .inl h
    · exact .inr (.inr (.inr (.inr (.inr (.inr (.inr (.inr (.inr h))))))))
theorem Wd.dropI (W : Wd w d D it ol kp M most T own ok R nw) (N : News h₀ L h nw) (hm : (I, o) ∈ R) (hi : IterLike o) :
    ∃ R' nw', Wd w d D it ol kp M most T own ok R' nw' ∧ KeepsBut R R' ∧ (∀ q ∈ R, q.1 ≠ I → q ∈ R') ∧ (∀ q ∈ nw', q ∈ nw) ∧ ∀ q ∈ nw', q.1 ≠ I := by
  have hmem := W.mem
  have hII := (N _ (hmem _ hm)).1
  have same : ∀ b ob, (b, ob) ∈ nw → ¬ IterLike ob → b ≠ I := fun b ob hb hn e => by
    have h1 := (N _ hb).1
    subst e
    rw [hII] at h1
    have h2 : o = ob := Option.some.inj h1
    exact hn (h2 ▸ hi)
  obtain ⟨l, sd, o', ws, cells, n, nl, non, t1, t2, k1, k2, tm, vs, ows, ps, rfl, hap, hoff, ho, hi', hl, TI, HT, HO, hom⟩ := W
  have kb : KeepsBut R (R.filter fun q => decide (q.1 ≠ I)) := fun q hq hn => List.mem_filter.mpr ⟨hq, decide_eq_true (same q.1 q.2 (hmem q hq) hn)⟩
  have nI := hoff _ hm
  have nIt : it ≠ I := same it (instObj 156 sd) (by repeat (first | exact List.mem_cons_self | apply List.mem_cons_of_mem)) iter_inst
  have nOl : ol ≠ I := same ol (listOf ows.toArray non) (by repeat (first | exact List.mem_cons_self | apply List.mem_cons_of_mem)) iter_list
  refine ⟨R.filter fun q => decide (q.1 ≠ I), _, ⟨l, sd, o', ws, cells, n, nl, non, t1, t2, k1, k2, tm, vs, ows, ps, rfl, hap, fun q hq => hoff q (List.mem_filter.mp hq).1, ho, hi', hl, TI.keeps kb, HT.keeps kb, HO, hom⟩, kb, fun q hq hne => List.mem_filter.mpr ⟨hq, decide_eq_true hne⟩, ?_, ?_⟩
  · intro q hq
    simp only [List.mem_cons] at hq ⊢
    rcases hq with h | h | h | h | h | h | h | h | h
    · exact .inl h
    · exact .inr (.inl h)
    · exact .inr (.inr (.inl h))
    · exact .inr (.inr (.inr (.inl h)))
    · exact .inr (.inr (.inr (.inr (.inl h))))
    · exact .inr (.inr (.inr (.inr (.inr (.inl h)))))
    · exact .inr (.inr (.inr (.inr (.inr (.inr (.inl h))))))
    · exact .inr (.inr (.inr (.inr (.inr (.inr (.inr (.inl h)))))))
    · exact .inr (.inr (.inr (.inr (.inr (.inr (.inr (.inr (List.mem_filter.mp h).1)))))))
  · obtain ⟨a1, a2, a3, a4, a5, a6, _⟩ := nI
    intro q hq
    simp only [List.mem_cons] at hq
    rcases hq with h | h | h | h | h | h | h | h | h
    · rw [h]; exact a1.symm
    · rw [h]; exact a2.symm
    · rw [h]; exact a3.symm
    · rw [h]; exact a4.symm
    · rw [h]; exact a5.symm
    · rw [h]; exact nIt
    · rw [h]; exact nOl
    · rw [h]; exact a6.symm
    · exact of_decide_eq_true (List.mem_filter.mp h).2
end
/-- what a turn leaves behind -/
def WdPost (w : World) (h₀ : Heap) (L d D it kp : Addr) (M most : Int) (R : List (Addr × Obj)) (K : (Str → Option Value) → Int → Addr → List Int → Obj → List (Addr × Obj) → Prop) (s₁ : Shared) (Q : Flow → Shared → Prop) (f : Flow) (s₂ : Shared) : Prop :=
  match f with
  | .ret v => Q (.ret v) s₂
  | .brk => Q .next s₂
  | _ => ∃ h' tk m' T ol own ok R' nw', s₂ = { s₁ with heap := h', toks := tk } ∧ Fr h₀ L h' m' ∧ News h₀ L h' nw' ∧ Wd w d D it ol kp M most T own ok R' nw' ∧ (∀ q ∈ R, q ∈ R') ∧ K m' T ol own ok R'
section
variable {prog : Program} {w : World} {A : Around} {E : Value → Shared → Prop} {s : Shared} {env : Env} {h₀ : Heap} {x : Str} {body : List Stmt} {Q : Flow → Shared → Prop}
theorem wd_range {r : Addr} {a₀ b₀ : Int} {t₀ u₀ v₀ : Tok} {n : Nat} {m₀ : Str → Option Value} {nw R R0 : List (Addr × Obj)} {d D it ol kp : Addr} {M most T : Int} {own : List Int} {ok : Obj}
    (K : Nat → (Str → Option Value) → Int → Addr → List Int → Obj → List (Addr × Obj) → Prop)
    (Kk : ∀ i m T ol own ok R R', KeepsBut R R' → K i m T ol own ok R → K i m T ol own ok R')
    (hh : A.handled = none) (hr : IsRange s.heap r a₀ b₀ 1 t₀ u₀ v₀) (hsmall : Builtin.Range.small a₀ b₀ 1 = true) (hn : Builtin.Range.rangeSize a₀ b₀ 1 = (n : Int))
    (F : Fr h₀ env.locals s.heap m₀) (N : News h₀ env.locals s.heap nw) (W : Wd w d D it ol kp M most T own ok R nw) (h0 : ∀ q ∈ R0, q ∈ R) (hk : K 0 m₀ T ol own ok R)
    (turn : ∀ i k t m₁ T ol own ok R nw h tk, i < n → (∀ q ∈ R0, q ∈ R) → K i m₁ T ol own ok R → Wd w d D it ol kp M most T own ok R nw → Fr h₀ env.locals h (fun y => if y = x then some (.int k t) else m₁ y) → News h₀ env.locals h nw →
      wpAny (model prog w) A (execs body env) (WdPost w h₀ env.locals d D it kp M most R (K (i + 1)) { s with heap := h, toks := tk } Q) E { s with heap := h, toks := tk })
    (done : ∀ m₁ T ol own ok R nw h tk, K n m₁ T ol own ok R → (∀ q ∈ R0, q ∈ R) → Wd w d D it ol kp M most T own ok R nw → Fr h₀ env.locals h m₁ → News h₀ env.locals h nw → Q .next { s with heap := h, toks := tk }) :
    wpAny (model prog w) A (pyIter (.ref r)) (fun it' s₂ => LoopAtV prog w A h₀ env x body Q E it' s₂) E s := by
  refine wpAny_pyIter_range hr hsmall ?_
  have Ww : Walks prog w A s.heap.objs.size [s.heap.objs.size] [s.heap.objs.size] n (fun i v => i < n ∧ ∃ t, v = .int (a₀ + i * 1) t)
      (fun i h => IsRangeIter h s.heap.objs.size (a₀ + (i : Nat) * 1) ((n : Int) - (i : Nat)) 1) := (Walks.range hh _ a₀ 1 n).bound
  refine ⟨_, _, _, n, _, _, m₀, nw, fun i m nx => ∃ T ol own ok R, Wd w d D it ol kp M most T own ok R nx ∧ (∀ q ∈ R0, q ∈ R) ∧ K i m T ol own ok R, rfl, Ww, ?_, ?_, ?_, (by show IsRangeIter _ _ _ _ _; rw [hn]; simpa using Heap.get?_push_size _ rfl), F.push _, (fun p hp => ⟨Heap.get?_push_of_some _ (N p hp).1, (N p hp).2⟩), ⟨T, ol, own, ok, R, W, h0, hk⟩, ?_, ?_⟩
  · intro hm
    exact absurd F.ns.lt ((List.mem_singleton.mp hm) ▸ Nat.lt_irrefl _)
  · intro b hb
    rw [List.mem_singleton.mp hb]
    exact next_is_new F
  · intro p hp hI
    exact absurd (Heap.lt_size (N p hp).1) ((List.mem_singleton.mp hI) ▸ Nat.lt_irrefl _)
  · rintro i v m₁ news₁ s₁ ow ⟨hh', tk', rfl⟩ hin ⟨_, t, rfl⟩ ⟨T, ol, own, ok, R, W1, h01, hK⟩ hoff hown hget hmem hst' F₁ N₁
    have hI : (s.heap.objs.size, iterO (a₀ + ((i + 1 : Nat) : Int) * 1) ((n : Int) - ((i + 1 : Nat) : Int)) 1) ∈ ow := hmem _ (List.mem_singleton.mpr rfl) (next_is_new F) _ hst'
    have off' : ∀ q ∈ news₁, q.1 ≠ s.heap.objs.size := fun q hq e => hoff q hq (List.mem_singleton.mpr e)
    obtain ⟨nw', W2, hs⟩ := W1.addI (I := s.heap.objs.size) (o := iterO (a₀ + ((i + 1 : Nat) : Int) * 1) ((n : Int) - ((i + 1 : Nat) : Int)) 1) off'
    have N₂ : News h₀ env.locals hh' nw' := fun q hq => N₁ q ((hs q hq).elim (fun e => List.mem_append_left _ (e ▸ hI)) fun e => List.mem_append_right _ e)
    refine wpAny_mono (turn i _ t m₁ T ol own ok _ nw' hh' tk' hin (fun q hq => .tail _ (h01 q hq)) (Kk _ _ _ _ _ _ _ _ (fun q hq _ => .tail _ hq) hK) W2 F₁ N₂) (fun f s₂ p => ?_) fun _ _ e => e
    have fin : (∃ h' tk m' T ol own ok R' nw₃, s₂ = { s with heap := h', toks := tk } ∧ Fr h₀ env.locals h' m' ∧ News h₀ env.locals h' nw₃ ∧ Wd w d D it ol kp M most T own ok R' nw₃ ∧ (∀ q ∈ (s.heap.objs.size, iterO (a₀ + ((i + 1 : Nat) : Int) * 1) ((n : Int) - ((i + 1 : Nat) : Int)) 1) :: R, q ∈ R') ∧ K (i + 1) m' T ol own ok R') →
        LoopStepU h₀ env.locals [s.heap.objs.size] ow (fun m nx => ∃ T ol own ok R, Wd w d D it ol kp M most T own ok R nx ∧ (∀ q ∈ R0, q ∈ R) ∧ K (i + 1) m T ol own ok R) { s with heap := hh', toks := tk' } .next s₂ := by
      rintro ⟨h', tk, m', T', ol', own', ok', R', nx', e, F', N', W', hs', hK'⟩
      have hmI := hs' _ (.head _)
      obtain ⟨R'', nx'', W'', kb, hb, sub, ne⟩ := W'.dropI N' hmI ⟨_, _, _, rfl⟩
      refine ⟨rfl, h', tk, m', nx'', e, F', fun q hq => ?_, fun q hq h1 => ne q hq (List.mem_singleton.mp h1), T', ol', own', ok', R'', W'', fun q hq => hb q (hs' q (.tail _ (h01 q hq))) (off' q (W1.mem q (h01 q hq))), Kk _ _ _ _ _ _ _ _ kb hK'⟩
      rcases List.mem_append.mp hq with hq | hq
      · have e1 := List.mem_singleton.mp (hown q hq)
        have e2 := hget q hq
        have e3 := hget _ hI
        have e4 : q = (s.heap.objs.size, iterO (a₀ + ((i + 1 : Nat) : Int) * 1) ((n : Int) - ((i + 1 : Nat) : Int)) 1) := by
          rw [e1] at e2
          have := e2.symm.trans e3
          exact Prod.ext e1 (Option.some.inj this)
        rw [e4]
        exact N' _ (W'.mem _ hmI)
      · exact N' q (sub q hq)
    cases f with
    | ret v => exact .ret p
    | brk => exact .brk p
    | next => exact .next (fin p)
    | cont => exact .cont (fin p)
  · rintro h' tk m' news' F' N' _ ⟨T, ol, own, ok, R, W', h01, hK⟩
    exact done m' T ol own ok R news' h' tk hK h01 W' F' N'
end
end P_LP
section Q_D
section P_S4
section
variable {prog : Program} {w : World} {A : Around} {E : Value → Shared → Prop} {s : Shared} {Q : Value → Shared → Prop}
theorem mod_one {b : Int} {t u : Tok} (hb : 2 ≤ b) (h : Q (.int 1 s.toks) { s with toks := s.toks + 1 }) : wpAny (model prog w) A (binaryOp .Mod (.int 1 t) (.int b u)) Q E s := by
  have e : (1 : Int).fmod b = 1 := by rw [Int.fmod_eq_emod_of_nonneg _ (by omega)]; exact Int.emod_eq_of_lt (by omega) (by omega)
  exact mod_int (by omega) (by rw [e]; exact h)
end
local macro_rules | `(tactic| walk_at "binaryOp Mod int int") => `(tactic| (k_here; (with_reducible show wpAny _ _ (binaryOp Operator.Mod (Value.int 1 _) (Value.int _ _)) _ _ _); refine mod_one (by omega) ?_))
section
variable {w : World} {p : Program} {loose : List Str} {mean : ExcName → Option Value} {mg mb : Str → Option Value} {dp un : Nat} {gd : Option (List Code)} {cn : Str} {cs : Scope} {L a : Addr} {ccd : Value} {cl : List (Str × Addr)} {outer : List Env} {A₀ : Around} {base h₀ : Heap} {m : Str → Option Value} {s : Shared} {Q E : Value → Shared → Prop}

theorem push_all_ok {it sd l b : Addr} {k1 k2 tm : Tok} {most : Int} {n nb : Nat} {vs ws : List Value} {R : List (Addr × Obj)}
    (B : Below A₀ base outer h₀) (F : Fr h₀ L s.heap m) (X : (hd.heap_1 w.params).In h₀) (TP : Top p loose mean mg mb h₀) (hk : cs.kind = .function) (hdp : dp + 1 < recursionLimit) (hun : un + 400 < cLine)
    (N : News h₀ L s.heap ((l, listOf vs.toArray n) :: (b, listOf ws.toArray nb) :: (sd, stkD w k1 k2 most tm l 2) :: (it, instObj 156 sd) :: R))
    (h1 : @Ne Nat sd l) (h2 : @Ne Nat it l) (h3 : @Ne Nat it sd) (h4 : @Ne Nat b l) (offl : ∀ p ∈ R, p.1 ≠ l)
    (hlen : vs.length ≤ 20) (hlen2 : ws.length ≤ 20) (hm : (vs.length : Int) + ws.length ≤ most)
    (ret : ∀ (n' : Nat) (h' : Heap) (tk' : Tok), Fr h₀ L h' m → News h₀ L h' ((l, listOf (vs ++ ws).toArray n') :: (b, listOf ws.toArray nb) :: (sd, stkD w k1 k2 most tm l 2) :: (it, instObj 156 sd) :: R) → Q .none { s with heap := h', toks := tk' }) :
    wpAny (model Challenge.rw_on0259_01.row.prog w) (ktrTop dp un gd cn cs L a ccd cl outer) (call (.ref 90) [.ref it, .ref b]) Q E s := by
  revert X
  k_fill
  intro X
  w_on
  w_strict (refine wpAny_call ?_; k_dflt ktr_enter; (repeat' (first | (k_unfold; (try dsimp only)) | (k_end; wrow_close) | ((with_reducible show wpAny _ _ (call _ _) _ _ _); first | (with_reducible ((with_reducible show wpAny _ _ (call (Value.ref 52) [_]) _ _ _); k_dflt (apply pserr_call; walk_at "s7"; walk_at "n2"); intro e' d' t' k' h' tk' F' N' l1 l2 l3; (try dsimp only [AllLt] at l1 l2 l3); (try k_sweep))) | (with_reducible ((with_reducible show wpAny _ _ (call (Value.ref 208) [_]) _ _ _); k_dflt (apply thing_call; walk_at "s7"; walk_at "n2"); intro x' dx' od' h' tk' F' N' l1 l2 hT'; (try k_lt l1); (try k_lt l2); (try k_sweep))) | (with_reducible ((with_reducible show wpAny _ _ (call (Value.builtin _) [Value.ref _]) _ _ _); k_dflt (refine' my_pop ?z18F ?z18N ?z18U ?z18e ?z18z ?_; (case z18F => k_asm); (case z18N => k_asm); (case z18U => k_updF); (case z18e => assumption); (case z18z => omega)); intro y' n' h' F' N'; (try dsimp only at N'); (try k_sweep))) | (with_reducible ((with_reducible show wpAny _ _ (call (Value.builtin _) [Value.ref _, Value.ref _]) _ _ _); k_dflt (refine' my_extend ?z17F ?z17N ?z17b ?z17U ?z17z ?_; (case z17F => k_asm); (case z17N => k_asm); (case z17b => k_mem); (case z17U => k_updF); (case z17z => walk_at "sz")); intro n' h' F' N'; (try dsimp only at N'); (try k_sweep))) | (with_reducible ((with_reducible show wpAny _ _ (call (Value.builtin "len") [Value.ref _]) _ _ _); k_dflt (refine' my_len ?z11k1 ?z11k2 ?_; (case z11k1 => exact News.isList (by k_asm) (by k_mem)); (case z11k2 => ((try simp only [List.length_append, List.length_cons, List.length_nil, List.length_take, List.length_drop, List.length_dropLast]); omega)); k_whole))) | (dsimp only [List.nil_append, List.cons_append]; first | (with_reducible ((with_reducible show wpAny _ _ (call (Value.builtin _) [Value.ref _]) _ _ _); k_dflt (refine' my_pop ?z20F ?z20N ?z20U ?z20e ?z20z ?_; (case z20F => k_asm); (case z20N => k_asm); (case z20U => k_updF); (case z20e => assumption); (case z20z => omega)); intro y' n' h' F' N'; (try dsimp only at N'); (try k_sweep))) | (with_reducible ((with_reducible show wpAny _ _ (call (Value.builtin _) [Value.ref _, Value.ref _]) _ _ _); k_dflt (refine' my_extend ?z21F ?z21N ?z21b ?z21U ?z21z ?_; (case z21F => k_asm); (case z21N => k_asm); (case z21b => k_mem); (case z21U => k_updF); (case z21z => walk_at "sz")); intro n' h' F' N'; (try dsimp only at N'); (try k_sweep))))) | ((with_reducible show wpAny _ _ (callWith _ _ _ _ _) _ _ _); first | (with_reducible ((with_reducible show wpAny _ _ (callWith _ (Value.ref (OfNat.ofNat _)) _ _ _) _ _ _); k_dflt (first | refine' callWith_K ?z12k1 ?z12k2 ?_; (case z12k1 => k_asm); (case z12k2 => k_is); k_whole | refine' callWith_K0 ?z12k1 ?z12k2 ?_; (case z12k1 => k_in); (case z12k2 => k_is); k_whole | (refine' callWith_M0 ?z12k1 ?z12k2 ?_; (case z12k1 => k_meth); (case z12k2 => k_is); k_whole; try dsimp only [List.nil_append, List.cons_append]) | refine' callWith_M ?z12k1 ?z12k2 ?z12k3 ?z12k4 ?_; (case z12k1 => k_asm); (case z12k2 => k_asm); (case z12k3 => k_mem); (case z12k4 => k_is); k_whole)))) | (with_reducible ((with_reducible show wpAny _ _ (eval (PySem.Expr.Lambda _ _ _ _) _) _ _ _); kn_here; k_dflt (refine' kla_eval ?z13d0 ?_; (case z13d0 => exact rfl)); (with_reducible rename TabInv _ _ => TI'); k_dflt (refine' lam_both ?z13F ?z13N ?z13T ?z13C ?z13cd ?z13U TI' ?z13q ?z13R ?z13b ?z13bn ?z13cl ?_; (case z13F => k_asm); (case z13N => k_asm); (case z13T => k_asm); (case z13cd => exact rfl); (case z13C => kn_code); (case z13U => k_updF); (case z13q => exact rfl); (case z13R => (intro q9 hq9; repeat (first | assumption | apply List.mem_cons_of_mem))); (case z13b => assumption); (case z13bn => (repeat' (first | exact True.intro | refine And.intro ⟨_, by (repeat (first | (with_reducible exact List.mem_cons_self) | apply List.mem_cons_of_mem))⟩ ?_))); (case z13cl => exact rfl); k_whole); intro f' c' oc' vs' t' ct' ps' h' tk' F' N' d1' d2' l1 l2 hc' TJ'; (try dsimp only at N'); (try k_lt l1); k_dflt (obtain ⟨_, _, _, _, _, _, _⟩ := hc'))) | ((with_reducible show wpAny _ _ (getAttr _ _ _) _ _ _); first | (with_reducible ((with_reducible show wpAny _ _ (getAttr (Value.ref _) (PySem.Str.ofString "told") _) _ _ _); k_dflt (refine' exc_told (K := hd.heap_1 _) ?z14X (exc_inst ?z14N ?z14m1 ?z14m2 ?z14c ?z14d) ?z14a ?z14b ?z14q ?z14f1 ?z14f2 ?z14f3 ?z14f4 ?z14h ?_; (case z14N => k_asm); (case z14m1 => k_mem); (case z14c => assumption); (case z14d => assumption); (case z14m2 => k_mem); (case z14X => k_in); (case z14a => k_is); (case z14b => k_is); (case z14q => k_is); (case z14f1 => k_is); (case z14f2 => k_is); (case z14f3 => k_is); (case z14f4 => k_get); (case z14h => exact rfl); k_whole)))) | ((with_reducible show wpAny _ _ (subscriptTail _ _ _ _) _ _ _); first | (with_reducible ((with_reducible show wpAny _ _ (subscriptTail _ (PySem.Expr.Slice _ _ none _) (Value.ref _) (Value.ref _)) _ _ _); k_dflt (refine' kmk_slice_lit ?z15F ?z15N ?z15l ?z15p ?z15q ?z15e ?_ ?z15s ?z15t ?z15z; (case z15F => k_asm); (case z15N => k_asm); (case z15l => exact News.isList (by k_asm) (by k_mem)); (case z15p => kmk_part); (case z15q => kmk_part); (case z15e => first | exact pk_all | exact pk_upto (by omega) | exact pk_from (by omega) | exact pk_run (by omega) (by omega) | exact pk_upto_neg (by omega)); (case z15s => with_unfolding_all rfl); (case z15t => kmk_pure); (case z15z => size_fits)); intro D' h' F' N' l1; (try k_lt l1); (try k_sweep)))) | ((with_reducible show wpAny _ _ (binaryOp _ _ _) _ _ _); first | (with_reducible ((with_reducible show wpAny _ _ (binaryOp _ (Value.ref _) (Value.ref _)) _ _ _); k_dflt (refine' my_add ?z16F ?z16N ?z16a ?z16b ?_ ?z16z; (case z16F => k_asm); (case z16N => k_asm); (case z16a => exact News.isList (by k_asm) (by k_mem)); (case z16b => exact News.isList (by k_asm) (by k_mem)); (case z16z => walk_at "sz")); intro D' h' F' N' l1; (try k_lt l1); (try k_sweep)))) | ((with_reducible show wpAny _ _ (compareOp _ _ _) _ _ _); first | (with_reducible ((with_reducible show wpAny _ _ (compareOp CmpOp.Eq (Value.ref _) (Value.ref _)) _ _ _); k_dflt (refine' eq_empty ?z19a ?z19b ?z19e ?z19u ?_; (case z19a => exact News.isList (by k_asm) (by k_mem)); (case z19b => exact News.isList (by k_asm) (by k_mem)); (case z19e => exact rfl); (case z19u => ktr_units))))) | walk1 | (dsimp only; walk1) | (dsimp only [List.nil_append, List.cons_append]; walk1) | (leave1; walk_say "STEP leave1"; try dsimp only))))
  exact ret _ _ _ (by k_asm) (by k_asm)

theorem rolled_ok {it sd l : Addr} {k1 k2 tm tk tb : Tok} {most many : Int} {n : Nat} {vs : List Value} {R : List (Addr × Obj)}
    (B : Below A₀ base outer h₀) (F : Fr h₀ L s.heap m) (X : (hd.heap_1 w.params).In h₀) (TP : Top p loose mean mg mb h₀) (hk : cs.kind = .function) (hdp : dp + 3 < recursionLimit) (hun : un + 400 < cLine)
    (N : News h₀ L s.heap ((l, listOf vs.toArray n) :: (sd, stkD w k1 k2 most tm l 2) :: (it, instObj 156 sd) :: R))
    (h1 : @Ne Nat sd l) (h2 : @Ne Nat it l) (h3 : @Ne Nat it sd) (offl : ∀ p ∈ R, p.1 ≠ l) (offd : ∀ p ∈ R, p.1 ≠ sd)
    (hlen : vs.length ≤ 20) (hm0 : 2 ≤ many) (hm2 : many ≤ vs.length)
    (ret : ∀ (l' : Addr) (n' : Nat) (h' : Heap) (tk' : Tok), Fr h₀ L h' m → @LT.lt Nat _ l l' → @LT.lt Nat _ sd l' → @LT.lt Nat _ it l' → AllLt l' R →
      News h₀ L h' ((l', listOf (vs.take ((vs.length : Int) - many).toNat ++ ((vs.drop ((vs.length : Int) - many).toNat).drop (many - 1).toNat ++ (vs.drop ((vs.length : Int) - many).toNat).take (many - 1).toNat)).toArray n') :: (sd, stkD w k1 k2 most tm l' 2) :: (it, instObj 156 sd) :: R) → Q .none { s with heap := h', toks := tk' }) :
    wpAny (model Challenge.rw_on0259_01.row.prog w) (ktrTop dp un gd cn cs L a ccd cl outer) (call (.ref 132) [.ref it, .int many tk, .int 1 tb]) Q E s := by
  revert X
  k_fill
  intro X
  w_on
  w_strict (refine wpAny_call ?_; k_dflt ktr_enter; (repeat' (first | (k_unfold; (try dsimp only)) | (k_end; wrow_close) | ((with_reducible show wpAny _ _ (call _ _) _ _ _); first | (with_reducible ((with_reducible show wpAny _ _ (call (Value.ref 52) [_]) _ _ _); k_dflt (apply pserr_call; walk_at "s7"; walk_at "n2"); intro e' d' t' k' h' tk' F' N' l1 l2 l3; (try dsimp only [AllLt] at l1 l2 l3); (try k_sweep))) | (with_reducible ((with_reducible show wpAny _ _ (call (Value.ref 208) [_]) _ _ _); k_dflt (apply thing_call; walk_at "s7"; walk_at "n2"); intro x' dx' od' h' tk' F' N' l1 l2 hT'; (try k_lt l1); (try k_lt l2); (try k_sweep))) | (with_reducible ((with_reducible show wpAny _ _ (call (Value.builtin _) [Value.ref _]) _ _ _); k_dflt (refine' my_pop ?z29F ?z29N ?z29U ?z29e ?z29z ?_; (case z29F => k_asm); (case z29N => k_asm); (case z29U => k_updF); (case z29e => assumption); (case z29z => omega)); intro y' n' h' F' N'; (try dsimp only at N'); (try k_sweep))) | (with_reducible ((with_reducible show wpAny _ _ (call (Value.builtin _) [Value.ref _, Value.ref _]) _ _ _); k_dflt (refine' my_extend ?z28F ?z28N ?z28b ?z28U ?z28z ?_; (case z28F => k_asm); (case z28N => k_asm); (case z28b => k_mem); (case z28U => k_updF); (case z28z => walk_at "sz")); intro n' h' F' N'; (try dsimp only at N'); (try k_sweep))) | (with_reducible ((with_reducible show wpAny _ _ (call (Value.builtin "len") [Value.ref _]) _ _ _); k_dflt (refine' my_len ?z22k1 ?z22k2 ?_; (case z22k1 => exact News.isList (by k_asm) (by k_mem)); (case z22k2 => ((try simp only [List.length_append, List.length_cons, List.length_nil, List.length_take, List.length_drop, List.length_dropLast]); omega)); k_whole))) | (dsimp only [List.nil_append, List.cons_append]; first | (with_reducible ((with_reducible show wpAny _ _ (call (Value.builtin _) [Value.ref _]) _ _ _); k_dflt (refine' my_pop ?z31F ?z31N ?z31U ?z31e ?z31z ?_; (case z31F => k_asm); (case z31N => k_asm); (case z31U => k_updF); (case z31e => assumption); (case z31z => omega)); intro y' n' h' F' N'; (try dsimp only at N'); (try k_sweep))) | (with_reducible ((with_reducible show wpAny _ _ (call (Value.builtin _) [Value.ref _, Value.ref _]) _ _ _); k_dflt (refine' my_extend ?z32F ?z32N ?z32b ?z32U ?z32z ?_; (case z32F => k_asm); (case z32N => k_asm); (case z32b => k_mem); (case z32U => k_updF); (case z32z => walk_at "sz")); intro n' h' F' N'; (try dsimp only at N'); (try k_sweep))))) | ((with_reducible show wpAny _ _ (callWith _ _ _ _ _) _ _ _); first | (with_reducible ((with_reducible show wpAny _ _ (callWith _ (Value.ref (OfNat.ofNat _)) _ _ _) _ _ _); k_dflt (first | refine' callWith_K ?z23k1 ?z23k2 ?_; (case z23k1 => k_asm); (case z23k2 => k_is); k_whole | refine' callWith_K0 ?z23k1 ?z23k2 ?_; (case z23k1 => k_in); (case z23k2 => k_is); k_whole | (refine' callWith_M0 ?z23k1 ?z23k2 ?_; (case z23k1 => k_meth); (case z23k2 => k_is); k_whole; try dsimp only [List.nil_append, List.cons_append]) | refine' callWith_M ?z23k1 ?z23k2 ?z23k3 ?z23k4 ?_; (case z23k1 => k_asm); (case z23k2 => k_asm); (case z23k3 => k_mem); (case z23k4 => k_is); k_whole)))) | (with_reducible ((with_reducible show wpAny _ _ (eval (PySem.Expr.Lambda _ _ _ _) _) _ _ _); kn_here; k_dflt (refine' kla_eval ?z24d0 ?_; (case z24d0 => exact rfl)); (with_reducible rename TabInv _ _ => TI'); k_dflt (refine' lam_both ?z24F ?z24N ?z24T ?z24C ?z24cd ?z24U TI' ?z24q ?z24R ?z24b ?z24bn ?z24cl ?_; (case z24F => k_asm); (case z24N => k_asm); (case z24T => k_asm); (case z24cd => exact rfl); (case z24C => kn_code); (case z24U => k_updF); (case z24q => exact rfl); (case z24R => (intro q9 hq9; repeat (first | assumption | apply List.mem_cons_of_mem))); (case z24b => assumption); (case z24bn => (repeat' (first | exact True.intro | refine And.intro ⟨_, by (repeat (first | (with_reducible exact List.mem_cons_self) | apply List.mem_cons_of_mem))⟩ ?_))); (case z24cl => exact rfl); k_whole); intro f' c' oc' vs' t' ct' ps' h' tk' F' N' d1' d2' l1 l2 hc' TJ'; (try dsimp only at N'); (try k_lt l1); k_dflt (obtain ⟨_, _, _, _, _, _, _⟩ := hc'))) | ((with_reducible show wpAny _ _ (getAttr _ _ _) _ _ _); first | (with_reducible ((with_reducible show wpAny _ _ (getAttr (Value.ref _) (PySem.Str.ofString "told") _) _ _ _); k_dflt (refine' exc_told (K := hd.heap_1 _) ?z25X (exc_inst ?z25N ?z25m1 ?z25m2 ?z25c ?z25d) ?z25a ?z25b ?z25q ?z25f1 ?z25f2 ?z25f3 ?z25f4 ?z25h ?_; (case z25N => k_asm); (case z25m1 => k_mem); (case z25c => assumption); (case z25d => assumption); (case z25m2 => k_mem); (case z25X => k_in); (case z25a => k_is); (case z25b => k_is); (case z25q => k_is); (case z25f1 => k_is); (case z25f2 => k_is); (case z25f3 => k_is); (case z25f4 => k_get); (case z25h => exact rfl); k_whole)))) | ((with_reducible show wpAny _ _ (subscriptTail _ _ _ _) _ _ _); first | (with_reducible ((with_reducible show wpAny _ _ (subscriptTail _ (PySem.Expr.Slice _ _ none _) (Value.ref _) (Value.ref _)) _ _ _); k_dflt (refine' kmk_slice_lit ?z26F ?z26N ?z26l ?z26p ?z26q ?z26e ?_ ?z26s ?z26t ?z26z; (case z26F => k_asm); (case z26N => k_asm); (case z26l => exact News.isList (by k_asm) (by k_mem)); (case z26p => kmk_part); (case z26q => kmk_part); (case z26e => first | exact pk_all | exact pk_upto (by omega) | exact pk_from (by omega) | exact pk_run (by omega) (by omega) | exact pk_upto_neg (by omega)); (case z26s => with_unfolding_all rfl); (case z26t => kmk_pure); (case z26z => size_fits)); intro D' h' F' N' l1; (try k_lt l1); (try k_sweep)))) | ((with_reducible show wpAny _ _ (binaryOp _ _ _) _ _ _); first | (with_reducible ((with_reducible show wpAny _ _ (binaryOp _ (Value.ref _) (Value.ref _)) _ _ _); k_dflt (refine' my_add ?z27F ?z27N ?z27a ?z27b ?_ ?z27z; (case z27F => k_asm); (case z27N => k_asm); (case z27a => exact News.isList (by k_asm) (by k_mem)); (case z27b => exact News.isList (by k_asm) (by k_mem)); (case z27z => walk_at "sz")); intro D' h' F' N' l1; (try k_lt l1); (try k_sweep)))) | ((with_reducible show wpAny _ _ (compareOp _ _ _) _ _ _); first | (with_reducible ((with_reducible show wpAny _ _ (compareOp CmpOp.Eq (Value.ref _) (Value.ref _)) _ _ _); k_dflt (refine' eq_empty ?z30a ?z30b ?z30e ?z30u ?_; (case z30a => exact News.isList (by k_asm) (by k_mem)); (case z30b => exact News.isList (by k_asm) (by k_mem)); (case z30e => exact rfl); (case z30u => ktr_units))))) | walk1 | (dsimp only; walk1) | (dsimp only [List.nil_append, List.cons_append]; walk1) | (leave1; walk_say "STEP leave1"; try dsimp only))))
  refine' ret ?z1 ?z2 ?z3 ?z4 ?zF ?za ?zb ?zc ?zd ?zN
  case zN => refine' cb_drop ?cbN ?cbS; (case cbN => k_asm); (case cbS => kcj_all)
  case zF => k_asm
  case zd => tbn_find
  all_goals omega

theorem rolled_low {it sd l : Addr} {k1 k2 tm tk tb : Tok} {most many : Int} {n : Nat} {vs : List Value} {R : List (Addr × Obj)}
    (B : Below A₀ base outer h₀) (F : Fr h₀ L s.heap m) (X : (hd.heap_1 w.params).In h₀) (TP : Top p loose mean mg mb h₀) (hk : cs.kind = .function) (hdp : dp + 3 < recursionLimit) (hun : un + 400 < cLine)
    (N : News h₀ L s.heap ((l, listOf vs.toArray n) :: (sd, stkD w k1 k2 most tm l 2) :: (it, instObj 156 sd) :: R))
    (hlen : vs.length ≤ 20) (hm0 : 0 ≤ many) (hm1 : many ≤ 1) (hm2 : many ≤ vs.length)
    (ret : ∀ (h' : Heap) (tk' : Tok), Fr h₀ L h' m → News h₀ L h' ((l, listOf vs.toArray n) :: (sd, stkD w k1 k2 most tm l 2) :: (it, instObj 156 sd) :: R) → Q .none { s with heap := h', toks := tk' }) :
    wpAny (model Challenge.rw_on0259_01.row.prog w) (ktrTop dp un gd cn cs L a ccd cl outer) (call (.ref 132) [.ref it, .int many tk, .int 1 tb]) Q E s := by
  revert X
  k_fill
  intro X
  w_on
  w_strict (refine wpAny_call ?_; k_dflt ktr_enter; (repeat' (first | (k_unfold; (try dsimp only)) | (k_end; wrow_close) | ((with_reducible show wpAny _ _ (call _ _) _ _ _); first | (with_reducible ((with_reducible show wpAny _ _ (call (Value.ref 52) [_]) _ _ _); k_dflt (apply pserr_call; walk_at "s7"; walk_at "n2"); intro e' d' t' k' h' tk' F' N' l1 l2 l3; (try dsimp only [AllLt] at l1 l2 l3); (try k_sweep))) | (with_reducible ((with_reducible show wpAny _ _ (call (Value.ref 208) [_]) _ _ _); k_dflt (apply thing_call; walk_at "s7"; walk_at "n2"); intro x' dx' od' h' tk' F' N' l1 l2 hT'; (try k_lt l1); (try k_lt l2); (try k_sweep))) | (with_reducible ((with_reducible show wpAny _ _ (call (Value.builtin _) [Value.ref _]) _ _ _); k_dflt (refine' my_pop ?z40F ?z40N ?z40U ?z40e ?z40z ?_; (case z40F => k_asm); (case z40N => k_asm); (case z40U => k_updF); (case z40e => assumption); (case z40z => omega)); intro y' n' h' F' N'; (try dsimp only at N'); (try k_sweep))) | (with_reducible ((with_reducible show wpAny _ _ (call (Value.builtin _) [Value.ref _, Value.ref _]) _ _ _); k_dflt (refine' my_extend ?z39F ?z39N ?z39b ?z39U ?z39z ?_; (case z39F => k_asm); (case z39N => k_asm); (case z39b => k_mem); (case z39U => k_updF); (case z39z => walk_at "sz")); intro n' h' F' N'; (try dsimp only at N'); (try k_sweep))) | (with_reducible ((with_reducible show wpAny _ _ (call (Value.builtin "len") [Value.ref _]) _ _ _); k_dflt (refine' my_len ?z33k1 ?z33k2 ?_; (case z33k1 => exact News.isList (by k_asm) (by k_mem)); (case z33k2 => ((try simp only [List.length_append, List.length_cons, List.length_nil, List.length_take, List.length_drop, List.length_dropLast]); omega)); k_whole))) | (dsimp only [List.nil_append, List.cons_append]; first | (with_reducible ((with_reducible show wpAny _ _ (call (Value.builtin _) [Value.ref _]) _ _ _); k_dflt (refine' my_pop ?z42F ?z42N ?z42U ?z42e ?z42z ?_; (case z42F => k_asm); (case z42N => k_asm); (case z42U => k_updF); (case z42e => assumption); (case z42z => omega)); intro y' n' h' F' N'; (try dsimp only at N'); (try k_sweep))) | (with_reducible ((with_reducible show wpAny _ _ (call (Value.builtin _) [Value.ref _, Value.ref _]) _ _ _); k_dflt (refine' my_extend ?z43F ?z43N ?z43b ?z43U ?z43z ?_; (case z43F => k_asm); (case z43N => k_asm); (case z43b => k_mem); (case z43U => k_updF); (case z43z => walk_at "sz")); intro n' h' F' N'; (try dsimp only at N'); (try k_sweep))))) | ((with_reducible show wpAny _ _ (callWith _ _ _ _ _) _ _ _); first | (with_reducible ((with_reducible show wpAny _ _ (callWith _ (Value.ref (OfNat.ofNat _)) _ _ _) _ _ _); k_dflt (first | refine' callWith_K ?z34k1 ?z34k2 ?_; (case z34k1 => k_asm); (case z34k2 => k_is); k_whole | refine' callWith_K0 ?z34k1 ?z34k2 ?_; (case z34k1 => k_in); (case z34k2 => k_is); k_whole | (refine' callWith_M0 ?z34k1 ?z34k2 ?_; (case z34k1 => k_meth); (case z34k2 => k_is); k_whole; try dsimp only [List.nil_append, List.cons_append]) | refine' callWith_M ?z34k1 ?z34k2 ?z34k3 ?z34k4 ?_; (case z34k1 => k_asm); (case z34k2 => k_asm); (case z34k3 => k_mem); (case z34k4 => k_is); k_whole)))) | (with_reducible ((with_reducible show wpAny _ _ (eval (PySem.Expr.Lambda _ _ _ _) _) _ _ _); kn_here; k_dflt (refine' kla_eval ?z35d0 ?_; (case z35d0 => exact rfl)); (with_reducible rename TabInv _ _ => TI'); k_dflt (refine' lam_both ?z35F ?z35N ?z35T ?z35C ?z35cd ?z35U TI' ?z35q ?z35R ?z35b ?z35bn ?z35cl ?_; (case z35F => k_asm); (case z35N => k_asm); (case z35T => k_asm); (case z35cd => exact rfl); (case z35C => kn_code); (case z35U => k_updF); (case z35q => exact rfl); (case z35R => (intro q9 hq9; repeat (first | assumption | apply List.mem_cons_of_mem))); (case z35b => assumption); (case z35bn => (repeat' (first | exact True.intro | refine And.intro ⟨_, by (repeat (first | (with_reducible exact List.mem_cons_self) | apply List.mem_cons_of_mem))⟩ ?_))); (case z35cl => exact rfl); k_whole); intro f' c' oc' vs' t' ct' ps' h' tk' F' N' d1' d2' l1 l2 hc' TJ'; (try dsimp only at N'); (try k_lt l1); k_dflt (obtain ⟨_, _, _, _, _, _, _⟩ := hc'))) | ((with_reducible show wpAny _ _ (getAttr _ _ _) _ _ _); first | (with_reducible ((with_reducible show wpAny _ _ (getAttr (Value.ref _) (PySem.Str.ofString "told") _) _ _ _); k_dflt (refine' exc_told (K := hd.heap_1 _) ?z36X (exc_inst ?z36N ?z36m1 ?z36m2 ?z36c ?z36d) ?z36a ?z36b ?z36q ?z36f1 ?z36f2 ?z36f3 ?z36f4 ?z36h ?_; (case z36N => k_asm); (case z36m1 => k_mem); (case z36c => assumption); (case z36d => assumption); (case z36m2 => k_mem); (case z36X => k_in); (case z36a => k_is); (case z36b => k_is); (case z36q => k_is); (case z36f1 => k_is); (case z36f2 => k_is); (case z36f3 => k_is); (case z36f4 => k_get); (case z36h => exact rfl); k_whole)))) | ((with_reducible show wpAny _ _ (subscriptTail _ _ _ _) _ _ _); first | (with_reducible ((with_reducible show wpAny _ _ (subscriptTail _ (PySem.Expr.Slice _ _ none _) (Value.ref _) (Value.ref _)) _ _ _); k_dflt (refine' kmk_slice_lit ?z37F ?z37N ?z37l ?z37p ?z37q ?z37e ?_ ?z37s ?z37t ?z37z; (case z37F => k_asm); (case z37N => k_asm); (case z37l => exact News.isList (by k_asm) (by k_mem)); (case z37p => kmk_part); (case z37q => kmk_part); (case z37e => first | exact pk_all | exact pk_upto (by omega) | exact pk_from (by omega) | exact pk_run (by omega) (by omega) | exact pk_upto_neg (by omega)); (case z37s => with_unfolding_all rfl); (case z37t => kmk_pure); (case z37z => size_fits)); intro D' h' F' N' l1; (try k_lt l1); (try k_sweep)))) | ((with_reducible show wpAny _ _ (binaryOp _ _ _) _ _ _); first | (with_reducible ((with_reducible show wpAny _ _ (binaryOp _ (Value.ref _) (Value.ref _)) _ _ _); k_dflt (refine' my_add ?z38F ?z38N ?z38a ?z38b ?_ ?z38z; (case z38F => k_asm); (case z38N => k_asm); (case z38a => exact News.isList (by k_asm) (by k_mem)); (case z38b => exact News.isList (by k_asm) (by k_mem)); (case z38z => walk_at "sz")); intro D' h' F' N' l1; (try k_lt l1); (try k_sweep)))) | ((with_reducible show wpAny _ _ (compareOp _ _ _) _ _ _); first | (with_reducible ((with_reducible show wpAny _ _ (compareOp CmpOp.Eq (Value.ref _) (Value.ref _)) _ _ _); k_dflt (refine' eq_empty ?z41a ?z41b ?z41e ?z41u ?_; (case z41a => exact News.isList (by k_asm) (by k_mem)); (case z41b => exact News.isList (by k_asm) (by k_mem)); (case z41e => exact rfl); (case z41u => ktr_units))))) | walk1 | (dsimp only; walk1) | (dsimp only [List.nil_append, List.cons_append]; walk1) | (leave1; walk_say "STEP leave1"; try dsimp only))))
  exact ret _ _ (by k_asm) (by refine' cb_drop ?cbN ?cbS; (case cbN => assumption); (case cbS => kcj_all))

theorem pick4 {nw r1 r2 r3 R : List (Addr × Obj)} {i sd l b : Addr × Obj} {h : Heap} (N : News h₀ L h nw) (P1 : Pick i nw r1) (P2 : Pick sd r1 r2) (P3 : Pick l r2 r3) (P4 : Pick b r3 R) : News h₀ L h (l :: b :: sd :: i :: R) := fun q hq =>
  P1.news N q (by
    rcases List.mem_cons.mp hq with rfl | hq
    · exact .tail _ (P2.all _ (.tail _ (P3.all _ (.head _))))
    rcases List.mem_cons.mp hq with rfl | hq
    · exact .tail _ (P2.all _ (.tail _ (P3.all _ (.tail _ (P4.all _ (.head _))))))
    rcases List.mem_cons.mp hq with rfl | hq
    · exact .tail _ (P2.all _ (.head _))
    rcases List.mem_cons.mp hq with rfl | hq
    · exact .head _
    exact .tail _ (P2.all _ (.tail _ (P3.all _ (.tail _ (P4.all _ (.tail _ hq)))))))
theorem pick3 {nw r1 r2 R : List (Addr × Obj)} {i sd l : Addr × Obj} {h : Heap} (N : News h₀ L h nw) (P1 : Pick i nw r1) (P2 : Pick sd r1 r2) (P3 : Pick l r2 R) : News h₀ L h (l :: sd :: i :: R) := fun q hq =>
  P1.news N q (by
    rcases List.mem_cons.mp hq with rfl | hq
    · exact .tail _ (P2.all _ (.tail _ (P3.all _ (.head _))))
    rcases List.mem_cons.mp hq with rfl | hq
    · exact .tail _ (P2.all _ (.head _))
    rcases List.mem_cons.mp hq with rfl | hq
    · exact .head _
    exact .tail _ (P2.all _ (.tail _ (P3.all _ (.tail _ hq)))))
theorem push_all_use {it sd l b : Addr} {k1 k2 tm : Tok} {most : Int} {n nb : Nat} {vs ws : List Value} {nw r1 r2 r3 R : List (Addr × Obj)}
    (B : Below A₀ base outer h₀) (F : Fr h₀ L s.heap m) (X : (hd.heap_1 w.params).In h₀) (TP : Top p loose mean mg mb h₀) (hk : cs.kind = .function) (hdp : dp + 3 < recursionLimit) (hun : un + 400 < cLine)
    (N : News h₀ L s.heap nw) (P1 : Pick (it, instObj 156 sd) nw r1) (P2 : Pick (sd, stkD w k1 k2 most tm l 2) r1 r2) (P3 : Pick (l, listOf vs.toArray n) r2 r3) (P4 : Pick (b, listOf ws.toArray nb) r3 R)
    (h1 : @Ne Nat sd l) (h2 : @Ne Nat it l) (h3 : @Ne Nat it sd) (h4 : @Ne Nat b l) (offl : ∀ p ∈ R, p.1 ≠ l)
    (hlen : vs.length ≤ 20) (hlen2 : ws.length ≤ 20) (hm : (vs.length : Int) + ws.length ≤ most)
    (ret : ∀ (n' : Nat) (h' : Heap) (tk' : Tok), Fr h₀ L h' m → News h₀ L h' ((l, listOf (vs ++ ws).toArray n') :: (b, listOf ws.toArray nb) :: (sd, stkD w k1 k2 most tm l 2) :: (it, instObj 156 sd) :: R) → Q .none { s with heap := h', toks := tk' }) :
    wpAny (model Challenge.rw_on0259_01.row.prog w) (ktrTop dp un gd cn cs L a ccd cl outer) (call (.ref 90) [.ref it, .ref b]) Q E s :=
  push_all_ok B F X TP hk (by omega) hun (pick4 N P1 P2 P3 P4) h1 h2 h3 h4 offl hlen hlen2 hm ret
theorem rolled_use {it sd l : Addr} {k1 k2 tm tk tb : Tok} {most many : Int} {n : Nat} {vs : List Value} {nw r1 r2 R : List (Addr × Obj)}
    (B : Below A₀ base outer h₀) (F : Fr h₀ L s.heap m) (X : (hd.heap_1 w.params).In h₀) (TP : Top p loose mean mg mb h₀) (hk : cs.kind = .function) (hdp : dp + 3 < recursionLimit) (hun : un + 400 < cLine)
    (N : News h₀ L s.heap nw) (P1 : Pick (it, instObj 156 sd) nw r1) (P2 : Pick (sd, stkD w k1 k2 most tm l 2) r1 r2) (P3 : Pick (l, listOf vs.toArray n) r2 R)
    (h1 : @Ne Nat sd l) (h2 : @Ne Nat it l) (h3 : @Ne Nat it sd) (offl : ∀ p ∈ R, p.1 ≠ l) (offd : ∀ p ∈ R, p.1 ≠ sd)
    (hlen : vs.length ≤ 20) (hm0 : 2 ≤ many) (hm2 : many ≤ vs.length)
    (ret : ∀ (l' : Addr) (n' : Nat) (h' : Heap) (tk' : Tok), Fr h₀ L h' m → @LT.lt Nat _ l l' → @LT.lt Nat _ sd l' → @LT.lt Nat _ it l' → AllLt l' R →
      News h₀ L h' ((l', listOf (vs.take ((vs.length : Int) - many).toNat ++ ((vs.drop ((vs.length : Int) - many).toNat).drop (many - 1).toNat ++ (vs.drop ((vs.length : Int) - many).toNat).take (many - 1).toNat)).toArray n') :: (sd, stkD w k1 k2 most tm l' 2) :: (it, instObj 156 sd) :: R) → Q .none { s with heap := h', toks := tk' }) :
    wpAny (model Challenge.rw_on0259_01.row.prog w) (ktrTop dp un gd cn cs L a ccd cl outer) (call (.ref 132) [.ref it, .int many tk, .int 1 tb]) Q E s :=
  rolled_ok B F X TP hk hdp hun (pick3 N P1 P2 P3) h1 h2 h3 offl offd hlen hm0 hm2 ret
theorem rolled_low_use {it sd l : Addr} {k1 k2 tm tk tb : Tok} {most many : Int} {n : Nat} {vs : List Value} {nw r1 r2 R : List (Addr × Obj)}
    (B : Below A₀ base outer h₀) (F : Fr h₀ L s.heap m) (X : (hd.heap_1 w.params).In h₀) (TP : Top p loose mean mg mb h₀) (hk : cs.kind = .function) (hdp : dp + 3 < recursionLimit) (hun : un + 400 < cLine)
    (N : News h₀ L s.heap nw) (P1 : Pick (it, instObj 156 sd) nw r1) (P2 : Pick (sd, stkD w k1 k2 most tm l 2) r1 r2) (P3 : Pick (l, listOf vs.toArray n) r2 R)
    (hlen : vs.length ≤ 20) (hm0 : 0 ≤ many) (hm1 : many ≤ 1) (hm2 : many ≤ vs.length)
    (ret : ∀ (h' : Heap) (tk' : Tok), Fr h₀ L h' m → News h₀ L h' ((l, listOf vs.toArray n) :: (sd, stkD w k1 k2 most tm l 2) :: (it, instObj 156 sd) :: R) → Q .none { s with heap := h', toks := tk' }) :
    wpAny (model Challenge.rw_on0259_01.row.prog w) (ktrTop dp un gd cn cs L a ccd cl outer) (call (.ref 132) [.ref it, .int many tk, .int 1 tb]) Q E s :=
  rolled_low B F X TP hk hdp hun (pick3 N P1 P2 P3) hlen hm0 hm1 hm2 ret
/-- ahead of push_all: it fits, or it does not -/
theorem split90 {it sd l b : Addr} {k1 k2 tm : Tok} {most : Int} {n nb : Nat} {vs ws : List Value} {nw r1 r2 r3 R : List (Addr × Obj)} {h : Heap} {G : Prop} (_ : News h₀ L h nw) (_ : Pick (it, instObj 156 sd) nw r1) (_ : Pick (sd, stkD w k1 k2 most tm l 2) r1 r2) (_ : Pick (l, listOf vs.toArray n) r2 r3) (_ : Pick (b, listOf ws.toArray nb) r3 R)
    (g1 : (vs.length : Int) + ws.length ≤ most → G) (g2 : most < (vs.length : Int) + ws.length → G) : G := by
  by_cases q : (vs.length : Int) + ws.length ≤ most
  · exact g1 q
  · exact g2 (by omega)
theorem split132 {prog : Program} {A : Around} {it sd l : Addr} {k1 k2 tm tk tb : Tok} {most many : Int} {n : Nat} {vs : List Value} {nw r1 r2 R : List (Addr × Obj)} {h : Heap} (_ : News h₀ L h nw) (_ : Pick (it, instObj 156 sd) nw r1) (_ : Pick (sd, stkD w k1 k2 most tm l 2) r1 r2) (_ : Pick (l, listOf vs.toArray n) r2 R)
    (sa : many ≤ vs.length → many ≤ 1 → wpAny (model prog w) A (call (.ref 132) [.ref it, .int many tk, .int 1 tb]) Q E s) (sb : many ≤ vs.length → 2 ≤ many → wpAny (model prog w) A (call (.ref 132) [.ref it, .int many tk, .int 1 tb]) Q E s) (sc : (vs.length : Int) < many → wpAny (model prog w) A (call (.ref 132) [.ref it, .int many tk, .int 1 tb]) Q E s) :
    wpAny (model prog w) A (call (.ref 132) [.ref it, .int many tk, .int 1 tb]) Q E s := by
  by_cases q : many ≤ vs.length
  · by_cases q2 : many ≤ 1
    · exact sa q q2
    · exact sb q (by omega)
  · exact sc (by omega)
end
end P_S4
section P_S5
local macro_rules | `(tactic| walk_at "eval ListComp") => `(tactic| (k_here; k_dflt (refine LCg.ListComp_U (F₀ := by k_asm) (by with_unfolding_all rfl) (by decide) (by rfl) (by decide) (by rfl) ?_)))
section
variable {w : World} {p : Program} {loose : List Str} {mean : ExcName → Option Value} {mg mb : Str → Option Value} {dp un : Nat} {gd : Option (List Code)} {cn : Str} {cs : Scope} {L a : Addr} {ccd : Value} {cl : List (Str × Addr)} {outer : List Env} {A₀ : Around} {base h₀ : Heap} {m : Str → Option Value} {s : Shared} {Q E : Value → Shared → Prop}

theorem pick_mem {nw r : List (Addr × Obj)} {x : Addr × Obj} (P : Pick x nw r) : ∀ q ∈ nw, q = x ∨ q ∈ r := by
  induction P with
  | head => intro q hq; exact List.mem_cons.mp hq
  | tail _ ih => intro q hq; rcases List.mem_cons.mp hq with rfl | hq; exact .inr (.head _); exact (ih q hq).imp id (.tail _)
theorem pick3b {nw r1 r2 R : List (Addr × Obj)} {i sd l z : Addr × Obj} {h : Heap} (N : News h₀ L h (z :: l :: sd :: i :: R)) (P1 : Pick i nw r1) (P2 : Pick sd r1 r2) (P3 : Pick l r2 R) : News h₀ L h nw := fun q hq =>
  N q (by
    rcases pick_mem P1 q hq with rfl | hq
    · exact .tail _ (.tail _ (.tail _ (.head _)))
    rcases pick_mem P2 q hq with rfl | hq
    · exact .tail _ (.tail _ (.head _))
    rcases pick_mem P3 q hq with rfl | hq
    · exact .tail _ (.head _)
    exact .tail _ (.tail _ (.tail _ (.tail _ hq))))
theorem numbers_ok {it sd l : Addr} {k1 k2 tm : Tok} {most : Int} {n : Nat} {vs : List Value} {ns : List Int} {R R0 : List (Addr × Obj)}
    (B : Below A₀ base outer h₀) (F : Fr h₀ L s.heap m) (X : (hd.heap_1 w.params).In h₀) (TP : Top p loose mean mg mb h₀) (hk : cs.kind = .function) (hdp : dp + 6 < recursionLimit) (hun : un + 400 < cLine)
    (N : News h₀ L s.heap ((l, listOf vs.toArray n) :: (sd, stkD w k1 k2 most tm l 2) :: (it, instObj 156 sd) :: R))
    (HT : ThingsIn w R0 vs ns) (hR : ∀ q ∈ R0, q ∈ R) (hlen : ns.length ≤ 20)
    (ret : ∀ (D : Addr) (ws : List Value) (n' : Nat) (h' : Heap) (tk' : Tok), IntsAre ws ns → Fr h₀ L h' m → News h₀ L h' ((D, listOf ws.toArray n') :: (l, listOf vs.toArray n) :: (sd, stkD w k1 k2 most tm l 2) :: (it, instObj 156 sd) :: R) → Q (.ref D) { s with heap := h', toks := tk' }) :
    wpAny (model Challenge.rw_on0259_01.row.prog w) (ktrTop dp un gd cn cs L a ccd cl outer) (call (.ref 213) [.ref it]) Q E s := by
  have hvl : vs.length = ns.length := HT.length
  have hlt : vs.length ≤ 20 := by omega
  revert X
  k_fill
  intro X
  w_on
  w_strict (refine wpAny_call ?_; k_dflt ktr_enter; (repeat' (first | (k_unfold; (try dsimp only)) | (k_end; wrow_close) | ((with_reducible show wpAny _ _ (call _ _) _ _ _); first | (with_reducible ((with_reducible show wpAny _ _ (call (Value.ref 52) [_]) _ _ _); k_dflt (apply pserr_call; walk_at "s7"; walk_at "n2"); intro e' d' t' k' h' tk' F' N' l1 l2 l3; (try dsimp only [AllLt] at l1 l2 l3); (try k_sweep))) | (with_reducible ((with_reducible show wpAny _ _ (call (Value.ref 208) [_]) _ _ _); k_dflt (apply thing_call; walk_at "s7"; walk_at "n2"); intro x' dx' od' h' tk' F' N' l1 l2 hT'; (try k_lt l1); (try k_lt l2); (try k_sweep))) | (with_reducible ((with_reducible show wpAny _ _ (call (Value.builtin _) [Value.ref _]) _ _ _); k_dflt (refine' my_pop ?z62F ?z62N ?z62U ?z62e ?z62z ?_; (case z62F => k_asm); (case z62N => k_asm); (case z62U => k_updF); (case z62e => assumption); (case z62z => omega)); intro y' n' h' F' N'; (try dsimp only at N'); (try k_sweep))) | (with_reducible ((with_reducible show wpAny _ _ (call (Value.builtin _) [Value.ref _, Value.ref _]) _ _ _); k_dflt (refine' my_extend ?z61F ?z61N ?z61b ?z61U ?z61z ?_; (case z61F => k_asm); (case z61N => k_asm); (case z61b => k_mem); (case z61U => k_updF); (case z61z => walk_at "sz")); intro n' h' F' N'; (try dsimp only at N'); (try k_sweep))) | (with_reducible ((with_reducible show wpAny _ _ (call (Value.builtin "len") [Value.ref _]) _ _ _); k_dflt (refine' my_len ?z55k1 ?z55k2 ?_; (case z55k1 => exact News.isList (by k_asm) (by k_mem)); (case z55k2 => ((try simp only [List.length_append, List.length_cons, List.length_nil, List.length_take, List.length_drop, List.length_dropLast]); omega)); k_whole))) | (dsimp only [List.nil_append, List.cons_append]; first | (with_reducible ((with_reducible show wpAny _ _ (call (Value.builtin _) [Value.ref _]) _ _ _); k_dflt (refine' my_pop ?z64F ?z64N ?z64U ?z64e ?z64z ?_; (case z64F => k_asm); (case z64N => k_asm); (case z64U => k_updF); (case z64e => assumption); (case z64z => omega)); intro y' n' h' F' N'; (try dsimp only at N'); (try k_sweep))) | (with_reducible ((with_reducible show wpAny _ _ (call (Value.builtin _) [Value.ref _, Value.ref _]) _ _ _); k_dflt (refine' my_extend ?z65F ?z65N ?z65b ?z65U ?z65z ?_; (case z65F => k_asm); (case z65N => k_asm); (case z65b => k_mem); (case z65U => k_updF); (case z65z => walk_at "sz")); intro n' h' F' N'; (try dsimp only at N'); (try k_sweep))))) | ((with_reducible show wpAny _ _ (callWith _ _ _ _ _) _ _ _); first | (with_reducible ((with_reducible show wpAny _ _ (callWith _ (Value.ref (OfNat.ofNat _)) _ _ _) _ _ _); k_dflt (first | refine' callWith_K ?z56k1 ?z56k2 ?_; (case z56k1 => k_asm); (case z56k2 => k_is); k_whole | refine' callWith_K0 ?z56k1 ?z56k2 ?_; (case z56k1 => k_in); (case z56k2 => k_is); k_whole | (refine' callWith_M0 ?z56k1 ?z56k2 ?_; (case z56k1 => k_meth); (case z56k2 => k_is); k_whole; try dsimp only [List.nil_append, List.cons_append]) | refine' callWith_M ?z56k1 ?z56k2 ?z56k3 ?z56k4 ?_; (case z56k1 => k_asm); (case z56k2 => k_asm); (case z56k3 => k_mem); (case z56k4 => k_is); k_whole)))) | (with_reducible ((with_reducible show wpAny _ _ (eval (PySem.Expr.Lambda _ _ _ _) _) _ _ _); kn_here; k_dflt (refine' kla_eval ?z57d0 ?_; (case z57d0 => exact rfl)); (with_reducible rename TabInv _ _ => TI'); k_dflt (refine' lam_both ?z57F ?z57N ?z57T ?z57C ?z57cd ?z57U TI' ?z57q ?z57R ?z57b ?z57bn ?z57cl ?_; (case z57F => k_asm); (case z57N => k_asm); (case z57T => k_asm); (case z57cd => exact rfl); (case z57C => kn_code); (case z57U => k_updF); (case z57q => exact rfl); (case z57R => (intro q9 hq9; repeat (first | assumption | apply List.mem_cons_of_mem))); (case z57b => assumption); (case z57bn => (repeat' (first | exact True.intro | refine And.intro ⟨_, by (repeat (first | (with_reducible exact List.mem_cons_self) | apply List.mem_cons_of_mem))⟩ ?_))); (case z57cl => exact rfl); k_whole); intro f' c' oc' vs' t' ct' ps' h' tk' F' N' d1' d2' l1 l2 hc' TJ'; (try dsimp only at N'); (try k_lt l1); k_dflt (obtain ⟨_, _, _, _, _, _, _⟩ := hc'))) | ((with_reducible show wpAny _ _ (getAttr _ _ _) _ _ _); first | (with_reducible ((with_reducible show wpAny _ _ (getAttr (Value.ref _) (PySem.Str.ofString "told") _) _ _ _); k_dflt (refine' exc_told (K := hd.heap_1 _) ?z58X (exc_inst ?z58N ?z58m1 ?z58m2 ?z58c ?z58d) ?z58a ?z58b ?z58q ?z58f1 ?z58f2 ?z58f3 ?z58f4 ?z58h ?_; (case z58N => k_asm); (case z58m1 => k_mem); (case z58c => assumption); (case z58d => assumption); (case z58m2 => k_mem); (case z58X => k_in); (case z58a => k_is); (case z58b => k_is); (case z58q => k_is); (case z58f1 => k_is); (case z58f2 => k_is); (case z58f3 => k_is); (case z58f4 => k_get); (case z58h => exact rfl); k_whole)))) | ((with_reducible show wpAny _ _ (subscriptTail _ _ _ _) _ _ _); first | (with_reducible ((with_reducible show wpAny _ _ (subscriptTail _ (PySem.Expr.Slice _ _ none _) (Value.ref _) (Value.ref _)) _ _ _); k_dflt (refine' kmk_slice_lit ?z59F ?z59N ?z59l ?z59p ?z59q ?z59e ?_ ?z59s ?z59t ?z59z; (case z59F => k_asm); (case z59N => k_asm); (case z59l => exact News.isList (by k_asm) (by k_mem)); (case z59p => kmk_part); (case z59q => kmk_part); (case z59e => first | exact pk_all | exact pk_upto (by omega) | exact pk_from (by omega) | exact pk_run (by omega) (by omega) | exact pk_upto_neg (by omega)); (case z59s => with_unfolding_all rfl); (case z59t => kmk_pure); (case z59z => size_fits)); intro D' h' F' N' l1; (try k_lt l1); (try k_sweep)))) | ((with_reducible show wpAny _ _ (binaryOp _ _ _) _ _ _); first | (with_reducible ((with_reducible show wpAny _ _ (binaryOp _ (Value.ref _) (Value.ref _)) _ _ _); k_dflt (refine' my_add ?z60F ?z60N ?z60a ?z60b ?_ ?z60z; (case z60F => k_asm); (case z60N => k_asm); (case z60a => exact News.isList (by k_asm) (by k_mem)); (case z60b => exact News.isList (by k_asm) (by k_mem)); (case z60z => walk_at "sz")); intro D' h' F' N' l1; (try k_lt l1); (try k_sweep)))) | ((with_reducible show wpAny _ _ (compareOp _ _ _) _ _ _); first | (with_reducible ((with_reducible show wpAny _ _ (compareOp CmpOp.Eq (Value.ref _) (Value.ref _)) _ _ _); k_dflt (refine' eq_empty ?z63a ?z63b ?z63e ?z63u ?_; (case z63a => exact News.isList (by k_asm) (by k_mem)); (case z63b => exact News.isList (by k_asm) (by k_mem)); (case z63e => exact rfl); (case z63u => ktr_units))))) | walk1 | (dsimp only; walk1) | (dsimp only [List.nil_append, List.cons_append]; walk1) | (leave1; walk_say "STEP leave1"; try dsimp only))))
  refine' nums_src ?qhh ?qF ?qN ?qm (HT.drop _) ?qR ?qz ?q0 ?q1 ?qq
  case qhh => exact rfl
  case qF => k_asm
  case qN => k_asm
  case qm => k_mem
  case qR => intro q hq; have := hR q hq; (repeat (first | assumption | apply List.mem_cons_of_mem))
  case qz => simp only [List.length_drop]; omega
  case q0 =>
    intro y9 I9 oI9 C9 oC9 D9 oD9 m9 h9 tk9 dx9 ka kb kc kd tki tx n9 E9 hN9 hx9 F9 N9
    (repeat' (first | (k_unfold; (try dsimp only)) | (k_end; wrow_close) | ((with_reducible show wpAny _ _ (call _ _) _ _ _); first | (with_reducible ((with_reducible show wpAny _ _ (call (Value.ref 52) [_]) _ _ _); k_dflt (apply pserr_call; walk_at "s7"; walk_at "n2"); intro e' d' t' k' h' tk' F' N' l1 l2 l3; (try dsimp only [AllLt] at l1 l2 l3); (try k_sweep))) | (with_reducible ((with_reducible show wpAny _ _ (call (Value.ref 208) [_]) _ _ _); k_dflt (apply thing_call; walk_at "s7"; walk_at "n2"); intro x' dx' od' h' tk' F' N' l1 l2 hT'; (try k_lt l1); (try k_lt l2); (try k_sweep))) | (with_reducible ((with_reducible show wpAny _ _ (call (Value.builtin _) [Value.ref _]) _ _ _); k_dflt (refine' my_pop ?z73F ?z73N ?z73U ?z73e ?z73z ?_; (case z73F => k_asm); (case z73N => k_asm); (case z73U => k_updF); (case z73e => assumption); (case z73z => omega)); intro y' n' h' F' N'; (try dsimp only at N'); (try k_sweep))) | (with_reducible ((with_reducible show wpAny _ _ (call (Value.builtin _) [Value.ref _, Value.ref _]) _ _ _); k_dflt (refine' my_extend ?z72F ?z72N ?z72b ?z72U ?z72z ?_; (case z72F => k_asm); (case z72N => k_asm); (case z72b => k_mem); (case z72U => k_updF); (case z72z => walk_at "sz")); intro n' h' F' N'; (try dsimp only at N'); (try k_sweep))) | (with_reducible ((with_reducible show wpAny _ _ (call (Value.builtin "len") [Value.ref _]) _ _ _); k_dflt (refine' my_len ?z66k1 ?z66k2 ?_; (case z66k1 => exact News.isList (by k_asm) (by k_mem)); (case z66k2 => ((try simp only [List.length_append, List.length_cons, List.length_nil, List.length_take, List.length_drop, List.length_dropLast]); omega)); k_whole))) | (dsimp only [List.nil_append, List.cons_append]; first | (with_reducible ((with_reducible show wpAny _ _ (call (Value.builtin _) [Value.ref _]) _ _ _); k_dflt (refine' my_pop ?z75F ?z75N ?z75U ?z75e ?z75z ?_; (case z75F => k_asm); (case z75N => k_asm); (case z75U => k_updF); (case z75e => assumption); (case z75z => omega)); intro y' n' h' F' N'; (try dsimp only at N'); (try k_sweep))) | (with_reducible ((with_reducible show wpAny _ _ (call (Value.builtin _) [Value.ref _, Value.ref _]) _ _ _); k_dflt (refine' my_extend ?z76F ?z76N ?z76b ?z76U ?z76z ?_; (case z76F => k_asm); (case z76N => k_asm); (case z76b => k_mem); (case z76U => k_updF); (case z76z => walk_at "sz")); intro n' h' F' N'; (try dsimp only at N'); (try k_sweep))))) | ((with_reducible show wpAny _ _ (callWith _ _ _ _ _) _ _ _); first | (with_reducible ((with_reducible show wpAny _ _ (callWith _ (Value.ref (OfNat.ofNat _)) _ _ _) _ _ _); k_dflt (first | refine' callWith_K ?z67k1 ?z67k2 ?_; (case z67k1 => k_asm); (case z67k2 => k_is); k_whole | refine' callWith_K0 ?z67k1 ?z67k2 ?_; (case z67k1 => k_in); (case z67k2 => k_is); k_whole | (refine' callWith_M0 ?z67k1 ?z67k2 ?_; (case z67k1 => k_meth); (case z67k2 => k_is); k_whole; try dsimp only [List.nil_append, List.cons_append]) | refine' callWith_M ?z67k1 ?z67k2 ?z67k3 ?z67k4 ?_; (case z67k1 => k_asm); (case z67k2 => k_asm); (case z67k3 => k_mem); (case z67k4 => k_is); k_whole)))) | (with_reducible ((with_reducible show wpAny _ _ (eval (PySem.Expr.Lambda _ _ _ _) _) _ _ _); kn_here; k_dflt (refine' kla_eval ?z68d0 ?_; (case z68d0 => exact rfl)); (with_reducible rename TabInv _ _ => TI'); k_dflt (refine' lam_both ?z68F ?z68N ?z68T ?z68C ?z68cd ?z68U TI' ?z68q ?z68R ?z68b ?z68bn ?z68cl ?_; (case z68F => k_asm); (case z68N => k_asm); (case z68T => k_asm); (case z68cd => exact rfl); (case z68C => kn_code); (case z68U => k_updF); (case z68q => exact rfl); (case z68R => (intro q9 hq9; repeat (first | assumption | apply List.mem_cons_of_mem))); (case z68b => assumption); (case z68bn => (repeat' (first | exact True.intro | refine And.intro ⟨_, by (repeat (first | (with_reducible exact List.mem_cons_self) | apply List.mem_cons_of_mem))⟩ ?_))); (case z68cl => exact rfl); k_whole); intro f' c' oc' vs' t' ct' ps' h' tk' F' N' d1' d2' l1 l2 hc' TJ'; (try dsimp only at N'); (try k_lt l1); k_dflt (obtain ⟨_, _, _, _, _, _, _⟩ := hc'))) | ((with_reducible show wpAny _ _ (getAttr _ _ _) _ _ _); first | (with_reducible ((with_reducible show wpAny _ _ (getAttr (Value.ref _) (PySem.Str.ofString "told") _) _ _ _); k_dflt (refine' exc_told (K := hd.heap_1 _) ?z69X (exc_inst ?z69N ?z69m1 ?z69m2 ?z69c ?z69d) ?z69a ?z69b ?z69q ?z69f1 ?z69f2 ?z69f3 ?z69f4 ?z69h ?_; (case z69N => k_asm); (case z69m1 => k_mem); (case z69c => assumption); (case z69d => assumption); (case z69m2 => k_mem); (case z69X => k_in); (case z69a => k_is); (case z69b => k_is); (case z69q => k_is); (case z69f1 => k_is); (case z69f2 => k_is); (case z69f3 => k_is); (case z69f4 => k_get); (case z69h => exact rfl); k_whole)))) | ((with_reducible show wpAny _ _ (subscriptTail _ _ _ _) _ _ _); first | (with_reducible ((with_reducible show wpAny _ _ (subscriptTail _ (PySem.Expr.Slice _ _ none _) (Value.ref _) (Value.ref _)) _ _ _); k_dflt (refine' kmk_slice_lit ?z70F ?z70N ?z70l ?z70p ?z70q ?z70e ?_ ?z70s ?z70t ?z70z; (case z70F => k_asm); (case z70N => k_asm); (case z70l => exact News.isList (by k_asm) (by k_mem)); (case z70p => kmk_part); (case z70q => kmk_part); (case z70e => first | exact pk_all | exact pk_upto (by omega) | exact pk_from (by omega) | exact pk_run (by omega) (by omega) | exact pk_upto_neg (by omega)); (case z70s => with_unfolding_all rfl); (case z70t => kmk_pure); (case z70z => size_fits)); intro D' h' F' N' l1; (try k_lt l1); (try k_sweep)))) | ((with_reducible show wpAny _ _ (binaryOp _ _ _) _ _ _); first | (with_reducible ((with_reducible show wpAny _ _ (binaryOp _ (Value.ref _) (Value.ref _)) _ _ _); k_dflt (refine' my_add ?z71F ?z71N ?z71a ?z71b ?_ ?z71z; (case z71F => k_asm); (case z71N => k_asm); (case z71a => exact News.isList (by k_asm) (by k_mem)); (case z71b => exact News.isList (by k_asm) (by k_mem)); (case z71z => walk_at "sz")); intro D' h' F' N' l1; (try k_lt l1); (try k_sweep)))) | ((with_reducible show wpAny _ _ (compareOp _ _ _) _ _ _); first | (with_reducible ((with_reducible show wpAny _ _ (compareOp CmpOp.Eq (Value.ref _) (Value.ref _)) _ _ _); k_dflt (refine' eq_empty ?z74a ?z74b ?z74e ?z74u ?_; (case z74a => exact News.isList (by k_asm) (by k_mem)); (case z74b => exact News.isList (by k_asm) (by k_mem)); (case z74e => exact rfl); (case z74u => ktr_units))))) | walk1 | (dsimp only; walk1) | (dsimp only [List.nil_append, List.cons_append]; walk1) | (leave1; walk_say "STEP leave1"; try dsimp only)))
    unfold NumElt
    exact ⟨_, _, _, rfl, rfl, by assumption, by assumption⟩
  case q1 =>
    intro v9 t9 y9 I9 oI9 C9 oC9 D9 oD9 m9 h9 tk9 dx9 ka kb kc kd tki tx n9 E9 hN9 hx9 F9 N9
    (repeat' (first | (k_unfold; (try dsimp only)) | (k_end; wrow_close) | ((with_reducible show wpAny _ _ (call _ _) _ _ _); first | (with_reducible ((with_reducible show wpAny _ _ (call (Value.ref 52) [_]) _ _ _); k_dflt (apply pserr_call; walk_at "s7"; walk_at "n2"); intro e' d' t' k' h' tk' F' N' l1 l2 l3; (try dsimp only [AllLt] at l1 l2 l3); (try k_sweep))) | (with_reducible ((with_reducible show wpAny _ _ (call (Value.ref 208) [_]) _ _ _); k_dflt (apply thing_call; walk_at "s7"; walk_at "n2"); intro x' dx' od' h' tk' F' N' l1 l2 hT'; (try k_lt l1); (try k_lt l2); (try k_sweep))) | (with_reducible ((with_reducible show wpAny _ _ (call (Value.builtin _) [Value.ref _]) _ _ _); k_dflt (refine' my_pop ?z84F ?z84N ?z84U ?z84e ?z84z ?_; (case z84F => k_asm); (case z84N => k_asm); (case z84U => k_updF); (case z84e => assumption); (case z84z => omega)); intro y' n' h' F' N'; (try dsimp only at N'); (try k_sweep))) | (with_reducible ((with_reducible show wpAny _ _ (call (Value.builtin _) [Value.ref _, Value.ref _]) _ _ _); k_dflt (refine' my_extend ?z83F ?z83N ?z83b ?z83U ?z83z ?_; (case z83F => k_asm); (case z83N => k_asm); (case z83b => k_mem); (case z83U => k_updF); (case z83z => walk_at "sz")); intro n' h' F' N'; (try dsimp only at N'); (try k_sweep))) | (with_reducible ((with_reducible show wpAny _ _ (call (Value.builtin "len") [Value.ref _]) _ _ _); k_dflt (refine' my_len ?z77k1 ?z77k2 ?_; (case z77k1 => exact News.isList (by k_asm) (by k_mem)); (case z77k2 => ((try simp only [List.length_append, List.length_cons, List.length_nil, List.length_take, List.length_drop, List.length_dropLast]); omega)); k_whole))) | (dsimp only [List.nil_append, List.cons_append]; first | (with_reducible ((with_reducible show wpAny _ _ (call (Value.builtin _) [Value.ref _]) _ _ _); k_dflt (refine' my_pop ?z86F ?z86N ?z86U ?z86e ?z86z ?_; (case z86F => k_asm); (case z86N => k_asm); (case z86U => k_updF); (case z86e => assumption); (case z86z => omega)); intro y' n' h' F' N'; (try dsimp only at N'); (try k_sweep))) | (with_reducible ((with_reducible show wpAny _ _ (call (Value.builtin _) [Value.ref _, Value.ref _]) _ _ _); k_dflt (refine' my_extend ?z87F ?z87N ?z87b ?z87U ?z87z ?_; (case z87F => k_asm); (case z87N => k_asm); (case z87b => k_mem); (case z87U => k_updF); (case z87z => walk_at "sz")); intro n' h' F' N'; (try dsimp only at N'); (try k_sweep))))) | ((with_reducible show wpAny _ _ (callWith _ _ _ _ _) _ _ _); first | (with_reducible ((with_reducible show wpAny _ _ (callWith _ (Value.ref (OfNat.ofNat _)) _ _ _) _ _ _); k_dflt (first | refine' callWith_K ?z78k1 ?z78k2 ?_; (case z78k1 => k_asm); (case z78k2 => k_is); k_whole | refine' callWith_K0 ?z78k1 ?z78k2 ?_; (case z78k1 => k_in); (case z78k2 => k_is); k_whole | (refine' callWith_M0 ?z78k1 ?z78k2 ?_; (case z78k1 => k_meth); (case z78k2 => k_is); k_whole; try dsimp only [List.nil_append, List.cons_append]) | refine' callWith_M ?z78k1 ?z78k2 ?z78k3 ?z78k4 ?_; (case z78k1 => k_asm); (case z78k2 => k_asm); (case z78k3 => k_mem); (case z78k4 => k_is); k_whole)))) | (with_reducible ((with_reducible show wpAny _ _ (eval (PySem.Expr.Lambda _ _ _ _) _) _ _ _); kn_here; k_dflt (refine' kla_eval ?z79d0 ?_; (case z79d0 => exact rfl)); (with_reducible rename TabInv _ _ => TI'); k_dflt (refine' lam_both ?z79F ?z79N ?z79T ?z79C ?z79cd ?z79U TI' ?z79q ?z79R ?z79b ?z79bn ?z79cl ?_; (case z79F => k_asm); (case z79N => k_asm); (case z79T => k_asm); (case z79cd => exact rfl); (case z79C => kn_code); (case z79U => k_updF); (case z79q => exact rfl); (case z79R => (intro q9 hq9; repeat (first | assumption | apply List.mem_cons_of_mem))); (case z79b => assumption); (case z79bn => (repeat' (first | exact True.intro | refine And.intro ⟨_, by (repeat (first | (with_reducible exact List.mem_cons_self) | apply List.mem_cons_of_mem))⟩ ?_))); (case z79cl => exact rfl); k_whole); intro f' c' oc' vs' t' ct' ps' h' tk' F' N' d1' d2' l1 l2 hc' TJ'; (try dsimp only at N'); (try k_lt l1); k_dflt (obtain ⟨_, _, _, _, _, _, _⟩ := hc'))) | ((with_reducible show wpAny _ _ (getAttr _ _ _) _ _ _); first | (with_reducible ((with_reducible show wpAny _ _ (getAttr (Value.ref _) (PySem.Str.ofString "told") _) _ _ _); k_dflt (refine' exc_told (K := hd.heap_1 _) ?z80X (exc_inst ?z80N ?z80m1 ?z80m2 ?z80c ?z80d) ?z80a ?z80b ?z80q ?z80f1 ?z80f2 ?z80f3 ?z80f4 ?z80h ?_; (case z80N => k_asm); (case z80m1 => k_mem); (case z80c => assumption); (case z80d => assumption); (case z80m2 => k_mem); (case z80X => k_in); (case z80a => k_is); (case z80b => k_is); (case z80q => k_is); (case z80f1 => k_is); (case z80f2 => k_is); (case z80f3 => k_is); (case z80f4 => k_get); (case z80h => exact rfl); k_whole)))) | ((with_reducible show wpAny _ _ (subscriptTail _ _ _ _) _ _ _); first | (with_reducible ((with_reducible show wpAny _ _ (subscriptTail _ (PySem.Expr.Slice _ _ none _) (Value.ref _) (Value.ref _)) _ _ _); k_dflt (refine' kmk_slice_lit ?z81F ?z81N ?z81l ?z81p ?z81q ?z81e ?_ ?z81s ?z81t ?z81z; (case z81F => k_asm); (case z81N => k_asm); (case z81l => exact News.isList (by k_asm) (by k_mem)); (case z81p => kmk_part); (case z81q => kmk_part); (case z81e => first | exact pk_all | exact pk_upto (by omega) | exact pk_from (by omega) | exact pk_run (by omega) (by omega) | exact pk_upto_neg (by omega)); (case z81s => with_unfolding_all rfl); (case z81t => kmk_pure); (case z81z => size_fits)); intro D' h' F' N' l1; (try k_lt l1); (try k_sweep)))) | ((with_reducible show wpAny _ _ (binaryOp _ _ _) _ _ _); first | (with_reducible ((with_reducible show wpAny _ _ (binaryOp _ (Value.ref _) (Value.ref _)) _ _ _); k_dflt (refine' my_add ?z82F ?z82N ?z82a ?z82b ?_ ?z82z; (case z82F => k_asm); (case z82N => k_asm); (case z82a => exact News.isList (by k_asm) (by k_mem)); (case z82b => exact News.isList (by k_asm) (by k_mem)); (case z82z => walk_at "sz")); intro D' h' F' N' l1; (try k_lt l1); (try k_sweep)))) | ((with_reducible show wpAny _ _ (compareOp _ _ _) _ _ _); first | (with_reducible ((with_reducible show wpAny _ _ (compareOp CmpOp.Eq (Value.ref _) (Value.ref _)) _ _ _); k_dflt (refine' eq_empty ?z85a ?z85b ?z85e ?z85u ?_; (case z85a => exact News.isList (by k_asm) (by k_mem)); (case z85b => exact News.isList (by k_asm) (by k_mem)); (case z85e => exact rfl); (case z85u => ktr_units))))) | walk1 | (dsimp only; walk1) | (dsimp only [List.nil_append, List.cons_append]; walk1) | (leave1; walk_say "STEP leave1"; try dsimp only)))
    unfold NumElt
    exact ⟨_, _, _, rfl, rfl, by assumption, by assumption⟩
  case qq =>
    intro ws D h' tk' HI F' N' off'
    (repeat' (first | (k_unfold; (try dsimp only)) | (k_end; wrow_close) | ((with_reducible show wpAny _ _ (call _ _) _ _ _); first | (with_reducible ((with_reducible show wpAny _ _ (call (Value.ref 52) [_]) _ _ _); k_dflt (apply pserr_call; walk_at "s7"; walk_at "n2"); intro e' d' t' k' h' tk' F' N' l1 l2 l3; (try dsimp only [AllLt] at l1 l2 l3); (try k_sweep))) | (with_reducible ((with_reducible show wpAny _ _ (call (Value.ref 208) [_]) _ _ _); k_dflt (apply thing_call; walk_at "s7"; walk_at "n2"); intro x' dx' od' h' tk' F' N' l1 l2 hT'; (try k_lt l1); (try k_lt l2); (try k_sweep))) | (with_reducible ((with_reducible show wpAny _ _ (call (Value.builtin _) [Value.ref _]) _ _ _); k_dflt (refine' my_pop ?z95F ?z95N ?z95U ?z95e ?z95z ?_; (case z95F => k_asm); (case z95N => k_asm); (case z95U => k_updF); (case z95e => assumption); (case z95z => omega)); intro y' n' h' F' N'; (try dsimp only at N'); (try k_sweep))) | (with_reducible ((with_reducible show wpAny _ _ (call (Value.builtin _) [Value.ref _, Value.ref _]) _ _ _); k_dflt (refine' my_extend ?z94F ?z94N ?z94b ?z94U ?z94z ?_; (case z94F => k_asm); (case z94N => k_asm); (case z94b => k_mem); (case z94U => k_updF); (case z94z => walk_at "sz")); intro n' h' F' N'; (try dsimp only at N'); (try k_sweep))) | (with_reducible ((with_reducible show wpAny _ _ (call (Value.builtin "len") [Value.ref _]) _ _ _); k_dflt (refine' my_len ?z88k1 ?z88k2 ?_; (case z88k1 => exact News.isList (by k_asm) (by k_mem)); (case z88k2 => ((try simp only [List.length_append, List.length_cons, List.length_nil, List.length_take, List.length_drop, List.length_dropLast]); omega)); k_whole))) | (dsimp only [List.nil_append, List.cons_append]; first | (with_reducible ((with_reducible show wpAny _ _ (call (Value.builtin _) [Value.ref _]) _ _ _); k_dflt (refine' my_pop ?z97F ?z97N ?z97U ?z97e ?z97z ?_; (case z97F => k_asm); (case z97N => k_asm); (case z97U => k_updF); (case z97e => assumption); (case z97z => omega)); intro y' n' h' F' N'; (try dsimp only at N'); (try k_sweep))) | (with_reducible ((with_reducible show wpAny _ _ (call (Value.builtin _) [Value.ref _, Value.ref _]) _ _ _); k_dflt (refine' my_extend ?z98F ?z98N ?z98b ?z98U ?z98z ?_; (case z98F => k_asm); (case z98N => k_asm); (case z98b => k_mem); (case z98U => k_updF); (case z98z => walk_at "sz")); intro n' h' F' N'; (try dsimp only at N'); (try k_sweep))))) | ((with_reducible show wpAny _ _ (callWith _ _ _ _ _) _ _ _); first | (with_reducible ((with_reducible show wpAny _ _ (callWith _ (Value.ref (OfNat.ofNat _)) _ _ _) _ _ _); k_dflt (first | refine' callWith_K ?z89k1 ?z89k2 ?_; (case z89k1 => k_asm); (case z89k2 => k_is); k_whole | refine' callWith_K0 ?z89k1 ?z89k2 ?_; (case z89k1 => k_in); (case z89k2 => k_is); k_whole | (refine' callWith_M0 ?z89k1 ?z89k2 ?_; (case z89k1 => k_meth); (case z89k2 => k_is); k_whole; try dsimp only [List.nil_append, List.cons_append]) | refine' callWith_M ?z89k1 ?z89k2 ?z89k3 ?z89k4 ?_; (case z89k1 => k_asm); (case z89k2 => k_asm); (case z89k3 => k_mem); (case z89k4 => k_is); k_whole)))) | (with_reducible ((with_reducible show wpAny _ _ (eval (PySem.Expr.Lambda _ _ _ _) _) _ _ _); kn_here; k_dflt (refine' kla_eval ?z90d0 ?_; (case z90d0 => exact rfl)); (with_reducible rename TabInv _ _ => TI'); k_dflt (refine' lam_both ?z90F ?z90N ?z90T ?z90C ?z90cd ?z90U TI' ?z90q ?z90R ?z90b ?z90bn ?z90cl ?_; (case z90F => k_asm); (case z90N => k_asm); (case z90T => k_asm); (case z90cd => exact rfl); (case z90C => kn_code); (case z90U => k_updF); (case z90q => exact rfl); (case z90R => (intro q9 hq9; repeat (first | assumption | apply List.mem_cons_of_mem))); (case z90b => assumption); (case z90bn => (repeat' (first | exact True.intro | refine And.intro ⟨_, by (repeat (first | (with_reducible exact List.mem_cons_self) | apply List.mem_cons_of_mem))⟩ ?_))); (case z90cl => exact rfl); k_whole); intro f' c' oc' vs' t' ct' ps' h' tk' F' N' d1' d2' l1 l2 hc' TJ'; (try dsimp only at N'); (try k_lt l1); k_dflt (obtain ⟨_, _, _, _, _, _, _⟩ := hc'))) | ((with_reducible show wpAny _ _ (getAttr _ _ _) _ _ _); first | (with_reducible ((with_reducible show wpAny _ _ (getAttr (Value.ref _) (PySem.Str.ofString "told") _) _ _ _); k_dflt (refine' exc_told (K := hd.heap_1 _) ?z91X (exc_inst ?z91N ?z91m1 ?z91m2 ?z91c ?z91d) ?z91a ?z91b ?z91q ?z91f1 ?z91f2 ?z91f3 ?z91f4 ?z91h ?_; (case z91N => k_asm); (case z91m1 => k_mem); (case z91c => assumption); (case z91d => assumption); (case z91m2 => k_mem); (case z91X => k_in); (case z91a => k_is); (case z91b => k_is); (case z91q => k_is); (case z91f1 => k_is); (case z91f2 => k_is); (case z91f3 => k_is); (case z91f4 => k_get); (case z91h => exact rfl); k_whole)))) | ((with_reducible show wpAny _ _ (subscriptTail _ _ _ _) _ _ _); first | (with_reducible ((with_reducible show wpAny _ _ (subscriptTail _ (PySem.Expr.Slice _ _ none _) (Value.ref _) (Value.ref _)) _ _ _); k_dflt (refine' kmk_slice_lit ?z92F ?z92N ?z92l ?z92p ?z92q ?z92e ?_ ?z92s ?z92t ?z92z; (case z92F => k_asm); (case z92N => k_asm); (case z92l => exact News.isList (by k_asm) (by k_mem)); (case z92p => kmk_part); (case z92q => kmk_part); (case z92e => first | exact pk_all | exact pk_upto (by omega) | exact pk_from (by omega) | exact pk_run (by omega) (by omega) | exact pk_upto_neg (by omega)); (case z92s => with_unfolding_all rfl); (case z92t => kmk_pure); (case z92z => size_fits)); intro D' h' F' N' l1; (try k_lt l1); (try k_sweep)))) | ((with_reducible show wpAny _ _ (binaryOp _ _ _) _ _ _); first | (with_reducible ((with_reducible show wpAny _ _ (binaryOp _ (Value.ref _) (Value.ref _)) _ _ _); k_dflt (refine' my_add ?z93F ?z93N ?z93a ?z93b ?_ ?z93z; (case z93F => k_asm); (case z93N => k_asm); (case z93a => exact News.isList (by k_asm) (by k_mem)); (case z93b => exact News.isList (by k_asm) (by k_mem)); (case z93z => walk_at "sz")); intro D' h' F' N' l1; (try k_lt l1); (try k_sweep)))) | ((with_reducible show wpAny _ _ (compareOp _ _ _) _ _ _); first | (with_reducible ((with_reducible show wpAny _ _ (compareOp CmpOp.Eq (Value.ref _) (Value.ref _)) _ _ _); k_dflt (refine' eq_empty ?z96a ?z96b ?z96e ?z96u ?_; (case z96a => exact News.isList (by k_asm) (by k_mem)); (case z96b => exact News.isList (by k_asm) (by k_mem)); (case z96e => exact rfl); (case z96u => ktr_units))))) | walk1 | (dsimp only; walk1) | (dsimp only [List.nil_append, List.cons_append]; walk1) | (leave1; walk_say "STEP leave1"; try dsimp only)))
    have e : ns.drop ((vs.length : Int) - vs.length).toNat = ns := by rw [Int.sub_self]; rfl
    rw [e] at HI
    refine' ret D ws _ _ _ HI ?zF ?zN
    case zF => k_asm
    case zN => refine' cb_drop ?cbN ?cbS; (case cbN => k_asm); (case cbS => kcj_all)

theorem numbers_use {it sd l : Addr} {k1 k2 tm : Tok} {most : Int} {n : Nat} {vs : List Value} {ns : List Int} {nw r1 r2 R R0 : List (Addr × Obj)}
    (B : Below A₀ base outer h₀) (F : Fr h₀ L s.heap m) (X : (hd.heap_1 w.params).In h₀) (TP : Top p loose mean mg mb h₀) (hk : cs.kind = .function) (hdp : dp + 6 < recursionLimit) (hun : un + 400 < cLine)
    (N : News h₀ L s.heap nw) (P1 : Pick (it, instObj 156 sd) nw r1) (P2 : Pick (sd, stkD w k1 k2 most tm l 2) r1 r2) (P3 : Pick (l, listOf vs.toArray n) r2 R)
    (HT : ThingsIn w R0 vs ns) (hR : ∀ q ∈ R0, q ∈ R) (hlen : ns.length ≤ 20)
    (ret : ∀ (D : Addr) (ws : List Value) (n' : Nat) (h' : Heap) (tk' : Tok), IntsAre ws ns → Fr h₀ L h' m → News h₀ L h' ((D, listOf ws.toArray n') :: nw) → Q (.ref D) { s with heap := h', toks := tk' }) :
    wpAny (model Challenge.rw_on0259_01.row.prog w) (ktrTop dp un gd cn cs L a ccd cl outer) (call (.ref 213) [.ref it]) Q E s :=
  numbers_ok B F X TP hk hdp hun (pick3 N P1 P2 P3) HT hR hlen fun D ws n' h' tk' HI F' N' => ret D ws n' h' tk' HI F' fun q hq => by
    rcases List.mem_cons.mp hq with rfl | hq
    · exact N' _ (.head _)
    exact pick3b N' P1 P2 P3 q hq
end
end P_S5
section P_S6
local macro_rules | `(tactic| walk_at "call type:tuple") => `(tactic| (k_here; (with_reducible show wpAny _ _ (call (Value.type _) [Value.ref _]) _ _ _); k_dflt (refine' kde_tupleOf ?k1 ?k2 ?k3 ?k4 ?k5 ?_; (case k1 => k_asm); (case k2 => k_asm); (case k3 => exact News.isList (by k_asm) (by k_mem)); (case k4 => (simp only [List.size_toArray]; omega)); (case k5 => exact rfl); k_whole); intro D' h' F' N' l1; (try k_lt l1); (try k_sweep)))
section
variable {w : World} {p : Program} {loose : List Str} {mean : ExcName → Option Value} {mg mb : Str → Option Value} {dp un : Nat} {gd : Option (List Code)} {cn : Str} {cs : Scope} {L a : Addr} {ccd : Value} {cl : List (Str × Addr)} {outer : List Env} {A₀ : Around} {base h₀ : Heap} {m : Str → Option Value} {s : Shared} {Q E : Value → Shared → Prop}

theorem snapshot_ok {it sd l : Addr} {k1 k2 tm : Tok} {most : Int} {n : Nat} {vs : List Value} {R : List (Addr × Obj)}
    (B : Below A₀ base outer h₀) (F : Fr h₀ L s.heap m) (X : (hd.heap_1 w.params).In h₀) (TP : Top p loose mean mg mb h₀) (hk : cs.kind = .function) (hdp : dp + 3 < recursionLimit) (hun : un + 400 < cLine)
    (N : News h₀ L s.heap ((l, listOf vs.toArray n) :: (sd, stkD w k1 k2 most tm l 2) :: (it, instObj 156 sd) :: R)) (hlen : vs.length ≤ 20)
    (ret : ∀ (t : Addr) (h' : Heap) (tk' : Tok), Fr h₀ L h' m → @LT.lt Nat _ l t → @LT.lt Nat _ sd t → @LT.lt Nat _ it t → AllLt t R →
      News h₀ L h' ((t, tupO vs) :: (l, listOf vs.toArray n) :: (sd, stkD w k1 k2 most tm l 2) :: (it, instObj 156 sd) :: R) → Q (.ref t) { s with heap := h', toks := tk' }) :
    wpAny (model Challenge.rw_on0259_01.row.prog w) (ktrTop dp un gd cn cs L a ccd cl outer) (call (.ref 146) [.ref it]) Q E s := by
  revert X
  k_fill
  intro X
  w_on
  w_strict (refine wpAny_call ?_; k_dflt ktr_enter; (repeat' (first | (k_unfold; (try dsimp only)) | (k_end; wrow_close) | ((with_reducible show wpAny _ _ (call _ _) _ _ _); first | (with_reducible ((with_reducible show wpAny _ _ (call (Value.ref 52) [_]) _ _ _); k_dflt (apply pserr_call; walk_at "s7"; walk_at "n2"); intro e' d' t' k' h' tk' F' N' l1 l2 l3; (try dsimp only [AllLt] at l1 l2 l3); (try k_sweep))) | (with_reducible ((with_reducible show wpAny _ _ (call (Value.ref 208) [_]) _ _ _); k_dflt (apply thing_call; walk_at "s7"; walk_at "n2"); intro x' dx' od' h' tk' F' N' l1 l2 hT'; (try k_lt l1); (try k_lt l2); (try k_sweep))) | (with_reducible ((with_reducible show wpAny _ _ (call (Value.builtin _) [Value.ref _]) _ _ _); k_dflt (refine' my_pop ?z117F ?z117N ?z117U ?z117e ?z117z ?_; (case z117F => k_asm); (case z117N => k_asm); (case z117U => k_updF); (case z117e => assumption); (case z117z => omega)); intro y' n' h' F' N'; (try dsimp only at N'); (try k_sweep))) | (with_reducible ((with_reducible show wpAny _ _ (call (Value.builtin _) [Value.ref _, Value.ref _]) _ _ _); k_dflt (refine' my_extend ?z116F ?z116N ?z116b ?z116U ?z116z ?_; (case z116F => k_asm); (case z116N => k_asm); (case z116b => k_mem); (case z116U => k_updF); (case z116z => walk_at "sz")); intro n' h' F' N'; (try dsimp only at N'); (try k_sweep))) | (with_reducible ((with_reducible show wpAny _ _ (call (Value.builtin "len") [Value.ref _]) _ _ _); k_dflt (refine' my_len ?z110k1 ?z110k2 ?_; (case z110k1 => exact News.isList (by k_asm) (by k_mem)); (case z110k2 => ((try simp only [List.length_append, List.length_cons, List.length_nil, List.length_take, List.length_drop, List.length_dropLast]); omega)); k_whole))) | (dsimp only [List.nil_append, List.cons_append]; first | (with_reducible ((with_reducible show wpAny _ _ (call (Value.builtin _) [Value.ref _]) _ _ _); k_dflt (refine' my_pop ?z119F ?z119N ?z119U ?z119e ?z119z ?_; (case z119F => k_asm); (case z119N => k_asm); (case z119U => k_updF); (case z119e => assumption); (case z119z => omega)); intro y' n' h' F' N'; (try dsimp only at N'); (try k_sweep))) | (with_reducible ((with_reducible show wpAny _ _ (call (Value.builtin _) [Value.ref _, Value.ref _]) _ _ _); k_dflt (refine' my_extend ?z120F ?z120N ?z120b ?z120U ?z120z ?_; (case z120F => k_asm); (case z120N => k_asm); (case z120b => k_mem); (case z120U => k_updF); (case z120z => walk_at "sz")); intro n' h' F' N'; (try dsimp only at N'); (try k_sweep))))) | ((with_reducible show wpAny _ _ (callWith _ _ _ _ _) _ _ _); first | (with_reducible ((with_reducible show wpAny _ _ (callWith _ (Value.ref (OfNat.ofNat _)) _ _ _) _ _ _); k_dflt (first | refine' callWith_K ?z111k1 ?z111k2 ?_; (case z111k1 => k_asm); (case z111k2 => k_is); k_whole | refine' callWith_K0 ?z111k1 ?z111k2 ?_; (case z111k1 => k_in); (case z111k2 => k_is); k_whole | (refine' callWith_M0 ?z111k1 ?z111k2 ?_; (case z111k1 => k_meth); (case z111k2 => k_is); k_whole; try dsimp only [List.nil_append, List.cons_append]) | refine' callWith_M ?z111k1 ?z111k2 ?z111k3 ?z111k4 ?_; (case z111k1 => k_asm); (case z111k2 => k_asm); (case z111k3 => k_mem); (case z111k4 => k_is); k_whole)))) | (with_reducible ((with_reducible show wpAny _ _ (eval (PySem.Expr.Lambda _ _ _ _) _) _ _ _); kn_here; k_dflt (refine' kla_eval ?z112d0 ?_; (case z112d0 => exact rfl)); (with_reducible rename TabInv _ _ => TI'); k_dflt (refine' lam_both ?z112F ?z112N ?z112T ?z112C ?z112cd ?z112U TI' ?z112q ?z112R ?z112b ?z112bn ?z112cl ?_; (case z112F => k_asm); (case z112N => k_asm); (case z112T => k_asm); (case z112cd => exact rfl); (case z112C => kn_code); (case z112U => k_updF); (case z112q => exact rfl); (case z112R => (intro q9 hq9; repeat (first | assumption | apply List.mem_cons_of_mem))); (case z112b => assumption); (case z112bn => (repeat' (first | exact True.intro | refine And.intro ⟨_, by (repeat (first | (with_reducible exact List.mem_cons_self) | apply List.mem_cons_of_mem))⟩ ?_))); (case z112cl => exact rfl); k_whole); intro f' c' oc' vs' t' ct' ps' h' tk' F' N' d1' d2' l1 l2 hc' TJ'; (try dsimp only at N'); (try k_lt l1); k_dflt (obtain ⟨_, _, _, _, _, _, _⟩ := hc'))) | ((with_reducible show wpAny _ _ (getAttr _ _ _) _ _ _); first | (with_reducible ((with_reducible show wpAny _ _ (getAttr (Value.ref _) (PySem.Str.ofString "told") _) _ _ _); k_dflt (refine' exc_told (K := hd.heap_1 _) ?z113X (exc_inst ?z113N ?z113m1 ?z113m2 ?z113c ?z113d) ?z113a ?z113b ?z113q ?z113f1 ?z113f2 ?z113f3 ?z113f4 ?z113h ?_; (case z113N => k_asm); (case z113m1 => k_mem); (case z113c => assumption); (case z113d => assumption); (case z113m2 => k_mem); (case z113X => k_in); (case z113a => k_is); (case z113b => k_is); (case z113q => k_is); (case z113f1 => k_is); (case z113f2 => k_is); (case z113f3 => k_is); (case z113f4 => k_get); (case z113h => exact rfl); k_whole)))) | ((with_reducible show wpAny _ _ (subscriptTail _ _ _ _) _ _ _); first | (with_reducible ((with_reducible show wpAny _ _ (subscriptTail _ (PySem.Expr.Slice _ _ none _) (Value.ref _) (Value.ref _)) _ _ _); k_dflt (refine' kmk_slice_lit ?z114F ?z114N ?z114l ?z114p ?z114q ?z114e ?_ ?z114s ?z114t ?z114z; (case z114F => k_asm); (case z114N => k_asm); (case z114l => exact News.isList (by k_asm) (by k_mem)); (case z114p => kmk_part); (case z114q => kmk_part); (case z114e => first | exact pk_all | exact pk_upto (by omega) | exact pk_from (by omega) | exact pk_run (by omega) (by omega) | exact pk_upto_neg (by omega)); (case z114s => with_unfolding_all rfl); (case z114t => kmk_pure); (case z114z => size_fits)); intro D' h' F' N' l1; (try k_lt l1); (try k_sweep)))) | ((with_reducible show wpAny _ _ (binaryOp _ _ _) _ _ _); first | (with_reducible ((with_reducible show wpAny _ _ (binaryOp _ (Value.ref _) (Value.ref _)) _ _ _); k_dflt (refine' my_add ?z115F ?z115N ?z115a ?z115b ?_ ?z115z; (case z115F => k_asm); (case z115N => k_asm); (case z115a => exact News.isList (by k_asm) (by k_mem)); (case z115b => exact News.isList (by k_asm) (by k_mem)); (case z115z => walk_at "sz")); intro D' h' F' N' l1; (try k_lt l1); (try k_sweep)))) | ((with_reducible show wpAny _ _ (compareOp _ _ _) _ _ _); first | (with_reducible ((with_reducible show wpAny _ _ (compareOp CmpOp.Eq (Value.ref _) (Value.ref _)) _ _ _); k_dflt (refine' eq_empty ?z118a ?z118b ?z118e ?z118u ?_; (case z118a => exact News.isList (by k_asm) (by k_mem)); (case z118b => exact News.isList (by k_asm) (by k_mem)); (case z118e => exact rfl); (case z118u => ktr_units))))) | walk1 | (dsimp only; walk1) | (dsimp only [List.nil_append, List.cons_append]; walk1) | (leave1; walk_say "STEP leave1"; try dsimp only))))
  refine' ret ?z1 ?z2 ?z3 ?zF ?za ?zb ?zc ?zd ?zN
  case zN => refine' cb_drop ?cbN ?cbS; (case cbN => k_asm); (case cbS => kcj_all)
  case zF => k_asm
  case zd => tbn_find
  all_goals omega

theorem put_back_ok {it sd l t : Addr} {k1 k2 tm : Tok} {most : Int} {n : Nat} {vs vs0 : List Value} {R : List (Addr × Obj)}
    (B : Below A₀ base outer h₀) (F : Fr h₀ L s.heap m) (X : (hd.heap_1 w.params).In h₀) (TP : Top p loose mean mg mb h₀) (hk : cs.kind = .function) (hdp : dp + 3 < recursionLimit) (hun : un + 400 < cLine)
    (N : News h₀ L s.heap ((t, tupO vs) :: (l, listOf vs0.toArray n) :: (sd, stkD w k1 k2 most tm l 2) :: (it, instObj 156 sd) :: R)) (hlen : vs.length ≤ 20)
    (h1 : @Ne Nat sd l) (h2 : @Ne Nat it l) (h3 : @Ne Nat it sd) (h4 : @Ne Nat t sd) (offd : ∀ p ∈ R, p.1 ≠ sd)
    (ret : ∀ (l' : Addr) (n' : Nat) (h' : Heap) (tk' : Tok), Fr h₀ L h' m → @LT.lt Nat _ t l' → @LT.lt Nat _ l l' → @LT.lt Nat _ sd l' → @LT.lt Nat _ it l' → AllLt l' R →
      News h₀ L h' ((l', listOf vs.toArray n') :: (t, tupO vs) :: (sd, stkD w k1 k2 most tm l' 2) :: (it, instObj 156 sd) :: R) → Q .none { s with heap := h', toks := tk' }) :
    wpAny (model Challenge.rw_on0259_01.row.prog w) (ktrTop dp un gd cn cs L a ccd cl outer) (call (.ref 153) [.ref it, .ref t]) Q E s := by
  revert X
  k_fill
  intro X
  w_on
  w_strict (refine wpAny_call ?_; k_dflt ktr_enter; (repeat' (first | (k_unfold; (try dsimp only)) | (k_end; wrow_close) | ((with_reducible show wpAny _ _ (call _ _) _ _ _); first | (with_reducible ((with_reducible show wpAny _ _ (call (Value.ref 52) [_]) _ _ _); k_dflt (apply pserr_call; walk_at "s7"; walk_at "n2"); intro e' d' t' k' h' tk' F' N' l1 l2 l3; (try dsimp only [AllLt] at l1 l2 l3); (try k_sweep))) | (with_reducible ((with_reducible show wpAny _ _ (call (Value.ref 208) [_]) _ _ _); k_dflt (apply thing_call; walk_at "s7"; walk_at "n2"); intro x' dx' od' h' tk' F' N' l1 l2 hT'; (try k_lt l1); (try k_lt l2); (try k_sweep))) | (with_reducible ((with_reducible show wpAny _ _ (call (Value.builtin _) [Value.ref _]) _ _ _); k_dflt (refine' my_pop ?z128F ?z128N ?z128U ?z128e ?z128z ?_; (case z128F => k_asm); (case z128N => k_asm); (case z128U => k_updF); (case z128e => assumption); (case z128z => omega)); intro y' n' h' F' N'; (try dsimp only at N'); (try k_sweep))) | (with_reducible ((with_reducible show wpAny _ _ (call (Value.builtin _) [Value.ref _, Value.ref _]) _ _ _); k_dflt (refine' my_extend ?z127F ?z127N ?z127b ?z127U ?z127z ?_; (case z127F => k_asm); (case z127N => k_asm); (case z127b => k_mem); (case z127U => k_updF); (case z127z => walk_at "sz")); intro n' h' F' N'; (try dsimp only at N'); (try k_sweep))) | (with_reducible ((with_reducible show wpAny _ _ (call (Value.builtin "len") [Value.ref _]) _ _ _); k_dflt (refine' my_len ?z121k1 ?z121k2 ?_; (case z121k1 => exact News.isList (by k_asm) (by k_mem)); (case z121k2 => ((try simp only [List.length_append, List.length_cons, List.length_nil, List.length_take, List.length_drop, List.length_dropLast]); omega)); k_whole))) | (dsimp only [List.nil_append, List.cons_append]; first | (with_reducible ((with_reducible show wpAny _ _ (call (Value.builtin _) [Value.ref _]) _ _ _); k_dflt (refine' my_pop ?z130F ?z130N ?z130U ?z130e ?z130z ?_; (case z130F => k_asm); (case z130N => k_asm); (case z130U => k_updF); (case z130e => assumption); (case z130z => omega)); intro y' n' h' F' N'; (try dsimp only at N'); (try k_sweep))) | (with_reducible ((with_reducible show wpAny _ _ (call (Value.builtin _) [Value.ref _, Value.ref _]) _ _ _); k_dflt (refine' my_extend ?z131F ?z131N ?z131b ?z131U ?z131z ?_; (case z131F => k_asm); (case z131N => k_asm); (case z131b => k_mem); (case z131U => k_updF); (case z131z => walk_at "sz")); intro n' h' F' N'; (try dsimp only at N'); (try k_sweep))))) | ((with_reducible show wpAny _ _ (callWith _ _ _ _ _) _ _ _); first | (with_reducible ((with_reducible show wpAny _ _ (callWith _ (Value.ref (OfNat.ofNat _)) _ _ _) _ _ _); k_dflt (first | refine' callWith_K ?z122k1 ?z122k2 ?_; (case z122k1 => k_asm); (case z122k2 => k_is); k_whole | refine' callWith_K0 ?z122k1 ?z122k2 ?_; (case z122k1 => k_in); (case z122k2 => k_is); k_whole | (refine' callWith_M0 ?z122k1 ?z122k2 ?_; (case z122k1 => k_meth); (case z122k2 => k_is); k_whole; try dsimp only [List.nil_append, List.cons_append]) | refine' callWith_M ?z122k1 ?z122k2 ?z122k3 ?z122k4 ?_; (case z122k1 => k_asm); (case z122k2 => k_asm); (case z122k3 => k_mem); (case z122k4 => k_is); k_whole)))) | (with_reducible ((with_reducible show wpAny _ _ (eval (PySem.Expr.Lambda _ _ _ _) _) _ _ _); kn_here; k_dflt (refine' kla_eval ?z123d0 ?_; (case z123d0 => exact rfl)); (with_reducible rename TabInv _ _ => TI'); k_dflt (refine' lam_both ?z123F ?z123N ?z123T ?z123C ?z123cd ?z123U TI' ?z123q ?z123R ?z123b ?z123bn ?z123cl ?_; (case z123F => k_asm); (case z123N => k_asm); (case z123T => k_asm); (case z123cd => exact rfl); (case z123C => kn_code); (case z123U => k_updF); (case z123q => exact rfl); (case z123R => (intro q9 hq9; repeat (first | assumption | apply List.mem_cons_of_mem))); (case z123b => assumption); (case z123bn => (repeat' (first | exact True.intro | refine And.intro ⟨_, by (repeat (first | (with_reducible exact List.mem_cons_self) | apply List.mem_cons_of_mem))⟩ ?_))); (case z123cl => exact rfl); k_whole); intro f' c' oc' vs' t' ct' ps' h' tk' F' N' d1' d2' l1 l2 hc' TJ'; (try dsimp only at N'); (try k_lt l1); k_dflt (obtain ⟨_, _, _, _, _, _, _⟩ := hc'))) | ((with_reducible show wpAny _ _ (getAttr _ _ _) _ _ _); first | (with_reducible ((with_reducible show wpAny _ _ (getAttr (Value.ref _) (PySem.Str.ofString "told") _) _ _ _); k_dflt (refine' exc_told (K := hd.heap_1 _) ?z124X (exc_inst ?z124N ?z124m1 ?z124m2 ?z124c ?z124d) ?z124a ?z124b ?z124q ?z124f1 ?z124f2 ?z124f3 ?z124f4 ?z124h ?_; (case z124N => k_asm); (case z124m1 => k_mem); (case z124c => assumption); (case z124d => assumption); (case z124m2 => k_mem); (case z124X => k_in); (case z124a => k_is); (case z124b => k_is); (case z124q => k_is); (case z124f1 => k_is); (case z124f2 => k_is); (case z124f3 => k_is); (case z124f4 => k_get); (case z124h => exact rfl); k_whole)))) | ((with_reducible show wpAny _ _ (subscriptTail _ _ _ _) _ _ _); first | (with_reducible ((with_reducible show wpAny _ _ (subscriptTail _ (PySem.Expr.Slice _ _ none _) (Value.ref _) (Value.ref _)) _ _ _); k_dflt (refine' kmk_slice_lit ?z125F ?z125N ?z125l ?z125p ?z125q ?z125e ?_ ?z125s ?z125t ?z125z; (case z125F => k_asm); (case z125N => k_asm); (case z125l => exact News.isList (by k_asm) (by k_mem)); (case z125p => kmk_part); (case z125q => kmk_part); (case z125e => first | exact pk_all | exact pk_upto (by omega) | exact pk_from (by omega) | exact pk_run (by omega) (by omega) | exact pk_upto_neg (by omega)); (case z125s => with_unfolding_all rfl); (case z125t => kmk_pure); (case z125z => size_fits)); intro D' h' F' N' l1; (try k_lt l1); (try k_sweep)))) | ((with_reducible show wpAny _ _ (binaryOp _ _ _) _ _ _); first | (with_reducible ((with_reducible show wpAny _ _ (binaryOp _ (Value.ref _) (Value.ref _)) _ _ _); k_dflt (refine' my_add ?z126F ?z126N ?z126a ?z126b ?_ ?z126z; (case z126F => k_asm); (case z126N => k_asm); (case z126a => exact News.isList (by k_asm) (by k_mem)); (case z126b => exact News.isList (by k_asm) (by k_mem)); (case z126z => walk_at "sz")); intro D' h' F' N' l1; (try k_lt l1); (try k_sweep)))) | ((with_reducible show wpAny _ _ (compareOp _ _ _) _ _ _); first | (with_reducible ((with_reducible show wpAny _ _ (compareOp CmpOp.Eq (Value.ref _) (Value.ref _)) _ _ _); k_dflt (refine' eq_empty ?z129a ?z129b ?z129e ?z129u ?_; (case z129a => exact News.isList (by k_asm) (by k_mem)); (case z129b => exact News.isList (by k_asm) (by k_mem)); (case z129e => exact rfl); (case z129u => ktr_units))))) | walk1 | (dsimp only; walk1) | (dsimp only [List.nil_append, List.cons_append]; walk1) | (leave1; walk_say "STEP leave1"; try dsimp only))))
  refine' ret ?z1 ?z2 ?z3 ?z4 ?zF ?zt ?za ?zb ?zc ?zd ?zN
  case zN => refine' cb_drop ?cbN ?cbS; (case cbN => k_asm); (case cbS => kcj_all)
  case zF => k_asm
  case zd => tbn_find
  all_goals omega
end
end P_S6
section P_S7
section
variable {w : World} {d D it ol kp : Addr} {M most T : Int} {own : List Int} {ok : Obj} {R nw : List (Addr × Obj)} {h₀ h : Heap} {L : Addr}
theorem Wd.push (W : Wd w d D it ol kp M most T own ok R nw) {x : Addr} {ob : Obj} (N : News h₀ L h ((x, ob) :: nw)) (hne : ∀ q ∈ nw, q.1 < x) : ∃ nw', Wd w d D it ol kp M most T own ok ((x, ob) :: R) nw' ∧ News h₀ L h nw' := by
  obtain ⟨nw', W', hs⟩ := W.addI (I := x) (o := ob) fun q hq => Nat.ne_of_lt (hne q hq)
  exact ⟨nw', W', fun q hq => N q ((hs q hq).elim (fun e => e ▸ .head _) (.tail _))⟩
end
section
variable {prog : Program} {A : Around} {w : World} {p : Program} {loose : List Str} {mean : ExcName → Option Value} {mg mb : Str → Option Value} {dp un : Nat} {gd : Option (List Code)} {cn : Str} {cs : Scope} {L a : Addr} {ccd : Value} {cl : List (Str × Addr)} {outer : List Env} {A₀ : Around} {base h₀ : Heap} {m : Str → Option Value} {s : Shared} {Q E : Value → Shared → Prop}
variable {d D it ol kp : Addr} {M most T : Int} {own : List Int} {ok : Obj} {R nw : List (Addr × Obj)}
theorem numbers_wd (B : Below A₀ base outer h₀) (F : Fr h₀ L s.heap m) (X : (hd.heap_1 w.params).In h₀) (TP : Top p loose mean mg mb h₀) (hk : cs.kind = .function) (hdp : dp + 6 < recursionLimit) (hun : un + 400 < cLine)
    (N : News h₀ L s.heap nw) (W : Wd w d D it ol kp M most T own ok R nw) (hm1 : most ≤ 9)
    (ret : ∀ (D' : Addr) (ws : List Value) (n' : Nat) (h' : Heap) (tk' : Tok), IntsAre ws own → Fr h₀ L h' m → News h₀ L h' ((D', listOf ws.toArray n') :: nw) → Q (.ref D') { s with heap := h', toks := tk' }) :
    wpAny (model Challenge.rw_on0259_01.row.prog w) (ktrTop dp un gd cn cs L a ccd cl outer) (call (.ref 213) [.ref it]) Q E s := by
  obtain ⟨l, sd, o, ws, cells, n, nl, non, t1, t2, k1, k2, tm, vs, ows, ps, rfl, hap, hoff, ho, hi, hl, TI, HT, HO, hom⟩ := W
  exact numbers_use (R0 := R) B F X TP hk hdp hun N (.tail (.tail (.tail (.tail (.tail .head))))) (.tail (.tail (.tail (.tail .head)))) (.tail (.tail (.tail .head))) HT (fun q hq => by repeat (first | exact hq | apply List.mem_cons_of_mem)) (by omega) ret
theorem ne_wd {D' : Addr} {ws : List Value} {n' : Nat} (N : News h₀ L s.heap ((D', listOf ws.toArray n') :: nw)) (W : Wd w d D it ol kp M most T own ok R nw) (HI : IntsAre ws own) (hu : A.units + 64 < cLine) (h : Q (.bool false) s) :
    wpAny (model prog w) A (compareOp .NotEq (.ref D') (.ref ol)) Q E s := by
  obtain ⟨l, sd, o, ws, cells, n, nl, non, t1, t2, k1, k2, tm, vs, ows, ps, rfl, hap, hoff, ho, hi, hl, TI, HT, HO, hom⟩ := W
  refine ke_ne_ints (News.isList N (.head _)) (News.isList (a := ol) (n := non) N (by repeat (first | exact List.mem_cons_self | apply List.mem_cons_of_mem))) HI HO hu ?_
  simpa using h
theorem snapshot_wd (B : Below A₀ base outer h₀) (F : Fr h₀ L s.heap m) (X : (hd.heap_1 w.params).In h₀) (TP : Top p loose mean mg mb h₀) (hk : cs.kind = .function) (hdp : dp + 6 < recursionLimit) (hun : un + 400 < cLine)
    (N : News h₀ L s.heap nw) (W : Wd w d D it ol kp M most T own ok R nw) (hm1 : most ≤ 9)
    (ret : ∀ (t : Addr) (vs : List Value) (R' nw' : List (Addr × Obj)) (h' : Heap) (tk' : Tok), Fr h₀ L h' m → News h₀ L h' nw' → Wd w d D it ol kp M most T own ok R' nw' → (∀ q ∈ R, q ∈ R') → (t, tupO vs) ∈ R' → ThingsIn w R' vs own → Q (.ref t) { s with heap := h', toks := tk' }) :
    wpAny (model Challenge.rw_on0259_01.row.prog w) (ktrTop dp un gd cn cs L a ccd cl outer) (call (.ref 146) [.ref it]) Q E s := by
  have W0 := W
  obtain ⟨l, sd, o, ws, cells, n, nl, non, t1, t2, k1, k2, tm, vs, ows, ps, rfl, hap, hoff, ho, hi, hl, TI, HT, HO, hom⟩ := W
  have hvl := HT.length
  refine snapshot_ok B F X TP hk (by omega) hun (pick3 N (.tail (.tail (.tail (.tail (.tail .head))))) (.tail (.tail (.tail (.tail .head)))) (.tail (.tail (.tail .head)))) (by omega) fun t h' tk' F' l1 l2 l3 l4 N' => ?_
  have N2 := pick3b N' (.tail (.tail (.tail (.tail (.tail .head))))) (.tail (.tail (.tail (.tail .head)))) (.tail (.tail (.tail .head)))
  simp only [AllLt] at l4
  obtain ⟨b1, b2, b3, b4, b5, b6⟩ := l4
  have lt : ∀ q ∈ (222, tabObj ps) :: (d, o) :: (D, listOf ws.toArray n) :: (l, listOf vs.toArray nl) :: (sd, stkD w k1 k2 most tm l 2) :: (it, instObj 156 sd) :: (ol, listOf ows.toArray non) :: (kp, ok) :: R, q.1 < t := by
    intro q hq
    simp only [List.mem_cons] at hq
    rcases hq with h | h | h | h | h | h | h | h | h
    · rw [h]; exact b1
    · rw [h]; exact b2
    · rw [h]; exact b3
    · rw [h]; exact l1
    · rw [h]; exact l2
    · rw [h]; exact l3
    · rw [h]; exact b4
    · rw [h]; exact b5
    · exact tb_ltOf b6 q h
  obtain ⟨nw', W', N3⟩ := W0.push (x := t) (ob := tupO vs) (h₀ := h₀) (L := L) (h := h') (fun q hq => by
    rcases List.mem_cons.mp hq with rfl | hq
    · exact N' _ (.head _)
    · exact N2 q hq) lt
  exact ret t vs _ nw' h' tk' F' N3 W' (fun q hq => .tail _ hq) (.head _) (HT.mono fun q hq => .tail _ hq)
theorem copy_wd (F : Fr h₀ L s.heap m) (N : News h₀ L s.heap nw) (W : Wd w d D it ol kp M most T own ok R nw) (hm1 : most ≤ 9)
    (ret : ∀ (la : Addr) (ows : List Value) (n : Nat) (R' nw' : List (Addr × Obj)) (h' : Heap), Fr h₀ L h' m → News h₀ L h' nw' → Wd w d D it ol kp M most T own ok R' nw' → (∀ q ∈ R, q ∈ R') → (la, listOf ows.toArray n) ∈ R' → IntsAre ows own → Q (.ref la) { s with heap := h' }) :
    wpAny (model prog w) A (call (.type "list") [.ref ol]) Q E s := by
  have W0 := W
  obtain ⟨l, sd, o, ws, cells, n, nl, non, t1, t2, k1, k2, tm, vs, ows, ps, rfl, hap, hoff, ho, hi, hl, TI, HT, HO, hom⟩ := W
  have hol := HO.length
  refine list_copyK F N (News.isList (a := ol) (n := non) N (by repeat (first | exact List.mem_cons_self | apply List.mem_cons_of_mem))) (fun la c h' F' N' lt => ?_) (by rw [List.size_toArray, sizeLine_eq]; omega)
  obtain ⟨nw', W', N3⟩ := W0.push N' lt
  exact ret la ows c _ nw' h' F' N3 W' (fun q hq => .tail _ hq) (.head _) HO
theorem append_wd {kvs : List Value} {n : Nat} {v : Value} (F : Fr h₀ L s.heap m) (N : News h₀ L s.heap nw) (W : Wd w d D it ol kp M most T own (listOf kvs.toArray n) R nw) (hz : kvs.length ≤ 1000)
    (ret : ∀ (n' : Nat) (nw' : List (Addr × Obj)) (h' : Heap), Fr h₀ L h' m → News h₀ L h' nw' → Wd w d D it ol kp M most T own (listOf (kvs ++ [v]).toArray n') R nw' → Q .none { s with heap := h' }) :
    wpAny (model prog w) A (call (.builtin "list.append") [.ref kp, v]) Q E s := by
  obtain ⟨l, sd, o, ws, cells, n0, nl, non, t1, t2, k1, k2, tm, vs, ows, ps, rfl, hap, hoff, ho, hi, hl, TI, HT, HO, hom⟩ := W
  have hap2 := hap
  simp only [AllNe, NeAll, and_true] at hap2
  obtain ⟨⟨_, _, _, _, _, _, a1⟩, ⟨_, _, _, _, _, a2⟩, ⟨_, _, _, _, a3⟩, ⟨_, _, _, a4⟩, ⟨_, _, a5⟩, ⟨_, a6⟩, a7⟩ := hap2
  refine append_K F N (.tail a1 (.tail a2 (.tail a3 (.tail a4 (.tail a5 (.tail a6 (.tail a7 (.head fun q hq => (hoff q hq).one _ (by simp))))))))) (fun h' F' N' => ?_) (by rw [List.size_toArray, sizeLine_eq]; omega)
  rw [List.push_toArray] at N'
  exact ret _ _ h' F' N' ⟨l, sd, o, ws, cells, n0, nl, non, t1, t2, k1, k2, tm, vs, ows, ps, rfl, hap, hoff, ho, hi, hl, TI, HT, HO, hom⟩
end
end P_S7
section P_S8
def KeptOne (w : World) (R : List (Addr × Obj)) (most : Int) (v : Value) : Prop :=
  ∃ (pa ta la : Addr) (vs ows : List Value) (n : Nat) (own : List Int), v = .ref pa ∧ (pa, tupO [.ref ta, .ref la]) ∈ R ∧ (ta, tupO vs) ∈ R ∧ (la, listOf ows.toArray n) ∈ R ∧ ThingsIn w R vs own ∧ IntsAre ows own ∧ (own.length : Int) ≤ most
def KeptIn (w : World) (R : List (Addr × Obj)) (most : Int) (kvs : List Value) : Prop := ∀ v ∈ kvs, KeptOne w R most v
theorem KeptIn.mono {w : World} {R R' : List (Addr × Obj)} {most : Int} {kvs : List Value} (h : ∀ q ∈ R, q ∈ R') (K : KeptIn w R most kvs) : KeptIn w R' most kvs := fun v hv => by
  obtain ⟨pa, ta, la, vs, ows, n, own, e, a, b, c, HT, HO, ho⟩ := K v hv
  exact ⟨pa, ta, la, vs, ows, n, own, e, h _ a, h _ b, h _ c, HT.mono h, HO, ho⟩
theorem KeptIn.keeps {w : World} {R R' : List (Addr × Obj)} {most : Int} {kvs : List Value} (h : KeepsBut R R') (K : KeptIn w R most kvs) : KeptIn w R' most kvs := fun v hv => by
  obtain ⟨pa, ta, la, vs, ows, n, own, e, a, b, c, HT, HO, ho⟩ := K v hv
  exact ⟨pa, ta, la, vs, ows, n, own, e, h _ a iter_tup, h _ b iter_tup, h _ c iter_list, HT.keeps h, HO, ho⟩
section
variable {prog : Program} {w : World} {A : Around} {E : Value → Shared → Prop} {s : Shared}
theorem item_at {value slice : PySem.Expr} {l : Addr} {vs : List Value} {k : Int} {u : Tok} {Q : Value → Shared → Prop}
    (hl : s.heap.IsList l vs.toArray) (h0 : 0 ≤ k) (h1 : k < vs.length) (hz : vs.length ≤ 1000) (h : ∀ v ∈ vs, Q v s)
    (hs : subscripted slice false (.ref l) (.int k u) = operate [.ref l, .int k u] (getItem (.ref l) (.int k u)) := by with_unfolding_all rfl) :
    wpAny (model prog w) A (subscriptTail value slice (.ref l) (.int k u)) Q E s := by
  have hk : k.toNat < vs.length := by omega
  exact tail_any hl.typeIs slot_list_getitem.lookup (wpAny_getItem_list hl h0 (by omega) (x := vs[k.toNat]) (by simp [hk]) (h _ (List.getElem_mem hk))) hs
end
local macro_rules | `(tactic| walk_at "subscriptTail") => `(tactic| (k_here; (with_reducible show wpAny _ _ (subscriptTail _ _ (Value.ref _) (Value.int _ _)) _ _ _); k_dflt (refine' item_at ?a ?b ?c ?d ?_; (case a => exact News.isList (by k_asm) (by k_mem)); (case b => omega); (case c => omega); (case d => omega)); intro v' hv'))
local macro_rules | `(tactic| walk_at "call ref") => `(tactic| (k_here; (with_reducible show wpAny _ _ (call (Value.ref 194) [_, _]) _ _ _); k_dflt (refine' draw_use ?B ?F ?X ?TP ?hk ?hdp ?hun ?N ?P1 ?P2 ?ho ?hi ?hlen ?hne ?offd ?offD ?hb0 ?hb1 ?hT0 ?hT1 ?hM0 ?hM1 ?_; (case B => k_asm); (case F => k_asm); (case X => k_asm); (case TP => k_asm); (case hk => first | exact rfl | assumption); (case hdp => ktr_room); (case hun => ktr_units); (case N => k_asm); (case P1 => repeat (first | exact Pick.head | apply Pick.tail)); (case P2 => repeat (first | exact Pick.head | apply Pick.tail)); (case ho => assumption); (case hi => assumption); (case hlen => assumption); (case hne => k_ne); (case offd => assumption); (case offD => assumption); (case hb0 => omega); (case hb1 => omega); (case hT0 => omega); (case hT1 => omega); (case hM0 => assumption); (case hM1 => assumption)); intro v' t' o' ws' cells' n' t1' t2' h' tk' hD' hv0' hv1' F' N' ho' hi' hl'; (try k_sweep)))
section
variable {prog : Program} {A : Around} {w : World} {p : Program} {loose : List Str} {mean : ExcName → Option Value} {mg mb : Str → Option Value} {dp un : Nat} {gd : Option (List Code)} {cn : Str} {cs : Scope} {L a : Addr} {ccd : Value} {cl : List (Str × Addr)} {outer : List Env} {A₀ : Around} {base h₀ : Heap} {m : Str → Option Value} {s : Shared} {Q E : Value → Shared → Prop}
theorem pick_ok {d D kp : Addr} {o : Obj} {ws kvs : List Value} {cells : List Int} {n nk : Nat} {M T : Int} {t1 t2 : Tok} {R : List (Addr × Obj)}
    (B : Below A₀ base outer h₀) (F : Fr h₀ L s.heap m) (X : (hd.heap_1 w.params).In h₀) (TP : Top p loose mean mg mb h₀) (hk : cs.kind = .function) (hdp : dp + 6 < recursionLimit) (hun : un + 600 < cLine)
    (N : News h₀ L s.heap ((d, o) :: (D, listOf ws.toArray n) :: (kp, listOf kvs.toArray nk) :: R))
    (ho : o.IsDictOf (PySem.strKind Challenge.rw_on0259_01.row.prog w) [(Str.ofString "cells", Value.ref D), (Str.ofString "mixed", Value.int M t1), (Str.ofString "turn", Value.int T t2)]) (hi : IntsAre ws cells) (hlen : cells.length ≤ 16)
    (hne : d ≠ D) (offd : ∀ q ∈ (kp, listOf kvs.toArray nk) :: R, q.1 ≠ d) (offD : ∀ q ∈ (kp, listOf kvs.toArray nk) :: R, q.1 ≠ D) (hT0 : 0 ≤ T) (hT1 : T ≤ 900) (hM0 : 0 ≤ M) (hM1 : M < 2147483587) (hk0 : 0 < kvs.length) (hk1 : kvs.length ≤ 100)
    (ret : ∀ (v : Value) (o' : Obj) (ws' : List Value) (cells' : List Int) (n' : Nat) (t1' t2' : Tok) (h' : Heap) (tk' : Tok), v ∈ kvs → Fr h₀ L h' m → News h₀ L h' ((d, o') :: (D, listOf ws'.toArray n') :: (kp, listOf kvs.toArray nk) :: R) →
      o'.IsDictOf (PySem.strKind Challenge.rw_on0259_01.row.prog w) [(Str.ofString "cells", Value.ref D), (Str.ofString "mixed", Value.int M t1'), (Str.ofString "turn", Value.int (T + 1) t2')] → IntsAre ws' cells' → cells'.length ≤ 16 → Q v { s with heap := h', toks := tk' }) :
    wpAny (model Challenge.rw_on0259_01.row.prog w) (ktrTop dp un gd cn cs L a ccd cl outer) (call (.ref 201) [.ref d, .ref kp]) Q E s := by
  revert X
  k_fill
  intro X
  w_on
  w_strict (refine wpAny_call ?_; k_dflt ktr_enter; (repeat' (first | (k_unfold; (try dsimp only)) | (k_end; wrow_close) | ((with_reducible show wpAny _ _ (call _ _) _ _ _); first | (with_reducible ((with_reducible show wpAny _ _ (call (Value.ref 52) [_]) _ _ _); k_dflt (apply pserr_call; walk_at "s7"; walk_at "n2"); intro e' d' t' k' h' tk' F' N' l1 l2 l3; (try dsimp only [AllLt] at l1 l2 l3); (try k_sweep))) | (with_reducible ((with_reducible show wpAny _ _ (call (Value.ref 208) [_]) _ _ _); k_dflt (apply thing_call; walk_at "s7"; walk_at "n2"); intro x' dx' od' h' tk' F' N' l1 l2 hT'; (try k_lt l1); (try k_lt l2); (try k_sweep))) | (with_reducible ((with_reducible show wpAny _ _ (call (Value.builtin _) [Value.ref _]) _ _ _); k_dflt (refine' my_pop ?z161F ?z161N ?z161U ?z161e ?z161z ?_; (case z161F => k_asm); (case z161N => k_asm); (case z161U => k_updF); (case z161e => assumption); (case z161z => omega)); intro y' n' h' F' N'; (try dsimp only at N'); (try k_sweep))) | (with_reducible ((with_reducible show wpAny _ _ (call (Value.builtin _) [Value.ref _, Value.ref _]) _ _ _); k_dflt (refine' my_extend ?z160F ?z160N ?z160b ?z160U ?z160z ?_; (case z160F => k_asm); (case z160N => k_asm); (case z160b => k_mem); (case z160U => k_updF); (case z160z => walk_at "sz")); intro n' h' F' N'; (try dsimp only at N'); (try k_sweep))) | (with_reducible ((with_reducible show wpAny _ _ (call (Value.builtin "len") [Value.ref _]) _ _ _); k_dflt (refine' my_len ?z154k1 ?z154k2 ?_; (case z154k1 => exact News.isList (by k_asm) (by k_mem)); (case z154k2 => ((try simp only [List.length_append, List.length_cons, List.length_nil, List.length_take, List.length_drop, List.length_dropLast]); omega)); k_whole))) | (dsimp only [List.nil_append, List.cons_append]; first | (with_reducible ((with_reducible show wpAny _ _ (call (Value.builtin _) [Value.ref _]) _ _ _); k_dflt (refine' my_pop ?z163F ?z163N ?z163U ?z163e ?z163z ?_; (case z163F => k_asm); (case z163N => k_asm); (case z163U => k_updF); (case z163e => assumption); (case z163z => omega)); intro y' n' h' F' N'; (try dsimp only at N'); (try k_sweep))) | (with_reducible ((with_reducible show wpAny _ _ (call (Value.builtin _) [Value.ref _, Value.ref _]) _ _ _); k_dflt (refine' my_extend ?z164F ?z164N ?z164b ?z164U ?z164z ?_; (case z164F => k_asm); (case z164N => k_asm); (case z164b => k_mem); (case z164U => k_updF); (case z164z => walk_at "sz")); intro n' h' F' N'; (try dsimp only at N'); (try k_sweep))))) | ((with_reducible show wpAny _ _ (callWith _ _ _ _ _) _ _ _); first | (with_reducible ((with_reducible show wpAny _ _ (callWith _ (Value.ref (OfNat.ofNat _)) _ _ _) _ _ _); k_dflt (first | refine' callWith_K ?z155k1 ?z155k2 ?_; (case z155k1 => k_asm); (case z155k2 => k_is); k_whole | refine' callWith_K0 ?z155k1 ?z155k2 ?_; (case z155k1 => k_in); (case z155k2 => k_is); k_whole | (refine' callWith_M0 ?z155k1 ?z155k2 ?_; (case z155k1 => k_meth); (case z155k2 => k_is); k_whole; try dsimp only [List.nil_append, List.cons_append]) | refine' callWith_M ?z155k1 ?z155k2 ?z155k3 ?z155k4 ?_; (case z155k1 => k_asm); (case z155k2 => k_asm); (case z155k3 => k_mem); (case z155k4 => k_is); k_whole)))) | (with_reducible ((with_reducible show wpAny _ _ (eval (PySem.Expr.Lambda _ _ _ _) _) _ _ _); kn_here; k_dflt (refine' kla_eval ?z156d0 ?_; (case z156d0 => exact rfl)); (with_reducible rename TabInv _ _ => TI'); k_dflt (refine' lam_both ?z156F ?z156N ?z156T ?z156C ?z156cd ?z156U TI' ?z156q ?z156R ?z156b ?z156bn ?z156cl ?_; (case z156F => k_asm); (case z156N => k_asm); (case z156T => k_asm); (case z156cd => exact rfl); (case z156C => kn_code); (case z156U => k_updF); (case z156q => exact rfl); (case z156R => (intro q9 hq9; repeat (first | assumption | apply List.mem_cons_of_mem))); (case z156b => assumption); (case z156bn => (repeat' (first | exact True.intro | refine And.intro ⟨_, by (repeat (first | (with_reducible exact List.mem_cons_self) | apply List.mem_cons_of_mem))⟩ ?_))); (case z156cl => exact rfl); k_whole); intro f' c' oc' vs' t' ct' ps' h' tk' F' N' d1' d2' l1 l2 hc' TJ'; (try dsimp only at N'); (try k_lt l1); k_dflt (obtain ⟨_, _, _, _, _, _, _⟩ := hc'))) | ((with_reducible show wpAny _ _ (getAttr _ _ _) _ _ _); first | (with_reducible ((with_reducible show wpAny _ _ (getAttr (Value.ref _) (PySem.Str.ofString "told") _) _ _ _); k_dflt (refine' exc_told (K := hd.heap_1 _) ?z157X (exc_inst ?z157N ?z157m1 ?z157m2 ?z157c ?z157d) ?z157a ?z157b ?z157q ?z157f1 ?z157f2 ?z157f3 ?z157f4 ?z157h ?_; (case z157N => k_asm); (case z157m1 => k_mem); (case z157c => assumption); (case z157d => assumption); (case z157m2 => k_mem); (case z157X => k_in); (case z157a => k_is); (case z157b => k_is); (case z157q => k_is); (case z157f1 => k_is); (case z157f2 => k_is); (case z157f3 => k_is); (case z157f4 => k_get); (case z157h => exact rfl); k_whole)))) | ((with_reducible show wpAny _ _ (subscriptTail _ _ _ _) _ _ _); first | (with_reducible ((with_reducible show wpAny _ _ (subscriptTail _ (PySem.Expr.Slice _ _ none _) (Value.ref _) (Value.ref _)) _ _ _); k_dflt (refine' kmk_slice_lit ?z158F ?z158N ?z158l ?z158p ?z158q ?z158e ?_ ?z158s ?z158t ?z158z; (case z158F => k_asm); (case z158N => k_asm); (case z158l => exact News.isList (by k_asm) (by k_mem)); (case z158p => kmk_part); (case z158q => kmk_part); (case z158e => first | exact pk_all | exact pk_upto (by omega) | exact pk_from (by omega) | exact pk_run (by omega) (by omega) | exact pk_upto_neg (by omega)); (case z158s => with_unfolding_all rfl); (case z158t => kmk_pure); (case z158z => size_fits)); intro D' h' F' N' l1; (try k_lt l1); (try k_sweep)))) | ((with_reducible show wpAny _ _ (binaryOp _ _ _) _ _ _); first | (with_reducible ((with_reducible show wpAny _ _ (binaryOp _ (Value.ref _) (Value.ref _)) _ _ _); k_dflt (refine' my_add ?z159F ?z159N ?z159a ?z159b ?_ ?z159z; (case z159F => k_asm); (case z159N => k_asm); (case z159a => exact News.isList (by k_asm) (by k_mem)); (case z159b => exact News.isList (by k_asm) (by k_mem)); (case z159z => walk_at "sz")); intro D' h' F' N' l1; (try k_lt l1); (try k_sweep)))) | ((with_reducible show wpAny _ _ (compareOp _ _ _) _ _ _); first | (with_reducible ((with_reducible show wpAny _ _ (compareOp CmpOp.Eq (Value.ref _) (Value.ref _)) _ _ _); k_dflt (refine' eq_empty ?z162a ?z162b ?z162e ?z162u ?_; (case z162a => exact News.isList (by k_asm) (by k_mem)); (case z162b => exact News.isList (by k_asm) (by k_mem)); (case z162e => exact rfl); (case z162u => ktr_units))))) | walk1 | (dsimp only; walk1) | (dsimp only [List.nil_append, List.cons_append]; walk1) | (leave1; walk_say "STEP leave1"; try dsimp only))))
  exact ret _ _ _ _ _ _ _ _ _ (by assumption) (by k_asm) (by refine' cb_drop ?cbN ?cbS; (case cbN => k_asm); (case cbS => kcj_all)) (by assumption) (by assumption) (by assumption)
theorem many_ok {it sd l : Addr} {k1 k2 tm : Tok} {most : Int} {n : Nat} {vs : List Value} {R : List (Addr × Obj)}
    (B : Below A₀ base outer h₀) (F : Fr h₀ L s.heap m) (X : (hd.heap_1 w.params).In h₀) (TP : Top p loose mean mg mb h₀) (hk : cs.kind = .function) (hdp : dp + 3 < recursionLimit) (hun : un + 400 < cLine)
    (N : News h₀ L s.heap ((l, listOf vs.toArray n) :: (sd, stkD w k1 k2 most tm l 2) :: (it, instObj 156 sd) :: R)) (hlen : vs.length ≤ 20)
    (ret : ∀ (t : Tok) (h' : Heap) (tk' : Tok), Fr h₀ L h' m → News h₀ L h' ((l, listOf vs.toArray n) :: (sd, stkD w k1 k2 most tm l 2) :: (it, instObj 156 sd) :: R) → Q (.int (vs.length : Int) t) { s with heap := h', toks := tk' }) :
    wpAny (model Challenge.rw_on0259_01.row.prog w) (ktrTop dp un gd cn cs L a ccd cl outer) (getAttr (.ref it) (Str.ofString "many") true) Q E s := by
  revert X
  k_fill
  intro X
  w_on
  w_strict (k_dflt (refine' get_prop ?k1 ?k2 ?k3 ?k4 ?k5 ?k6 ?k7 ?k8 ?k9 ?_; (case k1 => k_asm); (case k2 => k_asm); (case k3 => k_inst); (case k4 => k_is); (case k5 => k_is); (case k6 => k_is); (case k7 => k_is); (case k8 => k_is); (case k9 => k_is)); k_dflt ktr_enter; (repeat' (first | (k_unfold; (try dsimp only)) | (k_end; wrow_close) | ((with_reducible show wpAny _ _ (call _ _) _ _ _); first | (with_reducible ((with_reducible show wpAny _ _ (call (Value.ref 52) [_]) _ _ _); k_dflt (apply pserr_call; walk_at "s7"; walk_at "n2"); intro e' d' t' k' h' tk' F' N' l1 l2 l3; (try dsimp only [AllLt] at l1 l2 l3); (try k_sweep))) | (with_reducible ((with_reducible show wpAny _ _ (call (Value.ref 208) [_]) _ _ _); k_dflt (apply thing_call; walk_at "s7"; walk_at "n2"); intro x' dx' od' h' tk' F' N' l1 l2 hT'; (try k_lt l1); (try k_lt l2); (try k_sweep))) | (with_reducible ((with_reducible show wpAny _ _ (call (Value.builtin _) [Value.ref _]) _ _ _); k_dflt (refine' my_pop ?z172F ?z172N ?z172U ?z172e ?z172z ?_; (case z172F => k_asm); (case z172N => k_asm); (case z172U => k_updF); (case z172e => assumption); (case z172z => omega)); intro y' n' h' F' N'; (try dsimp only at N'); (try k_sweep))) | (with_reducible ((with_reducible show wpAny _ _ (call (Value.builtin _) [Value.ref _, Value.ref _]) _ _ _); k_dflt (refine' my_extend ?z171F ?z171N ?z171b ?z171U ?z171z ?_; (case z171F => k_asm); (case z171N => k_asm); (case z171b => k_mem); (case z171U => k_updF); (case z171z => walk_at "sz")); intro n' h' F' N'; (try dsimp only at N'); (try k_sweep))) | (with_reducible ((with_reducible show wpAny _ _ (call (Value.builtin "len") [Value.ref _]) _ _ _); k_dflt (refine' my_len ?z165k1 ?z165k2 ?_; (case z165k1 => exact News.isList (by k_asm) (by k_mem)); (case z165k2 => ((try simp only [List.length_append, List.length_cons, List.length_nil, List.length_take, List.length_drop, List.length_dropLast]); omega)); k_whole))) | (dsimp only [List.nil_append, List.cons_append]; first | (with_reducible ((with_reducible show wpAny _ _ (call (Value.builtin _) [Value.ref _]) _ _ _); k_dflt (refine' my_pop ?z174F ?z174N ?z174U ?z174e ?z174z ?_; (case z174F => k_asm); (case z174N => k_asm); (case z174U => k_updF); (case z174e => assumption); (case z174z => omega)); intro y' n' h' F' N'; (try dsimp only at N'); (try k_sweep))) | (with_reducible ((with_reducible show wpAny _ _ (call (Value.builtin _) [Value.ref _, Value.ref _]) _ _ _); k_dflt (refine' my_extend ?z175F ?z175N ?z175b ?z175U ?z175z ?_; (case z175F => k_asm); (case z175N => k_asm); (case z175b => k_mem); (case z175U => k_updF); (case z175z => walk_at "sz")); intro n' h' F' N'; (try dsimp only at N'); (try k_sweep))))) | ((with_reducible show wpAny _ _ (callWith _ _ _ _ _) _ _ _); first | (with_reducible ((with_reducible show wpAny _ _ (callWith _ (Value.ref (OfNat.ofNat _)) _ _ _) _ _ _); k_dflt (first | refine' callWith_K ?z166k1 ?z166k2 ?_; (case z166k1 => k_asm); (case z166k2 => k_is); k_whole | refine' callWith_K0 ?z166k1 ?z166k2 ?_; (case z166k1 => k_in); (case z166k2 => k_is); k_whole | (refine' callWith_M0 ?z166k1 ?z166k2 ?_; (case z166k1 => k_meth); (case z166k2 => k_is); k_whole; try dsimp only [List.nil_append, List.cons_append]) | refine' callWith_M ?z166k1 ?z166k2 ?z166k3 ?z166k4 ?_; (case z166k1 => k_asm); (case z166k2 => k_asm); (case z166k3 => k_mem); (case z166k4 => k_is); k_whole)))) | (with_reducible ((with_reducible show wpAny _ _ (eval (PySem.Expr.Lambda _ _ _ _) _) _ _ _); kn_here; k_dflt (refine' kla_eval ?z167d0 ?_; (case z167d0 => exact rfl)); (with_reducible rename TabInv _ _ => TI'); k_dflt (refine' lam_both ?z167F ?z167N ?z167T ?z167C ?z167cd ?z167U TI' ?z167q ?z167R ?z167b ?z167bn ?z167cl ?_; (case z167F => k_asm); (case z167N => k_asm); (case z167T => k_asm); (case z167cd => exact rfl); (case z167C => kn_code); (case z167U => k_updF); (case z167q => exact rfl); (case z167R => (intro q9 hq9; repeat (first | assumption | apply List.mem_cons_of_mem))); (case z167b => assumption); (case z167bn => (repeat' (first | exact True.intro | refine And.intro ⟨_, by (repeat (first | (with_reducible exact List.mem_cons_self) | apply List.mem_cons_of_mem))⟩ ?_))); (case z167cl => exact rfl); k_whole); intro f' c' oc' vs' t' ct' ps' h' tk' F' N' d1' d2' l1 l2 hc' TJ'; (try dsimp only at N'); (try k_lt l1); k_dflt (obtain ⟨_, _, _, _, _, _, _⟩ := hc'))) | ((with_reducible show wpAny _ _ (getAttr _ _ _) _ _ _); first | (with_reducible ((with_reducible show wpAny _ _ (getAttr (Value.ref _) (PySem.Str.ofString "told") _) _ _ _); k_dflt (refine' exc_told (K := hd.heap_1 _) ?z168X (exc_inst ?z168N ?z168m1 ?z168m2 ?z168c ?z168d) ?z168a ?z168b ?z168q ?z168f1 ?z168f2 ?z168f3 ?z168f4 ?z168h ?_; (case z168N => k_asm); (case z168m1 => k_mem); (case z168c => assumption); (case z168d => assumption); (case z168m2 => k_mem); (case z168X => k_in); (case z168a => k_is); (case z168b => k_is); (case z168q => k_is); (case z168f1 => k_is); (case z168f2 => k_is); (case z168f3 => k_is); (case z168f4 => k_get); (case z168h => exact rfl); k_whole)))) | ((with_reducible show wpAny _ _ (subscriptTail _ _ _ _) _ _ _); first | (with_reducible ((with_reducible show wpAny _ _ (subscriptTail _ (PySem.Expr.Slice _ _ none _) (Value.ref _) (Value.ref _)) _ _ _); k_dflt (refine' kmk_slice_lit ?z169F ?z169N ?z169l ?z169p ?z169q ?z169e ?_ ?z169s ?z169t ?z169z; (case z169F => k_asm); (case z169N => k_asm); (case z169l => exact News.isList (by k_asm) (by k_mem)); (case z169p => kmk_part); (case z169q => kmk_part); (case z169e => first | exact pk_all | exact pk_upto (by omega) | exact pk_from (by omega) | exact pk_run (by omega) (by omega) | exact pk_upto_neg (by omega)); (case z169s => with_unfolding_all rfl); (case z169t => kmk_pure); (case z169z => size_fits)); intro D' h' F' N' l1; (try k_lt l1); (try k_sweep)))) | ((with_reducible show wpAny _ _ (binaryOp _ _ _) _ _ _); first | (with_reducible ((with_reducible show wpAny _ _ (binaryOp _ (Value.ref _) (Value.ref _)) _ _ _); k_dflt (refine' my_add ?z170F ?z170N ?z170a ?z170b ?_ ?z170z; (case z170F => k_asm); (case z170N => k_asm); (case z170a => exact News.isList (by k_asm) (by k_mem)); (case z170b => exact News.isList (by k_asm) (by k_mem)); (case z170z => walk_at "sz")); intro D' h' F' N' l1; (try k_lt l1); (try k_sweep)))) | ((with_reducible show wpAny _ _ (compareOp _ _ _) _ _ _); first | (with_reducible ((with_reducible show wpAny _ _ (compareOp CmpOp.Eq (Value.ref _) (Value.ref _)) _ _ _); k_dflt (refine' eq_empty ?z173a ?z173b ?z173e ?z173u ?_; (case z173a => exact News.isList (by k_asm) (by k_mem)); (case z173b => exact News.isList (by k_asm) (by k_mem)); (case z173e => exact rfl); (case z173u => ktr_units))))) | walk1 | (dsimp only; walk1) | (dsimp only [List.nil_append, List.cons_append]; walk1) | (leave1; walk_say "STEP leave1"; try dsimp only))))
  exact ret _ _ _ (by k_asm) (by refine' cb_drop ?cbN ?cbS; (case cbN => k_asm); (case cbS => kcj_all))
theorem many_wd {d D it ol kp : Addr} {M most T : Int} {own : List Int} {ok : Obj} {R nw : List (Addr × Obj)}
    (B : Below A₀ base outer h₀) (F : Fr h₀ L s.heap m) (X : (hd.heap_1 w.params).In h₀) (TP : Top p loose mean mg mb h₀) (hk : cs.kind = .function) (hdp : dp + 6 < recursionLimit) (hun : un + 600 < cLine)
    (N : News h₀ L s.heap nw) (W : Wd w d D it ol kp M most T own ok R nw) (hm1 : most ≤ 9)
    (ret : ∀ (t : Tok) (h' : Heap) (tk' : Tok), Fr h₀ L h' m → News h₀ L h' nw → Q (.int (own.length : Int) t) { s with heap := h', toks := tk' }) :
    wpAny (model Challenge.rw_on0259_01.row.prog w) (ktrTop dp un gd cn cs L a ccd cl outer) (getAttr (.ref it) (Str.ofString "many") true) Q E s := by
  obtain ⟨l, sd, o, ws, cells, n, nl, non, t1, t2, k1, k2, tm, vs, ows, ps, rfl, hap, hoff, ho, hi, hl, TI, HT, HO, hom⟩ := W
  have hvl := HT.length
  refine many_ok B F X TP hk (by omega) (by omega) (pick3 N (.tail (.tail (.tail (.tail (.tail .head))))) (.tail (.tail (.tail (.tail .head)))) (.tail (.tail (.tail .head)))) (by omega) fun t h' tk' F' N' => ?_
  rw [hvl]
  refine ret t h' tk' F' fun q hq => ?_
  simp only [List.mem_cons] at hq
  refine N' q ?_
  simp only [List.mem_cons]
  rcases hq with h | h | h | h | h | h | h | h | h <;> simp only [h, true_or, or_true]
theorem pick_wd {d D it ol kp : Addr} {M most T : Int} {own : List Int} {kvs : List Value} {nk : Nat} {R nw : List (Addr × Obj)}
    (B : Below A₀ base outer h₀) (F : Fr h₀ L s.heap m) (X : (hd.heap_1 w.params).In h₀) (TP : Top p loose mean mg mb h₀) (hk : cs.kind = .function) (hdp : dp + 6 < recursionLimit) (hun : un + 600 < cLine)
    (N : News h₀ L s.heap nw) (W : Wd w d D it ol kp M most T own (listOf kvs.toArray nk) R nw) (K : KeptIn w R most kvs) (hT0 : 0 ≤ T) (hT1 : T ≤ 900) (hM0 : 0 ≤ M) (hM1 : M < 2147483587) (hk0 : 0 < kvs.length) (hk1 : kvs.length ≤ 100)
    (ret : ∀ (pa ta la : Addr) (vs ows : List Value) (n : Nat) (own' : List Int) (nw' : List (Addr × Obj)) (h' : Heap) (tk' : Tok), Fr h₀ L h' m → News h₀ L h' ((pa, tupO [.ref ta, .ref la]) :: nw') → Wd w d D it ol kp M most (T + 1) own (listOf kvs.toArray nk) R nw' → (ta, tupO vs) ∈ R → (la, listOf ows.toArray n) ∈ R → ThingsIn w R vs own' → IntsAre ows own' → (own'.length : Int) ≤ most → Q (.ref pa) { s with heap := h', toks := tk' }) :
    wpAny (model Challenge.rw_on0259_01.row.prog w) (ktrTop dp un gd cn cs L a ccd cl outer) (call (.ref 201) [.ref d, .ref kp]) Q E s := by
  obtain ⟨l, sd, o, ws, cells, n, nl, non, t1, t2, k1, k2, tm, vs, ows, ps, rfl, hap, hoff, ho, hi, hl, TI, HT, HO, hom⟩ := W
  have hap2 := hap
  simp only [AllNe, NeAll, and_true] at hap2
  obtain ⟨⟨c_d, c_D, c_l, c_sd, c_it, c_ol, c_kp⟩, ⟨d_D, d_l, d_sd, d_it, d_ol, d_kp⟩, ⟨D_l, D_sd, D_it, D_ol, D_kp⟩, ⟨l_sd, l_it, l_ol, l_kp⟩, ⟨sd_it, sd_ol, sd_kp⟩, ⟨it_ol, it_kp⟩, ol_kp⟩ := hap2
  refine pick_ok (n := n) (nk := nk) (R := (222, tabObj ps) :: (l, listOf vs.toArray nl) :: (sd, stkD w k1 k2 most tm l 2) :: (it, instObj 156 sd) :: (ol, listOf ows.toArray non) :: R) B F X TP hk hdp hun (fun q hq => N q ?_) ho hi hl d_D (fun q hq => ?_) (fun q hq => ?_) hT0 hT1 hM0 hM1 hk0 hk1 fun v o' ws' cells' n' t1' t2' h' tk' hv F' N' ho' hi' hl' => ?_
  · simp only [List.mem_cons] at hq ⊢
    rcases hq with h | h | h | h | h | h | h | h | h <;> simp only [h, true_or, or_true]
  · simp only [List.mem_cons] at hq
    rcases hq with h | h | h | h | h | h | h
    · rw [h]; exact d_kp.symm
    · rw [h]; exact c_d
    · rw [h]; exact d_l.symm
    · rw [h]; exact d_sd.symm
    · rw [h]; exact d_it.symm
    · rw [h]; exact d_ol.symm
    · exact (hoff q h).one _ (by simp)
  · simp only [List.mem_cons] at hq
    rcases hq with h | h | h | h | h | h | h
    · rw [h]; exact D_kp.symm
    · rw [h]; exact c_D
    · rw [h]; exact D_l.symm
    · rw [h]; exact D_sd.symm
    · rw [h]; exact D_it.symm
    · rw [h]; exact D_ol.symm
    · exact (hoff q h).one _ (by simp)
  · obtain ⟨pa, ta, la, vs2, ows2, n2, own2, rfl, m1, m2, m3, HT2, HO2, hom2⟩ := K v hv
    refine ret pa ta la vs2 ows2 n2 own2 _ h' tk' F' (fun q hq => N' q ?_) ⟨l, sd, o', ws', cells', n', nl, non, t1', t2', k1, k2, tm, vs, ows, ps, rfl, hap, hoff, ho', hi', hl', TI, HT, HO, hom⟩ m2 m3 HT2 HO2 hom2
    rcases List.mem_cons.mp hq with rfl | hq
    · repeat (first | exact m1 | apply List.mem_cons_of_mem)
    · simp only [List.mem_cons] at hq ⊢
      rcases hq with h | h | h | h | h | h | h | h | h <;> simp only [h, true_or, or_true]
end
/-- the state, whatever the stack holds -/
def Wd0 (w : World) (d D it ol kp : Addr) (M most T : Int) (ok : Obj) (R nw : List (Addr × Obj)) : Prop :=
  ∃ (l sd : Addr) (o : Obj) (ws : List Value) (cells : List Int) (n nl non : Nat) (t1 t2 k1 k2 tm : Tok) (vs ows : List Value) (ps : Array Value),
    nw = (222, tabObj ps) :: (d, o) :: (D, listOf ws.toArray n) :: (l, listOf vs.toArray nl) :: (sd, stkD w k1 k2 most tm l 2) :: (it, instObj 156 sd) :: (ol, listOf ows.toArray non) :: (kp, ok) :: R ∧
    AllNe [222, d, D, l, sd, it, ol, kp] ∧ (∀ q ∈ R, NeAll q.1 [222, d, D, l, sd, kp]) ∧
    o.IsDictOf (PySem.strKind Challenge.rw_on0259_01.row.prog w) [(Str.ofString "cells", Value.ref D), (Str.ofString "mixed", Value.int M t1), (Str.ofString "turn", Value.int T t2)] ∧ IntsAre ws cells ∧ cells.length ≤ 16 ∧
    TabInv R ps ∧ vs.length ≤ 20
section
variable {prog : Program} {A : Around} {w : World} {p : Program} {loose : List Str} {mean : ExcName → Option Value} {mg mb : Str → Option Value} {dp un : Nat} {gd : Option (List Code)} {cn : Str} {cs : Scope} {L a : Addr} {ccd : Value} {cl : List (Str × Addr)} {outer : List Env} {A₀ : Around} {base h₀ : Heap} {m : Str → Option Value} {s : Shared} {Q E : Value → Shared → Prop}
variable {d D it ol kp : Addr} {M most T : Int} {own : List Int} {ok : Obj} {R nw : List (Addr × Obj)}
theorem Wd.weak (W : Wd w d D it ol kp M most T own ok R nw) (hm1 : most ≤ 9) : Wd0 w d D it ol kp M most T ok R nw := by
  obtain ⟨l, sd, o, ws, cells, n, nl, non, t1, t2, k1, k2, tm, vs, ows, ps, e, hap, hoff, ho, hi, hl, TI, HT, HO, hom⟩ := W
  have hvl := HT.length
  exact ⟨l, sd, o, ws, cells, n, nl, non, t1, t2, k1, k2, tm, vs, ows, ps, e, hap, hoff, ho, hi, hl, TI, by omega⟩
theorem push_wd0 {v : Value} (B : Below A₀ base outer h₀) (F : Fr h₀ L s.heap m) (X : (hd.heap_1 w.params).In h₀) (TP : Top p loose mean mg mb h₀) (hk : cs.kind = .function) (hdp : dp + 6 < recursionLimit) (hun : un + 600 < cLine)
    (N : News h₀ L s.heap nw) (W : Wd w d D it ol kp M most T own ok R nw) (hm1 : most ≤ 9) (hlt : (own.length : Int) < most)
    (ret : ∀ (nw' : List (Addr × Obj)) (h' : Heap) (tk' : Tok), Fr h₀ L h' m → News h₀ L h' nw' → Wd0 w d D it ol kp M most T ok R nw' → Q .none { s with heap := h', toks := tk' }) :
    wpAny (model Challenge.rw_on0259_01.row.prog w) (ktrTop dp un gd cn cs L a ccd cl outer) (call (.ref 83) [.ref it, v]) Q E s := by
  obtain ⟨l, sd, o, ws, cells, n, nl, non, t1, t2, k1, k2, tm, vs, ows, ps, rfl, hap, hoff, ho, hi, hl, TI, HT, HO, hom⟩ := W
  have hvl := HT.length
  have hap2 := hap
  simp only [AllNe, NeAll, and_true] at hap2
  obtain ⟨⟨c_d, c_D, c_l, c_sd, c_it, c_ol, c_kp⟩, ⟨d_D, d_l, d_sd, d_it, d_ol, d_kp⟩, ⟨D_l, D_sd, D_it, D_ol, D_kp⟩, ⟨l_sd, l_it, l_ol, l_kp⟩, ⟨sd_it, sd_ol, sd_kp⟩, ⟨it_ol, it_kp⟩, ol_kp⟩ := hap2
  refine push_ok (R := (222, tabObj ps) :: (d, o) :: (D, listOf ws.toArray n) :: (ol, listOf ows.toArray non) :: (kp, ok) :: R) B F X TP hk (by omega) (by omega) (pick3 N (.tail (.tail (.tail (.tail (.tail .head))))) (.tail (.tail (.tail (.tail .head)))) (.tail (.tail (.tail .head)))) l_sd.symm l_it.symm sd_it.symm (fun q hq => ?_) (fun q hq => ?_) (by omega) (by omega) fun n' h' tk' F' N' => ?_
  · simp only [List.mem_cons] at hq
    rcases hq with h | h | h | h | h | h
    · rw [h]; exact c_l
    · rw [h]; exact d_l
    · rw [h]; exact D_l
    · rw [h]; exact l_ol.symm
    · rw [h]; exact l_kp.symm
    · exact (hoff q h).one _ (by simp)
  · simp only [List.mem_cons] at hq
    rcases hq with h | h | h | h | h | h
    · rw [h]; exact c_sd
    · rw [h]; exact d_sd
    · rw [h]; exact D_sd
    · rw [h]; exact sd_ol.symm
    · rw [h]; exact sd_kp.symm
    · exact (hoff q h).one _ (by simp)
  · refine ret _ h' tk' F' (fun q hq => N' q ?_) ⟨l, sd, o, ws, cells, n, n', non, t1, t2, k1, k2, tm, vs ++ [v], ows, ps, rfl, hap, hoff, ho, hi, hl, TI, by simp only [List.length_append, List.length_cons, List.length_nil]; omega⟩
    simp only [List.mem_cons] at hq ⊢
    rcases hq with h | h | h | h | h | h | h | h | h <;> simp only [h, true_or, or_true]
theorem put_back_wd {ta la : Addr} {vs ows : List Value} {n2 : Nat} (B : Below A₀ base outer h₀) (F : Fr h₀ L s.heap m) (X : (hd.heap_1 w.params).In h₀) (TP : Top p loose mean mg mb h₀) (hk : cs.kind = .function) (hdp : dp + 6 < recursionLimit) (hun : un + 600 < cLine)
    (N : News h₀ L s.heap nw) (W : Wd0 w d D it ol kp M most T ok R nw) (hm1 : most ≤ 9) (m2 : (ta, tupO vs) ∈ R) (m3 : (la, listOf ows.toArray n2) ∈ R) (HT : ThingsIn w R vs own) (HO : IntsAre ows own) (hom : (own.length : Int) ≤ most)
    (ret : ∀ (nw' : List (Addr × Obj)) (h' : Heap) (tk' : Tok), Fr h₀ L h' m → News h₀ L h' nw' → Wd w d D it la kp M most T own ok R nw' → Q .none { s with heap := h', toks := tk' }) :
    wpAny (model Challenge.rw_on0259_01.row.prog w) (ktrTop dp un gd cn cs L a ccd cl outer) (call (.ref 153) [.ref it, .ref ta]) Q E s := by
  obtain ⟨l, sd, o, ws, cells, n, nl, non, t1, t2, k1, k2, tm, vs0, ows0, ps, rfl, hap, hoff, ho, hi, hl, TI, hvs⟩ := W
  have hvl := HT.length
  have hap2 := hap
  simp only [AllNe, NeAll, and_true] at hap2
  obtain ⟨⟨c_d, c_D, c_l, c_sd, c_it, c_ol, c_kp⟩, ⟨d_D, d_l, d_sd, d_it, d_ol, d_kp⟩, ⟨D_l, D_sd, D_it, D_ol, D_kp⟩, ⟨l_sd, l_it, l_ol, l_kp⟩, ⟨sd_it, sd_ol, sd_kp⟩, ⟨it_ol, it_kp⟩, ol_kp⟩ := hap2
  have ola := hoff _ m3
  have it_la : it ≠ la := fun e => by
    have g1 := (N (it, instObj 156 sd) (by simp)).1
    have g2 := (N (la, listOf ows.toArray n2) (by repeat (first | exact m3 | apply List.mem_cons_of_mem))).1
    simp only at g1 g2
    rw [e, g2] at g1
    have g3 := congrArg Obj.cls (Option.some.inj g1)
    cases g3
  refine put_back_ok (R := (222, tabObj ps) :: (d, o) :: (D, listOf ws.toArray n) :: (ol, listOf ows0.toArray non) :: (kp, ok) :: R) (vs := vs) (t := ta) (l := l) (sd := sd) (it := it) (vs0 := vs0) (n := nl) (k1 := k1) (k2 := k2) (tm := tm) (most := most) B F X TP hk (by omega) (by omega) (fun q hq => N q ?_) (by omega) l_sd.symm l_it.symm sd_it.symm ((hoff _ m2).one _ (by simp)) (fun q hq => ?_) fun l' n' h' tk' F' l1 l2 l3 l4 l5 N' => ?_
  · simp only [List.mem_cons] at hq ⊢
    rcases hq with h | h | h | h | h | h | h | h | h | h
    · subst h; exact .inr (.inr (.inr (.inr (.inr (.inr (.inr (.inr m2)))))))
    all_goals simp only [h, true_or, or_true]
  · simp only [List.mem_cons] at hq
    rcases hq with h | h | h | h | h | h
    · rw [h]; exact c_sd
    · rw [h]; exact d_sd
    · rw [h]; exact D_sd
    · rw [h]; exact sd_ol.symm
    · rw [h]; exact sd_kp.symm
    · exact (hoff q h).one _ (by simp)
  · simp only [AllLt] at l5
    obtain ⟨b1, b2, b3, b4, b5, b6⟩ := l5
    have hla : @LT.lt Nat _ la l' := tb_ltOf b6 _ m3
    obtain ⟨e1, e2, e3, e4, e5, e6, _⟩ := ola
    refine ret _ h' tk' F' (fun q hq => N' q ?_) ⟨l', sd, o, ws, cells, n, n', n2, t1, t2, k1, k2, tm, vs, ows, ps, rfl, ?_, off_l hoff b6, ho, hi, hl, TI, HT, HO, hom⟩
    · simp only [List.mem_cons] at hq ⊢
      rcases hq with h | h | h | h | h | h | h | h | h
      case inr.inr.inr.inr.inr.inr.inl => subst h; exact .inr (.inr (.inr (.inr (.inr (.inr (.inr (.inr (.inr m3))))))))
      all_goals simp only [h, true_or, or_true]
    · simp only [AllNe, NeAll, and_true]
      exact ⟨⟨c_d, c_D, Nat.ne_of_lt b1, c_sd, c_it, e1.symm, c_kp⟩, ⟨d_D, Nat.ne_of_lt b2, d_sd, d_it, e2.symm, d_kp⟩, ⟨Nat.ne_of_lt b3, D_sd, D_it, e3.symm, D_kp⟩, ⟨Nat.ne_of_gt l3, Nat.ne_of_gt l4, Nat.ne_of_gt hla, Nat.ne_of_gt b5⟩, ⟨sd_it, e5.symm, sd_kp⟩, ⟨it_la, it_kp⟩, e6⟩
end
end P_S8
section P_S9
section
variable {prog : Program} {A : Around} {w : World} {p : Program} {loose : List Str} {mean : ExcName → Option Value} {mg mb : Str → Option Value} {dp un : Nat} {gd : Option (List Code)} {cn : Str} {cs : Scope} {L a : Addr} {ccd : Value} {cl : List (Str × Addr)} {outer : List Env} {A₀ : Around} {base h₀ : Heap} {m : Str → Option Value} {s : Shared} {Q E : Value → Shared → Prop}
variable {d D it ol kp : Addr} {M most T : Int} {own : List Int} {ok : Obj} {R nw : List (Addr × Obj)}
theorem draw_wd {below : Int} {tb : Tok} (B : Below A₀ base outer h₀) (F : Fr h₀ L s.heap m) (X : (hd.heap_1 w.params).In h₀) (TP : Top p loose mean mg mb h₀) (hk : cs.kind = .function) (hdp : dp + 6 < recursionLimit) (hun : un + 600 < cLine)
    (N : News h₀ L s.heap nw) (W : Wd w d D it ol kp M most T own ok R nw) (hb0 : 0 < below) (hb1 : below ≤ 100) (hT0 : 0 ≤ T) (hT1 : T ≤ 900) (hM0 : 0 ≤ M) (hM1 : M < 2147483587)
    (ret : ∀ (v : Int) (t : Tok) (nw' : List (Addr × Obj)) (h' : Heap) (tk' : Tok), 0 ≤ v → v < below → Fr h₀ L h' m → News h₀ L h' nw' → Wd w d D it ol kp M most (T + 1) own ok R nw' → Q (.int v t) { s with heap := h', toks := tk' }) :
    wpAny (model Challenge.rw_on0259_01.row.prog w) (ktrTop dp un gd cn cs L a ccd cl outer) (call (.ref 194) [.ref d, .int below tb]) Q E s := by
  obtain ⟨l, sd, o, ws, cells, n, nl, non, t1, t2, k1, k2, tm, vs, ows, ps, rfl, hap, hoff, ho, hi, hl, TI, HT, HO, hom⟩ := W
  have hap2 := hap
  simp only [AllNe, NeAll, and_true] at hap2
  obtain ⟨⟨c_d, c_D, c_l, c_sd, c_it, c_ol, c_kp⟩, ⟨d_D, d_l, d_sd, d_it, d_ol, d_kp⟩, ⟨D_l, D_sd, D_it, D_ol, D_kp⟩, ⟨l_sd, l_it, l_ol, l_kp⟩, ⟨sd_it, sd_ol, sd_kp⟩, ⟨it_ol, it_kp⟩, ol_kp⟩ := hap2
  refine draw_use (n := n) B F X TP hk (by omega) (by omega) N (.tail .head) (.tail .head) ho hi hl d_D (fun q hq => ?_) (fun q hq => ?_) hb0 hb1 hT0 (by omega) hM0 hM1 fun v t o' ws' cells' n' t1' t2' h' tk' _ hv0 hv1 F' N' ho' hi' hl' => ?_
  · simp only [List.mem_cons] at hq
    rcases hq with h | h | h | h | h | h | h
    · rw [h]; exact c_d
    · rw [h]; exact d_l.symm
    · rw [h]; exact d_sd.symm
    · rw [h]; exact d_it.symm
    · rw [h]; exact d_ol.symm
    · rw [h]; exact d_kp.symm
    · exact (hoff q h).one _ (by simp)
  · simp only [List.mem_cons] at hq
    rcases hq with h | h | h | h | h | h | h
    · rw [h]; exact c_D
    · rw [h]; exact D_l.symm
    · rw [h]; exact D_sd.symm
    · rw [h]; exact D_it.symm
    · rw [h]; exact D_ol.symm
    · rw [h]; exact D_kp.symm
    · exact (hoff q h).one _ (by simp)
  · refine ret v t _ h' tk' hv0 hv1 F' (fun q hq => N' q ?_) ⟨l, sd, o', ws', cells', n', nl, non, t1', t2', k1, k2, tm, vs, ows, ps, rfl, hap, hoff, ho', hi', hl', TI, HT, HO, hom⟩
    simp only [List.mem_cons] at hq ⊢
    rcases hq with h | h | h | h | h | h | h | h | h <;> simp only [h, true_or, or_true]
end
theorem fold_rng (l : List Int) : ∀ a : Int, 0 ≤ a → a < 2147483587 → 0 ≤ List.foldl (fun a' n' => (a' * 48271 + Int.fmod n' 2147483629 + 13030).fmod 2147483587) a l ∧ List.foldl (fun a' n' => (a' * 48271 + Int.fmod n' 2147483629 + 13030).fmod 2147483587) a l < 2147483587 := by
  induction l with
  | nil => intro a h1 h2; exact ⟨h1, h2⟩
  | cons x l ih => intro a h1 h2; exact ih _ (Int.fmod_nonneg_of_pos _ (by decide)) (Int.fmod_lt_of_pos _ (by decide))
/-- the names that the law keeps -/
def LawM (m : Str → Option Value) (d it kp : Addr) (most : Int) (tm : Tok) : Prop :=
  m (Str.ofString "deck") = some (.ref d) ∧ m (Str.ofString "it") = some (.ref it) ∧ m (Str.ofString "kept") = some (.ref kp) ∧ m (Str.ofString "most") = some (.int most tm)
theorem fun_name {m : Str → Option Value} {x : Str} {v : Option Value} (h : m x = v) : (fun y => if y = x then v else m y) = m := by
  funext y
  by_cases e : y = x
  · rw [if_pos e, e, h]
  · rw [if_neg e]
theorem fr_law {h₀ h : Heap} {L : Addr} {m : Str → Option Value} {x : Str} {v : Option Value} {d it kp : Addr} {most : Int} {tm : Tok} (H : LawM m d it kp most tm) (F : Fr h₀ L h (fun y => if y = x then v else m y)) :
    Fr h₀ L h (fun y => if y = x then v else if y = Str.ofString "deck" then some (.ref d) else if y = Str.ofString "it" then some (.ref it) else if y = Str.ofString "kept" then some (.ref kp) else if y = Str.ofString "most" then some (.int most tm) else m y) := by
  obtain ⟨h1, h2, h3, h4⟩ := H
  have e : m = fun y => if y = Str.ofString "deck" then some (.ref d) else if y = Str.ofString "it" then some (.ref it) else if y = Str.ofString "kept" then some (.ref kp) else if y = Str.ofString "most" then some (.int most tm) else m y := by
    funext y
    by_cases e1 : y = Str.ofString "deck"
    · rw [if_pos e1, e1, h1]
    rw [if_neg e1]
    by_cases e2 : y = Str.ofString "it"
    · rw [if_pos e2, e2, h2]
    rw [if_neg e2]
    by_cases e3 : y = Str.ofString "kept"
    · rw [if_pos e3, e3, h3]
    rw [if_neg e3]
    by_cases e4 : y = Str.ofString "most"
    · rw [if_pos e4, e4, h4]
    rw [if_neg e4]
  rw [e] at F
  exact F
theorem fr_law_own {h₀ h : Heap} {L : Addr} {m : Str → Option Value} {x : Str} {v : Option Value} {d it kp ol : Addr} {most : Int} {tm : Tok} (H : LawM m d it kp most tm) (Ho : m (Str.ofString "own") = some (.ref ol)) (F : Fr h₀ L h (fun y => if y = x then v else m y)) :
    Fr h₀ L h (fun y => if y = x then v else if y = Str.ofString "deck" then some (.ref d) else if y = Str.ofString "it" then some (.ref it) else if y = Str.ofString "kept" then some (.ref kp) else if y = Str.ofString "most" then some (.int most tm) else if y = Str.ofString "own" then some (.ref ol) else m y) := by
  have e := fun_name Ho
  rw [← e] at H F
  have F2 := fr_law H F
  exact F2
theorem fr_law0 {h₀ h : Heap} {L : Addr} {m : Str → Option Value} {d it kp : Addr} {most : Int} {tm : Tok} (H : LawM m d it kp most tm) (F : Fr h₀ L h m) :
    Fr h₀ L h (fun y => if y = Str.ofString "deck" then some (.ref d) else if y = Str.ofString "it" then some (.ref it) else if y = Str.ofString "kept" then some (.ref kp) else if y = Str.ofString "most" then some (.int most tm) else m y) := by
  have h1 := H.1
  rw [← fun_name h1] at F
  have F2 := fr_law H F
  have e : (fun y => if y = Str.ofString "deck" then some (Value.ref d) else if y = Str.ofString "deck" then some (.ref d) else if y = Str.ofString "it" then some (.ref it) else if y = Str.ofString "kept" then some (.ref kp) else if y = Str.ofString "most" then some (.int most tm) else m y)
      = fun y => if y = Str.ofString "deck" then some (Value.ref d) else if y = Str.ofString "it" then some (.ref it) else if y = Str.ofString "kept" then some (.ref kp) else if y = Str.ofString "most" then some (.int most tm) else m y := by
    funext y
    by_cases e1 : y = Str.ofString "deck"
    · rw [if_pos e1, if_pos e1]
    · simp only [if_neg e1]
  rw [e] at F2
  exact F2
def Stop (p : Prop) : Prop := p
end P_S9
section P_SA
theorem stop {p : Prop} (h : Stop p) : p := h
theorem News.tl {h₀ h : Heap} {L : Addr} {x : Addr × Obj} {l : List (Addr × Obj)} (N : News h₀ L h (x :: l)) : News h₀ L h l := fun q hq => N q (.tail _ hq)
section
variable {M' : Model} {A : Around} {α : Type} {t : Sem α} {w : World} {h₀ : Heap} {L : Addr} {s : Shared} {Q : α → Shared → Prop} {E : Value → Shared → Prop}
variable {d D it ol kp : Addr} {M most T : Int} {own : List Int} {ok : Obj} {R nw : List (Addr × Obj)}
theorem look_wd0 (W : Wd0 w d D it ol kp M most T ok R nw) (N : News h₀ L s.heap nw) (k : ∀ sd k1 k2 tm l, News h₀ L s.heap ((it, instObj 156 sd) :: (sd, stkD w k1 k2 most tm l 2) :: nw) → wpAny M' A t Q E s) : wpAny M' A t Q E s := by
  obtain ⟨l, sd, o, ws, cells, n, nl, non, t1, t2, k1, k2, tm, vs, ows, ps, rfl, hap, hoff, ho, hi, hl, TI, hvs⟩ := W
  refine k sd k1 k2 tm l fun q hq => N q ?_
  simp only [List.mem_cons] at hq ⊢
  rcases hq with h | h | h | h | h | h | h | h | h | h | h <;> simp only [h, true_or, or_true]
theorem look_wd (W : Wd w d D it ol kp M most T own ok R nw) (N : News h₀ L s.heap nw) (k : ∀ sd k1 k2 tm l, News h₀ L s.heap ((it, instObj 156 sd) :: (sd, stkD w k1 k2 most tm l 2) :: nw) → wpAny M' A t Q E s) : wpAny M' A t Q E s := by
  obtain ⟨l, sd, o, ws, cells, n, nl, non, t1, t2, k1, k2, tm, vs, ows, ps, rfl, hap, hoff, ho, hi, hl, TI, HT, HO, hom⟩ := W
  refine k sd k1 k2 tm l fun q hq => N q ?_
  simp only [List.mem_cons] at hq ⊢
  rcases hq with h | h | h | h | h | h | h | h | h | h | h <;> simp only [h, true_or, or_true]
end
section
variable {prog : Program} {A : Around} {w : World} {h₀ : Heap} {L : Addr} {s : Shared} {Q : Value → Shared → Prop} {E : Value → Shared → Prop}
variable {d D it ol kp : Addr} {M most T : Int} {own : List Int} {ok : Obj} {R nw : List (Addr × Obj)}
theorem len_wd (W : Wd w d D it ol kp M most T own ok R nw) (N : News h₀ L s.heap nw) (hm1 : most ≤ 9) (h : Q (.int (own.length : Int) (s.toks + 1)) { s with toks := s.toks + 1 + 1 }) :
    wpAny (model prog w) A (call (.builtin "len") [.ref ol]) Q E s := by
  obtain ⟨l, sd, o, ws, cells, n, nl, non, t1, t2, k1, k2, tm, vs, ows, ps, rfl, hap, hoff, ho, hi, hl, TI, HT, HO, hom⟩ := W
  have hol := HO.length
  refine my_len (News.isList (a := ol) (n := non) N (by repeat (first | exact List.mem_cons_self | apply List.mem_cons_of_mem))) (by omega) ?_
  rw [hol]
  exact h
end
theorem mk_wd {w : World} {h₀ h : Heap} {L : Addr} {m : Str → Option Value} {d D it sd l ol kp c : Addr} {o oc : Obj} {ws : List Value} {cells : List Int} {n : Nat} {t1 t2 k1 k2 tm tmm : Tok} {M most T : Int} {nw0 : List (Addr × Obj)} {cv : Option Value}
    (F : Fr h₀ L h m) (N : News h₀ L h nw0) (hM : LawM m d it kp most tmm) (hO : m (Str.ofString "own") = some (.ref ol))
    (ho : o.IsDictOf (PySem.strKind Challenge.rw_on0259_01.row.prog w) [(Str.ofString "cells", Value.ref D), (Str.ofString "mixed", Value.int M t1), (Str.ofString "turn", Value.int T t2)]) (hi : IntsAre ws cells) (hl : cells.length ≤ 16)
    (m1 : (222, tabObj #[]) ∈ nw0) (m2 : (d, o) ∈ nw0) (m3 : (D, listOf ws.toArray n) ∈ nw0) (m6 : (it, instObj 156 sd) ∈ nw0) (m5 : (sd, stkD w k1 k2 most tm l 2) ∈ nw0) (m4 : (l, listOf #[] 0) ∈ nw0) (m7 : (ol, listOf #[] 0) ∈ nw0) (m8 : (kp, listOf #[] 0) ∈ nw0)
    (_hc : oc.data = Data.cell cv) (mc : (c, oc) ∈ nw0) (mt : (229, tabObj #[]) ∈ nw0)
    (hap : AllNe [222, d, D, l, sd, it, ol, kp]) (offc : NeAll c [222, d, D, l, sd, kp]) (offt : NeAll 229 [222, d, D, l, sd, kp]) (hM0 : 0 ≤ M) (hM1 : M < 2147483587) (hm0 : 4 ≤ most) (hm1 : most ≤ 9) (hT : T = 2) :
    ∃ (d D it ol kp : Addr) (M most : Int) (tmm : Tok) (nw : List (Addr × Obj)), 0 ≤ M ∧ M < 2147483587 ∧ 4 ≤ most ∧ most ≤ 9 ∧ LawM m d it kp most tmm ∧ m (Str.ofString "own") = some (.ref ol) ∧ Wd w d D it ol kp M most 2 [] (listOf ([] : List Value).toArray 0) [(c, oc), (229, tabObj #[])] nw ∧ News h₀ L h nw := by
  subst hT
  refine ⟨d, D, it, ol, kp, M, most, tmm, _, hM0, hM1, hm0, hm1, hM, hO, ⟨l, sd, o, ws, cells, n, 0, 0, t1, t2, k1, k2, tm, [], [], #[], rfl, hap, ?_, ho, hi, hl, ⟨trivial, fun pos => .inl rfl⟩, .nil, .nil, by simp only [List.length_nil]; omega⟩, fun q hq => ?_⟩
  · intro q hq
    simp only [List.mem_cons, List.not_mem_nil, or_false] at hq
    rcases hq with h | h
    · rw [h]; exact offc
    · rw [h]; exact offt
  · refine N q ?_
    simp only [List.mem_cons, List.not_mem_nil, or_false] at hq
    rcases hq with h | h | h | h | h | h | h | h | h | h
    · rw [h]; exact m1
    · rw [h]; exact m2
    · rw [h]; exact m3
    · rw [h]; exact m4
    · rw [h]; exact m5
    · rw [h]; exact m6
    · rw [h]; exact m7
    · rw [h]; exact m8
    · rw [h]; exact mc
    · rw [h]; exact mt
def K1 (d it kp : Addr) (most : Int) (tmm : Tok) (T0 : Int) (ok0 : Obj) (i : Nat) (m : Str → Option Value) (T : Int) (ol : Addr) (_own : List Int) (ok : Obj) (_R : List (Addr × Obj)) : Prop :=
  LawM m d it kp most tmm ∧ m (Str.ofString "own") = some (.ref ol) ∧ 0 ≤ T ∧ T ≤ T0 + 2 * (i : Int) ∧ ok = ok0
end P_SA
section P_SB
theorem WdPost.mk {w : World} {h₀ h' : Heap} {L d D it kp ol : Addr} {M most T : Int} {own : List Int} {ok : Obj} {R R' nw' : List (Addr × Obj)} {K : (Str → Option Value) → Int → Addr → List Int → Obj → List (Addr × Obj) → Prop} {s₁ : Shared} {Q : Flow → Shared → Prop} {m' : Str → Option Value} {tk : Tok}
    (F : Fr h₀ L h' m') (W : Wd w d D it ol kp M most T own ok R' nw') (N : News h₀ L h' nw') (sub : ∀ q ∈ R, q ∈ R') (k : K m' T ol own ok R') : WdPost w h₀ L d D it kp M most R K s₁ Q .next { s₁ with heap := h', toks := tk } :=
  ⟨h', tk, m', T, ol, own, ok, R', nw', rfl, F, N, W, sub, k⟩
theorem fr_law0_own {h₀ h : Heap} {L : Addr} {m : Str → Option Value} {d it kp ol : Addr} {most : Int} {tm : Tok} (H : LawM m d it kp most tm) (Ho : m (Str.ofString "own") = some (.ref ol)) (F : Fr h₀ L h m) :
    Fr h₀ L h (fun y => if y = Str.ofString "deck" then some (.ref d) else if y = Str.ofString "it" then some (.ref it) else if y = Str.ofString "kept" then some (.ref kp) else if y = Str.ofString "most" then some (.int most tm) else if y = Str.ofString "own" then some (.ref ol) else m y) := by
  have e := fun_name Ho
  rw [← e] at H F
  exact fr_law0 H F
def K2 (w : World) (d it kp : Addr) (most : Int) (tmm : Tok) (i : Nat) (m : Str → Option Value) (T : Int) (ol : Addr) (_own : List Int) (ok : Obj) (R : List (Addr × Obj)) : Prop :=
  LawM m d it kp most tmm ∧ m (Str.ofString "own") = some (.ref ol) ∧ 0 ≤ T ∧ T ≤ 20 + 20 * (i : Int) ∧ ∃ kvs nk, ok = listOf (List.toArray kvs) nk ∧ kvs.length = i ∧ KeptIn w R most kvs
theorem K2.keeps {w : World} {d it kp : Addr} {most : Int} {tmm : Tok} (i : Nat) (m : Str → Option Value) (T : Int) (ol : Addr) (own : List Int) (ok : Obj) (R R' : List (Addr × Obj)) (h : KeepsBut R R') (k : K2 w d it kp most tmm i m T ol own ok R) : K2 w d it kp most tmm i m T ol own ok R' := by
  obtain ⟨a, b, c, e, kvs, nk, f, g, K⟩ := k
  exact ⟨a, b, c, e, kvs, nk, f, g, K.keeps h⟩
/-- the loop within: what is kept stays -/
def K2i (w : World) (d it kp : Addr) (most : Int) (tmm : Tok) (T0 : Int) (kvs : List Value) (nk : Nat) (i : Nat) (m : Str → Option Value) (T : Int) (ol : Addr) (_own : List Int) (ok : Obj) (R : List (Addr × Obj)) : Prop :=
  LawM m d it kp most tmm ∧ m (Str.ofString "own") = some (.ref ol) ∧ 0 ≤ T ∧ T ≤ T0 + 2 * (i : Int) ∧ ok = listOf (List.toArray kvs) nk ∧ KeptIn w R most kvs
theorem K2i.keeps {w : World} {d it kp : Addr} {most : Int} {tmm : Tok} {T0 : Int} {kvs : List Value} {nk : Nat} (i : Nat) (m : Str → Option Value) (T : Int) (ol : Addr) (own : List Int) (ok : Obj) (R R' : List (Addr × Obj)) (h : KeepsBut R R') (k : K2i w d it kp most tmm T0 kvs nk i m T ol own ok R) : K2i w d it kp most tmm T0 kvs nk i m T ol own ok R' := by
  obtain ⟨a, b, c, e, f, K⟩ := k
  exact ⟨a, b, c, e, f, K.keeps h⟩
def K3 (w : World) (d it kp : Addr) (most : Int) (tmm : Tok) (kvs : List Value) (nk : Nat) (i : Nat) (m : Str → Option Value) (T : Int) (_ol : Addr) (_own : List Int) (ok : Obj) (R : List (Addr × Obj)) : Prop :=
  LawM m d it kp most tmm ∧ 0 ≤ T ∧ T ≤ 200 + (i : Int) ∧ ok = listOf (List.toArray kvs) nk ∧ KeptIn w R most kvs
theorem K3.keeps {w : World} {d it kp : Addr} {most : Int} {tmm : Tok} {kvs : List Value} {nk : Nat} (i : Nat) (m : Str → Option Value) (T : Int) (ol : Addr) (own : List Int) (ok : Obj) (R R' : List (Addr × Obj)) (h : KeepsBut R R') (k : K3 w d it kp most tmm kvs nk i m T ol own ok R) : K3 w d it kp most tmm kvs nk i m T ol own ok R' := by
  obtain ⟨a, b, c, f, K⟩ := k
  exact ⟨a, b, c, f, K.keeps h⟩
theorem KeptIn.snoc {w : World} {R : List (Addr × Obj)} {most : Int} {kvs : List Value} {pa ta la : Addr} {vs ows : List Value} {n : Nat} {own : List Int} (K : KeptIn w R most kvs) (m1 : (pa, tupO [.ref ta, .ref la]) ∈ R) (m2 : (ta, tupO vs) ∈ R) (m3 : (la, listOf ows.toArray n) ∈ R) (HT : ThingsIn w R vs own) (HO : IntsAre ows own) (ho : (own.length : Int) ≤ most) : KeptIn w R most (kvs ++ [.ref pa]) := fun v hv => by
  rcases List.mem_append.mp hv with hv | hv
  · exact K v hv
  · rw [List.mem_singleton.mp hv]
    exact ⟨pa, ta, la, vs, ows, n, own, rfl, m1, m2, m3, HT, HO, ho⟩
section
variable {w : World} {d D it ol kp : Addr} {M most T : Int} {own : List Int} {ok : Obj} {R nw : List (Addr × Obj)}
theorem Wd.le (W : Wd w d D it ol kp M most T own ok R nw) : (own.length : Int) ≤ most := by
  obtain ⟨l, sd, o, ws, cells, n, nl, non, t1, t2, k1, k2, tm, vs, ows, ps, rfl, hap, hoff, ho, hi, hl, TI, HT, HO, hom⟩ := W
  exact hom
theorem Wd.tab (W : Wd w d D it ol kp M most T own ok R nw) : ∃ ps, (222, tabObj ps) ∈ nw := by
  obtain ⟨l, sd, o, ws, cells, n, nl, non, t1, t2, k1, k2, tm, vs, ows, ps, rfl, _⟩ := W
  exact ⟨ps, .head _⟩
theorem Wd.mkp (W : Wd w d D it ol kp M most T own ok R nw) : (kp, ok) ∈ nw := by
  obtain ⟨l, sd, o, ws, cells, n, nl, non, t1, t2, k1, k2, tm, vs, ows, ps, rfl, _⟩ := W
  repeat (first | exact List.mem_cons_self | apply List.mem_cons_of_mem)
end
section
variable {prog : Program} {A : Around} {w : World} {h₀ : Heap} {L : Addr} {m : Str → Option Value} {s : Shared} {E : Value → Shared → Prop}
variable {d D it ol kp : Addr} {M most T : Int} {own : List Int} {ok : Obj} {R nw : List (Addr × Obj)}
theorem tuple_wd {vs : List Value} {Q : Value → Shared → Prop} (F : Fr h₀ L s.heap m) (W : Wd w d D it ol kp M most T own ok R nw) (N : News h₀ L s.heap nw) (hz : vs.length ≤ 16384)
    (ret : ∀ (pa : Addr) (R' nw' : List (Addr × Obj)) (h' : Heap), Fr h₀ L h' m → News h₀ L h' nw' → Wd w d D it ol kp M most T own ok R' nw' → (∀ q ∈ R, q ∈ R') → (pa, tupO vs) ∈ R' → Q (.ref pa) { s with heap := h' }) :
    wpAny (model prog w) A (newTuple vs) Q E s := by
  refine kup_newTuple F N (fun pa h' F' N' lt => ?_) (by rw [sizeLine_eq]; omega)
  obtain ⟨nw', W', N3⟩ := W.push N' lt
  exact ret pa _ nw' h' F' N3 W' (fun q hq => .tail _ hq) (.head _)
theorem method_kp_wd {kvs : List Value} {nk : Nat} {pl : Sem Bool} {Q : Value × List Value → Shared → Prop} (W : Wd w d D it ol kp M most T own (listOf kvs.toArray nk) R nw) (N : News h₀ L s.heap nw) (h : Q (.builtin "list.append", [.ref kp]) s) :
    wpAny (model prog w) A (getMethod (.ref kp) (Str.ofString "append") pl) Q E s :=
  listMethod_K N W.mkp PySem.F.slot_list_append PySem.F.type_list_append h
end
theorem keep3 {w : World} {R R1 R2 R3 : List (Addr × Obj)} {most : Int} {kvs : List Value} {pa ta la : Addr} {vs ows : List Value} {n : Nat} {own : List Int} (K : KeptIn w R most kvs) (h1 : ∀ q ∈ R, q ∈ R1) (h2 : ∀ q ∈ R1, q ∈ R2) (h3 : ∀ q ∈ R2, q ∈ R3) (m1 : (pa, tupO [.ref ta, .ref la]) ∈ R3) (m2 : (ta, tupO vs) ∈ R1) (m3 : (la, listOf ows.toArray n) ∈ R2) (HT : ThingsIn w R1 vs own) (HO : IntsAre ows own) (ho : (own.length : Int) ≤ most) :
    KeptIn w R3 most (kvs ++ [.ref pa]) ∧ ∀ q ∈ R, q ∈ R3 :=
  ⟨(K.mono fun q hq => h3 q (h2 q (h1 q hq))).snoc m1 (h3 _ (h2 _ m2)) (h3 _ m3) (HT.mono fun q hq => h3 q (h2 q hq)) HO ho, fun q hq => h3 q (h2 q (h1 q hq))⟩
theorem ne_tab {h₀ h : Heap} {L x y : Addr} {vs ps : Array Value} {n : Nat} {nw : List (Addr × Obj)} (N : News h₀ L h nw) (m1 : (x, listOf vs n) ∈ nw) (m2 : (y, tabObj ps) ∈ nw) : @Ne Nat x y := fun e => by
  have a := (N _ m1).1
  have b := (N _ m2).1
  simp only at a b
  rw [e, b] at a
  have c := congrArg Obj.cls (Option.some.inj a)
  cases c
end P_SB
section P_LE
theorem law_end {cl : Str → Option Addr} {mean : ExcName → Option Value} {xs : List Int} {s₁ s' : Shared} {L : Addr} {m : Str → Option Value} (F : Fr s₁.heap L s'.heap m) (hg : s'.gens = #[]) (hos : s'.os = s₁.os) :
    GoodW Challenge.rw_on0259_01.row.claim cl mean [ofPy (PyData.list (List.map PyData.int xs))] s₁ (.ok (.ret (.bool true))) s' := by
  refine goodW_bool F hg (raisesW_false ?_) ?_ hos
  · wrow_none_raised
  · wrow_post
theorem pick4b {h₀ : Heap} {L : Addr} {nw r1 r2 r3 R : List (Addr × Obj)} {i sd l b : Addr × Obj} {h : Heap} (N : News h₀ L h nw) (P1 : Pick i nw r1) (P2 : Pick sd r1 r2) (P3 : Pick l r2 r3) (P4 : Pick b r3 R) : News h₀ L h (b :: l :: sd :: i :: R) := fun q hq =>
  pick4 N P1 P2 P3 P4 q (by
    simp only [List.mem_cons] at hq ⊢
    rcases hq with e | e | e | e | e
    · exact .inr (.inl e)
    · exact .inl e
    · exact .inr (.inr (.inl e))
    · exact .inr (.inr (.inr (.inl e)))
    · exact .inr (.inr (.inr (.inr e))))
end P_LE
local macro_rules | `(tactic| walk_at "n1") => `(tactic| (case N => first | assumption | exact News.tl (by assumption) | exact News.tl (News.tl (by assumption))))
local macro_rules | `(tactic| walk_at "n3") => `(tactic| (case N => exact pick3 (by k_asm) (by walk_at "pk") (by walk_at "pk") (by walk_at "pk")))
local macro_rules | `(tactic| k_all) => `(tactic| (tbn_letter; refine' ne_of_allLt ?h9 ?l9; (case h9 => tbn_find); (case l9 => omega)))
local macro_rules | `(tactic| k_all) => `(tactic| assumption)
local macro_rules | `(tactic| walk_at "noteFrame ref") => `(tactic| (k_here; k_dflt (refine' caughtP ?R ?F ?K ?U ?XB ?TB ?ex ?q ?_; (case R => assumption); (case F => assumption); (case K => assumption); (case U => assumption); (case XB => assumption); (case TB => assumption); (case ex => k_is); (case q => kts_isx)); intro h' g' oe' vs' tk' T' F' N' hc' hd' K' X' P'; (try k_lift K'); (try k_sweep)))
local macro_rules | `(tactic| walk_at "LeaveT") => `(tactic| (k_dflt (refine' leaveT_ ?F ?N ?T ?_; (case F => k_asm); (case N => k_asm); (case T => first | assumption | exact KtsTurn.refl); k_whole); intro kg kT kF kN kB; (have kX := Frag.In.keeps (by assumption) (Below.stays kB)); (have kP := Top.keeps (by assumption) (Below.stays kB)); (try k_lift kB); (try dsimp only)))
local macro_rules | `(tactic| walk_at "eval ListComp") => `(tactic| (k_here; k_dflt (refine LCg.ListComp_U (F₀ := by k_asm) (by with_unfolding_all rfl) (by decide) (by rfl) (by decide) (by rfl) ?_)))
section
variable {w : World} {p : Program} {loose : List Str} {mean : ExcName → Option Value} {mg mb : Str → Option Value} {dp un : Nat} {gd : Option (List Code)} {cn : Str} {cs : Scope} {L a : Addr} {ccd : Value} {cl : List (Str × Addr)} {A₀ : Around} {base h₀ : Heap} {m : Str → Option Value} {s : Shared} {Q E : Value → Shared → Prop}

theorem deed_call {d D it ol kp : Addr} {M T most : Int} {tm : Tok} {own : List Int} {ok : Obj} {R nw : List (Addr × Obj)}
    (B : Below A₀ base [] h₀) (F : Fr h₀ L s.heap m) (X : (hd.heap_1 w.params).In h₀) (TP : Top p loose mean mg mb h₀) (XB : (hd.heap_1 w.params).In base) (TB : Top p loose mean mg mb base) (CH : CodeHd base 226 222) (hk : cs.kind = .function) (hdp : dp + 20 < recursionLimit) (hun : un + 1000 < cLine)
    (N : News h₀ L s.heap nw) (W : Wd w d D it ol kp M most T own ok R nw) (hm0 : 4 ≤ most) (hm1 : most ≤ 9) (hT0 : 0 ≤ T) (hT1 : T ≤ 500) (hM0 : 0 ≤ M) (hM1 : M < 2147483587)
    (ret : ∀ ol' own' R' nw' h' tk', Fr h₀ L h' m → News h₀ L h' nw' → (∀ q ∈ R, q ∈ R') → Wd w d D it ol' kp M most (T + 1 + 1) own' ok R' nw' → Q (.ref ol') { s with heap := h', toks := tk' }) :
    wpAny (model Challenge.rw_on0259_01.row.prog w) (ktrTop dp un gd cn cs L a ccd cl []) (call (.ref 227) [.ref d, .ref it, .ref ol, .int most tm]) Q E s := by
  obtain ⟨l, sd, o, ws, cells, n, nl, non, t1, t2, k1, k2, tm', vs, ows, ps, rfl, hap, hoff, ho, hi, hlen, TI, HT, HO, hom⟩ := W
  have off0 : ∀ q ∈ R, q.1 ≠ 222 := fun q hq => (hoff q hq).one _ (by simp)
  have off1 : ∀ q ∈ R, q.1 ≠ d := fun q hq => (hoff q hq).one _ (by simp)
  have off2 : ∀ q ∈ R, q.1 ≠ D := fun q hq => (hoff q hq).one _ (by simp)
  have off3 : ∀ q ∈ R, q.1 ≠ l := fun q hq => (hoff q hq).one _ (by simp)
  have off4 : ∀ q ∈ R, q.1 ≠ sd := fun q hq => (hoff q hq).one _ (by simp)
  have hvl : vs.length = own.length := HT.length
  have hlt : vs.length ≤ 9 := by omega
  have hol : ows.length = own.length := HO.length
  revert X
  k_fill
  intro X
  w_on
  have hap' := hap
  simp only [AllNe, NeAll, and_true] at hap'
  obtain ⟨⟨_, _, _, _, _, _, _⟩, ⟨_, _, _, _, _, _⟩, ⟨_, _, _, _, _⟩, ⟨_, _, _, _⟩, ⟨_, _, _⟩, ⟨_, _⟩, _⟩ := hap'
  w_strict (refine wpAny_call ?_; k_dflt (refine' code_defCT ?k1 ?k2 ?k3 ?k4 ?k5 ?kA ?kF ?kK ?k6 ?k7 ?k8 ?k9 ?kB ?kD ?_ ?c2 ?c3 ?c4; (case kA => exact rfl); (case kF => exact rfl); (case kK => assumption); (case k2 => k_asm); (case k1 => k_asm); (case k3 => k_asm); (case k4 => k_asm); (case k5 => k_asm); (case k6 => k_is); (case k7 => k_is); (case k8 => k_room); (case k9 => exact BindsTo.of_eq rfl); (case kB => exact rfl); (case kD => decide +kernel); (case c2 => exact rfl); (case c3 => exact rfl); (case c4 => exact rfl); k_whole; intro g' L' h' tk' cells' FG' F' N' Y' B' X' T' l1; (try k_lt l1); k_cells Y'; (try simp only [List.cons_append, List.nil_append] at N'); (try dsimp only); (try k_lift B'); (try k_fold)); (repeat' (first | (k_unfold; (try dsimp only)) | (k_end; wrow_close) | ((with_reducible show wpAny _ _ (call _ _) _ _ _); first | (with_reducible ((with_reducible show wpAny _ _ (call (Value.builtin "len") [Value.ref _]) _ _ _); k_dflt (refine' my_len_ints ?z245k1 ?z245ki ?z245k2 ?_; (case z245k1 => exact News.isList (by k_asm) (by k_mem)); (case z245ki => assumption); (case z245k2 => ((try simp only [List.length_append, List.length_cons, List.length_nil, List.length_take, List.length_drop, List.length_dropLast]); omega)); intro le'; (try simp only [List.length_take, List.length_cons, List.length_nil] at le'); k_whole))) | (with_reducible ((with_reducible show wpAny _ _ (call (Value.ref 220) [_]) _ _ _); k_dflt (refine wpAny_call ?_; (refine' code_defT ?z244k1 ?z244k2 ?z244k3 ?z244k4 ?z244k5 ?z244kA ?z244kF ?z244kK ?z244k6 ?z244k7 ?z244k8 ?z244k9 ?z244kB ?_ ?z244c2 ?z244c3 ?z244c4 ?z244c5; (case z244kA => exact rfl); (case z244kF => exact rfl); (case z244kK => exact rfl); (case z244k2 => k_asm); (case z244k1 => k_asm); (case z244k3 => k_asm); (case z244k4 => k_asm); (case z244k5 => k_asm); (case z244k6 => k_is); (case z244k7 => k_is); (case z244k8 => k_room); (case z244k9 => exact BindsTo.of_eq rfl); (case z244c5 => decide); (case z244kB => exact locs rfl); (case z244c2 => exact rfl); (case z244c3 => exact rfl); (case z244c4 => exact rfl); k_whole; intro g' L' h' FG' F' N' B' X' T'; (try dsimp only); (try k_lift B'); (try k_fold))))) | (with_reducible ((with_reducible show wpAny _ _ (call (Value.ref 194) [_, _]) _ _ _); k_dflt (refine' draw_use ?z243B ?z243F ?z243X ?z243TP ?z243hk ?z243hdp ?z243hun ?z243N ?z243P1 ?z243P2 ?z243ho ?z243hi ?z243hlen ?z243hne ?z243offd ?z243offD ?z243hb0 ?z243hb1 ?z243hT0 ?z243hT1 ?z243hM0 ?z243hM1 ?_; (case z243B => k_asm); (case z243F => k_asm); (case z243X => k_asm); (case z243TP => k_asm); (case z243hk => first | exact rfl | assumption); (case z243hdp => ktr_room); (case z243hun => ktr_units); (case z243N => k_asm); (case z243P1 => repeat (first | exact Pick.head | apply Pick.tail)); (case z243P2 => repeat (first | exact Pick.head | apply Pick.tail)); (case z243ho => assumption); (case z243hi => assumption); (case z243hlen => assumption); (case z243hne => k_ne); (case z243offd => k_all); (case z243offD => k_all); (case z243hb0 => decide); (case z243hb1 => decide); (case z243hT0 => omega); (case z243hT1 => omega); (case z243hM0 => assumption); (case z243hM1 => assumption)); intro v' t' o' ws' cells' n' t1' t2' h' tk' hD' hv0' hv1' F' N' ho' hi' hl'; (try k_sweep))) | (with_reducible ((with_reducible show wpAny _ _ (call (Value.ref 132) [_, Value.int _ _, Value.int 1 _]) _ _ _); k_dflt (apply rolled_low_use; walk_at "s7"; walk_at "n2"; walk_at "p3"; (case hm2 => omega); (case hm1 => omega); (case hm0 => omega); (case hlen => omega)); intro h' tk' F' N'; (try k_sweep))) | (with_reducible ((with_reducible show wpAny _ _ (call (Value.ref 132) [_, Value.int _ _, Value.int 1 _]) _ _ _); k_dflt (apply rolled_use; walk_at "s7"; walk_at "n2"; walk_at "p3"; (case hm2 => omega); (case hm0 => omega); (case h1 => k_ne); (case h2 => k_ne); (case h3 => k_ne); (case offl => k_all); (case offd => k_all); (case hlen => omega)); intro l' n' h' tk' F' l1 l2 l3 l4 N'; (try simp only [AllLt, and_true] at l4); (try k_sweep))) | (with_reducible ((with_reducible show wpAny _ _ (call (Value.ref 132) [_, Value.int _ _, Value.int 1 _]) _ _ _); k_dflt (refine' split132 ?z242N ?z242P1 ?z242P2 ?z242P3 ?z242sa ?z242sb ?z242sc; (case z242N => k_asm); (case z242P1 => walk_at "pk"); (case z242P2 => walk_at "pk"); (case z242P3 => walk_at "pk"); (case' z242sa => intro hm8 hm9; fail_if_success (exfalso; omega)); (case' z242sb => intro hm8 hm9); (case' z242sc => intro hm9; fail_if_success (exfalso; omega))))) | (with_reducible ((with_reducible show wpAny _ _ (call (Value.ref 90) [_, _]) _ _ _); k_dflt (apply push_all_use; walk_at "s7"; walk_at "n2"; walk_at "p3"; (case P4 => walk_at "pk"); (case hm => walk_at "ln"); (case h1 => k_ne); (case h2 => k_ne); (case h3 => k_ne); (case h4 => first | k_ne | exact Nat.ne_of_gt (by omega)); (case offl => k_all); (case hlen => walk_at "ln"); (case hlen2 => walk_at "ln")); intro n' h' tk' F' N'; (try k_sweep))) | (with_reducible ((with_reducible show wpAny _ _ (call (Value.ref 90) [_, _]) _ _ _); k_dflt (refine' split90 ?z241N ?z241P1 ?z241P2 ?z241P3 ?z241P4 ?z241g1 ?z241g2; (case z241N => k_asm); (case z241P1 => walk_at "pk"); (case z241P2 => walk_at "pk"); (case z241P3 => walk_at "pk"); (case z241P4 => walk_at "pk"); (case' z241g1 => intro hm9; fail_if_success (exfalso; omega)); (case' z241g2 => intro hm9; fail_if_success (exfalso; omega))))) | (with_reducible ((with_reducible show wpAny _ _ (call (Value.ref 52) [_]) _ _ _); k_dflt (apply pserr_call; walk_at "s7"; walk_at "n2"); intro e' d' t' k' h' tk' F' N' l1 l2 l3; (try dsimp only [AllLt] at l1 l2 l3); (try k_sweep))) | (with_reducible ((with_reducible show wpAny _ _ (call (Value.ref 208) [_]) _ _ _); k_dflt (apply thing_call; walk_at "s7"; walk_at "n2"); intro x' dx' od' h' tk' F' N' l1 l2 hT'; (try k_lt l1); (try k_lt l2); (try k_sweep))) | (with_reducible ((with_reducible show wpAny _ _ (call (Value.builtin _) [Value.ref _]) _ _ _); k_dflt (refine' my_pop ?z238F ?z238N ?z238U ?z238e ?z238z ?_; (case z238F => k_asm); (case z238N => k_asm); (case z238U => k_updF); (case z238e => assumption); (case z238z => omega)); intro y' n' h' F' N'; (try dsimp only at N'); (try k_sweep))) | (with_reducible ((with_reducible show wpAny _ _ (call (Value.builtin _) [Value.ref _, Value.ref _]) _ _ _); k_dflt (refine' my_extend ?z237F ?z237N ?z237b ?z237U ?z237z ?_; (case z237F => k_asm); (case z237N => k_asm); (case z237b => k_mem); (case z237U => k_updF); (case z237z => walk_at "sz")); intro n' h' F' N'; (try dsimp only at N'); (try k_sweep))) | (with_reducible ((with_reducible show wpAny _ _ (call (Value.builtin "len") [Value.ref _]) _ _ _); k_dflt (refine' my_len ?z231k1 ?z231k2 ?_; (case z231k1 => exact News.isList (by k_asm) (by k_mem)); (case z231k2 => ((try simp only [List.length_append, List.length_cons, List.length_nil, List.length_take, List.length_drop, List.length_dropLast]); omega)); k_whole))) | (dsimp only [List.nil_append, List.cons_append]; first | (with_reducible ((with_reducible show wpAny _ _ (call (Value.builtin _) [Value.ref _]) _ _ _); k_dflt (refine' my_pop ?z246F ?z246N ?z246U ?z246e ?z246z ?_; (case z246F => k_asm); (case z246N => k_asm); (case z246U => k_updF); (case z246e => assumption); (case z246z => omega)); intro y' n' h' F' N'; (try dsimp only at N'); (try k_sweep))) | (with_reducible ((with_reducible show wpAny _ _ (call (Value.builtin _) [Value.ref _, Value.ref _]) _ _ _); k_dflt (refine' my_extend ?z247F ?z247N ?z247b ?z247U ?z247z ?_; (case z247F => k_asm); (case z247N => k_asm); (case z247b => k_mem); (case z247U => k_updF); (case z247z => walk_at "sz")); intro n' h' F' N'; (try dsimp only at N'); (try k_sweep))))) | ((with_reducible show wpAny _ _ (callWith _ _ _ _ _) _ _ _); first | (with_reducible ((with_reducible show wpAny _ _ (callWith _ (Value.ref (OfNat.ofNat _)) _ _ _) _ _ _); k_dflt (first | refine' callWith_K ?z232k1 ?z232k2 ?_; (case z232k1 => k_asm); (case z232k2 => k_is); k_whole | refine' callWith_K0 ?z232k1 ?z232k2 ?_; (case z232k1 => k_in); (case z232k2 => k_is); k_whole | (refine' callWith_M0 ?z232k1 ?z232k2 ?_; (case z232k1 => k_meth); (case z232k2 => k_is); k_whole; try dsimp only [List.nil_append, List.cons_append]) | refine' callWith_M ?z232k1 ?z232k2 ?z232k3 ?z232k4 ?_; (case z232k1 => k_asm); (case z232k2 => k_asm); (case z232k3 => k_mem); (case z232k4 => k_is); k_whole)))) | (with_reducible ((with_reducible show wpAny _ _ (eval (PySem.Expr.Lambda _ _ _ _) _) _ _ _); kn_here; k_dflt (refine' kla_eval ?z233d0 ?_; (case z233d0 => exact rfl)); (with_reducible rename TabInv _ _ => TI'); k_dflt (refine' lam_both ?z233F ?z233N ?z233T ?z233C ?z233cd ?z233U TI' ?z233q ?z233R ?z233b ?z233bn ?z233cl ?_; (case z233F => k_asm); (case z233N => k_asm); (case z233T => k_asm); (case z233cd => exact rfl); (case z233C => kn_code); (case z233U => k_updF); (case z233q => exact rfl); (case z233R => (intro q9 hq9; repeat (first | assumption | apply List.mem_cons_of_mem))); (case z233b => assumption); (case z233bn => (repeat' (first | exact True.intro | refine And.intro ⟨_, by (repeat (first | (with_reducible exact List.mem_cons_self) | apply List.mem_cons_of_mem))⟩ ?_))); (case z233cl => exact rfl); k_whole); intro f' c' oc' vs' t' ct' ps' h' tk' F' N' d1' d2' l1 l2 hc' TJ'; (try dsimp only at N'); (try k_lt l1); k_dflt (obtain ⟨_, _, _, _, _, _, _⟩ := hc'))) | ((with_reducible show wpAny _ _ (getAttr _ _ _) _ _ _); first | (with_reducible ((with_reducible show wpAny _ _ (getAttr (Value.ref _) (PySem.Str.ofString "told") _) _ _ _); k_dflt (refine' exc_told (K := hd.heap_1 _) ?z234X (exc_inst ?z234N ?z234m1 ?z234m2 ?z234c ?z234d) ?z234a ?z234b ?z234q ?z234f1 ?z234f2 ?z234f3 ?z234f4 ?z234h ?_; (case z234N => k_asm); (case z234m1 => k_mem); (case z234c => assumption); (case z234d => assumption); (case z234m2 => k_mem); (case z234X => k_in); (case z234a => k_is); (case z234b => k_is); (case z234q => k_is); (case z234f1 => k_is); (case z234f2 => k_is); (case z234f3 => k_is); (case z234f4 => k_get); (case z234h => exact rfl); k_whole)))) | ((with_reducible show wpAny _ _ (subscriptTail _ _ _ _) _ _ _); first | (with_reducible ((with_reducible show wpAny _ _ (subscriptTail _ (PySem.Expr.Slice _ _ none _) (Value.ref _) (Value.ref _)) _ _ _); k_dflt (refine' kmk_slice_lit ?z235F ?z235N ?z235l ?z235p ?z235q ?z235e ?_ ?z235s ?z235t ?z235z; (case z235F => k_asm); (case z235N => k_asm); (case z235l => exact News.isList (by k_asm) (by k_mem)); (case z235p => kmk_part); (case z235q => kmk_part); (case z235e => first | exact pk_all | exact pk_upto (by omega) | exact pk_from (by omega) | exact pk_run (by omega) (by omega) | exact pk_upto_neg (by omega)); (case z235s => with_unfolding_all rfl); (case z235t => kmk_pure); (case z235z => size_fits)); intro D' h' F' N' l1; (try k_lt l1); (try k_sweep)))) | ((with_reducible show wpAny _ _ (binaryOp _ _ _) _ _ _); first | (with_reducible ((with_reducible show wpAny _ _ (binaryOp _ (Value.ref _) (Value.ref _)) _ _ _); k_dflt (refine' my_add ?z236F ?z236N ?z236a ?z236b ?_ ?z236z; (case z236F => k_asm); (case z236N => k_asm); (case z236a => exact News.isList (by k_asm) (by k_mem)); (case z236b => exact News.isList (by k_asm) (by k_mem)); (case z236z => walk_at "sz")); intro D' h' F' N' l1; (try k_lt l1); (try k_sweep)))) | ((with_reducible show wpAny _ _ (compareOp _ _ _) _ _ _); first | (with_reducible ((with_reducible show wpAny _ _ (compareOp CmpOp.Eq (Value.ref _) (Value.ref _)) _ _ _); k_dflt (refine' eq_empty ?z239a ?z239b ?z239e ?z239u ?_; (case z239a => exact News.isList (by k_asm) (by k_mem)); (case z239b => exact News.isList (by k_asm) (by k_mem)); (case z239e => exact rfl); (case z239u => ktr_units))))) | (with_reducible (k_dflt (refine' things_src ?z240hh ?z240F ?z240N ?z240hm ?z240hi ?z240hz ?z240T ?z240hb ?z240bn ?z240elt ?_; (case z240hh => exact rfl); (case z240F => k_asm); (case z240N => k_asm); (case z240hm => k_mem); (case z240hi => assumption); (case z240hz => (try simp only [List.length_take, List.length_cons, List.length_nil]); omega); (case z240hb => assumption); (case z240T => repeat (first | exact Tail.head | apply Tail.tail)); (case z240bn => (repeat' (first | exact True.intro | refine And.intro ⟨_, by (repeat (first | (with_reducible exact List.mem_cons_self) | apply List.mem_cons_of_mem))⟩ ?_))); (case z240elt => (intro v9 t9 I9 oI9 C9 oC9 D9 oD9 m9 h9 tk9 X9 E9 hN9 hx9 F9 N9; (repeat' (first | (k_unfold; (try dsimp only)) | (k_end; wrow_close) | ((with_reducible show wpAny _ _ (call _ _) _ _ _); first | (with_reducible ((with_reducible show wpAny _ _ (call (Value.ref 208) [_]) _ _ _); k_dflt (apply thing_call; walk_at "s7"; walk_at "n2"); intro x' dx' od' h' tk' F' N' l1 l2 hT'; (try k_lt l1); (try k_lt l2); (try k_sweep)))) | walk1 | (dsimp only; walk1) | (dsimp only [List.nil_append, List.cons_append]; walk1) | (leave1; walk_say "STEP leave1"; try dsimp only))); (show ThElt _ _ _ _ _ _ _ _ _ _ _ _ _ _ _); unfold ThElt; exact ⟨_, _, _, _, _, rfl, rfl, by assumption, by assumption, lt3 (by assumption), lt3 (by assumption), by assumption⟩))); intro ys' R' D' h' tk' hT' hs' ho' F' N' l1; (try dsimp only at N'); (try dsimp only at l1); (simp only [List.forall_mem_cons] at l1); (repeat (obtain ⟨_, l1⟩ := l1)); (have o3' := off_at3 ho'); (have hyl' := ThingsIn.length hT'); (simp only [List.length_take, List.length_cons, List.length_nil] at hyl'); (try k_sweep))) | walk1 | (dsimp only; walk1) | (dsimp only [List.nil_append, List.cons_append]; walk1) | (leave1; walk_say "STEP leave1"; try dsimp only))))
  · refine' deed_end (own' := own) ret ?e1_T ?e1_F ?e1_N ?e1_I ?e1_sub ?e1_mR ?e1_1 ?e1_2 ?e1_3 ?e1_5 ?e1_4 ?e1_6 ?e1_7 ?e1_8 ?e1_ho ?e1_hi ?e1_hl ?e1_ap ?e1_off ?e1_HT ?e1_HO ?e1_hom
    case e1_T => assumption
    case e1_F => assumption
    case e1_N => assumption
    case e1_1 => k_mem
    case e1_I => assumption
    case e1_2 => k_mem
    case e1_3 => k_mem
    case e1_5 => k_mem
    case e1_4 => k_mem
    case e1_6 => k_mem
    case e1_7 => k_mem
    case e1_8 => k_mem
    case e1_ho => assumption
    case e1_hi => assumption
    case e1_hl => assumption
    case e1_HT => exact HT.mono fun q hq => .tail _ hq
    case e1_sub => (try simp only [List.cons_append, List.nil_append]); intro q hq; repeat (first | exact hq | apply List.mem_cons_of_mem)
    case e1_mR => (try simp only [List.cons_append, List.nil_append]); repeat (first | (intro q hq; (repeat (first | exact hq | apply List.mem_cons_of_mem)); done) | refine List.forall_mem_cons.mpr ⟨by k_mem, ?_⟩)
    case e1_ap => exact hap
    case e1_off => (try simp only [List.cons_append, List.nil_append]); repeat (first | exact hoff | refine List.forall_mem_cons.mpr ⟨by (refine ⟨?_, ?_, ?_, ?_, ?_, ?_, trivial⟩ <;> first | assumption | walk_at "cne" | (exact Nat.ne_of_gt (by omega)) | (exact Nat.ne_of_lt (by omega))), ?_⟩)
    case e1_HO => exact HO
    case e1_hom => exact hom
  · refine' deed_end (own' := own ++ [_]) ret ?e2_T ?e2_F ?e2_N ?e2_I ?e2_sub ?e2_mR ?e2_1 ?e2_2 ?e2_3 ?e2_5 ?e2_4 ?e2_6 ?e2_7 ?e2_8 ?e2_ho ?e2_hi ?e2_hl ?e2_ap ?e2_off ?e2_HT ?e2_HO ?e2_hom
    case e2_T => assumption
    case e2_F => assumption
    case e2_N => assumption
    case e2_1 => k_mem
    case e2_I => exact TabInv.appOf (by assumption) (by assumption)
    case e2_2 => k_mem
    case e2_3 => k_mem
    case e2_5 => k_mem
    case e2_4 => k_mem
    case e2_6 => k_mem
    case e2_7 => k_mem
    case e2_8 => k_mem
    case e2_ho => assumption
    case e2_hi => assumption
    case e2_hl => assumption
    case e2_HT => rw [List.concat_eq_append]; exact ThingsIn.push (by assumption) HT (fun q hq => .tail _ hq)
    case e2_sub => (try simp only [List.cons_append, List.nil_append]); intro q hq; repeat (first | exact hq | apply List.mem_cons_of_mem)
    case e2_mR => (try simp only [List.cons_append, List.nil_append]); repeat (first | (intro q hq; (repeat (first | exact hq | apply List.mem_cons_of_mem)); done) | refine List.forall_mem_cons.mpr ⟨by k_mem, ?_⟩)
    case e2_ap => exact ap_ol hap (by (refine ⟨?_, ?_, ?_, ?_, ?_, ?_, ?_, trivial⟩ <;> first | assumption | walk_at "cj" | omega))
    case e2_off => (try simp only [List.cons_append, List.nil_append]); repeat (first | exact hoff | refine List.forall_mem_cons.mpr ⟨by (refine ⟨?_, ?_, ?_, ?_, ?_, ?_, trivial⟩ <;> first | assumption | walk_at "cne" | (exact Nat.ne_of_gt (by omega)) | (exact Nat.ne_of_lt (by omega))), ?_⟩)
    case e2_HO => exact HO.append (.cons _ _ .nil)
    case e2_hom => simp only [List.length_append, List.length_cons, List.length_nil]; omega
  · with_reducible rename ∀ q ∈ R, q ∈ _ => hs9
    refine' deed_end (own' := own) ret ?e3_T ?e3_F ?e3_N ?e3_I ?e3_sub ?e3_mR ?e3_1 ?e3_2 ?e3_3 ?e3_5 ?e3_4 ?e3_6 ?e3_7 ?e3_8 ?e3_ho ?e3_hi ?e3_hl ?e3_ap ?e3_off ?e3_HT ?e3_HO ?e3_hom
    case e3_T => assumption
    case e3_F => assumption
    case e3_N => assumption
    case e3_1 => k_mem
    case e3_I => assumption
    case e3_2 => k_mem
    case e3_3 => k_mem
    case e3_5 => k_mem
    case e3_4 => k_mem
    case e3_6 => k_mem
    case e3_7 => k_mem
    case e3_8 => k_mem
    case e3_ho => assumption
    case e3_hi => assumption
    case e3_hl => assumption
    case e3_HT => exact HT.mono fun q hq => .tail _ hq
    case e3_sub => (try simp only [List.cons_append, List.nil_append]); intro q hq; repeat (first | exact hq | apply List.mem_cons_of_mem)
    case e3_mR => repeat (first | (intro q hq; (repeat (first | exact hs9 q hq | apply List.mem_cons_of_mem)); done) | refine List.forall_mem_cons.mpr ⟨by k_mem, ?_⟩)
    case e3_ap => exact hap
    case e3_off => (try simp only [List.cons_append, List.nil_append]); repeat (first | exact hoff | refine List.forall_mem_cons.mpr ⟨by (refine ⟨?_, ?_, ?_, ?_, ?_, ?_, trivial⟩ <;> first | assumption | walk_at "cne" | (exact Nat.ne_of_gt (by omega)) | (exact Nat.ne_of_lt (by omega))), ?_⟩)
    case e3_HO => exact HO
    case e3_hom => exact hom
  · with_reducible rename ∀ q ∈ R, q ∈ _ => hs9
    with_reducible rename ThingsIn w _ _ (List.take _ _) => hT9
    with_reducible rename IntsAre _ (List.take _ _) => hI9
    obtain ⟨ks9, _, hT9, hI9⟩ := pair_of hT9 hI9
    have hl9 := hT9.length
    refine' deed_end (own' := own ++ ks9) ret ?e4_T ?e4_F ?e4_N ?e4_I ?e4_sub ?e4_mR ?e4_1 ?e4_2 ?e4_3 ?e4_5 ?e4_4 ?e4_6 ?e4_7 ?e4_8 ?e4_ho ?e4_hi ?e4_hl ?e4_ap ?e4_off ?e4_HT ?e4_HO ?e4_hom
    case e4_T => assumption
    case e4_F => assumption
    case e4_N => assumption
    case e4_1 => k_mem
    case e4_I => exact TabInv.up (by assumption) hs9
    case e4_2 => k_mem
    case e4_3 => k_mem
    case e4_5 => k_mem
    case e4_4 => k_mem
    case e4_6 => k_mem
    case e4_7 => k_mem
    case e4_8 => k_mem
    case e4_ho => assumption
    case e4_hi => assumption
    case e4_hl => assumption
    case e4_HT => exact (HT.mono fun q hq => .tail _ (hs9 q hq)).append (hT9.mono fun q hq => .tail _ hq)
    case e4_sub => exact fun q hq => .tail _ (hs9 q hq)
    case e4_mR => (try simp only [List.cons_append, List.nil_append]); repeat (first | (intro q hq; (repeat (first | exact hq | apply List.mem_cons_of_mem)); done) | refine List.forall_mem_cons.mpr ⟨by k_mem, ?_⟩)
    case e4_ap => exact ap_ol hap (by (refine ⟨?_, ?_, ?_, ?_, ?_, ?_, ?_, trivial⟩ <;> first | assumption | walk_at "cj" | omega))
    case e4_off => (try simp only [List.cons_append, List.nil_append]); repeat (first | exact (by assumption) | refine List.forall_mem_cons.mpr ⟨by (refine ⟨?_, ?_, ?_, ?_, ?_, ?_, trivial⟩ <;> first | assumption | walk_at "cne" | (exact Nat.ne_of_gt (by omega)) | (exact Nat.ne_of_lt (by omega))), ?_⟩)
    case e4_HO => exact HO.append hI9
    case e4_hom => simp only [List.length_append]; omega
  · refine' deed_end (own' := own) ret ?e5_T ?e5_F ?e5_N ?e5_I ?e5_sub ?e5_mR ?e5_1 ?e5_2 ?e5_3 ?e5_5 ?e5_4 ?e5_6 ?e5_7 ?e5_8 ?e5_ho ?e5_hi ?e5_hl ?e5_ap ?e5_off ?e5_HT ?e5_HO ?e5_hom
    case e5_T => assumption
    case e5_F => assumption
    case e5_N => assumption
    case e5_1 => k_mem
    case e5_I => assumption
    case e5_2 => k_mem
    case e5_3 => k_mem
    case e5_5 => k_mem
    case e5_4 => k_mem
    case e5_6 => k_mem
    case e5_7 => k_mem
    case e5_8 => k_mem
    case e5_ho => assumption
    case e5_hi => assumption
    case e5_hl => assumption
    case e5_HT => exact HT.mono fun q hq => .tail _ hq
    case e5_sub => (try simp only [List.cons_append, List.nil_append]); intro q hq; repeat (first | exact hq | apply List.mem_cons_of_mem)
    case e5_mR => (try simp only [List.cons_append, List.nil_append]); repeat (first | (intro q hq; (repeat (first | exact hq | apply List.mem_cons_of_mem)); done) | refine List.forall_mem_cons.mpr ⟨by k_mem, ?_⟩)
    case e5_ap => exact hap
    case e5_off => (try simp only [List.cons_append, List.nil_append]); repeat (first | exact hoff | refine List.forall_mem_cons.mpr ⟨by (refine ⟨?_, ?_, ?_, ?_, ?_, ?_, trivial⟩ <;> first | assumption | walk_at "cne" | (exact Nat.ne_of_gt (by omega)) | (exact Nat.ne_of_lt (by omega))), ?_⟩)
    case e5_HO => exact HO
    case e5_hom => exact hom
  · exfalso; have q : ¬ own = [] := of_decide_eq_false (by assumption)
    exact q (List.length_eq_zero_iff.mp (by omega))
  · exfalso; have q : own = [] := of_decide_eq_true (by assumption)
    have q2 : own.length = 0 := by rw [q]; rfl
    omega
  · refine' deed_end (own' := own.take (own.length - 1)) ret ?e6_T ?e6_F ?e6_N ?e6_I ?e6_sub ?e6_mR ?e6_1 ?e6_2 ?e6_3 ?e6_5 ?e6_4 ?e6_6 ?e6_7 ?e6_8 ?e6_ho ?e6_hi ?e6_hl ?e6_ap ?e6_off ?e6_HT ?e6_HO ?e6_hom
    case e6_T => assumption
    case e6_F => assumption
    case e6_N => assumption
    case e6_1 => k_mem
    case e6_I => assumption
    case e6_2 => k_mem
    case e6_3 => k_mem
    case e6_5 => k_mem
    case e6_4 => k_mem
    case e6_6 => k_mem
    case e6_7 => k_mem
    case e6_8 => k_mem
    case e6_ho => assumption
    case e6_hi => assumption
    case e6_hl => assumption
    case e6_HT => rw [List.dropLast_eq_take, hvl]; exact (HT.mono fun q hq => .tail _ hq).take _
    case e6_sub => (try simp only [List.cons_append, List.nil_append]); intro q hq; repeat (first | exact hq | apply List.mem_cons_of_mem)
    case e6_mR => (try simp only [List.cons_append, List.nil_append]); repeat (first | (intro q hq; (repeat (first | exact hq | apply List.mem_cons_of_mem)); done) | refine List.forall_mem_cons.mpr ⟨by k_mem, ?_⟩)
    case e6_ap => exact ap_ol hap (by (refine ⟨?_, ?_, ?_, ?_, ?_, ?_, ?_, trivial⟩ <;> first | assumption | walk_at "cj" | omega))
    case e6_off => (try simp only [List.cons_append, List.nil_append]); repeat (first | exact hoff | refine List.forall_mem_cons.mpr ⟨by (refine ⟨?_, ?_, ?_, ?_, ?_, ?_, trivial⟩ <;> first | assumption | walk_at "cne" | (exact Nat.ne_of_gt (by omega)) | (exact Nat.ne_of_lt (by omega))), ?_⟩)
    case e6_HO => rw [hol]; exact HO.take (own.length - 1)
    case e6_hom => rw [List.length_take]; omega
  · refine' deed_end (own' := own) ret ?e7_T ?e7_F ?e7_N ?e7_I ?e7_sub ?e7_mR ?e7_1 ?e7_2 ?e7_3 ?e7_5 ?e7_4 ?e7_6 ?e7_7 ?e7_8 ?e7_ho ?e7_hi ?e7_hl ?e7_ap ?e7_off ?e7_HT ?e7_HO ?e7_hom
    case e7_T => assumption
    case e7_F => assumption
    case e7_N => assumption
    case e7_1 => k_mem
    case e7_I => assumption
    case e7_2 => k_mem
    case e7_3 => k_mem
    case e7_5 => k_mem
    case e7_4 => k_mem
    case e7_6 => k_mem
    case e7_7 => k_mem
    case e7_8 => k_mem
    case e7_ho => assumption
    case e7_hi => assumption
    case e7_hl => assumption
    case e7_HT => exact HT.mono fun q hq => .tail _ hq
    case e7_sub => (try simp only [List.cons_append, List.nil_append]); intro q hq; repeat (first | exact hq | apply List.mem_cons_of_mem)
    case e7_mR => (try simp only [List.cons_append, List.nil_append]); repeat (first | (intro q hq; (repeat (first | exact hq | apply List.mem_cons_of_mem)); done) | refine List.forall_mem_cons.mpr ⟨by k_mem, ?_⟩)
    case e7_ap => exact hap
    case e7_off => (try simp only [List.cons_append, List.nil_append]); repeat (first | exact hoff | refine List.forall_mem_cons.mpr ⟨by (refine ⟨?_, ?_, ?_, ?_, ?_, ?_, trivial⟩ <;> first | assumption | walk_at "cne" | (exact Nat.ne_of_gt (by omega)) | (exact Nat.ne_of_lt (by omega))), ?_⟩)
    case e7_HO => exact HO
    case e7_hom => exact hom
  · refine' deed_end (own' := own.take (Int.toNat _) ++ (List.drop (Int.toNat _) (List.drop (Int.toNat _) own) ++ List.take (Int.toNat _) (List.drop (Int.toNat _) own))) ret ?e8_T ?e8_F ?e8_N ?e8_I ?e8_sub ?e8_mR ?e8_1 ?e8_2 ?e8_3 ?e8_5 ?e8_4 ?e8_6 ?e8_7 ?e8_8 ?e8_ho ?e8_hi ?e8_hl ?e8_ap ?e8_off ?e8_HT ?e8_HO ?e8_hom
    case e8_T => assumption
    case e8_F => assumption
    case e8_N => assumption
    case e8_1 => k_mem
    case e8_I => assumption
    case e8_2 => k_mem
    case e8_3 => k_mem
    case e8_5 => k_mem
    case e8_4 => k_mem
    case e8_6 => k_mem
    case e8_7 => k_mem
    case e8_8 => k_mem
    case e8_ho => assumption
    case e8_hi => assumption
    case e8_hl => assumption
    case e8_HT => rw [hvl]; exact ((HT.mono fun q hq => .tail _ hq).take _).append ((((HT.mono fun q hq => .tail _ hq).drop _).drop _).append (((HT.mono fun q hq => .tail _ hq).drop _).take _))
    case e8_sub => (try simp only [List.cons_append, List.nil_append]); intro q hq; repeat (first | exact hq | apply List.mem_cons_of_mem)
    case e8_mR => (try simp only [List.cons_append, List.nil_append]); repeat (first | (intro q hq; (repeat (first | exact hq | apply List.mem_cons_of_mem)); done) | refine List.forall_mem_cons.mpr ⟨by k_mem, ?_⟩)
    case e8_ap => exact ap_ol (ap_l hap (by (refine ⟨?_, ?_, ?_, ?_, ?_, ?_, ?_, trivial⟩ <;> first | assumption | walk_at "cj" | omega))) (by (refine ⟨?_, ?_, ?_, ?_, ?_, ?_, ?_, trivial⟩ <;> first | assumption | walk_at "cj" | omega))
    case e8_off => (try simp only [List.cons_append, List.nil_append]); repeat (first | exact off_l hoff (by tbn_find) | refine List.forall_mem_cons.mpr ⟨by (refine ⟨?_, ?_, ?_, ?_, ?_, ?_, trivial⟩ <;> first | assumption | walk_at "cne" | (exact Nat.ne_of_gt (by omega)) | (exact Nat.ne_of_lt (by omega))), ?_⟩)
    case e8_HO => rw [roll_eq ows]; (rw [hol]; exact (HO.take _).append (((HO.drop _).drop _).append ((HO.drop _).take _))); all_goals omega
    case e8_hom => rw [roll_len]; exact hom
  · refine' deed_end (own' := own) ret ?e9_T ?e9_F ?e9_N ?e9_I ?e9_sub ?e9_mR ?e9_1 ?e9_2 ?e9_3 ?e9_5 ?e9_4 ?e9_6 ?e9_7 ?e9_8 ?e9_ho ?e9_hi ?e9_hl ?e9_ap ?e9_off ?e9_HT ?e9_HO ?e9_hom
    case e9_T => assumption
    case e9_F => assumption
    case e9_N => assumption
    case e9_1 => k_mem
    case e9_I => assumption
    case e9_2 => k_mem
    case e9_3 => k_mem
    case e9_5 => k_mem
    case e9_4 => k_mem
    case e9_6 => k_mem
    case e9_7 => k_mem
    case e9_8 => k_mem
    case e9_ho => assumption
    case e9_hi => assumption
    case e9_hl => assumption
    case e9_HT => exact HT.mono fun q hq => .tail _ hq
    case e9_sub => (try simp only [List.cons_append, List.nil_append]); intro q hq; repeat (first | exact hq | apply List.mem_cons_of_mem)
    case e9_mR => (try simp only [List.cons_append, List.nil_append]); repeat (first | (intro q hq; (repeat (first | exact hq | apply List.mem_cons_of_mem)); done) | refine List.forall_mem_cons.mpr ⟨by k_mem, ?_⟩)
    case e9_ap => exact ap_ol hap (by (refine ⟨?_, ?_, ?_, ?_, ?_, ?_, ?_, trivial⟩ <;> first | assumption | walk_at "cj" | omega))
    case e9_off => (try simp only [List.cons_append, List.nil_append]); repeat (first | exact hoff | refine List.forall_mem_cons.mpr ⟨by (refine ⟨?_, ?_, ?_, ?_, ?_, ?_, trivial⟩ <;> first | assumption | walk_at "cne" | (exact Nat.ne_of_gt (by omega)) | (exact Nat.ne_of_lt (by omega))), ?_⟩)
    case e9_HO => rw [roll_one ows]; exact HO; all_goals omega
    case e9_hom => exact hom
  · refine' deed_end (own' := own) ret ?e10_T ?e10_F ?e10_N ?e10_I ?e10_sub ?e10_mR ?e10_1 ?e10_2 ?e10_3 ?e10_5 ?e10_4 ?e10_6 ?e10_7 ?e10_8 ?e10_ho ?e10_hi ?e10_hl ?e10_ap ?e10_off ?e10_HT ?e10_HO ?e10_hom
    case e10_T => assumption
    case e10_F => assumption
    case e10_N => assumption
    case e10_1 => k_mem
    case e10_I => assumption
    case e10_2 => k_mem
    case e10_3 => k_mem
    case e10_5 => k_mem
    case e10_4 => k_mem
    case e10_6 => k_mem
    case e10_7 => k_mem
    case e10_8 => k_mem
    case e10_ho => assumption
    case e10_hi => assumption
    case e10_hl => assumption
    case e10_HT => exact HT.mono fun q hq => .tail _ hq
    case e10_sub => (try simp only [List.cons_append, List.nil_append]); intro q hq; repeat (first | exact hq | apply List.mem_cons_of_mem)
    case e10_mR => (try simp only [List.cons_append, List.nil_append]); repeat (first | (intro q hq; (repeat (first | exact hq | apply List.mem_cons_of_mem)); done) | refine List.forall_mem_cons.mpr ⟨by k_mem, ?_⟩)
    case e10_ap => exact hap
    case e10_off => (try simp only [List.cons_append, List.nil_append]); repeat (first | exact hoff | refine List.forall_mem_cons.mpr ⟨by (refine ⟨?_, ?_, ?_, ?_, ?_, ?_, trivial⟩ <;> first | assumption | walk_at "cne" | (exact Nat.ne_of_gt (by omega)) | (exact Nat.ne_of_lt (by omega))), ?_⟩)
    case e10_HO => exact HO
    case e10_hom => exact hom
  · refine' deed_end (own' := own.take (Int.toNat _)) ret ?e11_T ?e11_F ?e11_N ?e11_I ?e11_sub ?e11_mR ?e11_1 ?e11_2 ?e11_3 ?e11_5 ?e11_4 ?e11_6 ?e11_7 ?e11_8 ?e11_ho ?e11_hi ?e11_hl ?e11_ap ?e11_off ?e11_HT ?e11_HO ?e11_hom
    case e11_T => assumption
    case e11_F => assumption
    case e11_N => assumption
    case e11_1 => k_mem
    case e11_I => assumption
    case e11_2 => k_mem
    case e11_3 => k_mem
    case e11_5 => k_mem
    case e11_4 => k_mem
    case e11_6 => k_mem
    case e11_7 => k_mem
    case e11_8 => k_mem
    case e11_ho => assumption
    case e11_hi => assumption
    case e11_hl => assumption
    case e11_HT => exact HT.take _
    case e11_sub => (try simp only [List.cons_append, List.nil_append]); intro q hq; repeat (first | exact hq | apply List.mem_cons_of_mem)
    case e11_mR => (try simp only [List.cons_append, List.nil_append]); repeat (first | (intro q hq; (repeat (first | exact hq | apply List.mem_cons_of_mem)); done) | refine List.forall_mem_cons.mpr ⟨by k_mem, ?_⟩)
    case e11_ap => exact ap_ol (ap_l hap (by (refine ⟨?_, ?_, ?_, ?_, ?_, ?_, ?_, trivial⟩ <;> first | assumption | walk_at "cj" | omega))) (by (refine ⟨?_, ?_, ?_, ?_, ?_, ?_, ?_, trivial⟩ <;> first | assumption | walk_at "cj" | omega))
    case e11_off => exact off_l hoff (by tbn_find)
    case e11_HO => exact HO.take _
    case e11_hom => rw [List.length_take]; omega
  · refine' deed_end (own' := own) ret ?e12_T ?e12_F ?e12_N ?e12_I ?e12_sub ?e12_mR ?e12_1 ?e12_2 ?e12_3 ?e12_5 ?e12_4 ?e12_6 ?e12_7 ?e12_8 ?e12_ho ?e12_hi ?e12_hl ?e12_ap ?e12_off ?e12_HT ?e12_HO ?e12_hom
    case e12_T => assumption
    case e12_F => assumption
    case e12_N => assumption
    case e12_1 => k_mem
    case e12_I => assumption
    case e12_2 => k_mem
    case e12_3 => k_mem
    case e12_5 => k_mem
    case e12_4 => k_mem
    case e12_6 => k_mem
    case e12_7 => k_mem
    case e12_8 => k_mem
    case e12_ho => assumption
    case e12_hi => assumption
    case e12_hl => assumption
    case e12_HT => exact HT.mono fun q hq => .tail _ hq
    case e12_sub => (try simp only [List.cons_append, List.nil_append]); intro q hq; repeat (first | exact hq | apply List.mem_cons_of_mem)
    case e12_mR => (try simp only [List.cons_append, List.nil_append]); repeat (first | (intro q hq; (repeat (first | exact hq | apply List.mem_cons_of_mem)); done) | refine List.forall_mem_cons.mpr ⟨by k_mem, ?_⟩)
    case e12_ap => exact hap
    case e12_off => (try simp only [List.cons_append, List.nil_append]); repeat (first | exact hoff | refine List.forall_mem_cons.mpr ⟨by (refine ⟨?_, ?_, ?_, ?_, ?_, ?_, trivial⟩ <;> first | assumption | walk_at "cne" | (exact Nat.ne_of_gt (by omega)) | (exact Nat.ne_of_lt (by omega))), ?_⟩)
    case e12_HO => exact HO
    case e12_hom => exact hom
  · refine' deed_end (own' := own.take ((own.length : Int) - _).toNat) ret ?e13_T ?e13_F ?e13_N ?e13_I ?e13_sub ?e13_mR ?e13_1 ?e13_2 ?e13_3 ?e13_5 ?e13_4 ?e13_6 ?e13_7 ?e13_8 ?e13_ho ?e13_hi ?e13_hl ?e13_ap ?e13_off ?e13_HT ?e13_HO ?e13_hom
    case e13_T => assumption
    case e13_F => assumption
    case e13_N => assumption
    case e13_1 => k_mem
    case e13_I => assumption
    case e13_2 => k_mem
    case e13_3 => k_mem
    case e13_5 => k_mem
    case e13_4 => k_mem
    case e13_6 => k_mem
    case e13_7 => k_mem
    case e13_8 => k_mem
    case e13_ho => assumption
    case e13_hi => assumption
    case e13_hl => assumption
    case e13_HT => rw [hvl]; exact (HT.mono fun q hq => .tail _ hq).take _
    case e13_sub => (try simp only [List.cons_append, List.nil_append]); intro q hq; repeat (first | exact hq | apply List.mem_cons_of_mem)
    case e13_mR => (try simp only [List.cons_append, List.nil_append]); repeat (first | (intro q hq; (repeat (first | exact hq | apply List.mem_cons_of_mem)); done) | refine List.forall_mem_cons.mpr ⟨by k_mem, ?_⟩)
    case e13_ap => exact ap_ol (ap_l hap (by (refine ⟨?_, ?_, ?_, ?_, ?_, ?_, ?_, trivial⟩ <;> first | assumption | walk_at "cj" | omega))) (by (refine ⟨?_, ?_, ?_, ?_, ?_, ?_, ?_, trivial⟩ <;> first | assumption | walk_at "cj" | omega))
    case e13_off => (try simp only [List.cons_append, List.nil_append]); repeat (first | exact off_l hoff (by tbn_find) | refine List.forall_mem_cons.mpr ⟨by (refine ⟨?_, ?_, ?_, ?_, ?_, ?_, trivial⟩ <;> first | assumption | walk_at "cne" | (exact Nat.ne_of_gt (by omega)) | (exact Nat.ne_of_lt (by omega))), ?_⟩)
    case e13_HO => rw [hol]; exact HO.take _
    case e13_hom => rw [List.length_take]; omega
end
local macro_rules | `(tactic| walk_at "exec For Name Call cons nil") => `(tactic| (k_here; (rename Fr _ _ _ _ => lF'); (with_unfolding_all refine' For_invVF lF' ?fk1 ?fk2 ?_; (case fk1 => exact rfl); (case fk2 => exact rfl); k_whole)))
local macro_rules | `(tactic| walk_at "pyIter ref") => `(tactic| ((with_reducible rename IsRange _ _ _ _ _ _ _ _ => rgX); refine stop ?_))
local macro_rules | `(tactic| walk_at "newTuple") => `(tactic| (k_here; k_dflt (refine' tuple_wd ?F ?W ?N ?z ?_; (case F => k_asm); (case W => assumption); (case N => assumption); (case z => exact Nat.le_of_ble_eq_true rfl)); intro pa' R' nw' h' F' N' W' hs' mp'; (try k_sweep)))
local macro_rules | `(tactic| walk_at "GoodW cons ok") => `(tactic| ((simp only [beq_self_eq_true]); (with_reducible rename KtsTurn _ _ _ => kT9); (with_reducible rename Fr _ _ _ _ => kF9); (with_reducible rename News _ _ _ _ => kN9); (with_reducible rename (Shared.gens _ = _) => kg9); exact law_end (unturn kT9 kF9 kN9).1 kg9 rfl))
local macro_rules | `(tactic| walk_at "exec Return some") => `(tactic| (exfalso; (with_reducible rename (¬ (_ : Int) < 2) => hz); k_dflt (exact hz (by first | (simp; done) | (simp only [List.length_cons, List.length_nil]; omega)))))
theorem law_dev5 : PySem.Challenge.rw_on0259_01.Holds := by
  w_on
  refine hd ?_
  w_strict (k_go0; (all_goals try k_fold); (repeat' (first | (k_unfold; (try dsimp only)) | (k_end; wrow_close) | ((with_reducible show wpAny _ _ (call _ _) _ _ _); first | (with_reducible ((with_reducible show wpAny _ _ (call (Value.ref 213) [_]) _ _ _); k_dflt (apply numbers_use; walk_at "s7"; walk_at "n2"; walk_at "p3"; (case HT => exact ThingsIn.cons (by assumption) .nil); (case hR => exact List.forall_mem_cons.mpr ⟨by k_mem, List.forall_mem_cons.mpr ⟨by k_mem, List.forall_mem_nil _⟩⟩); (case hlen => exact Nat.le_of_ble_eq_true rfl)); intro D' ws' n' h' tk' HI' F' N'; k_dflt (have n229 : @Ne Nat D' 229 := ne_tab N' (List.Mem.head _) (by k_mem)); (try k_sweep))) | (with_reducible ((with_reducible show wpAny _ _ (call (Value.ref 208) [_]) _ _ _); k_dflt (apply thing_call; walk_at "s7"; walk_at "n2"); intro x' dx' od' h' tk' F' N' l1 l2 hT'; (try simp only [List.cons_append, List.nil_append] at N' l1 l2); (try k_lt l1); (try k_lt l2); (try k_sweep))) | (with_reducible ((with_reducible show wpAny _ _ (call (Value.type _) [Value.int _ _]) _ _ _); (rename Fr _ _ _ _ => F'); (rename News _ _ _ _ => N'); (with_unfolding_all refine range1_rows F' N' ?_; intro _ _ _ _ _ _ _ _ _))) | (with_reducible ((with_reducible show wpAny _ _ (call (Value.builtin "len") [Value.ref _]) _ _ _); k_dflt (refine' len_wd ?z284W ?z284N ?z284hm1 ?_; (case z284W => assumption); (case z284N => first | assumption | exact News.tl (by assumption) | exact News.tl (News.tl (by assumption))); (case z284hm1 => assumption); k_whole))) | (with_reducible ((with_reducible show wpAny _ _ (call (Value.ref 153) [_, _]) _ _ _); k_dflt (apply put_back_wd; walk_at "s7"; (case m2 => assumption); (case HT => assumption); (case m3 => assumption); (case HO => assumption); (case hom => assumption); (case hm1 => assumption); (case W => first | assumption | exact Wd.weak (by assumption) (by assumption)); walk_at "n1"); intro nw' h' tk' F' N' W'; (try k_sweep))) | (with_reducible ((with_reducible show wpAny _ _ (call (Value.ref 83) [_, _]) _ _ _); k_dflt (apply push_wd0; walk_at "s7"; (case W => assumption); walk_at "n1"; (case hm1 => assumption); (case hlt => omega)); intro nw' h' tk' F' N' W'; (try k_sweep))) | (with_reducible ((with_reducible show wpAny _ _ (call (Value.ref 201) [_, _]) _ _ _); k_dflt (apply pick_wd; walk_at "s7"; (case W => assumption); walk_at "n1"; (case K => assumption); (case hT0 => omega); (case hT1 => omega); (case hM0 => assumption); (case hM1 => assumption); (case hk0 => omega); (case hk1 => omega)); intro pa' ta' la' vs' ows' n' own' nw' h' tk' F' N' W' m2' m3' HT' HO' ho'; (try k_sweep))) | (with_reducible ((with_reducible show wpAny _ _ (call (Value.builtin _) [Value.ref _, _]) _ _ _); k_dflt (refine' append_wd ?z282F ?z282N ?z282W ?z282hz ?_; (case z282F => k_asm); (case z282W => assumption); (case z282N => first | assumption | exact News.tl (by assumption)); (case z282hz => omega)); intro n' nw' h' F' N' W'; (try k_sweep))) | (with_reducible ((with_reducible show wpAny _ _ (call (Value.type _) [Value.ref _]) _ _ _); k_dflt (refine' copy_wd ?z281F ?z281N ?z281W ?z281hm1 ?_; (case z281F => k_asm); (case z281W => assumption); (case z281N => first | assumption | exact News.tl (by assumption)); (case z281hm1 => assumption)); intro la' ows' n' R' nw' h' F' N' W' hs' ml' HO'; (try k_sweep))) | (with_reducible ((with_reducible show wpAny _ _ (call (Value.ref 146) [_]) _ _ _); k_dflt (apply snapshot_wd; walk_at "s7"; (case W => assumption); walk_at "n1"; (case hm1 => assumption)); intro ta' vs' R' nw' h' tk' F' N' W' hs' mt' HT'; (try k_sweep))) | (with_reducible ((with_reducible show wpAny _ _ (call (Value.ref 213) [_]) _ _ _); k_dflt (apply numbers_wd; walk_at "s7"; (case W => assumption); walk_at "n1"; (case hm1 => assumption)); intro D' ws' n' h' tk' HI' F' N'; (try k_sweep))) | (with_reducible ((with_reducible show wpAny _ _ (call (Value.ref 227) [_, _, _, _]) _ _ _); k_dflt (apply deed_call; walk_at "s7"; (case W => assumption); walk_at "n1"; (case XB => k_asm); (case TB => k_asm); (case CH => assumption); (case hm0 => assumption); (case hm1 => assumption); (case hT0 => omega); (case hT1 => omega); (case hM0 => assumption); (case hM1 => assumption)); intro ol' own' R' nw' h' tk' F' N' hs' W'; (try k_sweep))) | (with_reducible ((with_reducible show wpAny _ _ (call (Value.ref 194) [_, _]) _ _ _); k_dflt (apply draw_wd; walk_at "s7"; (case W => assumption); walk_at "n1"; (case hb0 => decide); (case hb1 => decide); (case hT0 => omega); (case hT1 => omega); (case hM0 => assumption); (case hM1 => assumption)); intro v' t' nw' h' tk' hv0' hv1' F' N' W'; (try k_sweep))) | (with_reducible ((with_reducible show wpAny _ _ (call (Value.ref 194) [_, _]) _ _ _); k_dflt (apply draw_use; walk_at "s7"; walk_at "n2"; (case P1 => walk_at "pk"); (case ho => first | assumption | (with_unfolding_all assumption)); (case P2 => walk_at "pk"); (case hi => assumption); (case hlen => first | assumption | (simp only [List.length_reverse, List.length_map, List.length_take]; omega)); (case hne => walk_at "cne"); (case offd => walk_at "of"); (case offD => walk_at "of"); (case hb0 => decide); (case hb1 => decide); (case hT0 => decide); (case hT1 => decide); (case hM0 => exact (fold_rng _ _ (by decide) (by decide)).1); (case hM1 => exact (fold_rng _ _ (by decide) (by decide)).2)); intro v' t' o' ws' cells' n' t1' t2' h' tk' hD' hv0' hv1' F' N' ho' hi' hl'; (try k_sweep))) | (with_reducible ((with_reducible show wpAny _ _ (call (Value.ref 153) [_, _]) _ _ _); k_dflt (apply put_back_ok; walk_at "s7"; (case N => exact pick4b (by k_asm) (by walk_at "pk") (by walk_at "pk") (by walk_at "pk") (by walk_at "pk")); (case hlen => exact Nat.le_of_ble_eq_true rfl); (case h1 => walk_at "cne"); (case h2 => walk_at "cne"); (case h3 => walk_at "cne"); (case h4 => walk_at "cne"); (case offd => walk_at "of")); intro l' n' h' tk' F' a1 a2 a3 a4 a5 N'; (try dsimp only [AllLt] at a5); (try k_sweep))) | (with_reducible ((with_reducible show wpAny _ _ (call (Value.ref 146) [_]) _ _ _); k_dflt (apply snapshot_ok; walk_at "s7"; walk_at "n3"; (case hlen => exact Nat.le_of_ble_eq_true rfl)); intro t' h' tk' F' a1 a2 a3 a4 N'; (try dsimp only [AllLt] at a4); (try k_sweep))) | (with_reducible ((with_reducible show wpAny _ _ (call (Value.ref 83) [_, _]) _ _ _); k_dflt (apply push_ok; walk_at "s7"; walk_at "n3"; (case h1 => walk_at "cne"); (case h2 => walk_at "cne"); (case h3 => walk_at "cne"); (case offl => walk_at "of"); (case offd => walk_at "of"); (case hlen => exact Nat.le_of_ble_eq_true rfl); (case hm => exact of_decide_eq_true rfl)); intro n' h' tk' F' N'; (try dsimp only [List.nil_append, List.cons_append] at N'); (try k_sweep))) | (with_reducible ((with_reducible show wpAny _ _ (call (Value.builtin "len") [Value.ref _]) _ _ _); k_dflt (refine' my_len_ints ?z279k1 ?z279ki ?z279k2 ?_; (case z279k1 => exact News.isList (by k_asm) (by k_mem)); (case z279ki => assumption); (case z279k2 => ((try simp only [List.length_append, List.length_cons, List.length_nil, List.length_take, List.length_drop, List.length_dropLast]); omega)); intro le'; (try simp only [List.length_take, List.length_cons, List.length_nil] at le'); k_whole))) | (with_reducible ((with_reducible show wpAny _ _ (call (Value.ref 220) [_]) _ _ _); k_dflt (refine wpAny_call ?_; (refine' code_defT ?z278k1 ?z278k2 ?z278k3 ?z278k4 ?z278k5 ?z278kA ?z278kF ?z278kK ?z278k6 ?z278k7 ?z278k8 ?z278k9 ?z278kB ?_ ?z278c2 ?z278c3 ?z278c4 ?z278c5; (case z278kA => exact rfl); (case z278kF => exact rfl); (case z278kK => exact rfl); (case z278k2 => k_asm); (case z278k1 => k_asm); (case z278k3 => k_asm); (case z278k4 => k_asm); (case z278k5 => k_asm); (case z278k6 => k_is); (case z278k7 => k_is); (case z278k8 => k_room); (case z278k9 => exact BindsTo.of_eq rfl); (case z278c5 => decide); (case z278kB => exact locs rfl); (case z278c2 => exact rfl); (case z278c3 => exact rfl); (case z278c4 => exact rfl); k_whole; intro g' L' h' FG' F' N' B' X' T'; (try dsimp only); (try k_lift B'); (try k_fold))))) | (with_reducible ((with_reducible show wpAny _ _ (call (Value.ref 194) [_, _]) _ _ _); k_dflt (refine' draw_use ?z277B ?z277F ?z277X ?z277TP ?z277hk ?z277hdp ?z277hun ?z277N ?z277P1 ?z277P2 ?z277ho ?z277hi ?z277hlen ?z277hne ?z277offd ?z277offD ?z277hb0 ?z277hb1 ?z277hT0 ?z277hT1 ?z277hM0 ?z277hM1 ?_; (case z277B => k_asm); (case z277F => k_asm); (case z277X => k_asm); (case z277TP => k_asm); (case z277hk => first | exact rfl | assumption); (case z277hdp => ktr_room); (case z277hun => ktr_units); (case z277N => k_asm); (case z277P1 => repeat (first | exact Pick.head | apply Pick.tail)); (case z277P2 => repeat (first | exact Pick.head | apply Pick.tail)); (case z277ho => assumption); (case z277hi => assumption); (case z277hlen => assumption); (case z277hne => k_ne); (case z277offd => k_all); (case z277offD => k_all); (case z277hb0 => decide); (case z277hb1 => decide); (case z277hT0 => omega); (case z277hT1 => omega); (case z277hM0 => assumption); (case z277hM1 => assumption)); intro v' t' o' ws' cells' n' t1' t2' h' tk' hD' hv0' hv1' F' N' ho' hi' hl'; (try k_sweep))) | (with_reducible ((with_reducible show wpAny _ _ (call (Value.ref 132) [_, Value.int _ _, Value.int 1 _]) _ _ _); k_dflt (apply rolled_low_use; walk_at "s7"; walk_at "n2"; walk_at "p3"; (case hm2 => omega); (case hm1 => omega); (case hm0 => omega); (case hlen => omega)); intro h' tk' F' N'; (try k_sweep))) | (with_reducible ((with_reducible show wpAny _ _ (call (Value.ref 132) [_, Value.int _ _, Value.int 1 _]) _ _ _); k_dflt (apply rolled_use; walk_at "s7"; walk_at "n2"; walk_at "p3"; (case hm2 => omega); (case hm0 => omega); (case h1 => k_ne); (case h2 => k_ne); (case h3 => k_ne); (case offl => k_all); (case offd => k_all); (case hlen => omega)); intro l' n' h' tk' F' l1 l2 l3 l4 N'; (try simp only [AllLt, and_true] at l4); (try k_sweep))) | (with_reducible ((with_reducible show wpAny _ _ (call (Value.ref 132) [_, Value.int _ _, Value.int 1 _]) _ _ _); k_dflt (refine' split132 ?z276N ?z276P1 ?z276P2 ?z276P3 ?z276sa ?z276sb ?z276sc; (case z276N => k_asm); (case z276P1 => walk_at "pk"); (case z276P2 => walk_at "pk"); (case z276P3 => walk_at "pk"); (case' z276sa => intro hm8 hm9; fail_if_success (exfalso; omega)); (case' z276sb => intro hm8 hm9); (case' z276sc => intro hm9; fail_if_success (exfalso; omega))))) | (with_reducible ((with_reducible show wpAny _ _ (call (Value.ref 90) [_, _]) _ _ _); k_dflt (apply push_all_use; walk_at "s7"; walk_at "n2"; walk_at "p3"; (case P4 => walk_at "pk"); (case hm => walk_at "ln"); (case h1 => k_ne); (case h2 => k_ne); (case h3 => k_ne); (case h4 => first | k_ne | exact Nat.ne_of_gt (by omega)); (case offl => k_all); (case hlen => walk_at "ln"); (case hlen2 => walk_at "ln")); intro n' h' tk' F' N'; (try k_sweep))) | (with_reducible ((with_reducible show wpAny _ _ (call (Value.ref 90) [_, _]) _ _ _); k_dflt (refine' split90 ?z275N ?z275P1 ?z275P2 ?z275P3 ?z275P4 ?z275g1 ?z275g2; (case z275N => k_asm); (case z275P1 => walk_at "pk"); (case z275P2 => walk_at "pk"); (case z275P3 => walk_at "pk"); (case z275P4 => walk_at "pk"); (case' z275g1 => intro hm9; fail_if_success (exfalso; omega)); (case' z275g2 => intro hm9; fail_if_success (exfalso; omega))))) | (with_reducible ((with_reducible show wpAny _ _ (call (Value.ref 52) [_]) _ _ _); k_dflt (apply pserr_call; walk_at "s7"; walk_at "n2"); intro e' d' t' k' h' tk' F' N' l1 l2 l3; (try dsimp only [AllLt] at l1 l2 l3); (try k_sweep))) | (with_reducible ((with_reducible show wpAny _ _ (call (Value.ref 208) [_]) _ _ _); k_dflt (apply thing_call; walk_at "s7"; walk_at "n2"); intro x' dx' od' h' tk' F' N' l1 l2 hT'; (try k_lt l1); (try k_lt l2); (try k_sweep))) | (with_reducible ((with_reducible show wpAny _ _ (call (Value.builtin _) [Value.ref _]) _ _ _); k_dflt (refine' my_pop ?z272F ?z272N ?z272U ?z272e ?z272z ?_; (case z272F => k_asm); (case z272N => k_asm); (case z272U => k_updF); (case z272e => assumption); (case z272z => omega)); intro y' n' h' F' N'; (try dsimp only at N'); (try k_sweep))) | (with_reducible ((with_reducible show wpAny _ _ (call (Value.builtin _) [Value.ref _, Value.ref _]) _ _ _); k_dflt (refine' my_extend ?z271F ?z271N ?z271b ?z271U ?z271z ?_; (case z271F => k_asm); (case z271N => k_asm); (case z271b => k_mem); (case z271U => k_updF); (case z271z => walk_at "sz")); intro n' h' F' N'; (try dsimp only at N'); (try k_sweep))) | (with_reducible ((with_reducible show wpAny _ _ (call (Value.builtin "len") [Value.ref _]) _ _ _); k_dflt (refine' my_len ?z265k1 ?z265k2 ?_; (case z265k1 => exact News.isList (by k_asm) (by k_mem)); (case z265k2 => ((try simp only [List.length_append, List.length_cons, List.length_nil, List.length_take, List.length_drop, List.length_dropLast]); omega)); k_whole))) | (dsimp only [List.nil_append, List.cons_append]; first | (with_reducible ((with_reducible show wpAny _ _ (call (Value.builtin _) [Value.ref _, _]) _ _ _); k_dflt (refine' append_wd ?z287F ?z287N ?z287W ?z287hz ?_; (case z287F => k_asm); (case z287W => assumption); (case z287N => first | assumption | exact News.tl (by assumption)); (case z287hz => omega)); intro n' nw' h' F' N' W'; (try k_sweep))) | (with_reducible ((with_reducible show wpAny _ _ (call (Value.builtin _) [Value.ref _]) _ _ _); k_dflt (refine' my_pop ?z288F ?z288N ?z288U ?z288e ?z288z ?_; (case z288F => k_asm); (case z288N => k_asm); (case z288U => k_updF); (case z288e => assumption); (case z288z => omega)); intro y' n' h' F' N'; (try dsimp only at N'); (try k_sweep))) | (with_reducible ((with_reducible show wpAny _ _ (call (Value.builtin _) [Value.ref _, Value.ref _]) _ _ _); k_dflt (refine' my_extend ?z289F ?z289N ?z289b ?z289U ?z289z ?_; (case z289F => k_asm); (case z289N => k_asm); (case z289b => k_mem); (case z289U => k_updF); (case z289z => walk_at "sz")); intro n' h' F' N'; (try dsimp only at N'); (try k_sweep))))) | ((with_reducible show wpAny _ _ (callWith _ _ _ _ _) _ _ _); first | (with_reducible ((with_reducible show wpAny _ _ (callWith _ (Value.ref (OfNat.ofNat _)) _ _ _) _ _ _); k_dflt (first | refine' callWith_K ?z286k1 ?z286k2 ?_; (case z286k1 => with_reducible assumption); (case z286k2 => k_is); k_whole | (refine' callWith_K0 ?z286k1 ?z286k2 ?_; (case z286k1 => k_in); (case z286k2 => k_is); k_whole; try dsimp only [List.nil_append, List.cons_append]) | (refine' callWith_M0 ?z286k1 ?z286k2 ?_; (case z286k1 => k_meth); (case z286k2 => k_is); k_whole; try dsimp only [List.nil_append, List.cons_append]) | refine' callWith_M ?z286k1 ?z286k2 ?z286k3 ?z286k4 ?_; (case z286k1 => k_asm); (case z286k2 => k_asm); (case z286k3 => k_mem); (case z286k4 => k_is); k_whole))) | (with_reducible ((with_reducible show wpAny _ _ (callWith _ (Value.ref (OfNat.ofNat _)) _ _ _) _ _ _); k_dflt (first | refine' callWith_K ?z266k1 ?z266k2 ?_; (case z266k1 => k_asm); (case z266k2 => k_is); k_whole | refine' callWith_K0 ?z266k1 ?z266k2 ?_; (case z266k1 => k_in); (case z266k2 => k_is); k_whole | (refine' callWith_M0 ?z266k1 ?z266k2 ?_; (case z266k1 => k_meth); (case z266k2 => k_is); k_whole; try dsimp only [List.nil_append, List.cons_append]) | refine' callWith_M ?z266k1 ?z266k2 ?z266k3 ?z266k4 ?_; (case z266k1 => k_asm); (case z266k2 => k_asm); (case z266k3 => k_mem); (case z266k4 => k_is); k_whole)))) | (with_reducible ((with_reducible show wpAny _ _ (eval (PySem.Expr.Lambda _ _ _ _) _) _ _ _); kn_here; k_dflt (refine' kla_eval ?z267d0 ?_; (case z267d0 => exact rfl)); (with_reducible rename TabInv _ _ => TI'); k_dflt (refine' lam_both ?z267F ?z267N ?z267T ?z267C ?z267cd ?z267U TI' ?z267q ?z267R ?z267b ?z267bn ?z267cl ?_; (case z267F => k_asm); (case z267N => k_asm); (case z267T => k_asm); (case z267cd => exact rfl); (case z267C => kn_code); (case z267U => k_updF); (case z267q => exact rfl); (case z267R => (intro q9 hq9; repeat (first | assumption | apply List.mem_cons_of_mem))); (case z267b => assumption); (case z267bn => (repeat' (first | exact True.intro | refine And.intro ⟨_, by (repeat (first | (with_reducible exact List.mem_cons_self) | apply List.mem_cons_of_mem))⟩ ?_))); (case z267cl => exact rfl); k_whole); intro f' c' oc' vs' t' ct' ps' h' tk' F' N' d1' d2' l1 l2 hc' TJ'; (try dsimp only at N'); (try k_lt l1); k_dflt (obtain ⟨_, _, _, _, _, _, _⟩ := hc'))) | ((with_reducible show wpAny _ _ (getAttr _ _ _) _ _ _); first | (with_reducible ((with_reducible show wpAny _ _ (getAttr (Value.ref _) (PySem.Str.ofString "many") _) _ _ _); k_dflt (apply many_wd; walk_at "s7"; (case W => assumption); walk_at "n1"; (case hm1 => assumption)); intro t' h' tk' F' N'; (try k_sweep))) | (with_reducible ((with_reducible show wpAny _ _ (getAttr (Value.ref _) (PySem.Str.ofString "told") _) _ _ _); k_dflt (refine' exc_told (K := hd.heap_1 _) ?z268X (exc_inst ?z268N ?z268m1 ?z268m2 ?z268c ?z268d) ?z268a ?z268b ?z268q ?z268f1 ?z268f2 ?z268f3 ?z268f4 ?z268h ?_; (case z268N => k_asm); (case z268m1 => k_mem); (case z268c => assumption); (case z268d => assumption); (case z268m2 => k_mem); (case z268X => k_in); (case z268a => k_is); (case z268b => k_is); (case z268q => k_is); (case z268f1 => k_is); (case z268f2 => k_is); (case z268f3 => k_is); (case z268f4 => k_get); (case z268h => exact rfl); k_whole)))) | ((with_reducible show wpAny _ _ (subscriptTail _ _ _ _) _ _ _); first | (with_reducible ((with_reducible show wpAny _ _ (subscriptTail _ (PySem.Expr.Slice _ _ none _) (Value.ref _) (Value.ref _)) _ _ _); k_dflt (refine' kmk_slice_lit ?z269F ?z269N ?z269l ?z269p ?z269q ?z269e ?_ ?z269s ?z269t ?z269z; (case z269F => k_asm); (case z269N => k_asm); (case z269l => exact News.isList (by k_asm) (by k_mem)); (case z269p => kmk_part); (case z269q => kmk_part); (case z269e => first | exact pk_all | exact pk_upto (by omega) | exact pk_from (by omega) | exact pk_run (by omega) (by omega) | exact pk_upto_neg (by omega)); (case z269s => with_unfolding_all rfl); (case z269t => kmk_pure); (case z269z => size_fits)); intro D' h' F' N' l1; (try k_lt l1); (try k_sweep)))) | ((with_reducible show wpAny _ _ (binaryOp _ _ _) _ _ _); first | (with_reducible ((with_reducible show wpAny _ _ (binaryOp _ (Value.ref _) (Value.ref _)) _ _ _); k_dflt (refine' my_add ?z270F ?z270N ?z270a ?z270b ?_ ?z270z; (case z270F => k_asm); (case z270N => k_asm); (case z270a => exact News.isList (by k_asm) (by k_mem)); (case z270b => exact News.isList (by k_asm) (by k_mem)); (case z270z => walk_at "sz")); intro D' h' F' N' l1; (try k_lt l1); (try k_sweep)))) | ((with_reducible show wpAny _ _ (compareOp _ _ _) _ _ _); first | (with_reducible ((with_reducible show wpAny _ _ (compareOp CmpOp.NotEq (Value.ref _) (Value.ref _)) _ _ _); k_dflt (refine' ne_wd ?z280N ?z280W ?z280HI ?z280hu ?_; (case z280W => assumption); (case z280HI => assumption); (case z280N => assumption); (case z280hu => ktr_units)))) | (with_reducible ((with_reducible show wpAny _ _ (compareOp CmpOp.Eq (Value.ref _) (Value.ref _)) _ _ _); k_dflt (refine' eq_empty ?z273a ?z273b ?z273e ?z273u ?_; (case z273a => exact News.isList (by k_asm) (by k_mem)); (case z273b => exact News.isList (by k_asm) (by k_mem)); (case z273e => exact rfl); (case z273u => ktr_units))))) | (with_reducible (k_dflt (refine' things_src ?z274hh ?z274F ?z274N ?z274hm ?z274hi ?z274hz ?z274T ?z274hb ?z274bn ?z274elt ?_; (case z274hh => exact rfl); (case z274F => k_asm); (case z274N => k_asm); (case z274hm => k_mem); (case z274hi => assumption); (case z274hz => (try simp only [List.length_take, List.length_cons, List.length_nil]); omega); (case z274hb => assumption); (case z274T => repeat (first | exact Tail.head | apply Tail.tail)); (case z274bn => (repeat' (first | exact True.intro | refine And.intro ⟨_, by (repeat (first | (with_reducible exact List.mem_cons_self) | apply List.mem_cons_of_mem))⟩ ?_))); (case z274elt => (intro v9 t9 I9 oI9 C9 oC9 D9 oD9 m9 h9 tk9 X9 E9 hN9 hx9 F9 N9; (repeat' (first | (k_unfold; (try dsimp only)) | (k_end; wrow_close) | ((with_reducible show wpAny _ _ (call _ _) _ _ _); first | (with_reducible ((with_reducible show wpAny _ _ (call (Value.ref 208) [_]) _ _ _); k_dflt (apply thing_call; walk_at "s7"; walk_at "n2"); intro x' dx' od' h' tk' F' N' l1 l2 hT'; (try simp only [List.cons_append, List.nil_append] at N' l1 l2); (try k_lt l1); (try k_lt l2); (try k_sweep))) | (with_reducible ((with_reducible show wpAny _ _ (call (Value.ref 208) [_]) _ _ _); k_dflt (apply thing_call; walk_at "s7"; walk_at "n2"); intro x' dx' od' h' tk' F' N' l1 l2 hT'; (try k_lt l1); (try k_lt l2); (try k_sweep)))) | walk1 | (dsimp only; walk1) | (dsimp only [List.nil_append, List.cons_append]; walk1) | (leave1; walk_say "STEP leave1"; try dsimp only))); (show ThElt _ _ _ _ _ _ _ _ _ _ _ _ _ _ _); unfold ThElt; exact ⟨_, _, _, _, _, rfl, rfl, by assumption, by assumption, lt3 (by assumption), lt3 (by assumption), by assumption⟩))); intro ys' R' D' h' tk' hT' hs' ho' F' N' l1; (try dsimp only at N'); (try dsimp only at l1); (simp only [List.forall_mem_cons] at l1); (repeat (obtain ⟨_, l1⟩ := l1)); (have o3' := off_at3 ho'); (have hyl' := ThingsIn.length hT'); (simp only [List.length_take, List.length_cons, List.length_nil] at hyl'); (try k_sweep))) | ((with_reducible show wpAny _ _ (getMethod _ _ _) _ _ _); first | (with_reducible ((with_reducible show wpAny _ _ (getMethod (Value.ref _) (PySem.Str.ofString "append") _) _ _ _); k_dflt (refine' method_kp_wd ?z285W ?z285N ?_; (case z285W => assumption); (case z285N => assumption)))) | (with_reducible ((with_reducible show wpAny _ _ (getMethod (Value.ref _) _ _) _ _ _); k_dflt ((first | (refine' look_wd ?z283W ?z283N ?_; (case z283W => assumption); (case z283N => first | assumption | exact News.tl (by assumption) | exact News.tl (News.tl (by assumption)))) | (refine' look_wd0 ?z283W0 ?z283N0 ?_; (case z283W0 => assumption); (case z283N0 => first | assumption | exact News.tl (by assumption) | exact News.tl (News.tl (by assumption))))); intro sd9 k19 k29 tm9 l9 N'; refine' method_inst ?z283k1 ?z283k2 ?z283k3 ?z283k4 ?z283k5 ?z283k6 ?z283k7 ?_; (case z283k1 => k_asm); (case z283k2 => k_asm); (case z283k3 => k_inst); (case z283k4 => k_is); (case z283k5 => k_is); (case z283k6 => k_is); (case z283k7 => k_get); k_whole; clear N')))) | walk1 | (dsimp only; walk1) | (dsimp only [List.nil_append, List.cons_append]; walk1) | (leave1; walk_say "STEP leave1"; try dsimp only))))
  with_reducible rename PySem.World => w
  unfold Stop
  with_reducible rename Fr _ _ _ _ => F9
  with_reducible rename News _ _ _ _ => N9
  have W9 := mk_wd (F := F9) (N := N9) (hM := by with_unfolding_all exact ⟨rfl, rfl, rfl, rfl⟩) (hO := by with_unfolding_all exact rfl) (ho := by assumption) (hi := by assumption) (hl := by assumption)
    (m1 := by k_mem) (m2 := by k_mem) (m3 := by k_mem) (m6 := by k_mem) (m5 := by k_mem) (m4 := by k_mem) (m7 := by k_mem) (m8 := by k_mem) (_hc := by assumption) (mc := by k_mem) (mt := by k_mem) (hap := (by simp only [AllNe, NeAll, and_true]; repeat' (first | refine And.intro ?_ ?_ | walk_at "cne" | exact Nat.ne_of_lt (by omega) | exact Nat.ne_of_gt (by omega)))) (offc := (by simp only [AllNe, NeAll, and_true]; repeat' (first | refine And.intro ?_ ?_ | walk_at "cne" | exact Nat.ne_of_lt (by omega) | exact Nat.ne_of_gt (by omega)))) (offt := (by simp only [AllNe, NeAll, and_true]; repeat' (first | refine And.intro ?_ ?_ | walk_at "cne" | exact Nat.ne_of_lt (by omega) | exact Nat.ne_of_gt (by omega)))) (hM0 := (fold_rng _ _ (by decide) (by decide)).1) (hM1 := (fold_rng _ _ (by decide) (by decide)).2) (hm0 := by omega) (hm1 := by omega) (hT := by decide)
  obtain ⟨d, D, it, ol, kp, M, most, tmm, nw, hM0, hM1, hm0, hm1, HM, HO, W9, N10⟩ := W9
  with_reducible rename (@LT.lt Nat _ 222 _ ∧ @LT.lt Nat _ 229 _ ∧ _) => l00
  revert l00 F9 N10 HM HO W9
  repeat (with_reducible rename (@LT.lt Nat _ _ _ ∧ _) => z9; clear z9)
  repeat (with_reducible rename @LT.lt Nat _ _ _ => z9; clear z9)
  repeat (with_reducible rename Fr _ _ _ _ => z9; clear z9)
  repeat (with_reducible rename News _ _ _ _ => z9; clear z9)
  repeat (with_reducible rename Obj.IsDictOf _ _ _ => z9; clear z9)
  repeat (with_reducible rename IntsAre _ _ => z9; clear z9)
  intro l00 F9 HM HO W9 N10
  w_strict (refine' wd_range (R0 := [_, _]) (K1 d it kp most tmm 2 (listOf ([] : List Value).toArray 0)) (fun _ _ _ _ _ _ _ _ _ h => h) ?hh ?hr ?hs ?hn ?F ?N W9 (fun _ h => h) ?hk ?turn ?done; (case hh => exact rfl); (case hr => assumption); (case hs => exact small_one (by l_bnd) (by l_bnd) (by l_bnd) (by l_bnd)); (case hn => exact rangeSize_nat _ _); (case F => exact F9); (case N => exact N10); (case hk => exact ⟨HM, HO, by omega, by omega, rfl⟩))
  case turn =>
    intro i k t m₁ T ol own ok R nw h tk hi h0 hK W F N
    obtain ⟨HM, HO, hT0, hT1, rfl⟩ := hK
    have F10 := fr_law_own HM HO F
    w_strict (repeat' (first | (k_unfold; (try dsimp only)) | (k_end; wrow_close) | ((with_reducible show wpAny _ _ (call _ _) _ _ _); first | (with_reducible ((with_reducible show wpAny _ _ (call (Value.ref 213) [_]) _ _ _); k_dflt (apply numbers_use; walk_at "s7"; walk_at "n2"; walk_at "p3"; (case HT => exact ThingsIn.cons (by assumption) .nil); (case hR => exact List.forall_mem_cons.mpr ⟨by k_mem, List.forall_mem_cons.mpr ⟨by k_mem, List.forall_mem_nil _⟩⟩); (case hlen => exact Nat.le_of_ble_eq_true rfl)); intro D' ws' n' h' tk' HI' F' N'; k_dflt (have n229 : @Ne Nat D' 229 := ne_tab N' (List.Mem.head _) (by k_mem)); (try k_sweep))) | (with_reducible ((with_reducible show wpAny _ _ (call (Value.ref 208) [_]) _ _ _); k_dflt (apply thing_call; walk_at "s7"; walk_at "n2"); intro x' dx' od' h' tk' F' N' l1 l2 hT'; (try simp only [List.cons_append, List.nil_append] at N' l1 l2); (try k_lt l1); (try k_lt l2); (try k_sweep))) | (with_reducible ((with_reducible show wpAny _ _ (call (Value.type _) [Value.int _ _]) _ _ _); (rename Fr _ _ _ _ => F'); (rename News _ _ _ _ => N'); (with_unfolding_all refine range1_rows F' N' ?_; intro _ _ _ _ _ _ _ _ _))) | (with_reducible ((with_reducible show wpAny _ _ (call (Value.builtin "len") [Value.ref _]) _ _ _); k_dflt (refine' len_wd ?z309W ?z309N ?z309hm1 ?_; (case z309W => assumption); (case z309N => first | assumption | exact News.tl (by assumption) | exact News.tl (News.tl (by assumption))); (case z309hm1 => assumption); k_whole))) | (with_reducible ((with_reducible show wpAny _ _ (call (Value.ref 153) [_, _]) _ _ _); k_dflt (apply put_back_wd; walk_at "s7"; (case m2 => assumption); (case HT => assumption); (case m3 => assumption); (case HO => assumption); (case hom => assumption); (case hm1 => assumption); (case W => first | assumption | exact Wd.weak (by assumption) (by assumption)); walk_at "n1"); intro nw' h' tk' F' N' W'; (try k_sweep))) | (with_reducible ((with_reducible show wpAny _ _ (call (Value.ref 83) [_, _]) _ _ _); k_dflt (apply push_wd0; walk_at "s7"; (case W => assumption); walk_at "n1"; (case hm1 => assumption); (case hlt => omega)); intro nw' h' tk' F' N' W'; (try k_sweep))) | (with_reducible ((with_reducible show wpAny _ _ (call (Value.ref 201) [_, _]) _ _ _); k_dflt (apply pick_wd; walk_at "s7"; (case W => assumption); walk_at "n1"; (case K => assumption); (case hT0 => omega); (case hT1 => omega); (case hM0 => assumption); (case hM1 => assumption); (case hk0 => omega); (case hk1 => omega)); intro pa' ta' la' vs' ows' n' own' nw' h' tk' F' N' W' m2' m3' HT' HO' ho'; (try k_sweep))) | (with_reducible ((with_reducible show wpAny _ _ (call (Value.builtin _) [Value.ref _, _]) _ _ _); k_dflt (refine' append_wd ?z307F ?z307N ?z307W ?z307hz ?_; (case z307F => k_asm); (case z307W => assumption); (case z307N => first | assumption | exact News.tl (by assumption)); (case z307hz => omega)); intro n' nw' h' F' N' W'; (try k_sweep))) | (with_reducible ((with_reducible show wpAny _ _ (call (Value.type _) [Value.ref _]) _ _ _); k_dflt (refine' copy_wd ?z306F ?z306N ?z306W ?z306hm1 ?_; (case z306F => k_asm); (case z306W => assumption); (case z306N => first | assumption | exact News.tl (by assumption)); (case z306hm1 => assumption)); intro la' ows' n' R' nw' h' F' N' W' hs' ml' HO'; (try k_sweep))) | (with_reducible ((with_reducible show wpAny _ _ (call (Value.ref 146) [_]) _ _ _); k_dflt (apply snapshot_wd; walk_at "s7"; (case W => assumption); walk_at "n1"; (case hm1 => assumption)); intro ta' vs' R' nw' h' tk' F' N' W' hs' mt' HT'; (try k_sweep))) | (with_reducible ((with_reducible show wpAny _ _ (call (Value.ref 213) [_]) _ _ _); k_dflt (apply numbers_wd; walk_at "s7"; (case W => assumption); walk_at "n1"; (case hm1 => assumption)); intro D' ws' n' h' tk' HI' F' N'; (try k_sweep))) | (with_reducible ((with_reducible show wpAny _ _ (call (Value.ref 227) [_, _, _, _]) _ _ _); k_dflt (apply deed_call; walk_at "s7"; (case W => assumption); walk_at "n1"; (case XB => k_asm); (case TB => k_asm); (case CH => assumption); (case hm0 => assumption); (case hm1 => assumption); (case hT0 => omega); (case hT1 => omega); (case hM0 => assumption); (case hM1 => assumption)); intro ol' own' R' nw' h' tk' F' N' hs' W'; (try k_sweep))) | (with_reducible ((with_reducible show wpAny _ _ (call (Value.ref 194) [_, _]) _ _ _); k_dflt (apply draw_wd; walk_at "s7"; (case W => assumption); walk_at "n1"; (case hb0 => decide); (case hb1 => decide); (case hT0 => omega); (case hT1 => omega); (case hM0 => assumption); (case hM1 => assumption)); intro v' t' nw' h' tk' hv0' hv1' F' N' W'; (try k_sweep))) | (with_reducible ((with_reducible show wpAny _ _ (call (Value.ref 194) [_, _]) _ _ _); k_dflt (apply draw_use; walk_at "s7"; walk_at "n2"; (case P1 => walk_at "pk"); (case ho => first | assumption | (with_unfolding_all assumption)); (case P2 => walk_at "pk"); (case hi => assumption); (case hlen => first | assumption | (simp only [List.length_reverse, List.length_map, List.length_take]; omega)); (case hne => walk_at "cne"); (case offd => walk_at "of"); (case offD => walk_at "of"); (case hb0 => decide); (case hb1 => decide); (case hT0 => decide); (case hT1 => decide); (case hM0 => exact (fold_rng _ _ (by decide) (by decide)).1); (case hM1 => exact (fold_rng _ _ (by decide) (by decide)).2)); intro v' t' o' ws' cells' n' t1' t2' h' tk' hD' hv0' hv1' F' N' ho' hi' hl'; (try k_sweep))) | (with_reducible ((with_reducible show wpAny _ _ (call (Value.ref 153) [_, _]) _ _ _); k_dflt (apply put_back_ok; walk_at "s7"; (case N => exact pick4b (by k_asm) (by walk_at "pk") (by walk_at "pk") (by walk_at "pk") (by walk_at "pk")); (case hlen => exact Nat.le_of_ble_eq_true rfl); (case h1 => walk_at "cne"); (case h2 => walk_at "cne"); (case h3 => walk_at "cne"); (case h4 => walk_at "cne"); (case offd => walk_at "of")); intro l' n' h' tk' F' a1 a2 a3 a4 a5 N'; (try dsimp only [AllLt] at a5); (try k_sweep))) | (with_reducible ((with_reducible show wpAny _ _ (call (Value.ref 146) [_]) _ _ _); k_dflt (apply snapshot_ok; walk_at "s7"; walk_at "n3"; (case hlen => exact Nat.le_of_ble_eq_true rfl)); intro t' h' tk' F' a1 a2 a3 a4 N'; (try dsimp only [AllLt] at a4); (try k_sweep))) | (with_reducible ((with_reducible show wpAny _ _ (call (Value.ref 83) [_, _]) _ _ _); k_dflt (apply push_ok; walk_at "s7"; walk_at "n3"; (case h1 => walk_at "cne"); (case h2 => walk_at "cne"); (case h3 => walk_at "cne"); (case offl => walk_at "of"); (case offd => walk_at "of"); (case hlen => exact Nat.le_of_ble_eq_true rfl); (case hm => exact of_decide_eq_true rfl)); intro n' h' tk' F' N'; (try dsimp only [List.nil_append, List.cons_append] at N'); (try k_sweep))) | (with_reducible ((with_reducible show wpAny _ _ (call (Value.builtin "len") [Value.ref _]) _ _ _); k_dflt (refine' my_len_ints ?z304k1 ?z304ki ?z304k2 ?_; (case z304k1 => exact News.isList (by k_asm) (by k_mem)); (case z304ki => assumption); (case z304k2 => ((try simp only [List.length_append, List.length_cons, List.length_nil, List.length_take, List.length_drop, List.length_dropLast]); omega)); intro le'; (try simp only [List.length_take, List.length_cons, List.length_nil] at le'); k_whole))) | (with_reducible ((with_reducible show wpAny _ _ (call (Value.ref 220) [_]) _ _ _); k_dflt (refine wpAny_call ?_; (refine' code_defT ?z303k1 ?z303k2 ?z303k3 ?z303k4 ?z303k5 ?z303kA ?z303kF ?z303kK ?z303k6 ?z303k7 ?z303k8 ?z303k9 ?z303kB ?_ ?z303c2 ?z303c3 ?z303c4 ?z303c5; (case z303kA => exact rfl); (case z303kF => exact rfl); (case z303kK => exact rfl); (case z303k2 => k_asm); (case z303k1 => k_asm); (case z303k3 => k_asm); (case z303k4 => k_asm); (case z303k5 => k_asm); (case z303k6 => k_is); (case z303k7 => k_is); (case z303k8 => k_room); (case z303k9 => exact BindsTo.of_eq rfl); (case z303c5 => decide); (case z303kB => exact locs rfl); (case z303c2 => exact rfl); (case z303c3 => exact rfl); (case z303c4 => exact rfl); k_whole; intro g' L' h' FG' F' N' B' X' T'; (try dsimp only); (try k_lift B'); (try k_fold))))) | (with_reducible ((with_reducible show wpAny _ _ (call (Value.ref 194) [_, _]) _ _ _); k_dflt (refine' draw_use ?z302B ?z302F ?z302X ?z302TP ?z302hk ?z302hdp ?z302hun ?z302N ?z302P1 ?z302P2 ?z302ho ?z302hi ?z302hlen ?z302hne ?z302offd ?z302offD ?z302hb0 ?z302hb1 ?z302hT0 ?z302hT1 ?z302hM0 ?z302hM1 ?_; (case z302B => k_asm); (case z302F => k_asm); (case z302X => k_asm); (case z302TP => k_asm); (case z302hk => first | exact rfl | assumption); (case z302hdp => ktr_room); (case z302hun => ktr_units); (case z302N => k_asm); (case z302P1 => repeat (first | exact Pick.head | apply Pick.tail)); (case z302P2 => repeat (first | exact Pick.head | apply Pick.tail)); (case z302ho => assumption); (case z302hi => assumption); (case z302hlen => assumption); (case z302hne => k_ne); (case z302offd => k_all); (case z302offD => k_all); (case z302hb0 => decide); (case z302hb1 => decide); (case z302hT0 => omega); (case z302hT1 => omega); (case z302hM0 => assumption); (case z302hM1 => assumption)); intro v' t' o' ws' cells' n' t1' t2' h' tk' hD' hv0' hv1' F' N' ho' hi' hl'; (try k_sweep))) | (with_reducible ((with_reducible show wpAny _ _ (call (Value.ref 132) [_, Value.int _ _, Value.int 1 _]) _ _ _); k_dflt (apply rolled_low_use; walk_at "s7"; walk_at "n2"; walk_at "p3"; (case hm2 => omega); (case hm1 => omega); (case hm0 => omega); (case hlen => omega)); intro h' tk' F' N'; (try k_sweep))) | (with_reducible ((with_reducible show wpAny _ _ (call (Value.ref 132) [_, Value.int _ _, Value.int 1 _]) _ _ _); k_dflt (apply rolled_use; walk_at "s7"; walk_at "n2"; walk_at "p3"; (case hm2 => omega); (case hm0 => omega); (case h1 => k_ne); (case h2 => k_ne); (case h3 => k_ne); (case offl => k_all); (case offd => k_all); (case hlen => omega)); intro l' n' h' tk' F' l1 l2 l3 l4 N'; (try simp only [AllLt, and_true] at l4); (try k_sweep))) | (with_reducible ((with_reducible show wpAny _ _ (call (Value.ref 132) [_, Value.int _ _, Value.int 1 _]) _ _ _); k_dflt (refine' split132 ?z301N ?z301P1 ?z301P2 ?z301P3 ?z301sa ?z301sb ?z301sc; (case z301N => k_asm); (case z301P1 => walk_at "pk"); (case z301P2 => walk_at "pk"); (case z301P3 => walk_at "pk"); (case' z301sa => intro hm8 hm9; fail_if_success (exfalso; omega)); (case' z301sb => intro hm8 hm9); (case' z301sc => intro hm9; fail_if_success (exfalso; omega))))) | (with_reducible ((with_reducible show wpAny _ _ (call (Value.ref 90) [_, _]) _ _ _); k_dflt (apply push_all_use; walk_at "s7"; walk_at "n2"; walk_at "p3"; (case P4 => walk_at "pk"); (case hm => walk_at "ln"); (case h1 => k_ne); (case h2 => k_ne); (case h3 => k_ne); (case h4 => first | k_ne | exact Nat.ne_of_gt (by omega)); (case offl => k_all); (case hlen => walk_at "ln"); (case hlen2 => walk_at "ln")); intro n' h' tk' F' N'; (try k_sweep))) | (with_reducible ((with_reducible show wpAny _ _ (call (Value.ref 90) [_, _]) _ _ _); k_dflt (refine' split90 ?z300N ?z300P1 ?z300P2 ?z300P3 ?z300P4 ?z300g1 ?z300g2; (case z300N => k_asm); (case z300P1 => walk_at "pk"); (case z300P2 => walk_at "pk"); (case z300P3 => walk_at "pk"); (case z300P4 => walk_at "pk"); (case' z300g1 => intro hm9; fail_if_success (exfalso; omega)); (case' z300g2 => intro hm9; fail_if_success (exfalso; omega))))) | (with_reducible ((with_reducible show wpAny _ _ (call (Value.ref 52) [_]) _ _ _); k_dflt (apply pserr_call; walk_at "s7"; walk_at "n2"); intro e' d' t' k' h' tk' F' N' l1 l2 l3; (try dsimp only [AllLt] at l1 l2 l3); (try k_sweep))) | (with_reducible ((with_reducible show wpAny _ _ (call (Value.ref 208) [_]) _ _ _); k_dflt (apply thing_call; walk_at "s7"; walk_at "n2"); intro x' dx' od' h' tk' F' N' l1 l2 hT'; (try k_lt l1); (try k_lt l2); (try k_sweep))) | (with_reducible ((with_reducible show wpAny _ _ (call (Value.builtin _) [Value.ref _]) _ _ _); k_dflt (refine' my_pop ?z297F ?z297N ?z297U ?z297e ?z297z ?_; (case z297F => k_asm); (case z297N => k_asm); (case z297U => k_updF); (case z297e => assumption); (case z297z => omega)); intro y' n' h' F' N'; (try dsimp only at N'); (try k_sweep))) | (with_reducible ((with_reducible show wpAny _ _ (call (Value.builtin _) [Value.ref _, Value.ref _]) _ _ _); k_dflt (refine' my_extend ?z296F ?z296N ?z296b ?z296U ?z296z ?_; (case z296F => k_asm); (case z296N => k_asm); (case z296b => k_mem); (case z296U => k_updF); (case z296z => walk_at "sz")); intro n' h' F' N'; (try dsimp only at N'); (try k_sweep))) | (with_reducible ((with_reducible show wpAny _ _ (call (Value.builtin "len") [Value.ref _]) _ _ _); k_dflt (refine' my_len ?z290k1 ?z290k2 ?_; (case z290k1 => exact News.isList (by k_asm) (by k_mem)); (case z290k2 => ((try simp only [List.length_append, List.length_cons, List.length_nil, List.length_take, List.length_drop, List.length_dropLast]); omega)); k_whole))) | (dsimp only [List.nil_append, List.cons_append]; first | (with_reducible ((with_reducible show wpAny _ _ (call (Value.builtin _) [Value.ref _, _]) _ _ _); k_dflt (refine' append_wd ?z312F ?z312N ?z312W ?z312hz ?_; (case z312F => k_asm); (case z312W => assumption); (case z312N => first | assumption | exact News.tl (by assumption)); (case z312hz => omega)); intro n' nw' h' F' N' W'; (try k_sweep))) | (with_reducible ((with_reducible show wpAny _ _ (call (Value.builtin _) [Value.ref _]) _ _ _); k_dflt (refine' my_pop ?z313F ?z313N ?z313U ?z313e ?z313z ?_; (case z313F => k_asm); (case z313N => k_asm); (case z313U => k_updF); (case z313e => assumption); (case z313z => omega)); intro y' n' h' F' N'; (try dsimp only at N'); (try k_sweep))) | (with_reducible ((with_reducible show wpAny _ _ (call (Value.builtin _) [Value.ref _, Value.ref _]) _ _ _); k_dflt (refine' my_extend ?z314F ?z314N ?z314b ?z314U ?z314z ?_; (case z314F => k_asm); (case z314N => k_asm); (case z314b => k_mem); (case z314U => k_updF); (case z314z => walk_at "sz")); intro n' h' F' N'; (try dsimp only at N'); (try k_sweep))))) | ((with_reducible show wpAny _ _ (callWith _ _ _ _ _) _ _ _); first | (with_reducible ((with_reducible show wpAny _ _ (callWith _ (Value.ref (OfNat.ofNat _)) _ _ _) _ _ _); k_dflt (first | refine' callWith_K ?z311k1 ?z311k2 ?_; (case z311k1 => with_reducible assumption); (case z311k2 => k_is); k_whole | (refine' callWith_K0 ?z311k1 ?z311k2 ?_; (case z311k1 => k_in); (case z311k2 => k_is); k_whole; try dsimp only [List.nil_append, List.cons_append]) | (refine' callWith_M0 ?z311k1 ?z311k2 ?_; (case z311k1 => k_meth); (case z311k2 => k_is); k_whole; try dsimp only [List.nil_append, List.cons_append]) | refine' callWith_M ?z311k1 ?z311k2 ?z311k3 ?z311k4 ?_; (case z311k1 => k_asm); (case z311k2 => k_asm); (case z311k3 => k_mem); (case z311k4 => k_is); k_whole))) | (with_reducible ((with_reducible show wpAny _ _ (callWith _ (Value.ref (OfNat.ofNat _)) _ _ _) _ _ _); k_dflt (first | refine' callWith_K ?z291k1 ?z291k2 ?_; (case z291k1 => k_asm); (case z291k2 => k_is); k_whole | refine' callWith_K0 ?z291k1 ?z291k2 ?_; (case z291k1 => k_in); (case z291k2 => k_is); k_whole | (refine' callWith_M0 ?z291k1 ?z291k2 ?_; (case z291k1 => k_meth); (case z291k2 => k_is); k_whole; try dsimp only [List.nil_append, List.cons_append]) | refine' callWith_M ?z291k1 ?z291k2 ?z291k3 ?z291k4 ?_; (case z291k1 => k_asm); (case z291k2 => k_asm); (case z291k3 => k_mem); (case z291k4 => k_is); k_whole)))) | (with_reducible ((with_reducible show wpAny _ _ (eval (PySem.Expr.Lambda _ _ _ _) _) _ _ _); kn_here; k_dflt (refine' kla_eval ?z292d0 ?_; (case z292d0 => exact rfl)); (with_reducible rename TabInv _ _ => TI'); k_dflt (refine' lam_both ?z292F ?z292N ?z292T ?z292C ?z292cd ?z292U TI' ?z292q ?z292R ?z292b ?z292bn ?z292cl ?_; (case z292F => k_asm); (case z292N => k_asm); (case z292T => k_asm); (case z292cd => exact rfl); (case z292C => kn_code); (case z292U => k_updF); (case z292q => exact rfl); (case z292R => (intro q9 hq9; repeat (first | assumption | apply List.mem_cons_of_mem))); (case z292b => assumption); (case z292bn => (repeat' (first | exact True.intro | refine And.intro ⟨_, by (repeat (first | (with_reducible exact List.mem_cons_self) | apply List.mem_cons_of_mem))⟩ ?_))); (case z292cl => exact rfl); k_whole); intro f' c' oc' vs' t' ct' ps' h' tk' F' N' d1' d2' l1 l2 hc' TJ'; (try dsimp only at N'); (try k_lt l1); k_dflt (obtain ⟨_, _, _, _, _, _, _⟩ := hc'))) | ((with_reducible show wpAny _ _ (getAttr _ _ _) _ _ _); first | (with_reducible ((with_reducible show wpAny _ _ (getAttr (Value.ref _) (PySem.Str.ofString "many") _) _ _ _); k_dflt (apply many_wd; walk_at "s7"; (case W => assumption); walk_at "n1"; (case hm1 => assumption)); intro t' h' tk' F' N'; (try k_sweep))) | (with_reducible ((with_reducible show wpAny _ _ (getAttr (Value.ref _) (PySem.Str.ofString "told") _) _ _ _); k_dflt (refine' exc_told (K := hd.heap_1 _) ?z293X (exc_inst ?z293N ?z293m1 ?z293m2 ?z293c ?z293d) ?z293a ?z293b ?z293q ?z293f1 ?z293f2 ?z293f3 ?z293f4 ?z293h ?_; (case z293N => k_asm); (case z293m1 => k_mem); (case z293c => assumption); (case z293d => assumption); (case z293m2 => k_mem); (case z293X => k_in); (case z293a => k_is); (case z293b => k_is); (case z293q => k_is); (case z293f1 => k_is); (case z293f2 => k_is); (case z293f3 => k_is); (case z293f4 => k_get); (case z293h => exact rfl); k_whole)))) | ((with_reducible show wpAny _ _ (subscriptTail _ _ _ _) _ _ _); first | (with_reducible ((with_reducible show wpAny _ _ (subscriptTail _ (PySem.Expr.Slice _ _ none _) (Value.ref _) (Value.ref _)) _ _ _); k_dflt (refine' kmk_slice_lit ?z294F ?z294N ?z294l ?z294p ?z294q ?z294e ?_ ?z294s ?z294t ?z294z; (case z294F => k_asm); (case z294N => k_asm); (case z294l => exact News.isList (by k_asm) (by k_mem)); (case z294p => kmk_part); (case z294q => kmk_part); (case z294e => first | exact pk_all | exact pk_upto (by omega) | exact pk_from (by omega) | exact pk_run (by omega) (by omega) | exact pk_upto_neg (by omega)); (case z294s => with_unfolding_all rfl); (case z294t => kmk_pure); (case z294z => size_fits)); intro D' h' F' N' l1; (try k_lt l1); (try k_sweep)))) | ((with_reducible show wpAny _ _ (binaryOp _ _ _) _ _ _); first | (with_reducible ((with_reducible show wpAny _ _ (binaryOp _ (Value.ref _) (Value.ref _)) _ _ _); k_dflt (refine' my_add ?z295F ?z295N ?z295a ?z295b ?_ ?z295z; (case z295F => k_asm); (case z295N => k_asm); (case z295a => exact News.isList (by k_asm) (by k_mem)); (case z295b => exact News.isList (by k_asm) (by k_mem)); (case z295z => walk_at "sz")); intro D' h' F' N' l1; (try k_lt l1); (try k_sweep)))) | ((with_reducible show wpAny _ _ (compareOp _ _ _) _ _ _); first | (with_reducible ((with_reducible show wpAny _ _ (compareOp CmpOp.NotEq (Value.ref _) (Value.ref _)) _ _ _); k_dflt (refine' ne_wd ?z305N ?z305W ?z305HI ?z305hu ?_; (case z305W => assumption); (case z305HI => assumption); (case z305N => assumption); (case z305hu => ktr_units)))) | (with_reducible ((with_reducible show wpAny _ _ (compareOp CmpOp.Eq (Value.ref _) (Value.ref _)) _ _ _); k_dflt (refine' eq_empty ?z298a ?z298b ?z298e ?z298u ?_; (case z298a => exact News.isList (by k_asm) (by k_mem)); (case z298b => exact News.isList (by k_asm) (by k_mem)); (case z298e => exact rfl); (case z298u => ktr_units))))) | (with_reducible (k_dflt (refine' things_src ?z299hh ?z299F ?z299N ?z299hm ?z299hi ?z299hz ?z299T ?z299hb ?z299bn ?z299elt ?_; (case z299hh => exact rfl); (case z299F => k_asm); (case z299N => k_asm); (case z299hm => k_mem); (case z299hi => assumption); (case z299hz => (try simp only [List.length_take, List.length_cons, List.length_nil]); omega); (case z299hb => assumption); (case z299T => repeat (first | exact Tail.head | apply Tail.tail)); (case z299bn => (repeat' (first | exact True.intro | refine And.intro ⟨_, by (repeat (first | (with_reducible exact List.mem_cons_self) | apply List.mem_cons_of_mem))⟩ ?_))); (case z299elt => (intro v9 t9 I9 oI9 C9 oC9 D9 oD9 m9 h9 tk9 X9 E9 hN9 hx9 F9 N9; (repeat' (first | (k_unfold; (try dsimp only)) | (k_end; wrow_close) | ((with_reducible show wpAny _ _ (call _ _) _ _ _); first | (with_reducible ((with_reducible show wpAny _ _ (call (Value.ref 208) [_]) _ _ _); k_dflt (apply thing_call; walk_at "s7"; walk_at "n2"); intro x' dx' od' h' tk' F' N' l1 l2 hT'; (try simp only [List.cons_append, List.nil_append] at N' l1 l2); (try k_lt l1); (try k_lt l2); (try k_sweep))) | (with_reducible ((with_reducible show wpAny _ _ (call (Value.ref 208) [_]) _ _ _); k_dflt (apply thing_call; walk_at "s7"; walk_at "n2"); intro x' dx' od' h' tk' F' N' l1 l2 hT'; (try k_lt l1); (try k_lt l2); (try k_sweep)))) | walk1 | (dsimp only; walk1) | (dsimp only [List.nil_append, List.cons_append]; walk1) | (leave1; walk_say "STEP leave1"; try dsimp only))); (show ThElt _ _ _ _ _ _ _ _ _ _ _ _ _ _ _); unfold ThElt; exact ⟨_, _, _, _, _, rfl, rfl, by assumption, by assumption, lt3 (by assumption), lt3 (by assumption), by assumption⟩))); intro ys' R' D' h' tk' hT' hs' ho' F' N' l1; (try dsimp only at N'); (try dsimp only at l1); (simp only [List.forall_mem_cons] at l1); (repeat (obtain ⟨_, l1⟩ := l1)); (have o3' := off_at3 ho'); (have hyl' := ThingsIn.length hT'); (simp only [List.length_take, List.length_cons, List.length_nil] at hyl'); (try k_sweep))) | ((with_reducible show wpAny _ _ (getMethod _ _ _) _ _ _); first | (with_reducible ((with_reducible show wpAny _ _ (getMethod (Value.ref _) (PySem.Str.ofString "append") _) _ _ _); k_dflt (refine' method_kp_wd ?z310W ?z310N ?_; (case z310W => assumption); (case z310N => assumption)))) | (with_reducible ((with_reducible show wpAny _ _ (getMethod (Value.ref _) _ _) _ _ _); k_dflt ((first | (refine' look_wd ?z308W ?z308N ?_; (case z308W => assumption); (case z308N => first | assumption | exact News.tl (by assumption) | exact News.tl (News.tl (by assumption)))) | (refine' look_wd0 ?z308W0 ?z308N0 ?_; (case z308W0 => assumption); (case z308N0 => first | assumption | exact News.tl (by assumption) | exact News.tl (News.tl (by assumption))))); intro sd9 k19 k29 tm9 l9 N'; refine' method_inst ?z308k1 ?z308k2 ?z308k3 ?z308k4 ?z308k5 ?z308k6 ?z308k7 ?_; (case z308k1 => k_asm); (case z308k2 => k_asm); (case z308k3 => k_inst); (case z308k4 => k_is); (case z308k5 => k_is); (case z308k6 => k_is); (case z308k7 => k_get); k_whole; clear N')))) | walk1 | (dsimp only; walk1) | (dsimp only [List.nil_append, List.cons_append]; walk1) | (leave1; walk_say "STEP leave1"; try dsimp only)))
    refine' WdPost.mk ?p1F ?p1W ?p1N ?p1s ?p1k
    case p1F => k_asm
    case p1W => assumption
    case p1N => exact News.tl (by assumption)
    case p1s => assumption
    case p1k => exact ⟨⟨by with_unfolding_all rfl, by with_unfolding_all rfl, by with_unfolding_all rfl, by with_unfolding_all rfl⟩, by with_unfolding_all rfl, by omega, by omega, rfl⟩
  case done =>
    intro m₁ T ol own ok R nw h tk hK h0 W F N
    obtain ⟨HM, HO, hT0, hT1, rfl⟩ := hK
    have F10 := fr_law0_own HM HO F
    w_strict (repeat' (first | (k_unfold; (try dsimp only)) | (k_end; wrow_close) | ((with_reducible show wpAny _ _ (call _ _) _ _ _); first | (with_reducible ((with_reducible show wpAny _ _ (call (Value.ref 213) [_]) _ _ _); k_dflt (apply numbers_use; walk_at "s7"; walk_at "n2"; walk_at "p3"; (case HT => exact ThingsIn.cons (by assumption) .nil); (case hR => exact List.forall_mem_cons.mpr ⟨by k_mem, List.forall_mem_cons.mpr ⟨by k_mem, List.forall_mem_nil _⟩⟩); (case hlen => exact Nat.le_of_ble_eq_true rfl)); intro D' ws' n' h' tk' HI' F' N'; k_dflt (have n229 : @Ne Nat D' 229 := ne_tab N' (List.Mem.head _) (by k_mem)); (try k_sweep))) | (with_reducible ((with_reducible show wpAny _ _ (call (Value.ref 208) [_]) _ _ _); k_dflt (apply thing_call; walk_at "s7"; walk_at "n2"); intro x' dx' od' h' tk' F' N' l1 l2 hT'; (try simp only [List.cons_append, List.nil_append] at N' l1 l2); (try k_lt l1); (try k_lt l2); (try k_sweep))) | (with_reducible ((with_reducible show wpAny _ _ (call (Value.type _) [Value.int _ _]) _ _ _); (rename Fr _ _ _ _ => F'); (rename News _ _ _ _ => N'); (with_unfolding_all refine range1_rows F' N' ?_; intro _ _ _ _ _ _ _ _ _))) | (with_reducible ((with_reducible show wpAny _ _ (call (Value.builtin "len") [Value.ref _]) _ _ _); k_dflt (refine' len_wd ?z334W ?z334N ?z334hm1 ?_; (case z334W => assumption); (case z334N => first | assumption | exact News.tl (by assumption) | exact News.tl (News.tl (by assumption))); (case z334hm1 => assumption); k_whole))) | (with_reducible ((with_reducible show wpAny _ _ (call (Value.ref 153) [_, _]) _ _ _); k_dflt (apply put_back_wd; walk_at "s7"; (case m2 => assumption); (case HT => assumption); (case m3 => assumption); (case HO => assumption); (case hom => assumption); (case hm1 => assumption); (case W => first | assumption | exact Wd.weak (by assumption) (by assumption)); walk_at "n1"); intro nw' h' tk' F' N' W'; (try k_sweep))) | (with_reducible ((with_reducible show wpAny _ _ (call (Value.ref 83) [_, _]) _ _ _); k_dflt (apply push_wd0; walk_at "s7"; (case W => assumption); walk_at "n1"; (case hm1 => assumption); (case hlt => omega)); intro nw' h' tk' F' N' W'; (try k_sweep))) | (with_reducible ((with_reducible show wpAny _ _ (call (Value.ref 201) [_, _]) _ _ _); k_dflt (apply pick_wd; walk_at "s7"; (case W => assumption); walk_at "n1"; (case K => assumption); (case hT0 => omega); (case hT1 => omega); (case hM0 => assumption); (case hM1 => assumption); (case hk0 => omega); (case hk1 => omega)); intro pa' ta' la' vs' ows' n' own' nw' h' tk' F' N' W' m2' m3' HT' HO' ho'; (try k_sweep))) | (with_reducible ((with_reducible show wpAny _ _ (call (Value.builtin _) [Value.ref _, _]) _ _ _); k_dflt (refine' append_wd ?z332F ?z332N ?z332W ?z332hz ?_; (case z332F => k_asm); (case z332W => assumption); (case z332N => first | assumption | exact News.tl (by assumption)); (case z332hz => omega)); intro n' nw' h' F' N' W'; (try k_sweep))) | (with_reducible ((with_reducible show wpAny _ _ (call (Value.type _) [Value.ref _]) _ _ _); k_dflt (refine' copy_wd ?z331F ?z331N ?z331W ?z331hm1 ?_; (case z331F => k_asm); (case z331W => assumption); (case z331N => first | assumption | exact News.tl (by assumption)); (case z331hm1 => assumption)); intro la' ows' n' R' nw' h' F' N' W' hs' ml' HO'; (try k_sweep))) | (with_reducible ((with_reducible show wpAny _ _ (call (Value.ref 146) [_]) _ _ _); k_dflt (apply snapshot_wd; walk_at "s7"; (case W => assumption); walk_at "n1"; (case hm1 => assumption)); intro ta' vs' R' nw' h' tk' F' N' W' hs' mt' HT'; (try k_sweep))) | (with_reducible ((with_reducible show wpAny _ _ (call (Value.ref 213) [_]) _ _ _); k_dflt (apply numbers_wd; walk_at "s7"; (case W => assumption); walk_at "n1"; (case hm1 => assumption)); intro D' ws' n' h' tk' HI' F' N'; (try k_sweep))) | (with_reducible ((with_reducible show wpAny _ _ (call (Value.ref 227) [_, _, _, _]) _ _ _); k_dflt (apply deed_call; walk_at "s7"; (case W => assumption); walk_at "n1"; (case XB => k_asm); (case TB => k_asm); (case CH => assumption); (case hm0 => assumption); (case hm1 => assumption); (case hT0 => omega); (case hT1 => omega); (case hM0 => assumption); (case hM1 => assumption)); intro ol' own' R' nw' h' tk' F' N' hs' W'; (try k_sweep))) | (with_reducible ((with_reducible show wpAny _ _ (call (Value.ref 194) [_, _]) _ _ _); k_dflt (apply draw_wd; walk_at "s7"; (case W => assumption); walk_at "n1"; (case hb0 => decide); (case hb1 => decide); (case hT0 => omega); (case hT1 => omega); (case hM0 => assumption); (case hM1 => assumption)); intro v' t' nw' h' tk' hv0' hv1' F' N' W'; (try k_sweep))) | (with_reducible ((with_reducible show wpAny _ _ (call (Value.ref 194) [_, _]) _ _ _); k_dflt (apply draw_use; walk_at "s7"; walk_at "n2"; (case P1 => walk_at "pk"); (case ho => first | assumption | (with_unfolding_all assumption)); (case P2 => walk_at "pk"); (case hi => assumption); (case hlen => first | assumption | (simp only [List.length_reverse, List.length_map, List.length_take]; omega)); (case hne => walk_at "cne"); (case offd => walk_at "of"); (case offD => walk_at "of"); (case hb0 => decide); (case hb1 => decide); (case hT0 => decide); (case hT1 => decide); (case hM0 => exact (fold_rng _ _ (by decide) (by decide)).1); (case hM1 => exact (fold_rng _ _ (by decide) (by decide)).2)); intro v' t' o' ws' cells' n' t1' t2' h' tk' hD' hv0' hv1' F' N' ho' hi' hl'; (try k_sweep))) | (with_reducible ((with_reducible show wpAny _ _ (call (Value.ref 153) [_, _]) _ _ _); k_dflt (apply put_back_ok; walk_at "s7"; (case N => exact pick4b (by k_asm) (by walk_at "pk") (by walk_at "pk") (by walk_at "pk") (by walk_at "pk")); (case hlen => exact Nat.le_of_ble_eq_true rfl); (case h1 => walk_at "cne"); (case h2 => walk_at "cne"); (case h3 => walk_at "cne"); (case h4 => walk_at "cne"); (case offd => walk_at "of")); intro l' n' h' tk' F' a1 a2 a3 a4 a5 N'; (try dsimp only [AllLt] at a5); (try k_sweep))) | (with_reducible ((with_reducible show wpAny _ _ (call (Value.ref 146) [_]) _ _ _); k_dflt (apply snapshot_ok; walk_at "s7"; walk_at "n3"; (case hlen => exact Nat.le_of_ble_eq_true rfl)); intro t' h' tk' F' a1 a2 a3 a4 N'; (try dsimp only [AllLt] at a4); (try k_sweep))) | (with_reducible ((with_reducible show wpAny _ _ (call (Value.ref 83) [_, _]) _ _ _); k_dflt (apply push_ok; walk_at "s7"; walk_at "n3"; (case h1 => walk_at "cne"); (case h2 => walk_at "cne"); (case h3 => walk_at "cne"); (case offl => walk_at "of"); (case offd => walk_at "of"); (case hlen => exact Nat.le_of_ble_eq_true rfl); (case hm => exact of_decide_eq_true rfl)); intro n' h' tk' F' N'; (try dsimp only [List.nil_append, List.cons_append] at N'); (try k_sweep))) | (with_reducible ((with_reducible show wpAny _ _ (call (Value.builtin "len") [Value.ref _]) _ _ _); k_dflt (refine' my_len_ints ?z329k1 ?z329ki ?z329k2 ?_; (case z329k1 => exact News.isList (by k_asm) (by k_mem)); (case z329ki => assumption); (case z329k2 => ((try simp only [List.length_append, List.length_cons, List.length_nil, List.length_take, List.length_drop, List.length_dropLast]); omega)); intro le'; (try simp only [List.length_take, List.length_cons, List.length_nil] at le'); k_whole))) | (with_reducible ((with_reducible show wpAny _ _ (call (Value.ref 220) [_]) _ _ _); k_dflt (refine wpAny_call ?_; (refine' code_defT ?z328k1 ?z328k2 ?z328k3 ?z328k4 ?z328k5 ?z328kA ?z328kF ?z328kK ?z328k6 ?z328k7 ?z328k8 ?z328k9 ?z328kB ?_ ?z328c2 ?z328c3 ?z328c4 ?z328c5; (case z328kA => exact rfl); (case z328kF => exact rfl); (case z328kK => exact rfl); (case z328k2 => k_asm); (case z328k1 => k_asm); (case z328k3 => k_asm); (case z328k4 => k_asm); (case z328k5 => k_asm); (case z328k6 => k_is); (case z328k7 => k_is); (case z328k8 => k_room); (case z328k9 => exact BindsTo.of_eq rfl); (case z328c5 => decide); (case z328kB => exact locs rfl); (case z328c2 => exact rfl); (case z328c3 => exact rfl); (case z328c4 => exact rfl); k_whole; intro g' L' h' FG' F' N' B' X' T'; (try dsimp only); (try k_lift B'); (try k_fold))))) | (with_reducible ((with_reducible show wpAny _ _ (call (Value.ref 194) [_, _]) _ _ _); k_dflt (refine' draw_use ?z327B ?z327F ?z327X ?z327TP ?z327hk ?z327hdp ?z327hun ?z327N ?z327P1 ?z327P2 ?z327ho ?z327hi ?z327hlen ?z327hne ?z327offd ?z327offD ?z327hb0 ?z327hb1 ?z327hT0 ?z327hT1 ?z327hM0 ?z327hM1 ?_; (case z327B => k_asm); (case z327F => k_asm); (case z327X => k_asm); (case z327TP => k_asm); (case z327hk => first | exact rfl | assumption); (case z327hdp => ktr_room); (case z327hun => ktr_units); (case z327N => k_asm); (case z327P1 => repeat (first | exact Pick.head | apply Pick.tail)); (case z327P2 => repeat (first | exact Pick.head | apply Pick.tail)); (case z327ho => assumption); (case z327hi => assumption); (case z327hlen => assumption); (case z327hne => k_ne); (case z327offd => k_all); (case z327offD => k_all); (case z327hb0 => decide); (case z327hb1 => decide); (case z327hT0 => omega); (case z327hT1 => omega); (case z327hM0 => assumption); (case z327hM1 => assumption)); intro v' t' o' ws' cells' n' t1' t2' h' tk' hD' hv0' hv1' F' N' ho' hi' hl'; (try k_sweep))) | (with_reducible ((with_reducible show wpAny _ _ (call (Value.ref 132) [_, Value.int _ _, Value.int 1 _]) _ _ _); k_dflt (apply rolled_low_use; walk_at "s7"; walk_at "n2"; walk_at "p3"; (case hm2 => omega); (case hm1 => omega); (case hm0 => omega); (case hlen => omega)); intro h' tk' F' N'; (try k_sweep))) | (with_reducible ((with_reducible show wpAny _ _ (call (Value.ref 132) [_, Value.int _ _, Value.int 1 _]) _ _ _); k_dflt (apply rolled_use; walk_at "s7"; walk_at "n2"; walk_at "p3"; (case hm2 => omega); (case hm0 => omega); (case h1 => k_ne); (case h2 => k_ne); (case h3 => k_ne); (case offl => k_all); (case offd => k_all); (case hlen => omega)); intro l' n' h' tk' F' l1 l2 l3 l4 N'; (try simp only [AllLt, and_true] at l4); (try k_sweep))) | (with_reducible ((with_reducible show wpAny _ _ (call (Value.ref 132) [_, Value.int _ _, Value.int 1 _]) _ _ _); k_dflt (refine' split132 ?z326N ?z326P1 ?z326P2 ?z326P3 ?z326sa ?z326sb ?z326sc; (case z326N => k_asm); (case z326P1 => walk_at "pk"); (case z326P2 => walk_at "pk"); (case z326P3 => walk_at "pk"); (case' z326sa => intro hm8 hm9; fail_if_success (exfalso; omega)); (case' z326sb => intro hm8 hm9); (case' z326sc => intro hm9; fail_if_success (exfalso; omega))))) | (with_reducible ((with_reducible show wpAny _ _ (call (Value.ref 90) [_, _]) _ _ _); k_dflt (apply push_all_use; walk_at "s7"; walk_at "n2"; walk_at "p3"; (case P4 => walk_at "pk"); (case hm => walk_at "ln"); (case h1 => k_ne); (case h2 => k_ne); (case h3 => k_ne); (case h4 => first | k_ne | exact Nat.ne_of_gt (by omega)); (case offl => k_all); (case hlen => walk_at "ln"); (case hlen2 => walk_at "ln")); intro n' h' tk' F' N'; (try k_sweep))) | (with_reducible ((with_reducible show wpAny _ _ (call (Value.ref 90) [_, _]) _ _ _); k_dflt (refine' split90 ?z325N ?z325P1 ?z325P2 ?z325P3 ?z325P4 ?z325g1 ?z325g2; (case z325N => k_asm); (case z325P1 => walk_at "pk"); (case z325P2 => walk_at "pk"); (case z325P3 => walk_at "pk"); (case z325P4 => walk_at "pk"); (case' z325g1 => intro hm9; fail_if_success (exfalso; omega)); (case' z325g2 => intro hm9; fail_if_success (exfalso; omega))))) | (with_reducible ((with_reducible show wpAny _ _ (call (Value.ref 52) [_]) _ _ _); k_dflt (apply pserr_call; walk_at "s7"; walk_at "n2"); intro e' d' t' k' h' tk' F' N' l1 l2 l3; (try dsimp only [AllLt] at l1 l2 l3); (try k_sweep))) | (with_reducible ((with_reducible show wpAny _ _ (call (Value.ref 208) [_]) _ _ _); k_dflt (apply thing_call; walk_at "s7"; walk_at "n2"); intro x' dx' od' h' tk' F' N' l1 l2 hT'; (try k_lt l1); (try k_lt l2); (try k_sweep))) | (with_reducible ((with_reducible show wpAny _ _ (call (Value.builtin _) [Value.ref _]) _ _ _); k_dflt (refine' my_pop ?z322F ?z322N ?z322U ?z322e ?z322z ?_; (case z322F => k_asm); (case z322N => k_asm); (case z322U => k_updF); (case z322e => assumption); (case z322z => omega)); intro y' n' h' F' N'; (try dsimp only at N'); (try k_sweep))) | (with_reducible ((with_reducible show wpAny _ _ (call (Value.builtin _) [Value.ref _, Value.ref _]) _ _ _); k_dflt (refine' my_extend ?z321F ?z321N ?z321b ?z321U ?z321z ?_; (case z321F => k_asm); (case z321N => k_asm); (case z321b => k_mem); (case z321U => k_updF); (case z321z => walk_at "sz")); intro n' h' F' N'; (try dsimp only at N'); (try k_sweep))) | (with_reducible ((with_reducible show wpAny _ _ (call (Value.builtin "len") [Value.ref _]) _ _ _); k_dflt (refine' my_len ?z315k1 ?z315k2 ?_; (case z315k1 => exact News.isList (by k_asm) (by k_mem)); (case z315k2 => ((try simp only [List.length_append, List.length_cons, List.length_nil, List.length_take, List.length_drop, List.length_dropLast]); omega)); k_whole))) | (dsimp only [List.nil_append, List.cons_append]; first | (with_reducible ((with_reducible show wpAny _ _ (call (Value.builtin _) [Value.ref _, _]) _ _ _); k_dflt (refine' append_wd ?z337F ?z337N ?z337W ?z337hz ?_; (case z337F => k_asm); (case z337W => assumption); (case z337N => first | assumption | exact News.tl (by assumption)); (case z337hz => omega)); intro n' nw' h' F' N' W'; (try k_sweep))) | (with_reducible ((with_reducible show wpAny _ _ (call (Value.builtin _) [Value.ref _]) _ _ _); k_dflt (refine' my_pop ?z338F ?z338N ?z338U ?z338e ?z338z ?_; (case z338F => k_asm); (case z338N => k_asm); (case z338U => k_updF); (case z338e => assumption); (case z338z => omega)); intro y' n' h' F' N'; (try dsimp only at N'); (try k_sweep))) | (with_reducible ((with_reducible show wpAny _ _ (call (Value.builtin _) [Value.ref _, Value.ref _]) _ _ _); k_dflt (refine' my_extend ?z339F ?z339N ?z339b ?z339U ?z339z ?_; (case z339F => k_asm); (case z339N => k_asm); (case z339b => k_mem); (case z339U => k_updF); (case z339z => walk_at "sz")); intro n' h' F' N'; (try dsimp only at N'); (try k_sweep))))) | ((with_reducible show wpAny _ _ (callWith _ _ _ _ _) _ _ _); first | (with_reducible ((with_reducible show wpAny _ _ (callWith _ (Value.ref (OfNat.ofNat _)) _ _ _) _ _ _); k_dflt (first | refine' callWith_K ?z336k1 ?z336k2 ?_; (case z336k1 => with_reducible assumption); (case z336k2 => k_is); k_whole | (refine' callWith_K0 ?z336k1 ?z336k2 ?_; (case z336k1 => k_in); (case z336k2 => k_is); k_whole; try dsimp only [List.nil_append, List.cons_append]) | (refine' callWith_M0 ?z336k1 ?z336k2 ?_; (case z336k1 => k_meth); (case z336k2 => k_is); k_whole; try dsimp only [List.nil_append, List.cons_append]) | refine' callWith_M ?z336k1 ?z336k2 ?z336k3 ?z336k4 ?_; (case z336k1 => k_asm); (case z336k2 => k_asm); (case z336k3 => k_mem); (case z336k4 => k_is); k_whole))) | (with_reducible ((with_reducible show wpAny _ _ (callWith _ (Value.ref (OfNat.ofNat _)) _ _ _) _ _ _); k_dflt (first | refine' callWith_K ?z316k1 ?z316k2 ?_; (case z316k1 => k_asm); (case z316k2 => k_is); k_whole | refine' callWith_K0 ?z316k1 ?z316k2 ?_; (case z316k1 => k_in); (case z316k2 => k_is); k_whole | (refine' callWith_M0 ?z316k1 ?z316k2 ?_; (case z316k1 => k_meth); (case z316k2 => k_is); k_whole; try dsimp only [List.nil_append, List.cons_append]) | refine' callWith_M ?z316k1 ?z316k2 ?z316k3 ?z316k4 ?_; (case z316k1 => k_asm); (case z316k2 => k_asm); (case z316k3 => k_mem); (case z316k4 => k_is); k_whole)))) | (with_reducible ((with_reducible show wpAny _ _ (eval (PySem.Expr.Lambda _ _ _ _) _) _ _ _); kn_here; k_dflt (refine' kla_eval ?z317d0 ?_; (case z317d0 => exact rfl)); (with_reducible rename TabInv _ _ => TI'); k_dflt (refine' lam_both ?z317F ?z317N ?z317T ?z317C ?z317cd ?z317U TI' ?z317q ?z317R ?z317b ?z317bn ?z317cl ?_; (case z317F => k_asm); (case z317N => k_asm); (case z317T => k_asm); (case z317cd => exact rfl); (case z317C => kn_code); (case z317U => k_updF); (case z317q => exact rfl); (case z317R => (intro q9 hq9; repeat (first | assumption | apply List.mem_cons_of_mem))); (case z317b => assumption); (case z317bn => (repeat' (first | exact True.intro | refine And.intro ⟨_, by (repeat (first | (with_reducible exact List.mem_cons_self) | apply List.mem_cons_of_mem))⟩ ?_))); (case z317cl => exact rfl); k_whole); intro f' c' oc' vs' t' ct' ps' h' tk' F' N' d1' d2' l1 l2 hc' TJ'; (try dsimp only at N'); (try k_lt l1); k_dflt (obtain ⟨_, _, _, _, _, _, _⟩ := hc'))) | ((with_reducible show wpAny _ _ (getAttr _ _ _) _ _ _); first | (with_reducible ((with_reducible show wpAny _ _ (getAttr (Value.ref _) (PySem.Str.ofString "many") _) _ _ _); k_dflt (apply many_wd; walk_at "s7"; (case W => assumption); walk_at "n1"; (case hm1 => assumption)); intro t' h' tk' F' N'; (try k_sweep))) | (with_reducible ((with_reducible show wpAny _ _ (getAttr (Value.ref _) (PySem.Str.ofString "told") _) _ _ _); k_dflt (refine' exc_told (K := hd.heap_1 _) ?z318X (exc_inst ?z318N ?z318m1 ?z318m2 ?z318c ?z318d) ?z318a ?z318b ?z318q ?z318f1 ?z318f2 ?z318f3 ?z318f4 ?z318h ?_; (case z318N => k_asm); (case z318m1 => k_mem); (case z318c => assumption); (case z318d => assumption); (case z318m2 => k_mem); (case z318X => k_in); (case z318a => k_is); (case z318b => k_is); (case z318q => k_is); (case z318f1 => k_is); (case z318f2 => k_is); (case z318f3 => k_is); (case z318f4 => k_get); (case z318h => exact rfl); k_whole)))) | ((with_reducible show wpAny _ _ (subscriptTail _ _ _ _) _ _ _); first | (with_reducible ((with_reducible show wpAny _ _ (subscriptTail _ (PySem.Expr.Slice _ _ none _) (Value.ref _) (Value.ref _)) _ _ _); k_dflt (refine' kmk_slice_lit ?z319F ?z319N ?z319l ?z319p ?z319q ?z319e ?_ ?z319s ?z319t ?z319z; (case z319F => k_asm); (case z319N => k_asm); (case z319l => exact News.isList (by k_asm) (by k_mem)); (case z319p => kmk_part); (case z319q => kmk_part); (case z319e => first | exact pk_all | exact pk_upto (by omega) | exact pk_from (by omega) | exact pk_run (by omega) (by omega) | exact pk_upto_neg (by omega)); (case z319s => with_unfolding_all rfl); (case z319t => kmk_pure); (case z319z => size_fits)); intro D' h' F' N' l1; (try k_lt l1); (try k_sweep)))) | ((with_reducible show wpAny _ _ (binaryOp _ _ _) _ _ _); first | (with_reducible ((with_reducible show wpAny _ _ (binaryOp _ (Value.ref _) (Value.ref _)) _ _ _); k_dflt (refine' my_add ?z320F ?z320N ?z320a ?z320b ?_ ?z320z; (case z320F => k_asm); (case z320N => k_asm); (case z320a => exact News.isList (by k_asm) (by k_mem)); (case z320b => exact News.isList (by k_asm) (by k_mem)); (case z320z => walk_at "sz")); intro D' h' F' N' l1; (try k_lt l1); (try k_sweep)))) | ((with_reducible show wpAny _ _ (compareOp _ _ _) _ _ _); first | (with_reducible ((with_reducible show wpAny _ _ (compareOp CmpOp.NotEq (Value.ref _) (Value.ref _)) _ _ _); k_dflt (refine' ne_wd ?z330N ?z330W ?z330HI ?z330hu ?_; (case z330W => assumption); (case z330HI => assumption); (case z330N => assumption); (case z330hu => ktr_units)))) | (with_reducible ((with_reducible show wpAny _ _ (compareOp CmpOp.Eq (Value.ref _) (Value.ref _)) _ _ _); k_dflt (refine' eq_empty ?z323a ?z323b ?z323e ?z323u ?_; (case z323a => exact News.isList (by k_asm) (by k_mem)); (case z323b => exact News.isList (by k_asm) (by k_mem)); (case z323e => exact rfl); (case z323u => ktr_units))))) | (with_reducible (k_dflt (refine' things_src ?z324hh ?z324F ?z324N ?z324hm ?z324hi ?z324hz ?z324T ?z324hb ?z324bn ?z324elt ?_; (case z324hh => exact rfl); (case z324F => k_asm); (case z324N => k_asm); (case z324hm => k_mem); (case z324hi => assumption); (case z324hz => (try simp only [List.length_take, List.length_cons, List.length_nil]); omega); (case z324hb => assumption); (case z324T => repeat (first | exact Tail.head | apply Tail.tail)); (case z324bn => (repeat' (first | exact True.intro | refine And.intro ⟨_, by (repeat (first | (with_reducible exact List.mem_cons_self) | apply List.mem_cons_of_mem))⟩ ?_))); (case z324elt => (intro v9 t9 I9 oI9 C9 oC9 D9 oD9 m9 h9 tk9 X9 E9 hN9 hx9 F9 N9; (repeat' (first | (k_unfold; (try dsimp only)) | (k_end; wrow_close) | ((with_reducible show wpAny _ _ (call _ _) _ _ _); first | (with_reducible ((with_reducible show wpAny _ _ (call (Value.ref 208) [_]) _ _ _); k_dflt (apply thing_call; walk_at "s7"; walk_at "n2"); intro x' dx' od' h' tk' F' N' l1 l2 hT'; (try simp only [List.cons_append, List.nil_append] at N' l1 l2); (try k_lt l1); (try k_lt l2); (try k_sweep))) | (with_reducible ((with_reducible show wpAny _ _ (call (Value.ref 208) [_]) _ _ _); k_dflt (apply thing_call; walk_at "s7"; walk_at "n2"); intro x' dx' od' h' tk' F' N' l1 l2 hT'; (try k_lt l1); (try k_lt l2); (try k_sweep)))) | walk1 | (dsimp only; walk1) | (dsimp only [List.nil_append, List.cons_append]; walk1) | (leave1; walk_say "STEP leave1"; try dsimp only))); (show ThElt _ _ _ _ _ _ _ _ _ _ _ _ _ _ _); unfold ThElt; exact ⟨_, _, _, _, _, rfl, rfl, by assumption, by assumption, lt3 (by assumption), lt3 (by assumption), by assumption⟩))); intro ys' R' D' h' tk' hT' hs' ho' F' N' l1; (try dsimp only at N'); (try dsimp only at l1); (simp only [List.forall_mem_cons] at l1); (repeat (obtain ⟨_, l1⟩ := l1)); (have o3' := off_at3 ho'); (have hyl' := ThingsIn.length hT'); (simp only [List.length_take, List.length_cons, List.length_nil] at hyl'); (try k_sweep))) | ((with_reducible show wpAny _ _ (getMethod _ _ _) _ _ _); first | (with_reducible ((with_reducible show wpAny _ _ (getMethod (Value.ref _) (PySem.Str.ofString "append") _) _ _ _); k_dflt (refine' method_kp_wd ?z335W ?z335N ?_; (case z335W => assumption); (case z335N => assumption)))) | (with_reducible ((with_reducible show wpAny _ _ (getMethod (Value.ref _) _ _) _ _ _); k_dflt ((first | (refine' look_wd ?z333W ?z333N ?_; (case z333W => assumption); (case z333N => first | assumption | exact News.tl (by assumption) | exact News.tl (News.tl (by assumption)))) | (refine' look_wd0 ?z333W0 ?z333N0 ?_; (case z333W0 => assumption); (case z333N0 => first | assumption | exact News.tl (by assumption) | exact News.tl (News.tl (by assumption))))); intro sd9 k19 k29 tm9 l9 N'; refine' method_inst ?z333k1 ?z333k2 ?z333k3 ?z333k4 ?z333k5 ?z333k6 ?z333k7 ?_; (case z333k1 => k_asm); (case z333k2 => k_asm); (case z333k3 => k_inst); (case z333k4 => k_is); (case z333k5 => k_is); (case z333k6 => k_is); (case z333k7 => k_get); k_whole; clear N')))) | walk1 | (dsimp only; walk1) | (dsimp only [List.nil_append, List.cons_append]; walk1) | (leave1; walk_say "STEP leave1"; try dsimp only)))
    unfold Stop
    with_reducible rename Fr _ _ _ _ => F11
    with_reducible rename News _ _ _ _ => N11
    with_reducible rename Wd _ _ _ _ _ _ _ _ _ _ _ _ _ => W11
    w_strict (refine' wd_range (R0 := [_, _]) (K2 w d it kp most tmm) K2.keeps ?q2hh ?q2hr ?q2hs ?q2hn ?q2F ?q2N W11 h0 ?q2hk ?q2turn ?q2done; (case q2hh => exact rfl); (case q2hr => assumption); (case q2hs => exact small_one (by l_bnd) (by l_bnd) (by l_bnd) (by l_bnd)); (case q2hn => exact rangeSize_nat _ _); (case q2F => exact F11); (case q2N => exact N11); (case q2hk => exact ⟨⟨by with_unfolding_all rfl, by with_unfolding_all rfl, by with_unfolding_all rfl, by with_unfolding_all rfl⟩, by with_unfolding_all rfl, by omega, by omega, [], 0, rfl, rfl, fun _ hv => nomatch hv⟩))
    case q2turn =>
      intro i2 k2 t2 m2 T2 ol2 own2 ok2 R2 nw2 h2 tk2 hi2 h02 hK2 W2 F2 N2
      obtain ⟨HM2, HO2, hT20, hT21, kvs, nk, rfl, hkl, hKI⟩ := hK2
      have F12 := fr_law_own HM2 HO2 F2
      w_strict (repeat' (first | (k_unfold; (try dsimp only)) | (k_end; wrow_close) | ((with_reducible show wpAny _ _ (call _ _) _ _ _); first | (with_reducible ((with_reducible show wpAny _ _ (call (Value.ref 213) [_]) _ _ _); k_dflt (apply numbers_use; walk_at "s7"; walk_at "n2"; walk_at "p3"; (case HT => exact ThingsIn.cons (by assumption) .nil); (case hR => exact List.forall_mem_cons.mpr ⟨by k_mem, List.forall_mem_cons.mpr ⟨by k_mem, List.forall_mem_nil _⟩⟩); (case hlen => exact Nat.le_of_ble_eq_true rfl)); intro D' ws' n' h' tk' HI' F' N'; k_dflt (have n229 : @Ne Nat D' 229 := ne_tab N' (List.Mem.head _) (by k_mem)); (try k_sweep))) | (with_reducible ((with_reducible show wpAny _ _ (call (Value.ref 208) [_]) _ _ _); k_dflt (apply thing_call; walk_at "s7"; walk_at "n2"); intro x' dx' od' h' tk' F' N' l1 l2 hT'; (try simp only [List.cons_append, List.nil_append] at N' l1 l2); (try k_lt l1); (try k_lt l2); (try k_sweep))) | (with_reducible ((with_reducible show wpAny _ _ (call (Value.type _) [Value.int _ _]) _ _ _); (rename Fr _ _ _ _ => F'); (rename News _ _ _ _ => N'); (with_unfolding_all refine range1_rows F' N' ?_; intro _ _ _ _ _ _ _ _ _))) | (with_reducible ((with_reducible show wpAny _ _ (call (Value.builtin "len") [Value.ref _]) _ _ _); k_dflt (refine' len_wd ?z359W ?z359N ?z359hm1 ?_; (case z359W => assumption); (case z359N => first | assumption | exact News.tl (by assumption) | exact News.tl (News.tl (by assumption))); (case z359hm1 => assumption); k_whole))) | (with_reducible ((with_reducible show wpAny _ _ (call (Value.ref 153) [_, _]) _ _ _); k_dflt (apply put_back_wd; walk_at "s7"; (case m2 => assumption); (case HT => assumption); (case m3 => assumption); (case HO => assumption); (case hom => assumption); (case hm1 => assumption); (case W => first | assumption | exact Wd.weak (by assumption) (by assumption)); walk_at "n1"); intro nw' h' tk' F' N' W'; (try k_sweep))) | (with_reducible ((with_reducible show wpAny _ _ (call (Value.ref 83) [_, _]) _ _ _); k_dflt (apply push_wd0; walk_at "s7"; (case W => assumption); walk_at "n1"; (case hm1 => assumption); (case hlt => omega)); intro nw' h' tk' F' N' W'; (try k_sweep))) | (with_reducible ((with_reducible show wpAny _ _ (call (Value.ref 201) [_, _]) _ _ _); k_dflt (apply pick_wd; walk_at "s7"; (case W => assumption); walk_at "n1"; (case K => assumption); (case hT0 => omega); (case hT1 => omega); (case hM0 => assumption); (case hM1 => assumption); (case hk0 => omega); (case hk1 => omega)); intro pa' ta' la' vs' ows' n' own' nw' h' tk' F' N' W' m2' m3' HT' HO' ho'; (try k_sweep))) | (with_reducible ((with_reducible show wpAny _ _ (call (Value.builtin _) [Value.ref _, _]) _ _ _); k_dflt (refine' append_wd ?z357F ?z357N ?z357W ?z357hz ?_; (case z357F => k_asm); (case z357W => assumption); (case z357N => first | assumption | exact News.tl (by assumption)); (case z357hz => omega)); intro n' nw' h' F' N' W'; (try k_sweep))) | (with_reducible ((with_reducible show wpAny _ _ (call (Value.type _) [Value.ref _]) _ _ _); k_dflt (refine' copy_wd ?z356F ?z356N ?z356W ?z356hm1 ?_; (case z356F => k_asm); (case z356W => assumption); (case z356N => first | assumption | exact News.tl (by assumption)); (case z356hm1 => assumption)); intro la' ows' n' R' nw' h' F' N' W' hs' ml' HO'; (try k_sweep))) | (with_reducible ((with_reducible show wpAny _ _ (call (Value.ref 146) [_]) _ _ _); k_dflt (apply snapshot_wd; walk_at "s7"; (case W => assumption); walk_at "n1"; (case hm1 => assumption)); intro ta' vs' R' nw' h' tk' F' N' W' hs' mt' HT'; (try k_sweep))) | (with_reducible ((with_reducible show wpAny _ _ (call (Value.ref 213) [_]) _ _ _); k_dflt (apply numbers_wd; walk_at "s7"; (case W => assumption); walk_at "n1"; (case hm1 => assumption)); intro D' ws' n' h' tk' HI' F' N'; (try k_sweep))) | (with_reducible ((with_reducible show wpAny _ _ (call (Value.ref 227) [_, _, _, _]) _ _ _); k_dflt (apply deed_call; walk_at "s7"; (case W => assumption); walk_at "n1"; (case XB => k_asm); (case TB => k_asm); (case CH => assumption); (case hm0 => assumption); (case hm1 => assumption); (case hT0 => omega); (case hT1 => omega); (case hM0 => assumption); (case hM1 => assumption)); intro ol' own' R' nw' h' tk' F' N' hs' W'; (try k_sweep))) | (with_reducible ((with_reducible show wpAny _ _ (call (Value.ref 194) [_, _]) _ _ _); k_dflt (apply draw_wd; walk_at "s7"; (case W => assumption); walk_at "n1"; (case hb0 => decide); (case hb1 => decide); (case hT0 => omega); (case hT1 => omega); (case hM0 => assumption); (case hM1 => assumption)); intro v' t' nw' h' tk' hv0' hv1' F' N' W'; (try k_sweep))) | (with_reducible ((with_reducible show wpAny _ _ (call (Value.ref 194) [_, _]) _ _ _); k_dflt (apply draw_use; walk_at "s7"; walk_at "n2"; (case P1 => walk_at "pk"); (case ho => first | assumption | (with_unfolding_all assumption)); (case P2 => walk_at "pk"); (case hi => assumption); (case hlen => first | assumption | (simp only [List.length_reverse, List.length_map, List.length_take]; omega)); (case hne => walk_at "cne"); (case offd => walk_at "of"); (case offD => walk_at "of"); (case hb0 => decide); (case hb1 => decide); (case hT0 => decide); (case hT1 => decide); (case hM0 => exact (fold_rng _ _ (by decide) (by decide)).1); (case hM1 => exact (fold_rng _ _ (by decide) (by decide)).2)); intro v' t' o' ws' cells' n' t1' t2' h' tk' hD' hv0' hv1' F' N' ho' hi' hl'; (try k_sweep))) | (with_reducible ((with_reducible show wpAny _ _ (call (Value.ref 153) [_, _]) _ _ _); k_dflt (apply put_back_ok; walk_at "s7"; (case N => exact pick4b (by k_asm) (by walk_at "pk") (by walk_at "pk") (by walk_at "pk") (by walk_at "pk")); (case hlen => exact Nat.le_of_ble_eq_true rfl); (case h1 => walk_at "cne"); (case h2 => walk_at "cne"); (case h3 => walk_at "cne"); (case h4 => walk_at "cne"); (case offd => walk_at "of")); intro l' n' h' tk' F' a1 a2 a3 a4 a5 N'; (try dsimp only [AllLt] at a5); (try k_sweep))) | (with_reducible ((with_reducible show wpAny _ _ (call (Value.ref 146) [_]) _ _ _); k_dflt (apply snapshot_ok; walk_at "s7"; walk_at "n3"; (case hlen => exact Nat.le_of_ble_eq_true rfl)); intro t' h' tk' F' a1 a2 a3 a4 N'; (try dsimp only [AllLt] at a4); (try k_sweep))) | (with_reducible ((with_reducible show wpAny _ _ (call (Value.ref 83) [_, _]) _ _ _); k_dflt (apply push_ok; walk_at "s7"; walk_at "n3"; (case h1 => walk_at "cne"); (case h2 => walk_at "cne"); (case h3 => walk_at "cne"); (case offl => walk_at "of"); (case offd => walk_at "of"); (case hlen => exact Nat.le_of_ble_eq_true rfl); (case hm => exact of_decide_eq_true rfl)); intro n' h' tk' F' N'; (try dsimp only [List.nil_append, List.cons_append] at N'); (try k_sweep))) | (with_reducible ((with_reducible show wpAny _ _ (call (Value.builtin "len") [Value.ref _]) _ _ _); k_dflt (refine' my_len_ints ?z354k1 ?z354ki ?z354k2 ?_; (case z354k1 => exact News.isList (by k_asm) (by k_mem)); (case z354ki => assumption); (case z354k2 => ((try simp only [List.length_append, List.length_cons, List.length_nil, List.length_take, List.length_drop, List.length_dropLast]); omega)); intro le'; (try simp only [List.length_take, List.length_cons, List.length_nil] at le'); k_whole))) | (with_reducible ((with_reducible show wpAny _ _ (call (Value.ref 220) [_]) _ _ _); k_dflt (refine wpAny_call ?_; (refine' code_defT ?z353k1 ?z353k2 ?z353k3 ?z353k4 ?z353k5 ?z353kA ?z353kF ?z353kK ?z353k6 ?z353k7 ?z353k8 ?z353k9 ?z353kB ?_ ?z353c2 ?z353c3 ?z353c4 ?z353c5; (case z353kA => exact rfl); (case z353kF => exact rfl); (case z353kK => exact rfl); (case z353k2 => k_asm); (case z353k1 => k_asm); (case z353k3 => k_asm); (case z353k4 => k_asm); (case z353k5 => k_asm); (case z353k6 => k_is); (case z353k7 => k_is); (case z353k8 => k_room); (case z353k9 => exact BindsTo.of_eq rfl); (case z353c5 => decide); (case z353kB => exact locs rfl); (case z353c2 => exact rfl); (case z353c3 => exact rfl); (case z353c4 => exact rfl); k_whole; intro g' L' h' FG' F' N' B' X' T'; (try dsimp only); (try k_lift B'); (try k_fold))))) | (with_reducible ((with_reducible show wpAny _ _ (call (Value.ref 194) [_, _]) _ _ _); k_dflt (refine' draw_use ?z352B ?z352F ?z352X ?z352TP ?z352hk ?z352hdp ?z352hun ?z352N ?z352P1 ?z352P2 ?z352ho ?z352hi ?z352hlen ?z352hne ?z352offd ?z352offD ?z352hb0 ?z352hb1 ?z352hT0 ?z352hT1 ?z352hM0 ?z352hM1 ?_; (case z352B => k_asm); (case z352F => k_asm); (case z352X => k_asm); (case z352TP => k_asm); (case z352hk => first | exact rfl | assumption); (case z352hdp => ktr_room); (case z352hun => ktr_units); (case z352N => k_asm); (case z352P1 => repeat (first | exact Pick.head | apply Pick.tail)); (case z352P2 => repeat (first | exact Pick.head | apply Pick.tail)); (case z352ho => assumption); (case z352hi => assumption); (case z352hlen => assumption); (case z352hne => k_ne); (case z352offd => k_all); (case z352offD => k_all); (case z352hb0 => decide); (case z352hb1 => decide); (case z352hT0 => omega); (case z352hT1 => omega); (case z352hM0 => assumption); (case z352hM1 => assumption)); intro v' t' o' ws' cells' n' t1' t2' h' tk' hD' hv0' hv1' F' N' ho' hi' hl'; (try k_sweep))) | (with_reducible ((with_reducible show wpAny _ _ (call (Value.ref 132) [_, Value.int _ _, Value.int 1 _]) _ _ _); k_dflt (apply rolled_low_use; walk_at "s7"; walk_at "n2"; walk_at "p3"; (case hm2 => omega); (case hm1 => omega); (case hm0 => omega); (case hlen => omega)); intro h' tk' F' N'; (try k_sweep))) | (with_reducible ((with_reducible show wpAny _ _ (call (Value.ref 132) [_, Value.int _ _, Value.int 1 _]) _ _ _); k_dflt (apply rolled_use; walk_at "s7"; walk_at "n2"; walk_at "p3"; (case hm2 => omega); (case hm0 => omega); (case h1 => k_ne); (case h2 => k_ne); (case h3 => k_ne); (case offl => k_all); (case offd => k_all); (case hlen => omega)); intro l' n' h' tk' F' l1 l2 l3 l4 N'; (try simp only [AllLt, and_true] at l4); (try k_sweep))) | (with_reducible ((with_reducible show wpAny _ _ (call (Value.ref 132) [_, Value.int _ _, Value.int 1 _]) _ _ _); k_dflt (refine' split132 ?z351N ?z351P1 ?z351P2 ?z351P3 ?z351sa ?z351sb ?z351sc; (case z351N => k_asm); (case z351P1 => walk_at "pk"); (case z351P2 => walk_at "pk"); (case z351P3 => walk_at "pk"); (case' z351sa => intro hm8 hm9; fail_if_success (exfalso; omega)); (case' z351sb => intro hm8 hm9); (case' z351sc => intro hm9; fail_if_success (exfalso; omega))))) | (with_reducible ((with_reducible show wpAny _ _ (call (Value.ref 90) [_, _]) _ _ _); k_dflt (apply push_all_use; walk_at "s7"; walk_at "n2"; walk_at "p3"; (case P4 => walk_at "pk"); (case hm => walk_at "ln"); (case h1 => k_ne); (case h2 => k_ne); (case h3 => k_ne); (case h4 => first | k_ne | exact Nat.ne_of_gt (by omega)); (case offl => k_all); (case hlen => walk_at "ln"); (case hlen2 => walk_at "ln")); intro n' h' tk' F' N'; (try k_sweep))) | (with_reducible ((with_reducible show wpAny _ _ (call (Value.ref 90) [_, _]) _ _ _); k_dflt (refine' split90 ?z350N ?z350P1 ?z350P2 ?z350P3 ?z350P4 ?z350g1 ?z350g2; (case z350N => k_asm); (case z350P1 => walk_at "pk"); (case z350P2 => walk_at "pk"); (case z350P3 => walk_at "pk"); (case z350P4 => walk_at "pk"); (case' z350g1 => intro hm9; fail_if_success (exfalso; omega)); (case' z350g2 => intro hm9; fail_if_success (exfalso; omega))))) | (with_reducible ((with_reducible show wpAny _ _ (call (Value.ref 52) [_]) _ _ _); k_dflt (apply pserr_call; walk_at "s7"; walk_at "n2"); intro e' d' t' k' h' tk' F' N' l1 l2 l3; (try dsimp only [AllLt] at l1 l2 l3); (try k_sweep))) | (with_reducible ((with_reducible show wpAny _ _ (call (Value.ref 208) [_]) _ _ _); k_dflt (apply thing_call; walk_at "s7"; walk_at "n2"); intro x' dx' od' h' tk' F' N' l1 l2 hT'; (try k_lt l1); (try k_lt l2); (try k_sweep))) | (with_reducible ((with_reducible show wpAny _ _ (call (Value.builtin _) [Value.ref _]) _ _ _); k_dflt (refine' my_pop ?z347F ?z347N ?z347U ?z347e ?z347z ?_; (case z347F => k_asm); (case z347N => k_asm); (case z347U => k_updF); (case z347e => assumption); (case z347z => omega)); intro y' n' h' F' N'; (try dsimp only at N'); (try k_sweep))) | (with_reducible ((with_reducible show wpAny _ _ (call (Value.builtin _) [Value.ref _, Value.ref _]) _ _ _); k_dflt (refine' my_extend ?z346F ?z346N ?z346b ?z346U ?z346z ?_; (case z346F => k_asm); (case z346N => k_asm); (case z346b => k_mem); (case z346U => k_updF); (case z346z => walk_at "sz")); intro n' h' F' N'; (try dsimp only at N'); (try k_sweep))) | (with_reducible ((with_reducible show wpAny _ _ (call (Value.builtin "len") [Value.ref _]) _ _ _); k_dflt (refine' my_len ?z340k1 ?z340k2 ?_; (case z340k1 => exact News.isList (by k_asm) (by k_mem)); (case z340k2 => ((try simp only [List.length_append, List.length_cons, List.length_nil, List.length_take, List.length_drop, List.length_dropLast]); omega)); k_whole))) | (dsimp only [List.nil_append, List.cons_append]; first | (with_reducible ((with_reducible show wpAny _ _ (call (Value.builtin _) [Value.ref _, _]) _ _ _); k_dflt (refine' append_wd ?z362F ?z362N ?z362W ?z362hz ?_; (case z362F => k_asm); (case z362W => assumption); (case z362N => first | assumption | exact News.tl (by assumption)); (case z362hz => omega)); intro n' nw' h' F' N' W'; (try k_sweep))) | (with_reducible ((with_reducible show wpAny _ _ (call (Value.builtin _) [Value.ref _]) _ _ _); k_dflt (refine' my_pop ?z363F ?z363N ?z363U ?z363e ?z363z ?_; (case z363F => k_asm); (case z363N => k_asm); (case z363U => k_updF); (case z363e => assumption); (case z363z => omega)); intro y' n' h' F' N'; (try dsimp only at N'); (try k_sweep))) | (with_reducible ((with_reducible show wpAny _ _ (call (Value.builtin _) [Value.ref _, Value.ref _]) _ _ _); k_dflt (refine' my_extend ?z364F ?z364N ?z364b ?z364U ?z364z ?_; (case z364F => k_asm); (case z364N => k_asm); (case z364b => k_mem); (case z364U => k_updF); (case z364z => walk_at "sz")); intro n' h' F' N'; (try dsimp only at N'); (try k_sweep))))) | ((with_reducible show wpAny _ _ (callWith _ _ _ _ _) _ _ _); first | (with_reducible ((with_reducible show wpAny _ _ (callWith _ (Value.ref (OfNat.ofNat _)) _ _ _) _ _ _); k_dflt (first | refine' callWith_K ?z361k1 ?z361k2 ?_; (case z361k1 => with_reducible assumption); (case z361k2 => k_is); k_whole | (refine' callWith_K0 ?z361k1 ?z361k2 ?_; (case z361k1 => k_in); (case z361k2 => k_is); k_whole; try dsimp only [List.nil_append, List.cons_append]) | (refine' callWith_M0 ?z361k1 ?z361k2 ?_; (case z361k1 => k_meth); (case z361k2 => k_is); k_whole; try dsimp only [List.nil_append, List.cons_append]) | refine' callWith_M ?z361k1 ?z361k2 ?z361k3 ?z361k4 ?_; (case z361k1 => k_asm); (case z361k2 => k_asm); (case z361k3 => k_mem); (case z361k4 => k_is); k_whole))) | (with_reducible ((with_reducible show wpAny _ _ (callWith _ (Value.ref (OfNat.ofNat _)) _ _ _) _ _ _); k_dflt (first | refine' callWith_K ?z341k1 ?z341k2 ?_; (case z341k1 => k_asm); (case z341k2 => k_is); k_whole | refine' callWith_K0 ?z341k1 ?z341k2 ?_; (case z341k1 => k_in); (case z341k2 => k_is); k_whole | (refine' callWith_M0 ?z341k1 ?z341k2 ?_; (case z341k1 => k_meth); (case z341k2 => k_is); k_whole; try dsimp only [List.nil_append, List.cons_append]) | refine' callWith_M ?z341k1 ?z341k2 ?z341k3 ?z341k4 ?_; (case z341k1 => k_asm); (case z341k2 => k_asm); (case z341k3 => k_mem); (case z341k4 => k_is); k_whole)))) | (with_reducible ((with_reducible show wpAny _ _ (eval (PySem.Expr.Lambda _ _ _ _) _) _ _ _); kn_here; k_dflt (refine' kla_eval ?z342d0 ?_; (case z342d0 => exact rfl)); (with_reducible rename TabInv _ _ => TI'); k_dflt (refine' lam_both ?z342F ?z342N ?z342T ?z342C ?z342cd ?z342U TI' ?z342q ?z342R ?z342b ?z342bn ?z342cl ?_; (case z342F => k_asm); (case z342N => k_asm); (case z342T => k_asm); (case z342cd => exact rfl); (case z342C => kn_code); (case z342U => k_updF); (case z342q => exact rfl); (case z342R => (intro q9 hq9; repeat (first | assumption | apply List.mem_cons_of_mem))); (case z342b => assumption); (case z342bn => (repeat' (first | exact True.intro | refine And.intro ⟨_, by (repeat (first | (with_reducible exact List.mem_cons_self) | apply List.mem_cons_of_mem))⟩ ?_))); (case z342cl => exact rfl); k_whole); intro f' c' oc' vs' t' ct' ps' h' tk' F' N' d1' d2' l1 l2 hc' TJ'; (try dsimp only at N'); (try k_lt l1); k_dflt (obtain ⟨_, _, _, _, _, _, _⟩ := hc'))) | ((with_reducible show wpAny _ _ (getAttr _ _ _) _ _ _); first | (with_reducible ((with_reducible show wpAny _ _ (getAttr (Value.ref _) (PySem.Str.ofString "many") _) _ _ _); k_dflt (apply many_wd; walk_at "s7"; (case W => assumption); walk_at "n1"; (case hm1 => assumption)); intro t' h' tk' F' N'; (try k_sweep))) | (with_reducible ((with_reducible show wpAny _ _ (getAttr (Value.ref _) (PySem.Str.ofString "told") _) _ _ _); k_dflt (refine' exc_told (K := hd.heap_1 _) ?z343X (exc_inst ?z343N ?z343m1 ?z343m2 ?z343c ?z343d) ?z343a ?z343b ?z343q ?z343f1 ?z343f2 ?z343f3 ?z343f4 ?z343h ?_; (case z343N => k_asm); (case z343m1 => k_mem); (case z343c => assumption); (case z343d => assumption); (case z343m2 => k_mem); (case z343X => k_in); (case z343a => k_is); (case z343b => k_is); (case z343q => k_is); (case z343f1 => k_is); (case z343f2 => k_is); (case z343f3 => k_is); (case z343f4 => k_get); (case z343h => exact rfl); k_whole)))) | ((with_reducible show wpAny _ _ (subscriptTail _ _ _ _) _ _ _); first | (with_reducible ((with_reducible show wpAny _ _ (subscriptTail _ (PySem.Expr.Slice _ _ none _) (Value.ref _) (Value.ref _)) _ _ _); k_dflt (refine' kmk_slice_lit ?z344F ?z344N ?z344l ?z344p ?z344q ?z344e ?_ ?z344s ?z344t ?z344z; (case z344F => k_asm); (case z344N => k_asm); (case z344l => exact News.isList (by k_asm) (by k_mem)); (case z344p => kmk_part); (case z344q => kmk_part); (case z344e => first | exact pk_all | exact pk_upto (by omega) | exact pk_from (by omega) | exact pk_run (by omega) (by omega) | exact pk_upto_neg (by omega)); (case z344s => with_unfolding_all rfl); (case z344t => kmk_pure); (case z344z => size_fits)); intro D' h' F' N' l1; (try k_lt l1); (try k_sweep)))) | ((with_reducible show wpAny _ _ (binaryOp _ _ _) _ _ _); first | (with_reducible ((with_reducible show wpAny _ _ (binaryOp _ (Value.ref _) (Value.ref _)) _ _ _); k_dflt (refine' my_add ?z345F ?z345N ?z345a ?z345b ?_ ?z345z; (case z345F => k_asm); (case z345N => k_asm); (case z345a => exact News.isList (by k_asm) (by k_mem)); (case z345b => exact News.isList (by k_asm) (by k_mem)); (case z345z => walk_at "sz")); intro D' h' F' N' l1; (try k_lt l1); (try k_sweep)))) | ((with_reducible show wpAny _ _ (compareOp _ _ _) _ _ _); first | (with_reducible ((with_reducible show wpAny _ _ (compareOp CmpOp.NotEq (Value.ref _) (Value.ref _)) _ _ _); k_dflt (refine' ne_wd ?z355N ?z355W ?z355HI ?z355hu ?_; (case z355W => assumption); (case z355HI => assumption); (case z355N => assumption); (case z355hu => ktr_units)))) | (with_reducible ((with_reducible show wpAny _ _ (compareOp CmpOp.Eq (Value.ref _) (Value.ref _)) _ _ _); k_dflt (refine' eq_empty ?z348a ?z348b ?z348e ?z348u ?_; (case z348a => exact News.isList (by k_asm) (by k_mem)); (case z348b => exact News.isList (by k_asm) (by k_mem)); (case z348e => exact rfl); (case z348u => ktr_units))))) | (with_reducible (k_dflt (refine' things_src ?z349hh ?z349F ?z349N ?z349hm ?z349hi ?z349hz ?z349T ?z349hb ?z349bn ?z349elt ?_; (case z349hh => exact rfl); (case z349F => k_asm); (case z349N => k_asm); (case z349hm => k_mem); (case z349hi => assumption); (case z349hz => (try simp only [List.length_take, List.length_cons, List.length_nil]); omega); (case z349hb => assumption); (case z349T => repeat (first | exact Tail.head | apply Tail.tail)); (case z349bn => (repeat' (first | exact True.intro | refine And.intro ⟨_, by (repeat (first | (with_reducible exact List.mem_cons_self) | apply List.mem_cons_of_mem))⟩ ?_))); (case z349elt => (intro v9 t9 I9 oI9 C9 oC9 D9 oD9 m9 h9 tk9 X9 E9 hN9 hx9 F9 N9; (repeat' (first | (k_unfold; (try dsimp only)) | (k_end; wrow_close) | ((with_reducible show wpAny _ _ (call _ _) _ _ _); first | (with_reducible ((with_reducible show wpAny _ _ (call (Value.ref 208) [_]) _ _ _); k_dflt (apply thing_call; walk_at "s7"; walk_at "n2"); intro x' dx' od' h' tk' F' N' l1 l2 hT'; (try simp only [List.cons_append, List.nil_append] at N' l1 l2); (try k_lt l1); (try k_lt l2); (try k_sweep))) | (with_reducible ((with_reducible show wpAny _ _ (call (Value.ref 208) [_]) _ _ _); k_dflt (apply thing_call; walk_at "s7"; walk_at "n2"); intro x' dx' od' h' tk' F' N' l1 l2 hT'; (try k_lt l1); (try k_lt l2); (try k_sweep)))) | walk1 | (dsimp only; walk1) | (dsimp only [List.nil_append, List.cons_append]; walk1) | (leave1; walk_say "STEP leave1"; try dsimp only))); (show ThElt _ _ _ _ _ _ _ _ _ _ _ _ _ _ _); unfold ThElt; exact ⟨_, _, _, _, _, rfl, rfl, by assumption, by assumption, lt3 (by assumption), lt3 (by assumption), by assumption⟩))); intro ys' R' D' h' tk' hT' hs' ho' F' N' l1; (try dsimp only at N'); (try dsimp only at l1); (simp only [List.forall_mem_cons] at l1); (repeat (obtain ⟨_, l1⟩ := l1)); (have o3' := off_at3 ho'); (have hyl' := ThingsIn.length hT'); (simp only [List.length_take, List.length_cons, List.length_nil] at hyl'); (try k_sweep))) | ((with_reducible show wpAny _ _ (getMethod _ _ _) _ _ _); first | (with_reducible ((with_reducible show wpAny _ _ (getMethod (Value.ref _) (PySem.Str.ofString "append") _) _ _ _); k_dflt (refine' method_kp_wd ?z360W ?z360N ?_; (case z360W => assumption); (case z360N => assumption)))) | (with_reducible ((with_reducible show wpAny _ _ (getMethod (Value.ref _) _ _) _ _ _); k_dflt ((first | (refine' look_wd ?z358W ?z358N ?_; (case z358W => assumption); (case z358N => first | assumption | exact News.tl (by assumption) | exact News.tl (News.tl (by assumption)))) | (refine' look_wd0 ?z358W0 ?z358N0 ?_; (case z358W0 => assumption); (case z358N0 => first | assumption | exact News.tl (by assumption) | exact News.tl (News.tl (by assumption))))); intro sd9 k19 k29 tm9 l9 N'; refine' method_inst ?z358k1 ?z358k2 ?z358k3 ?z358k4 ?z358k5 ?z358k6 ?z358k7 ?_; (case z358k1 => k_asm); (case z358k2 => k_asm); (case z358k3 => k_inst); (case z358k4 => k_is); (case z358k5 => k_is); (case z358k6 => k_is); (case z358k7 => k_get); k_whole; clear N')))) | walk1 | (dsimp only; walk1) | (dsimp only [List.nil_append, List.cons_append]; walk1) | (leave1; walk_say "STEP leave1"; try dsimp only)))
      unfold Stop
      with_reducible rename Fr _ _ _ _ => F13
      with_reducible rename News _ _ _ _ => N13
      with_reducible rename Wd _ _ _ _ _ _ _ _ _ _ _ _ _ => W13
      have hK3 := keep3 hKI (by assumption) (by assumption) (by assumption) (by assumption) (by assumption) (by assumption) (by assumption) (by assumption) W2.le
      obtain ⟨hK3, hs3⟩ := hK3
      w_strict (refine' wd_range (K2i w d it kp most tmm (T2 + 1) _ _) K2i.keeps ?q3hh ?q3hr ?q3hs ?q3hn ?q3F ?q3N W13 (fun _ h => h) ?q3hk ?q3turn ?q3done; (case q3hh => exact rfl); (case q3hr => assumption); (case q3hs => exact small_one (by l_bnd) (by l_bnd) (by l_bnd) (by l_bnd)); (case q3hn => exact rangeSize_nat _ _); (case q3F => exact F13); (case q3N => exact N13); (case q3hk => exact ⟨⟨by with_unfolding_all rfl, by with_unfolding_all rfl, by with_unfolding_all rfl, by with_unfolding_all rfl⟩, by with_unfolding_all rfl, by omega, by omega, rfl, hK3⟩))
      case q3turn =>
        intro i3 k3 t3 m3 T3 ol3 own3 ok3 R3 nw3 h3 tk3 hi3 h03 hK3' W3 F3 N3
        obtain ⟨HM3, HO3, hT30, hT31, rfl, hKI3⟩ := hK3'
        have F14 := fr_law_own HM3 HO3 F3
        w_strict (repeat' (first | (k_unfold; (try dsimp only)) | (k_end; wrow_close) | ((with_reducible show wpAny _ _ (call _ _) _ _ _); first | (with_reducible ((with_reducible show wpAny _ _ (call (Value.ref 213) [_]) _ _ _); k_dflt (apply numbers_use; walk_at "s7"; walk_at "n2"; walk_at "p3"; (case HT => exact ThingsIn.cons (by assumption) .nil); (case hR => exact List.forall_mem_cons.mpr ⟨by k_mem, List.forall_mem_cons.mpr ⟨by k_mem, List.forall_mem_nil _⟩⟩); (case hlen => exact Nat.le_of_ble_eq_true rfl)); intro D' ws' n' h' tk' HI' F' N'; k_dflt (have n229 : @Ne Nat D' 229 := ne_tab N' (List.Mem.head _) (by k_mem)); (try k_sweep))) | (with_reducible ((with_reducible show wpAny _ _ (call (Value.ref 208) [_]) _ _ _); k_dflt (apply thing_call; walk_at "s7"; walk_at "n2"); intro x' dx' od' h' tk' F' N' l1 l2 hT'; (try simp only [List.cons_append, List.nil_append] at N' l1 l2); (try k_lt l1); (try k_lt l2); (try k_sweep))) | (with_reducible ((with_reducible show wpAny _ _ (call (Value.type _) [Value.int _ _]) _ _ _); (rename Fr _ _ _ _ => F'); (rename News _ _ _ _ => N'); (with_unfolding_all refine range1_rows F' N' ?_; intro _ _ _ _ _ _ _ _ _))) | (with_reducible ((with_reducible show wpAny _ _ (call (Value.builtin "len") [Value.ref _]) _ _ _); k_dflt (refine' len_wd ?z384W ?z384N ?z384hm1 ?_; (case z384W => assumption); (case z384N => first | assumption | exact News.tl (by assumption) | exact News.tl (News.tl (by assumption))); (case z384hm1 => assumption); k_whole))) | (with_reducible ((with_reducible show wpAny _ _ (call (Value.ref 153) [_, _]) _ _ _); k_dflt (apply put_back_wd; walk_at "s7"; (case m2 => assumption); (case HT => assumption); (case m3 => assumption); (case HO => assumption); (case hom => assumption); (case hm1 => assumption); (case W => first | assumption | exact Wd.weak (by assumption) (by assumption)); walk_at "n1"); intro nw' h' tk' F' N' W'; (try k_sweep))) | (with_reducible ((with_reducible show wpAny _ _ (call (Value.ref 83) [_, _]) _ _ _); k_dflt (apply push_wd0; walk_at "s7"; (case W => assumption); walk_at "n1"; (case hm1 => assumption); (case hlt => omega)); intro nw' h' tk' F' N' W'; (try k_sweep))) | (with_reducible ((with_reducible show wpAny _ _ (call (Value.ref 201) [_, _]) _ _ _); k_dflt (apply pick_wd; walk_at "s7"; (case W => assumption); walk_at "n1"; (case K => assumption); (case hT0 => omega); (case hT1 => omega); (case hM0 => assumption); (case hM1 => assumption); (case hk0 => omega); (case hk1 => omega)); intro pa' ta' la' vs' ows' n' own' nw' h' tk' F' N' W' m2' m3' HT' HO' ho'; (try k_sweep))) | (with_reducible ((with_reducible show wpAny _ _ (call (Value.builtin _) [Value.ref _, _]) _ _ _); k_dflt (refine' append_wd ?z382F ?z382N ?z382W ?z382hz ?_; (case z382F => k_asm); (case z382W => assumption); (case z382N => first | assumption | exact News.tl (by assumption)); (case z382hz => omega)); intro n' nw' h' F' N' W'; (try k_sweep))) | (with_reducible ((with_reducible show wpAny _ _ (call (Value.type _) [Value.ref _]) _ _ _); k_dflt (refine' copy_wd ?z381F ?z381N ?z381W ?z381hm1 ?_; (case z381F => k_asm); (case z381W => assumption); (case z381N => first | assumption | exact News.tl (by assumption)); (case z381hm1 => assumption)); intro la' ows' n' R' nw' h' F' N' W' hs' ml' HO'; (try k_sweep))) | (with_reducible ((with_reducible show wpAny _ _ (call (Value.ref 146) [_]) _ _ _); k_dflt (apply snapshot_wd; walk_at "s7"; (case W => assumption); walk_at "n1"; (case hm1 => assumption)); intro ta' vs' R' nw' h' tk' F' N' W' hs' mt' HT'; (try k_sweep))) | (with_reducible ((with_reducible show wpAny _ _ (call (Value.ref 213) [_]) _ _ _); k_dflt (apply numbers_wd; walk_at "s7"; (case W => assumption); walk_at "n1"; (case hm1 => assumption)); intro D' ws' n' h' tk' HI' F' N'; (try k_sweep))) | (with_reducible ((with_reducible show wpAny _ _ (call (Value.ref 227) [_, _, _, _]) _ _ _); k_dflt (apply deed_call; walk_at "s7"; (case W => assumption); walk_at "n1"; (case XB => k_asm); (case TB => k_asm); (case CH => assumption); (case hm0 => assumption); (case hm1 => assumption); (case hT0 => omega); (case hT1 => omega); (case hM0 => assumption); (case hM1 => assumption)); intro ol' own' R' nw' h' tk' F' N' hs' W'; (try k_sweep))) | (with_reducible ((with_reducible show wpAny _ _ (call (Value.ref 194) [_, _]) _ _ _); k_dflt (apply draw_wd; walk_at "s7"; (case W => assumption); walk_at "n1"; (case hb0 => decide); (case hb1 => decide); (case hT0 => omega); (case hT1 => omega); (case hM0 => assumption); (case hM1 => assumption)); intro v' t' nw' h' tk' hv0' hv1' F' N' W'; (try k_sweep))) | (with_reducible ((with_reducible show wpAny _ _ (call (Value.ref 194) [_, _]) _ _ _); k_dflt (apply draw_use; walk_at "s7"; walk_at "n2"; (case P1 => walk_at "pk"); (case ho => first | assumption | (with_unfolding_all assumption)); (case P2 => walk_at "pk"); (case hi => assumption); (case hlen => first | assumption | (simp only [List.length_reverse, List.length_map, List.length_take]; omega)); (case hne => walk_at "cne"); (case offd => walk_at "of"); (case offD => walk_at "of"); (case hb0 => decide); (case hb1 => decide); (case hT0 => decide); (case hT1 => decide); (case hM0 => exact (fold_rng _ _ (by decide) (by decide)).1); (case hM1 => exact (fold_rng _ _ (by decide) (by decide)).2)); intro v' t' o' ws' cells' n' t1' t2' h' tk' hD' hv0' hv1' F' N' ho' hi' hl'; (try k_sweep))) | (with_reducible ((with_reducible show wpAny _ _ (call (Value.ref 153) [_, _]) _ _ _); k_dflt (apply put_back_ok; walk_at "s7"; (case N => exact pick4b (by k_asm) (by walk_at "pk") (by walk_at "pk") (by walk_at "pk") (by walk_at "pk")); (case hlen => exact Nat.le_of_ble_eq_true rfl); (case h1 => walk_at "cne"); (case h2 => walk_at "cne"); (case h3 => walk_at "cne"); (case h4 => walk_at "cne"); (case offd => walk_at "of")); intro l' n' h' tk' F' a1 a2 a3 a4 a5 N'; (try dsimp only [AllLt] at a5); (try k_sweep))) | (with_reducible ((with_reducible show wpAny _ _ (call (Value.ref 146) [_]) _ _ _); k_dflt (apply snapshot_ok; walk_at "s7"; walk_at "n3"; (case hlen => exact Nat.le_of_ble_eq_true rfl)); intro t' h' tk' F' a1 a2 a3 a4 N'; (try dsimp only [AllLt] at a4); (try k_sweep))) | (with_reducible ((with_reducible show wpAny _ _ (call (Value.ref 83) [_, _]) _ _ _); k_dflt (apply push_ok; walk_at "s7"; walk_at "n3"; (case h1 => walk_at "cne"); (case h2 => walk_at "cne"); (case h3 => walk_at "cne"); (case offl => walk_at "of"); (case offd => walk_at "of"); (case hlen => exact Nat.le_of_ble_eq_true rfl); (case hm => exact of_decide_eq_true rfl)); intro n' h' tk' F' N'; (try dsimp only [List.nil_append, List.cons_append] at N'); (try k_sweep))) | (with_reducible ((with_reducible show wpAny _ _ (call (Value.builtin "len") [Value.ref _]) _ _ _); k_dflt (refine' my_len_ints ?z379k1 ?z379ki ?z379k2 ?_; (case z379k1 => exact News.isList (by k_asm) (by k_mem)); (case z379ki => assumption); (case z379k2 => ((try simp only [List.length_append, List.length_cons, List.length_nil, List.length_take, List.length_drop, List.length_dropLast]); omega)); intro le'; (try simp only [List.length_take, List.length_cons, List.length_nil] at le'); k_whole))) | (with_reducible ((with_reducible show wpAny _ _ (call (Value.ref 220) [_]) _ _ _); k_dflt (refine wpAny_call ?_; (refine' code_defT ?z378k1 ?z378k2 ?z378k3 ?z378k4 ?z378k5 ?z378kA ?z378kF ?z378kK ?z378k6 ?z378k7 ?z378k8 ?z378k9 ?z378kB ?_ ?z378c2 ?z378c3 ?z378c4 ?z378c5; (case z378kA => exact rfl); (case z378kF => exact rfl); (case z378kK => exact rfl); (case z378k2 => k_asm); (case z378k1 => k_asm); (case z378k3 => k_asm); (case z378k4 => k_asm); (case z378k5 => k_asm); (case z378k6 => k_is); (case z378k7 => k_is); (case z378k8 => k_room); (case z378k9 => exact BindsTo.of_eq rfl); (case z378c5 => decide); (case z378kB => exact locs rfl); (case z378c2 => exact rfl); (case z378c3 => exact rfl); (case z378c4 => exact rfl); k_whole; intro g' L' h' FG' F' N' B' X' T'; (try dsimp only); (try k_lift B'); (try k_fold))))) | (with_reducible ((with_reducible show wpAny _ _ (call (Value.ref 194) [_, _]) _ _ _); k_dflt (refine' draw_use ?z377B ?z377F ?z377X ?z377TP ?z377hk ?z377hdp ?z377hun ?z377N ?z377P1 ?z377P2 ?z377ho ?z377hi ?z377hlen ?z377hne ?z377offd ?z377offD ?z377hb0 ?z377hb1 ?z377hT0 ?z377hT1 ?z377hM0 ?z377hM1 ?_; (case z377B => k_asm); (case z377F => k_asm); (case z377X => k_asm); (case z377TP => k_asm); (case z377hk => first | exact rfl | assumption); (case z377hdp => ktr_room); (case z377hun => ktr_units); (case z377N => k_asm); (case z377P1 => repeat (first | exact Pick.head | apply Pick.tail)); (case z377P2 => repeat (first | exact Pick.head | apply Pick.tail)); (case z377ho => assumption); (case z377hi => assumption); (case z377hlen => assumption); (case z377hne => k_ne); (case z377offd => k_all); (case z377offD => k_all); (case z377hb0 => decide); (case z377hb1 => decide); (case z377hT0 => omega); (case z377hT1 => omega); (case z377hM0 => assumption); (case z377hM1 => assumption)); intro v' t' o' ws' cells' n' t1' t2' h' tk' hD' hv0' hv1' F' N' ho' hi' hl'; (try k_sweep))) | (with_reducible ((with_reducible show wpAny _ _ (call (Value.ref 132) [_, Value.int _ _, Value.int 1 _]) _ _ _); k_dflt (apply rolled_low_use; walk_at "s7"; walk_at "n2"; walk_at "p3"; (case hm2 => omega); (case hm1 => omega); (case hm0 => omega); (case hlen => omega)); intro h' tk' F' N'; (try k_sweep))) | (with_reducible ((with_reducible show wpAny _ _ (call (Value.ref 132) [_, Value.int _ _, Value.int 1 _]) _ _ _); k_dflt (apply rolled_use; walk_at "s7"; walk_at "n2"; walk_at "p3"; (case hm2 => omega); (case hm0 => omega); (case h1 => k_ne); (case h2 => k_ne); (case h3 => k_ne); (case offl => k_all); (case offd => k_all); (case hlen => omega)); intro l' n' h' tk' F' l1 l2 l3 l4 N'; (try simp only [AllLt, and_true] at l4); (try k_sweep))) | (with_reducible ((with_reducible show wpAny _ _ (call (Value.ref 132) [_, Value.int _ _, Value.int 1 _]) _ _ _); k_dflt (refine' split132 ?z376N ?z376P1 ?z376P2 ?z376P3 ?z376sa ?z376sb ?z376sc; (case z376N => k_asm); (case z376P1 => walk_at "pk"); (case z376P2 => walk_at "pk"); (case z376P3 => walk_at "pk"); (case' z376sa => intro hm8 hm9; fail_if_success (exfalso; omega)); (case' z376sb => intro hm8 hm9); (case' z376sc => intro hm9; fail_if_success (exfalso; omega))))) | (with_reducible ((with_reducible show wpAny _ _ (call (Value.ref 90) [_, _]) _ _ _); k_dflt (apply push_all_use; walk_at "s7"; walk_at "n2"; walk_at "p3"; (case P4 => walk_at "pk"); (case hm => walk_at "ln"); (case h1 => k_ne); (case h2 => k_ne); (case h3 => k_ne); (case h4 => first | k_ne | exact Nat.ne_of_gt (by omega)); (case offl => k_all); (case hlen => walk_at "ln"); (case hlen2 => walk_at "ln")); intro n' h' tk' F' N'; (try k_sweep))) | (with_reducible ((with_reducible show wpAny _ _ (call (Value.ref 90) [_, _]) _ _ _); k_dflt (refine' split90 ?z375N ?z375P1 ?z375P2 ?z375P3 ?z375P4 ?z375g1 ?z375g2; (case z375N => k_asm); (case z375P1 => walk_at "pk"); (case z375P2 => walk_at "pk"); (case z375P3 => walk_at "pk"); (case z375P4 => walk_at "pk"); (case' z375g1 => intro hm9; fail_if_success (exfalso; omega)); (case' z375g2 => intro hm9; fail_if_success (exfalso; omega))))) | (with_reducible ((with_reducible show wpAny _ _ (call (Value.ref 52) [_]) _ _ _); k_dflt (apply pserr_call; walk_at "s7"; walk_at "n2"); intro e' d' t' k' h' tk' F' N' l1 l2 l3; (try dsimp only [AllLt] at l1 l2 l3); (try k_sweep))) | (with_reducible ((with_reducible show wpAny _ _ (call (Value.ref 208) [_]) _ _ _); k_dflt (apply thing_call; walk_at "s7"; walk_at "n2"); intro x' dx' od' h' tk' F' N' l1 l2 hT'; (try k_lt l1); (try k_lt l2); (try k_sweep))) | (with_reducible ((with_reducible show wpAny _ _ (call (Value.builtin _) [Value.ref _]) _ _ _); k_dflt (refine' my_pop ?z372F ?z372N ?z372U ?z372e ?z372z ?_; (case z372F => k_asm); (case z372N => k_asm); (case z372U => k_updF); (case z372e => assumption); (case z372z => omega)); intro y' n' h' F' N'; (try dsimp only at N'); (try k_sweep))) | (with_reducible ((with_reducible show wpAny _ _ (call (Value.builtin _) [Value.ref _, Value.ref _]) _ _ _); k_dflt (refine' my_extend ?z371F ?z371N ?z371b ?z371U ?z371z ?_; (case z371F => k_asm); (case z371N => k_asm); (case z371b => k_mem); (case z371U => k_updF); (case z371z => walk_at "sz")); intro n' h' F' N'; (try dsimp only at N'); (try k_sweep))) | (with_reducible ((with_reducible show wpAny _ _ (call (Value.builtin "len") [Value.ref _]) _ _ _); k_dflt (refine' my_len ?z365k1 ?z365k2 ?_; (case z365k1 => exact News.isList (by k_asm) (by k_mem)); (case z365k2 => ((try simp only [List.length_append, List.length_cons, List.length_nil, List.length_take, List.length_drop, List.length_dropLast]); omega)); k_whole))) | (dsimp only [List.nil_append, List.cons_append]; first | (with_reducible ((with_reducible show wpAny _ _ (call (Value.builtin _) [Value.ref _, _]) _ _ _); k_dflt (refine' append_wd ?z387F ?z387N ?z387W ?z387hz ?_; (case z387F => k_asm); (case z387W => assumption); (case z387N => first | assumption | exact News.tl (by assumption)); (case z387hz => omega)); intro n' nw' h' F' N' W'; (try k_sweep))) | (with_reducible ((with_reducible show wpAny _ _ (call (Value.builtin _) [Value.ref _]) _ _ _); k_dflt (refine' my_pop ?z388F ?z388N ?z388U ?z388e ?z388z ?_; (case z388F => k_asm); (case z388N => k_asm); (case z388U => k_updF); (case z388e => assumption); (case z388z => omega)); intro y' n' h' F' N'; (try dsimp only at N'); (try k_sweep))) | (with_reducible ((with_reducible show wpAny _ _ (call (Value.builtin _) [Value.ref _, Value.ref _]) _ _ _); k_dflt (refine' my_extend ?z389F ?z389N ?z389b ?z389U ?z389z ?_; (case z389F => k_asm); (case z389N => k_asm); (case z389b => k_mem); (case z389U => k_updF); (case z389z => walk_at "sz")); intro n' h' F' N'; (try dsimp only at N'); (try k_sweep))))) | ((with_reducible show wpAny _ _ (callWith _ _ _ _ _) _ _ _); first | (with_reducible ((with_reducible show wpAny _ _ (callWith _ (Value.ref (OfNat.ofNat _)) _ _ _) _ _ _); k_dflt (first | refine' callWith_K ?z386k1 ?z386k2 ?_; (case z386k1 => with_reducible assumption); (case z386k2 => k_is); k_whole | (refine' callWith_K0 ?z386k1 ?z386k2 ?_; (case z386k1 => k_in); (case z386k2 => k_is); k_whole; try dsimp only [List.nil_append, List.cons_append]) | (refine' callWith_M0 ?z386k1 ?z386k2 ?_; (case z386k1 => k_meth); (case z386k2 => k_is); k_whole; try dsimp only [List.nil_append, List.cons_append]) | refine' callWith_M ?z386k1 ?z386k2 ?z386k3 ?z386k4 ?_; (case z386k1 => k_asm); (case z386k2 => k_asm); (case z386k3 => k_mem); (case z386k4 => k_is); k_whole))) | (with_reducible ((with_reducible show wpAny _ _ (callWith _ (Value.ref (OfNat.ofNat _)) _ _ _) _ _ _); k_dflt (first | refine' callWith_K ?z366k1 ?z366k2 ?_; (case z366k1 => k_asm); (case z366k2 => k_is); k_whole | refine' callWith_K0 ?z366k1 ?z366k2 ?_; (case z366k1 => k_in); (case z366k2 => k_is); k_whole | (refine' callWith_M0 ?z366k1 ?z366k2 ?_; (case z366k1 => k_meth); (case z366k2 => k_is); k_whole; try dsimp only [List.nil_append, List.cons_append]) | refine' callWith_M ?z366k1 ?z366k2 ?z366k3 ?z366k4 ?_; (case z366k1 => k_asm); (case z366k2 => k_asm); (case z366k3 => k_mem); (case z366k4 => k_is); k_whole)))) | (with_reducible ((with_reducible show wpAny _ _ (eval (PySem.Expr.Lambda _ _ _ _) _) _ _ _); kn_here; k_dflt (refine' kla_eval ?z367d0 ?_; (case z367d0 => exact rfl)); (with_reducible rename TabInv _ _ => TI'); k_dflt (refine' lam_both ?z367F ?z367N ?z367T ?z367C ?z367cd ?z367U TI' ?z367q ?z367R ?z367b ?z367bn ?z367cl ?_; (case z367F => k_asm); (case z367N => k_asm); (case z367T => k_asm); (case z367cd => exact rfl); (case z367C => kn_code); (case z367U => k_updF); (case z367q => exact rfl); (case z367R => (intro q9 hq9; repeat (first | assumption | apply List.mem_cons_of_mem))); (case z367b => assumption); (case z367bn => (repeat' (first | exact True.intro | refine And.intro ⟨_, by (repeat (first | (with_reducible exact List.mem_cons_self) | apply List.mem_cons_of_mem))⟩ ?_))); (case z367cl => exact rfl); k_whole); intro f' c' oc' vs' t' ct' ps' h' tk' F' N' d1' d2' l1 l2 hc' TJ'; (try dsimp only at N'); (try k_lt l1); k_dflt (obtain ⟨_, _, _, _, _, _, _⟩ := hc'))) | ((with_reducible show wpAny _ _ (getAttr _ _ _) _ _ _); first | (with_reducible ((with_reducible show wpAny _ _ (getAttr (Value.ref _) (PySem.Str.ofString "many") _) _ _ _); k_dflt (apply many_wd; walk_at "s7"; (case W => assumption); walk_at "n1"; (case hm1 => assumption)); intro t' h' tk' F' N'; (try k_sweep))) | (with_reducible ((with_reducible show wpAny _ _ (getAttr (Value.ref _) (PySem.Str.ofString "told") _) _ _ _); k_dflt (refine' exc_told (K := hd.heap_1 _) ?z368X (exc_inst ?z368N ?z368m1 ?z368m2 ?z368c ?z368d) ?z368a ?z368b ?z368q ?z368f1 ?z368f2 ?z368f3 ?z368f4 ?z368h ?_; (case z368N => k_asm); (case z368m1 => k_mem); (case z368c => assumption); (case z368d => assumption); (case z368m2 => k_mem); (case z368X => k_in); (case z368a => k_is); (case z368b => k_is); (case z368q => k_is); (case z368f1 => k_is); (case z368f2 => k_is); (case z368f3 => k_is); (case z368f4 => k_get); (case z368h => exact rfl); k_whole)))) | ((with_reducible show wpAny _ _ (subscriptTail _ _ _ _) _ _ _); first | (with_reducible ((with_reducible show wpAny _ _ (subscriptTail _ (PySem.Expr.Slice _ _ none _) (Value.ref _) (Value.ref _)) _ _ _); k_dflt (refine' kmk_slice_lit ?z369F ?z369N ?z369l ?z369p ?z369q ?z369e ?_ ?z369s ?z369t ?z369z; (case z369F => k_asm); (case z369N => k_asm); (case z369l => exact News.isList (by k_asm) (by k_mem)); (case z369p => kmk_part); (case z369q => kmk_part); (case z369e => first | exact pk_all | exact pk_upto (by omega) | exact pk_from (by omega) | exact pk_run (by omega) (by omega) | exact pk_upto_neg (by omega)); (case z369s => with_unfolding_all rfl); (case z369t => kmk_pure); (case z369z => size_fits)); intro D' h' F' N' l1; (try k_lt l1); (try k_sweep)))) | ((with_reducible show wpAny _ _ (binaryOp _ _ _) _ _ _); first | (with_reducible ((with_reducible show wpAny _ _ (binaryOp _ (Value.ref _) (Value.ref _)) _ _ _); k_dflt (refine' my_add ?z370F ?z370N ?z370a ?z370b ?_ ?z370z; (case z370F => k_asm); (case z370N => k_asm); (case z370a => exact News.isList (by k_asm) (by k_mem)); (case z370b => exact News.isList (by k_asm) (by k_mem)); (case z370z => walk_at "sz")); intro D' h' F' N' l1; (try k_lt l1); (try k_sweep)))) | ((with_reducible show wpAny _ _ (compareOp _ _ _) _ _ _); first | (with_reducible ((with_reducible show wpAny _ _ (compareOp CmpOp.NotEq (Value.ref _) (Value.ref _)) _ _ _); k_dflt (refine' ne_wd ?z380N ?z380W ?z380HI ?z380hu ?_; (case z380W => assumption); (case z380HI => assumption); (case z380N => assumption); (case z380hu => ktr_units)))) | (with_reducible ((with_reducible show wpAny _ _ (compareOp CmpOp.Eq (Value.ref _) (Value.ref _)) _ _ _); k_dflt (refine' eq_empty ?z373a ?z373b ?z373e ?z373u ?_; (case z373a => exact News.isList (by k_asm) (by k_mem)); (case z373b => exact News.isList (by k_asm) (by k_mem)); (case z373e => exact rfl); (case z373u => ktr_units))))) | (with_reducible (k_dflt (refine' things_src ?z374hh ?z374F ?z374N ?z374hm ?z374hi ?z374hz ?z374T ?z374hb ?z374bn ?z374elt ?_; (case z374hh => exact rfl); (case z374F => k_asm); (case z374N => k_asm); (case z374hm => k_mem); (case z374hi => assumption); (case z374hz => (try simp only [List.length_take, List.length_cons, List.length_nil]); omega); (case z374hb => assumption); (case z374T => repeat (first | exact Tail.head | apply Tail.tail)); (case z374bn => (repeat' (first | exact True.intro | refine And.intro ⟨_, by (repeat (first | (with_reducible exact List.mem_cons_self) | apply List.mem_cons_of_mem))⟩ ?_))); (case z374elt => (intro v9 t9 I9 oI9 C9 oC9 D9 oD9 m9 h9 tk9 X9 E9 hN9 hx9 F9 N9; (repeat' (first | (k_unfold; (try dsimp only)) | (k_end; wrow_close) | ((with_reducible show wpAny _ _ (call _ _) _ _ _); first | (with_reducible ((with_reducible show wpAny _ _ (call (Value.ref 208) [_]) _ _ _); k_dflt (apply thing_call; walk_at "s7"; walk_at "n2"); intro x' dx' od' h' tk' F' N' l1 l2 hT'; (try simp only [List.cons_append, List.nil_append] at N' l1 l2); (try k_lt l1); (try k_lt l2); (try k_sweep))) | (with_reducible ((with_reducible show wpAny _ _ (call (Value.ref 208) [_]) _ _ _); k_dflt (apply thing_call; walk_at "s7"; walk_at "n2"); intro x' dx' od' h' tk' F' N' l1 l2 hT'; (try k_lt l1); (try k_lt l2); (try k_sweep)))) | walk1 | (dsimp only; walk1) | (dsimp only [List.nil_append, List.cons_append]; walk1) | (leave1; walk_say "STEP leave1"; try dsimp only))); (show ThElt _ _ _ _ _ _ _ _ _ _ _ _ _ _ _); unfold ThElt; exact ⟨_, _, _, _, _, rfl, rfl, by assumption, by assumption, lt3 (by assumption), lt3 (by assumption), by assumption⟩))); intro ys' R' D' h' tk' hT' hs' ho' F' N' l1; (try dsimp only at N'); (try dsimp only at l1); (simp only [List.forall_mem_cons] at l1); (repeat (obtain ⟨_, l1⟩ := l1)); (have o3' := off_at3 ho'); (have hyl' := ThingsIn.length hT'); (simp only [List.length_take, List.length_cons, List.length_nil] at hyl'); (try k_sweep))) | ((with_reducible show wpAny _ _ (getMethod _ _ _) _ _ _); first | (with_reducible ((with_reducible show wpAny _ _ (getMethod (Value.ref _) (PySem.Str.ofString "append") _) _ _ _); k_dflt (refine' method_kp_wd ?z385W ?z385N ?_; (case z385W => assumption); (case z385N => assumption)))) | (with_reducible ((with_reducible show wpAny _ _ (getMethod (Value.ref _) _ _) _ _ _); k_dflt ((first | (refine' look_wd ?z383W ?z383N ?_; (case z383W => assumption); (case z383N => first | assumption | exact News.tl (by assumption) | exact News.tl (News.tl (by assumption)))) | (refine' look_wd0 ?z383W0 ?z383N0 ?_; (case z383W0 => assumption); (case z383N0 => first | assumption | exact News.tl (by assumption) | exact News.tl (News.tl (by assumption))))); intro sd9 k19 k29 tm9 l9 N'; refine' method_inst ?z383k1 ?z383k2 ?z383k3 ?z383k4 ?z383k5 ?z383k6 ?z383k7 ?_; (case z383k1 => k_asm); (case z383k2 => k_asm); (case z383k3 => k_inst); (case z383k4 => k_is); (case z383k5 => k_is); (case z383k6 => k_is); (case z383k7 => k_get); k_whole; clear N')))) | walk1 | (dsimp only; walk1) | (dsimp only [List.nil_append, List.cons_append]; walk1) | (leave1; walk_say "STEP leave1"; try dsimp only)))
        refine' WdPost.mk ?p3F ?p3W ?p3N ?p3s ?p3k
        case p3F => k_asm
        case p3W => assumption
        case p3N => exact News.tl (by assumption)
        case p3s => assumption
        case p3k => exact ⟨⟨by with_unfolding_all rfl, by with_unfolding_all rfl, by with_unfolding_all rfl, by with_unfolding_all rfl⟩, by with_unfolding_all rfl, by omega, by omega, rfl, hKI3.mono (by assumption)⟩
      case q3done =>
        intro m3 T3 ol3 own3 ok3 R3 nw3 h3 tk3 hK3' h03 W3 F3 N3
        obtain ⟨HM3, HO3, hT30, hT31, rfl, hKI3⟩ := hK3'
        w_strict (repeat' (first | (k_unfold; (try dsimp only)) | (k_end; wrow_close) | ((with_reducible show wpAny _ _ (call _ _) _ _ _); first | (with_reducible ((with_reducible show wpAny _ _ (call (Value.ref 213) [_]) _ _ _); k_dflt (apply numbers_use; walk_at "s7"; walk_at "n2"; walk_at "p3"; (case HT => exact ThingsIn.cons (by assumption) .nil); (case hR => exact List.forall_mem_cons.mpr ⟨by k_mem, List.forall_mem_cons.mpr ⟨by k_mem, List.forall_mem_nil _⟩⟩); (case hlen => exact Nat.le_of_ble_eq_true rfl)); intro D' ws' n' h' tk' HI' F' N'; k_dflt (have n229 : @Ne Nat D' 229 := ne_tab N' (List.Mem.head _) (by k_mem)); (try k_sweep))) | (with_reducible ((with_reducible show wpAny _ _ (call (Value.ref 208) [_]) _ _ _); k_dflt (apply thing_call; walk_at "s7"; walk_at "n2"); intro x' dx' od' h' tk' F' N' l1 l2 hT'; (try simp only [List.cons_append, List.nil_append] at N' l1 l2); (try k_lt l1); (try k_lt l2); (try k_sweep))) | (with_reducible ((with_reducible show wpAny _ _ (call (Value.type _) [Value.int _ _]) _ _ _); (rename Fr _ _ _ _ => F'); (rename News _ _ _ _ => N'); (with_unfolding_all refine range1_rows F' N' ?_; intro _ _ _ _ _ _ _ _ _))) | (with_reducible ((with_reducible show wpAny _ _ (call (Value.builtin "len") [Value.ref _]) _ _ _); k_dflt (refine' len_wd ?z409W ?z409N ?z409hm1 ?_; (case z409W => assumption); (case z409N => first | assumption | exact News.tl (by assumption) | exact News.tl (News.tl (by assumption))); (case z409hm1 => assumption); k_whole))) | (with_reducible ((with_reducible show wpAny _ _ (call (Value.ref 153) [_, _]) _ _ _); k_dflt (apply put_back_wd; walk_at "s7"; (case m2 => assumption); (case HT => assumption); (case m3 => assumption); (case HO => assumption); (case hom => assumption); (case hm1 => assumption); (case W => first | assumption | exact Wd.weak (by assumption) (by assumption)); walk_at "n1"); intro nw' h' tk' F' N' W'; (try k_sweep))) | (with_reducible ((with_reducible show wpAny _ _ (call (Value.ref 83) [_, _]) _ _ _); k_dflt (apply push_wd0; walk_at "s7"; (case W => assumption); walk_at "n1"; (case hm1 => assumption); (case hlt => omega)); intro nw' h' tk' F' N' W'; (try k_sweep))) | (with_reducible ((with_reducible show wpAny _ _ (call (Value.ref 201) [_, _]) _ _ _); k_dflt (apply pick_wd; walk_at "s7"; (case W => assumption); walk_at "n1"; (case K => assumption); (case hT0 => omega); (case hT1 => omega); (case hM0 => assumption); (case hM1 => assumption); (case hk0 => omega); (case hk1 => omega)); intro pa' ta' la' vs' ows' n' own' nw' h' tk' F' N' W' m2' m3' HT' HO' ho'; (try k_sweep))) | (with_reducible ((with_reducible show wpAny _ _ (call (Value.builtin _) [Value.ref _, _]) _ _ _); k_dflt (refine' append_wd ?z407F ?z407N ?z407W ?z407hz ?_; (case z407F => k_asm); (case z407W => assumption); (case z407N => first | assumption | exact News.tl (by assumption)); (case z407hz => omega)); intro n' nw' h' F' N' W'; (try k_sweep))) | (with_reducible ((with_reducible show wpAny _ _ (call (Value.type _) [Value.ref _]) _ _ _); k_dflt (refine' copy_wd ?z406F ?z406N ?z406W ?z406hm1 ?_; (case z406F => k_asm); (case z406W => assumption); (case z406N => first | assumption | exact News.tl (by assumption)); (case z406hm1 => assumption)); intro la' ows' n' R' nw' h' F' N' W' hs' ml' HO'; (try k_sweep))) | (with_reducible ((with_reducible show wpAny _ _ (call (Value.ref 146) [_]) _ _ _); k_dflt (apply snapshot_wd; walk_at "s7"; (case W => assumption); walk_at "n1"; (case hm1 => assumption)); intro ta' vs' R' nw' h' tk' F' N' W' hs' mt' HT'; (try k_sweep))) | (with_reducible ((with_reducible show wpAny _ _ (call (Value.ref 213) [_]) _ _ _); k_dflt (apply numbers_wd; walk_at "s7"; (case W => assumption); walk_at "n1"; (case hm1 => assumption)); intro D' ws' n' h' tk' HI' F' N'; (try k_sweep))) | (with_reducible ((with_reducible show wpAny _ _ (call (Value.ref 227) [_, _, _, _]) _ _ _); k_dflt (apply deed_call; walk_at "s7"; (case W => assumption); walk_at "n1"; (case XB => k_asm); (case TB => k_asm); (case CH => assumption); (case hm0 => assumption); (case hm1 => assumption); (case hT0 => omega); (case hT1 => omega); (case hM0 => assumption); (case hM1 => assumption)); intro ol' own' R' nw' h' tk' F' N' hs' W'; (try k_sweep))) | (with_reducible ((with_reducible show wpAny _ _ (call (Value.ref 194) [_, _]) _ _ _); k_dflt (apply draw_wd; walk_at "s7"; (case W => assumption); walk_at "n1"; (case hb0 => decide); (case hb1 => decide); (case hT0 => omega); (case hT1 => omega); (case hM0 => assumption); (case hM1 => assumption)); intro v' t' nw' h' tk' hv0' hv1' F' N' W'; (try k_sweep))) | (with_reducible ((with_reducible show wpAny _ _ (call (Value.ref 194) [_, _]) _ _ _); k_dflt (apply draw_use; walk_at "s7"; walk_at "n2"; (case P1 => walk_at "pk"); (case ho => first | assumption | (with_unfolding_all assumption)); (case P2 => walk_at "pk"); (case hi => assumption); (case hlen => first | assumption | (simp only [List.length_reverse, List.length_map, List.length_take]; omega)); (case hne => walk_at "cne"); (case offd => walk_at "of"); (case offD => walk_at "of"); (case hb0 => decide); (case hb1 => decide); (case hT0 => decide); (case hT1 => decide); (case hM0 => exact (fold_rng _ _ (by decide) (by decide)).1); (case hM1 => exact (fold_rng _ _ (by decide) (by decide)).2)); intro v' t' o' ws' cells' n' t1' t2' h' tk' hD' hv0' hv1' F' N' ho' hi' hl'; (try k_sweep))) | (with_reducible ((with_reducible show wpAny _ _ (call (Value.ref 153) [_, _]) _ _ _); k_dflt (apply put_back_ok; walk_at "s7"; (case N => exact pick4b (by k_asm) (by walk_at "pk") (by walk_at "pk") (by walk_at "pk") (by walk_at "pk")); (case hlen => exact Nat.le_of_ble_eq_true rfl); (case h1 => walk_at "cne"); (case h2 => walk_at "cne"); (case h3 => walk_at "cne"); (case h4 => walk_at "cne"); (case offd => walk_at "of")); intro l' n' h' tk' F' a1 a2 a3 a4 a5 N'; (try dsimp only [AllLt] at a5); (try k_sweep))) | (with_reducible ((with_reducible show wpAny _ _ (call (Value.ref 146) [_]) _ _ _); k_dflt (apply snapshot_ok; walk_at "s7"; walk_at "n3"; (case hlen => exact Nat.le_of_ble_eq_true rfl)); intro t' h' tk' F' a1 a2 a3 a4 N'; (try dsimp only [AllLt] at a4); (try k_sweep))) | (with_reducible ((with_reducible show wpAny _ _ (call (Value.ref 83) [_, _]) _ _ _); k_dflt (apply push_ok; walk_at "s7"; walk_at "n3"; (case h1 => walk_at "cne"); (case h2 => walk_at "cne"); (case h3 => walk_at "cne"); (case offl => walk_at "of"); (case offd => walk_at "of"); (case hlen => exact Nat.le_of_ble_eq_true rfl); (case hm => exact of_decide_eq_true rfl)); intro n' h' tk' F' N'; (try dsimp only [List.nil_append, List.cons_append] at N'); (try k_sweep))) | (with_reducible ((with_reducible show wpAny _ _ (call (Value.builtin "len") [Value.ref _]) _ _ _); k_dflt (refine' my_len_ints ?z404k1 ?z404ki ?z404k2 ?_; (case z404k1 => exact News.isList (by k_asm) (by k_mem)); (case z404ki => assumption); (case z404k2 => ((try simp only [List.length_append, List.length_cons, List.length_nil, List.length_take, List.length_drop, List.length_dropLast]); omega)); intro le'; (try simp only [List.length_take, List.length_cons, List.length_nil] at le'); k_whole))) | (with_reducible ((with_reducible show wpAny _ _ (call (Value.ref 220) [_]) _ _ _); k_dflt (refine wpAny_call ?_; (refine' code_defT ?z403k1 ?z403k2 ?z403k3 ?z403k4 ?z403k5 ?z403kA ?z403kF ?z403kK ?z403k6 ?z403k7 ?z403k8 ?z403k9 ?z403kB ?_ ?z403c2 ?z403c3 ?z403c4 ?z403c5; (case z403kA => exact rfl); (case z403kF => exact rfl); (case z403kK => exact rfl); (case z403k2 => k_asm); (case z403k1 => k_asm); (case z403k3 => k_asm); (case z403k4 => k_asm); (case z403k5 => k_asm); (case z403k6 => k_is); (case z403k7 => k_is); (case z403k8 => k_room); (case z403k9 => exact BindsTo.of_eq rfl); (case z403c5 => decide); (case z403kB => exact locs rfl); (case z403c2 => exact rfl); (case z403c3 => exact rfl); (case z403c4 => exact rfl); k_whole; intro g' L' h' FG' F' N' B' X' T'; (try dsimp only); (try k_lift B'); (try k_fold))))) | (with_reducible ((with_reducible show wpAny _ _ (call (Value.ref 194) [_, _]) _ _ _); k_dflt (refine' draw_use ?z402B ?z402F ?z402X ?z402TP ?z402hk ?z402hdp ?z402hun ?z402N ?z402P1 ?z402P2 ?z402ho ?z402hi ?z402hlen ?z402hne ?z402offd ?z402offD ?z402hb0 ?z402hb1 ?z402hT0 ?z402hT1 ?z402hM0 ?z402hM1 ?_; (case z402B => k_asm); (case z402F => k_asm); (case z402X => k_asm); (case z402TP => k_asm); (case z402hk => first | exact rfl | assumption); (case z402hdp => ktr_room); (case z402hun => ktr_units); (case z402N => k_asm); (case z402P1 => repeat (first | exact Pick.head | apply Pick.tail)); (case z402P2 => repeat (first | exact Pick.head | apply Pick.tail)); (case z402ho => assumption); (case z402hi => assumption); (case z402hlen => assumption); (case z402hne => k_ne); (case z402offd => k_all); (case z402offD => k_all); (case z402hb0 => decide); (case z402hb1 => decide); (case z402hT0 => omega); (case z402hT1 => omega); (case z402hM0 => assumption); (case z402hM1 => assumption)); intro v' t' o' ws' cells' n' t1' t2' h' tk' hD' hv0' hv1' F' N' ho' hi' hl'; (try k_sweep))) | (with_reducible ((with_reducible show wpAny _ _ (call (Value.ref 132) [_, Value.int _ _, Value.int 1 _]) _ _ _); k_dflt (apply rolled_low_use; walk_at "s7"; walk_at "n2"; walk_at "p3"; (case hm2 => omega); (case hm1 => omega); (case hm0 => omega); (case hlen => omega)); intro h' tk' F' N'; (try k_sweep))) | (with_reducible ((with_reducible show wpAny _ _ (call (Value.ref 132) [_, Value.int _ _, Value.int 1 _]) _ _ _); k_dflt (apply rolled_use; walk_at "s7"; walk_at "n2"; walk_at "p3"; (case hm2 => omega); (case hm0 => omega); (case h1 => k_ne); (case h2 => k_ne); (case h3 => k_ne); (case offl => k_all); (case offd => k_all); (case hlen => omega)); intro l' n' h' tk' F' l1 l2 l3 l4 N'; (try simp only [AllLt, and_true] at l4); (try k_sweep))) | (with_reducible ((with_reducible show wpAny _ _ (call (Value.ref 132) [_, Value.int _ _, Value.int 1 _]) _ _ _); k_dflt (refine' split132 ?z401N ?z401P1 ?z401P2 ?z401P3 ?z401sa ?z401sb ?z401sc; (case z401N => k_asm); (case z401P1 => walk_at "pk"); (case z401P2 => walk_at "pk"); (case z401P3 => walk_at "pk"); (case' z401sa => intro hm8 hm9; fail_if_success (exfalso; omega)); (case' z401sb => intro hm8 hm9); (case' z401sc => intro hm9; fail_if_success (exfalso; omega))))) | (with_reducible ((with_reducible show wpAny _ _ (call (Value.ref 90) [_, _]) _ _ _); k_dflt (apply push_all_use; walk_at "s7"; walk_at "n2"; walk_at "p3"; (case P4 => walk_at "pk"); (case hm => walk_at "ln"); (case h1 => k_ne); (case h2 => k_ne); (case h3 => k_ne); (case h4 => first | k_ne | exact Nat.ne_of_gt (by omega)); (case offl => k_all); (case hlen => walk_at "ln"); (case hlen2 => walk_at "ln")); intro n' h' tk' F' N'; (try k_sweep))) | (with_reducible ((with_reducible show wpAny _ _ (call (Value.ref 90) [_, _]) _ _ _); k_dflt (refine' split90 ?z400N ?z400P1 ?z400P2 ?z400P3 ?z400P4 ?z400g1 ?z400g2; (case z400N => k_asm); (case z400P1 => walk_at "pk"); (case z400P2 => walk_at "pk"); (case z400P3 => walk_at "pk"); (case z400P4 => walk_at "pk"); (case' z400g1 => intro hm9; fail_if_success (exfalso; omega)); (case' z400g2 => intro hm9; fail_if_success (exfalso; omega))))) | (with_reducible ((with_reducible show wpAny _ _ (call (Value.ref 52) [_]) _ _ _); k_dflt (apply pserr_call; walk_at "s7"; walk_at "n2"); intro e' d' t' k' h' tk' F' N' l1 l2 l3; (try dsimp only [AllLt] at l1 l2 l3); (try k_sweep))) | (with_reducible ((with_reducible show wpAny _ _ (call (Value.ref 208) [_]) _ _ _); k_dflt (apply thing_call; walk_at "s7"; walk_at "n2"); intro x' dx' od' h' tk' F' N' l1 l2 hT'; (try k_lt l1); (try k_lt l2); (try k_sweep))) | (with_reducible ((with_reducible show wpAny _ _ (call (Value.builtin _) [Value.ref _]) _ _ _); k_dflt (refine' my_pop ?z397F ?z397N ?z397U ?z397e ?z397z ?_; (case z397F => k_asm); (case z397N => k_asm); (case z397U => k_updF); (case z397e => assumption); (case z397z => omega)); intro y' n' h' F' N'; (try dsimp only at N'); (try k_sweep))) | (with_reducible ((with_reducible show wpAny _ _ (call (Value.builtin _) [Value.ref _, Value.ref _]) _ _ _); k_dflt (refine' my_extend ?z396F ?z396N ?z396b ?z396U ?z396z ?_; (case z396F => k_asm); (case z396N => k_asm); (case z396b => k_mem); (case z396U => k_updF); (case z396z => walk_at "sz")); intro n' h' F' N'; (try dsimp only at N'); (try k_sweep))) | (with_reducible ((with_reducible show wpAny _ _ (call (Value.builtin "len") [Value.ref _]) _ _ _); k_dflt (refine' my_len ?z390k1 ?z390k2 ?_; (case z390k1 => exact News.isList (by k_asm) (by k_mem)); (case z390k2 => ((try simp only [List.length_append, List.length_cons, List.length_nil, List.length_take, List.length_drop, List.length_dropLast]); omega)); k_whole))) | (dsimp only [List.nil_append, List.cons_append]; first | (with_reducible ((with_reducible show wpAny _ _ (call (Value.builtin _) [Value.ref _, _]) _ _ _); k_dflt (refine' append_wd ?z412F ?z412N ?z412W ?z412hz ?_; (case z412F => k_asm); (case z412W => assumption); (case z412N => first | assumption | exact News.tl (by assumption)); (case z412hz => omega)); intro n' nw' h' F' N' W'; (try k_sweep))) | (with_reducible ((with_reducible show wpAny _ _ (call (Value.builtin _) [Value.ref _]) _ _ _); k_dflt (refine' my_pop ?z413F ?z413N ?z413U ?z413e ?z413z ?_; (case z413F => k_asm); (case z413N => k_asm); (case z413U => k_updF); (case z413e => assumption); (case z413z => omega)); intro y' n' h' F' N'; (try dsimp only at N'); (try k_sweep))) | (with_reducible ((with_reducible show wpAny _ _ (call (Value.builtin _) [Value.ref _, Value.ref _]) _ _ _); k_dflt (refine' my_extend ?z414F ?z414N ?z414b ?z414U ?z414z ?_; (case z414F => k_asm); (case z414N => k_asm); (case z414b => k_mem); (case z414U => k_updF); (case z414z => walk_at "sz")); intro n' h' F' N'; (try dsimp only at N'); (try k_sweep))))) | ((with_reducible show wpAny _ _ (callWith _ _ _ _ _) _ _ _); first | (with_reducible ((with_reducible show wpAny _ _ (callWith _ (Value.ref (OfNat.ofNat _)) _ _ _) _ _ _); k_dflt (first | refine' callWith_K ?z411k1 ?z411k2 ?_; (case z411k1 => with_reducible assumption); (case z411k2 => k_is); k_whole | (refine' callWith_K0 ?z411k1 ?z411k2 ?_; (case z411k1 => k_in); (case z411k2 => k_is); k_whole; try dsimp only [List.nil_append, List.cons_append]) | (refine' callWith_M0 ?z411k1 ?z411k2 ?_; (case z411k1 => k_meth); (case z411k2 => k_is); k_whole; try dsimp only [List.nil_append, List.cons_append]) | refine' callWith_M ?z411k1 ?z411k2 ?z411k3 ?z411k4 ?_; (case z411k1 => k_asm); (case z411k2 => k_asm); (case z411k3 => k_mem); (case z411k4 => k_is); k_whole))) | (with_reducible ((with_reducible show wpAny _ _ (callWith _ (Value.ref (OfNat.ofNat _)) _ _ _) _ _ _); k_dflt (first | refine' callWith_K ?z391k1 ?z391k2 ?_; (case z391k1 => k_asm); (case z391k2 => k_is); k_whole | refine' callWith_K0 ?z391k1 ?z391k2 ?_; (case z391k1 => k_in); (case z391k2 => k_is); k_whole | (refine' callWith_M0 ?z391k1 ?z391k2 ?_; (case z391k1 => k_meth); (case z391k2 => k_is); k_whole; try dsimp only [List.nil_append, List.cons_append]) | refine' callWith_M ?z391k1 ?z391k2 ?z391k3 ?z391k4 ?_; (case z391k1 => k_asm); (case z391k2 => k_asm); (case z391k3 => k_mem); (case z391k4 => k_is); k_whole)))) | (with_reducible ((with_reducible show wpAny _ _ (eval (PySem.Expr.Lambda _ _ _ _) _) _ _ _); kn_here; k_dflt (refine' kla_eval ?z392d0 ?_; (case z392d0 => exact rfl)); (with_reducible rename TabInv _ _ => TI'); k_dflt (refine' lam_both ?z392F ?z392N ?z392T ?z392C ?z392cd ?z392U TI' ?z392q ?z392R ?z392b ?z392bn ?z392cl ?_; (case z392F => k_asm); (case z392N => k_asm); (case z392T => k_asm); (case z392cd => exact rfl); (case z392C => kn_code); (case z392U => k_updF); (case z392q => exact rfl); (case z392R => (intro q9 hq9; repeat (first | assumption | apply List.mem_cons_of_mem))); (case z392b => assumption); (case z392bn => (repeat' (first | exact True.intro | refine And.intro ⟨_, by (repeat (first | (with_reducible exact List.mem_cons_self) | apply List.mem_cons_of_mem))⟩ ?_))); (case z392cl => exact rfl); k_whole); intro f' c' oc' vs' t' ct' ps' h' tk' F' N' d1' d2' l1 l2 hc' TJ'; (try dsimp only at N'); (try k_lt l1); k_dflt (obtain ⟨_, _, _, _, _, _, _⟩ := hc'))) | ((with_reducible show wpAny _ _ (getAttr _ _ _) _ _ _); first | (with_reducible ((with_reducible show wpAny _ _ (getAttr (Value.ref _) (PySem.Str.ofString "many") _) _ _ _); k_dflt (apply many_wd; walk_at "s7"; (case W => assumption); walk_at "n1"; (case hm1 => assumption)); intro t' h' tk' F' N'; (try k_sweep))) | (with_reducible ((with_reducible show wpAny _ _ (getAttr (Value.ref _) (PySem.Str.ofString "told") _) _ _ _); k_dflt (refine' exc_told (K := hd.heap_1 _) ?z393X (exc_inst ?z393N ?z393m1 ?z393m2 ?z393c ?z393d) ?z393a ?z393b ?z393q ?z393f1 ?z393f2 ?z393f3 ?z393f4 ?z393h ?_; (case z393N => k_asm); (case z393m1 => k_mem); (case z393c => assumption); (case z393d => assumption); (case z393m2 => k_mem); (case z393X => k_in); (case z393a => k_is); (case z393b => k_is); (case z393q => k_is); (case z393f1 => k_is); (case z393f2 => k_is); (case z393f3 => k_is); (case z393f4 => k_get); (case z393h => exact rfl); k_whole)))) | ((with_reducible show wpAny _ _ (subscriptTail _ _ _ _) _ _ _); first | (with_reducible ((with_reducible show wpAny _ _ (subscriptTail _ (PySem.Expr.Slice _ _ none _) (Value.ref _) (Value.ref _)) _ _ _); k_dflt (refine' kmk_slice_lit ?z394F ?z394N ?z394l ?z394p ?z394q ?z394e ?_ ?z394s ?z394t ?z394z; (case z394F => k_asm); (case z394N => k_asm); (case z394l => exact News.isList (by k_asm) (by k_mem)); (case z394p => kmk_part); (case z394q => kmk_part); (case z394e => first | exact pk_all | exact pk_upto (by omega) | exact pk_from (by omega) | exact pk_run (by omega) (by omega) | exact pk_upto_neg (by omega)); (case z394s => with_unfolding_all rfl); (case z394t => kmk_pure); (case z394z => size_fits)); intro D' h' F' N' l1; (try k_lt l1); (try k_sweep)))) | ((with_reducible show wpAny _ _ (binaryOp _ _ _) _ _ _); first | (with_reducible ((with_reducible show wpAny _ _ (binaryOp _ (Value.ref _) (Value.ref _)) _ _ _); k_dflt (refine' my_add ?z395F ?z395N ?z395a ?z395b ?_ ?z395z; (case z395F => k_asm); (case z395N => k_asm); (case z395a => exact News.isList (by k_asm) (by k_mem)); (case z395b => exact News.isList (by k_asm) (by k_mem)); (case z395z => walk_at "sz")); intro D' h' F' N' l1; (try k_lt l1); (try k_sweep)))) | ((with_reducible show wpAny _ _ (compareOp _ _ _) _ _ _); first | (with_reducible ((with_reducible show wpAny _ _ (compareOp CmpOp.NotEq (Value.ref _) (Value.ref _)) _ _ _); k_dflt (refine' ne_wd ?z405N ?z405W ?z405HI ?z405hu ?_; (case z405W => assumption); (case z405HI => assumption); (case z405N => assumption); (case z405hu => ktr_units)))) | (with_reducible ((with_reducible show wpAny _ _ (compareOp CmpOp.Eq (Value.ref _) (Value.ref _)) _ _ _); k_dflt (refine' eq_empty ?z398a ?z398b ?z398e ?z398u ?_; (case z398a => exact News.isList (by k_asm) (by k_mem)); (case z398b => exact News.isList (by k_asm) (by k_mem)); (case z398e => exact rfl); (case z398u => ktr_units))))) | (with_reducible (k_dflt (refine' things_src ?z399hh ?z399F ?z399N ?z399hm ?z399hi ?z399hz ?z399T ?z399hb ?z399bn ?z399elt ?_; (case z399hh => exact rfl); (case z399F => k_asm); (case z399N => k_asm); (case z399hm => k_mem); (case z399hi => assumption); (case z399hz => (try simp only [List.length_take, List.length_cons, List.length_nil]); omega); (case z399hb => assumption); (case z399T => repeat (first | exact Tail.head | apply Tail.tail)); (case z399bn => (repeat' (first | exact True.intro | refine And.intro ⟨_, by (repeat (first | (with_reducible exact List.mem_cons_self) | apply List.mem_cons_of_mem))⟩ ?_))); (case z399elt => (intro v9 t9 I9 oI9 C9 oC9 D9 oD9 m9 h9 tk9 X9 E9 hN9 hx9 F9 N9; (repeat' (first | (k_unfold; (try dsimp only)) | (k_end; wrow_close) | ((with_reducible show wpAny _ _ (call _ _) _ _ _); first | (with_reducible ((with_reducible show wpAny _ _ (call (Value.ref 208) [_]) _ _ _); k_dflt (apply thing_call; walk_at "s7"; walk_at "n2"); intro x' dx' od' h' tk' F' N' l1 l2 hT'; (try simp only [List.cons_append, List.nil_append] at N' l1 l2); (try k_lt l1); (try k_lt l2); (try k_sweep))) | (with_reducible ((with_reducible show wpAny _ _ (call (Value.ref 208) [_]) _ _ _); k_dflt (apply thing_call; walk_at "s7"; walk_at "n2"); intro x' dx' od' h' tk' F' N' l1 l2 hT'; (try k_lt l1); (try k_lt l2); (try k_sweep)))) | walk1 | (dsimp only; walk1) | (dsimp only [List.nil_append, List.cons_append]; walk1) | (leave1; walk_say "STEP leave1"; try dsimp only))); (show ThElt _ _ _ _ _ _ _ _ _ _ _ _ _ _ _); unfold ThElt; exact ⟨_, _, _, _, _, rfl, rfl, by assumption, by assumption, lt3 (by assumption), lt3 (by assumption), by assumption⟩))); intro ys' R' D' h' tk' hT' hs' ho' F' N' l1; (try dsimp only at N'); (try dsimp only at l1); (simp only [List.forall_mem_cons] at l1); (repeat (obtain ⟨_, l1⟩ := l1)); (have o3' := off_at3 ho'); (have hyl' := ThingsIn.length hT'); (simp only [List.length_take, List.length_cons, List.length_nil] at hyl'); (try k_sweep))) | ((with_reducible show wpAny _ _ (getMethod _ _ _) _ _ _); first | (with_reducible ((with_reducible show wpAny _ _ (getMethod (Value.ref _) (PySem.Str.ofString "append") _) _ _ _); k_dflt (refine' method_kp_wd ?z410W ?z410N ?_; (case z410W => assumption); (case z410N => assumption)))) | (with_reducible ((with_reducible show wpAny _ _ (getMethod (Value.ref _) _ _) _ _ _); k_dflt ((first | (refine' look_wd ?z408W ?z408N ?_; (case z408W => assumption); (case z408N => first | assumption | exact News.tl (by assumption) | exact News.tl (News.tl (by assumption)))) | (refine' look_wd0 ?z408W0 ?z408N0 ?_; (case z408W0 => assumption); (case z408N0 => first | assumption | exact News.tl (by assumption) | exact News.tl (News.tl (by assumption))))); intro sd9 k19 k29 tm9 l9 N'; refine' method_inst ?z408k1 ?z408k2 ?z408k3 ?z408k4 ?z408k5 ?z408k6 ?z408k7 ?_; (case z408k1 => k_asm); (case z408k2 => k_asm); (case z408k3 => k_inst); (case z408k4 => k_is); (case z408k5 => k_is); (case z408k6 => k_is); (case z408k7 => k_get); k_whole; clear N')))) | walk1 | (dsimp only; walk1) | (dsimp only [List.nil_append, List.cons_append]; walk1) | (leave1; walk_say "STEP leave1"; try dsimp only)))
        refine' WdPost.mk ?p4F ?p4W ?p4N ?p4s ?p4k
        case p4F => exact F3
        case p4W => exact W3
        case p4N => exact N3
        case p4s => exact fun q hq => h03 q (hs3 q hq)
        case p4k => exact ⟨HM3, HO3, by omega, by omega, _, _, rfl, by simp only [List.length_append, List.length_cons, List.length_nil]; omega, hKI3⟩
    case q2done =>
      intro m4 T4 ol4 own4 ok4 R4 nw4 h4 tk4 hK4 h04 W4 F4 N4
      obtain ⟨HM4, HO4, hT40, hT41, kvs, nk, rfl, hkl, hKI⟩ := hK4
      have F15 := fr_law0_own HM4 HO4 F4
      w_strict (repeat' (first | (k_unfold; (try dsimp only)) | (k_end; wrow_close) | ((with_reducible show wpAny _ _ (call _ _) _ _ _); first | (with_reducible ((with_reducible show wpAny _ _ (call (Value.ref 213) [_]) _ _ _); k_dflt (apply numbers_use; walk_at "s7"; walk_at "n2"; walk_at "p3"; (case HT => exact ThingsIn.cons (by assumption) .nil); (case hR => exact List.forall_mem_cons.mpr ⟨by k_mem, List.forall_mem_cons.mpr ⟨by k_mem, List.forall_mem_nil _⟩⟩); (case hlen => exact Nat.le_of_ble_eq_true rfl)); intro D' ws' n' h' tk' HI' F' N'; k_dflt (have n229 : @Ne Nat D' 229 := ne_tab N' (List.Mem.head _) (by k_mem)); (try k_sweep))) | (with_reducible ((with_reducible show wpAny _ _ (call (Value.ref 208) [_]) _ _ _); k_dflt (apply thing_call; walk_at "s7"; walk_at "n2"); intro x' dx' od' h' tk' F' N' l1 l2 hT'; (try simp only [List.cons_append, List.nil_append] at N' l1 l2); (try k_lt l1); (try k_lt l2); (try k_sweep))) | (with_reducible ((with_reducible show wpAny _ _ (call (Value.type _) [Value.int _ _]) _ _ _); (rename Fr _ _ _ _ => F'); (rename News _ _ _ _ => N'); (with_unfolding_all refine range1_rows F' N' ?_; intro _ _ _ _ _ _ _ _ _))) | (with_reducible ((with_reducible show wpAny _ _ (call (Value.builtin "len") [Value.ref _]) _ _ _); k_dflt (refine' len_wd ?z434W ?z434N ?z434hm1 ?_; (case z434W => assumption); (case z434N => first | assumption | exact News.tl (by assumption) | exact News.tl (News.tl (by assumption))); (case z434hm1 => assumption); k_whole))) | (with_reducible ((with_reducible show wpAny _ _ (call (Value.ref 153) [_, _]) _ _ _); k_dflt (apply put_back_wd; walk_at "s7"; (case m2 => assumption); (case HT => assumption); (case m3 => assumption); (case HO => assumption); (case hom => assumption); (case hm1 => assumption); (case W => first | assumption | exact Wd.weak (by assumption) (by assumption)); walk_at "n1"); intro nw' h' tk' F' N' W'; (try k_sweep))) | (with_reducible ((with_reducible show wpAny _ _ (call (Value.ref 83) [_, _]) _ _ _); k_dflt (apply push_wd0; walk_at "s7"; (case W => assumption); walk_at "n1"; (case hm1 => assumption); (case hlt => omega)); intro nw' h' tk' F' N' W'; (try k_sweep))) | (with_reducible ((with_reducible show wpAny _ _ (call (Value.ref 201) [_, _]) _ _ _); k_dflt (apply pick_wd; walk_at "s7"; (case W => assumption); walk_at "n1"; (case K => assumption); (case hT0 => omega); (case hT1 => omega); (case hM0 => assumption); (case hM1 => assumption); (case hk0 => omega); (case hk1 => omega)); intro pa' ta' la' vs' ows' n' own' nw' h' tk' F' N' W' m2' m3' HT' HO' ho'; (try k_sweep))) | (with_reducible ((with_reducible show wpAny _ _ (call (Value.builtin _) [Value.ref _, _]) _ _ _); k_dflt (refine' append_wd ?z432F ?z432N ?z432W ?z432hz ?_; (case z432F => k_asm); (case z432W => assumption); (case z432N => first | assumption | exact News.tl (by assumption)); (case z432hz => omega)); intro n' nw' h' F' N' W'; (try k_sweep))) | (with_reducible ((with_reducible show wpAny _ _ (call (Value.type _) [Value.ref _]) _ _ _); k_dflt (refine' copy_wd ?z431F ?z431N ?z431W ?z431hm1 ?_; (case z431F => k_asm); (case z431W => assumption); (case z431N => first | assumption | exact News.tl (by assumption)); (case z431hm1 => assumption)); intro la' ows' n' R' nw' h' F' N' W' hs' ml' HO'; (try k_sweep))) | (with_reducible ((with_reducible show wpAny _ _ (call (Value.ref 146) [_]) _ _ _); k_dflt (apply snapshot_wd; walk_at "s7"; (case W => assumption); walk_at "n1"; (case hm1 => assumption)); intro ta' vs' R' nw' h' tk' F' N' W' hs' mt' HT'; (try k_sweep))) | (with_reducible ((with_reducible show wpAny _ _ (call (Value.ref 213) [_]) _ _ _); k_dflt (apply numbers_wd; walk_at "s7"; (case W => assumption); walk_at "n1"; (case hm1 => assumption)); intro D' ws' n' h' tk' HI' F' N'; (try k_sweep))) | (with_reducible ((with_reducible show wpAny _ _ (call (Value.ref 227) [_, _, _, _]) _ _ _); k_dflt (apply deed_call; walk_at "s7"; (case W => assumption); walk_at "n1"; (case XB => k_asm); (case TB => k_asm); (case CH => assumption); (case hm0 => assumption); (case hm1 => assumption); (case hT0 => omega); (case hT1 => omega); (case hM0 => assumption); (case hM1 => assumption)); intro ol' own' R' nw' h' tk' F' N' hs' W'; (try k_sweep))) | (with_reducible ((with_reducible show wpAny _ _ (call (Value.ref 194) [_, _]) _ _ _); k_dflt (apply draw_wd; walk_at "s7"; (case W => assumption); walk_at "n1"; (case hb0 => decide); (case hb1 => decide); (case hT0 => omega); (case hT1 => omega); (case hM0 => assumption); (case hM1 => assumption)); intro v' t' nw' h' tk' hv0' hv1' F' N' W'; (try k_sweep))) | (with_reducible ((with_reducible show wpAny _ _ (call (Value.ref 194) [_, _]) _ _ _); k_dflt (apply draw_use; walk_at "s7"; walk_at "n2"; (case P1 => walk_at "pk"); (case ho => first | assumption | (with_unfolding_all assumption)); (case P2 => walk_at "pk"); (case hi => assumption); (case hlen => first | assumption | (simp only [List.length_reverse, List.length_map, List.length_take]; omega)); (case hne => walk_at "cne"); (case offd => walk_at "of"); (case offD => walk_at "of"); (case hb0 => decide); (case hb1 => decide); (case hT0 => decide); (case hT1 => decide); (case hM0 => exact (fold_rng _ _ (by decide) (by decide)).1); (case hM1 => exact (fold_rng _ _ (by decide) (by decide)).2)); intro v' t' o' ws' cells' n' t1' t2' h' tk' hD' hv0' hv1' F' N' ho' hi' hl'; (try k_sweep))) | (with_reducible ((with_reducible show wpAny _ _ (call (Value.ref 153) [_, _]) _ _ _); k_dflt (apply put_back_ok; walk_at "s7"; (case N => exact pick4b (by k_asm) (by walk_at "pk") (by walk_at "pk") (by walk_at "pk") (by walk_at "pk")); (case hlen => exact Nat.le_of_ble_eq_true rfl); (case h1 => walk_at "cne"); (case h2 => walk_at "cne"); (case h3 => walk_at "cne"); (case h4 => walk_at "cne"); (case offd => walk_at "of")); intro l' n' h' tk' F' a1 a2 a3 a4 a5 N'; (try dsimp only [AllLt] at a5); (try k_sweep))) | (with_reducible ((with_reducible show wpAny _ _ (call (Value.ref 146) [_]) _ _ _); k_dflt (apply snapshot_ok; walk_at "s7"; walk_at "n3"; (case hlen => exact Nat.le_of_ble_eq_true rfl)); intro t' h' tk' F' a1 a2 a3 a4 N'; (try dsimp only [AllLt] at a4); (try k_sweep))) | (with_reducible ((with_reducible show wpAny _ _ (call (Value.ref 83) [_, _]) _ _ _); k_dflt (apply push_ok; walk_at "s7"; walk_at "n3"; (case h1 => walk_at "cne"); (case h2 => walk_at "cne"); (case h3 => walk_at "cne"); (case offl => walk_at "of"); (case offd => walk_at "of"); (case hlen => exact Nat.le_of_ble_eq_true rfl); (case hm => exact of_decide_eq_true rfl)); intro n' h' tk' F' N'; (try dsimp only [List.nil_append, List.cons_append] at N'); (try k_sweep))) | (with_reducible ((with_reducible show wpAny _ _ (call (Value.builtin "len") [Value.ref _]) _ _ _); k_dflt (refine' my_len_ints ?z429k1 ?z429ki ?z429k2 ?_; (case z429k1 => exact News.isList (by k_asm) (by k_mem)); (case z429ki => assumption); (case z429k2 => ((try simp only [List.length_append, List.length_cons, List.length_nil, List.length_take, List.length_drop, List.length_dropLast]); omega)); intro le'; (try simp only [List.length_take, List.length_cons, List.length_nil] at le'); k_whole))) | (with_reducible ((with_reducible show wpAny _ _ (call (Value.ref 220) [_]) _ _ _); k_dflt (refine wpAny_call ?_; (refine' code_defT ?z428k1 ?z428k2 ?z428k3 ?z428k4 ?z428k5 ?z428kA ?z428kF ?z428kK ?z428k6 ?z428k7 ?z428k8 ?z428k9 ?z428kB ?_ ?z428c2 ?z428c3 ?z428c4 ?z428c5; (case z428kA => exact rfl); (case z428kF => exact rfl); (case z428kK => exact rfl); (case z428k2 => k_asm); (case z428k1 => k_asm); (case z428k3 => k_asm); (case z428k4 => k_asm); (case z428k5 => k_asm); (case z428k6 => k_is); (case z428k7 => k_is); (case z428k8 => k_room); (case z428k9 => exact BindsTo.of_eq rfl); (case z428c5 => decide); (case z428kB => exact locs rfl); (case z428c2 => exact rfl); (case z428c3 => exact rfl); (case z428c4 => exact rfl); k_whole; intro g' L' h' FG' F' N' B' X' T'; (try dsimp only); (try k_lift B'); (try k_fold))))) | (with_reducible ((with_reducible show wpAny _ _ (call (Value.ref 194) [_, _]) _ _ _); k_dflt (refine' draw_use ?z427B ?z427F ?z427X ?z427TP ?z427hk ?z427hdp ?z427hun ?z427N ?z427P1 ?z427P2 ?z427ho ?z427hi ?z427hlen ?z427hne ?z427offd ?z427offD ?z427hb0 ?z427hb1 ?z427hT0 ?z427hT1 ?z427hM0 ?z427hM1 ?_; (case z427B => k_asm); (case z427F => k_asm); (case z427X => k_asm); (case z427TP => k_asm); (case z427hk => first | exact rfl | assumption); (case z427hdp => ktr_room); (case z427hun => ktr_units); (case z427N => k_asm); (case z427P1 => repeat (first | exact Pick.head | apply Pick.tail)); (case z427P2 => repeat (first | exact Pick.head | apply Pick.tail)); (case z427ho => assumption); (case z427hi => assumption); (case z427hlen => assumption); (case z427hne => k_ne); (case z427offd => k_all); (case z427offD => k_all); (case z427hb0 => decide); (case z427hb1 => decide); (case z427hT0 => omega); (case z427hT1 => omega); (case z427hM0 => assumption); (case z427hM1 => assumption)); intro v' t' o' ws' cells' n' t1' t2' h' tk' hD' hv0' hv1' F' N' ho' hi' hl'; (try k_sweep))) | (with_reducible ((with_reducible show wpAny _ _ (call (Value.ref 132) [_, Value.int _ _, Value.int 1 _]) _ _ _); k_dflt (apply rolled_low_use; walk_at "s7"; walk_at "n2"; walk_at "p3"; (case hm2 => omega); (case hm1 => omega); (case hm0 => omega); (case hlen => omega)); intro h' tk' F' N'; (try k_sweep))) | (with_reducible ((with_reducible show wpAny _ _ (call (Value.ref 132) [_, Value.int _ _, Value.int 1 _]) _ _ _); k_dflt (apply rolled_use; walk_at "s7"; walk_at "n2"; walk_at "p3"; (case hm2 => omega); (case hm0 => omega); (case h1 => k_ne); (case h2 => k_ne); (case h3 => k_ne); (case offl => k_all); (case offd => k_all); (case hlen => omega)); intro l' n' h' tk' F' l1 l2 l3 l4 N'; (try simp only [AllLt, and_true] at l4); (try k_sweep))) | (with_reducible ((with_reducible show wpAny _ _ (call (Value.ref 132) [_, Value.int _ _, Value.int 1 _]) _ _ _); k_dflt (refine' split132 ?z426N ?z426P1 ?z426P2 ?z426P3 ?z426sa ?z426sb ?z426sc; (case z426N => k_asm); (case z426P1 => walk_at "pk"); (case z426P2 => walk_at "pk"); (case z426P3 => walk_at "pk"); (case' z426sa => intro hm8 hm9; fail_if_success (exfalso; omega)); (case' z426sb => intro hm8 hm9); (case' z426sc => intro hm9; fail_if_success (exfalso; omega))))) | (with_reducible ((with_reducible show wpAny _ _ (call (Value.ref 90) [_, _]) _ _ _); k_dflt (apply push_all_use; walk_at "s7"; walk_at "n2"; walk_at "p3"; (case P4 => walk_at "pk"); (case hm => walk_at "ln"); (case h1 => k_ne); (case h2 => k_ne); (case h3 => k_ne); (case h4 => first | k_ne | exact Nat.ne_of_gt (by omega)); (case offl => k_all); (case hlen => walk_at "ln"); (case hlen2 => walk_at "ln")); intro n' h' tk' F' N'; (try k_sweep))) | (with_reducible ((with_reducible show wpAny _ _ (call (Value.ref 90) [_, _]) _ _ _); k_dflt (refine' split90 ?z425N ?z425P1 ?z425P2 ?z425P3 ?z425P4 ?z425g1 ?z425g2; (case z425N => k_asm); (case z425P1 => walk_at "pk"); (case z425P2 => walk_at "pk"); (case z425P3 => walk_at "pk"); (case z425P4 => walk_at "pk"); (case' z425g1 => intro hm9; fail_if_success (exfalso; omega)); (case' z425g2 => intro hm9; fail_if_success (exfalso; omega))))) | (with_reducible ((with_reducible show wpAny _ _ (call (Value.ref 52) [_]) _ _ _); k_dflt (apply pserr_call; walk_at "s7"; walk_at "n2"); intro e' d' t' k' h' tk' F' N' l1 l2 l3; (try dsimp only [AllLt] at l1 l2 l3); (try k_sweep))) | (with_reducible ((with_reducible show wpAny _ _ (call (Value.ref 208) [_]) _ _ _); k_dflt (apply thing_call; walk_at "s7"; walk_at "n2"); intro x' dx' od' h' tk' F' N' l1 l2 hT'; (try k_lt l1); (try k_lt l2); (try k_sweep))) | (with_reducible ((with_reducible show wpAny _ _ (call (Value.builtin _) [Value.ref _]) _ _ _); k_dflt (refine' my_pop ?z422F ?z422N ?z422U ?z422e ?z422z ?_; (case z422F => k_asm); (case z422N => k_asm); (case z422U => k_updF); (case z422e => assumption); (case z422z => omega)); intro y' n' h' F' N'; (try dsimp only at N'); (try k_sweep))) | (with_reducible ((with_reducible show wpAny _ _ (call (Value.builtin _) [Value.ref _, Value.ref _]) _ _ _); k_dflt (refine' my_extend ?z421F ?z421N ?z421b ?z421U ?z421z ?_; (case z421F => k_asm); (case z421N => k_asm); (case z421b => k_mem); (case z421U => k_updF); (case z421z => walk_at "sz")); intro n' h' F' N'; (try dsimp only at N'); (try k_sweep))) | (with_reducible ((with_reducible show wpAny _ _ (call (Value.builtin "len") [Value.ref _]) _ _ _); k_dflt (refine' my_len ?z415k1 ?z415k2 ?_; (case z415k1 => exact News.isList (by k_asm) (by k_mem)); (case z415k2 => ((try simp only [List.length_append, List.length_cons, List.length_nil, List.length_take, List.length_drop, List.length_dropLast]); omega)); k_whole))) | (dsimp only [List.nil_append, List.cons_append]; first | (with_reducible ((with_reducible show wpAny _ _ (call (Value.builtin _) [Value.ref _, _]) _ _ _); k_dflt (refine' append_wd ?z437F ?z437N ?z437W ?z437hz ?_; (case z437F => k_asm); (case z437W => assumption); (case z437N => first | assumption | exact News.tl (by assumption)); (case z437hz => omega)); intro n' nw' h' F' N' W'; (try k_sweep))) | (with_reducible ((with_reducible show wpAny _ _ (call (Value.builtin _) [Value.ref _]) _ _ _); k_dflt (refine' my_pop ?z438F ?z438N ?z438U ?z438e ?z438z ?_; (case z438F => k_asm); (case z438N => k_asm); (case z438U => k_updF); (case z438e => assumption); (case z438z => omega)); intro y' n' h' F' N'; (try dsimp only at N'); (try k_sweep))) | (with_reducible ((with_reducible show wpAny _ _ (call (Value.builtin _) [Value.ref _, Value.ref _]) _ _ _); k_dflt (refine' my_extend ?z439F ?z439N ?z439b ?z439U ?z439z ?_; (case z439F => k_asm); (case z439N => k_asm); (case z439b => k_mem); (case z439U => k_updF); (case z439z => walk_at "sz")); intro n' h' F' N'; (try dsimp only at N'); (try k_sweep))))) | ((with_reducible show wpAny _ _ (callWith _ _ _ _ _) _ _ _); first | (with_reducible ((with_reducible show wpAny _ _ (callWith _ (Value.ref (OfNat.ofNat _)) _ _ _) _ _ _); k_dflt (first | refine' callWith_K ?z436k1 ?z436k2 ?_; (case z436k1 => with_reducible assumption); (case z436k2 => k_is); k_whole | (refine' callWith_K0 ?z436k1 ?z436k2 ?_; (case z436k1 => k_in); (case z436k2 => k_is); k_whole; try dsimp only [List.nil_append, List.cons_append]) | (refine' callWith_M0 ?z436k1 ?z436k2 ?_; (case z436k1 => k_meth); (case z436k2 => k_is); k_whole; try dsimp only [List.nil_append, List.cons_append]) | refine' callWith_M ?z436k1 ?z436k2 ?z436k3 ?z436k4 ?_; (case z436k1 => k_asm); (case z436k2 => k_asm); (case z436k3 => k_mem); (case z436k4 => k_is); k_whole))) | (with_reducible ((with_reducible show wpAny _ _ (callWith _ (Value.ref (OfNat.ofNat _)) _ _ _) _ _ _); k_dflt (first | refine' callWith_K ?z416k1 ?z416k2 ?_; (case z416k1 => k_asm); (case z416k2 => k_is); k_whole | refine' callWith_K0 ?z416k1 ?z416k2 ?_; (case z416k1 => k_in); (case z416k2 => k_is); k_whole | (refine' callWith_M0 ?z416k1 ?z416k2 ?_; (case z416k1 => k_meth); (case z416k2 => k_is); k_whole; try dsimp only [List.nil_append, List.cons_append]) | refine' callWith_M ?z416k1 ?z416k2 ?z416k3 ?z416k4 ?_; (case z416k1 => k_asm); (case z416k2 => k_asm); (case z416k3 => k_mem); (case z416k4 => k_is); k_whole)))) | (with_reducible ((with_reducible show wpAny _ _ (eval (PySem.Expr.Lambda _ _ _ _) _) _ _ _); kn_here; k_dflt (refine' kla_eval ?z417d0 ?_; (case z417d0 => exact rfl)); (with_reducible rename TabInv _ _ => TI'); k_dflt (refine' lam_both ?z417F ?z417N ?z417T ?z417C ?z417cd ?z417U TI' ?z417q ?z417R ?z417b ?z417bn ?z417cl ?_; (case z417F => k_asm); (case z417N => k_asm); (case z417T => k_asm); (case z417cd => exact rfl); (case z417C => kn_code); (case z417U => k_updF); (case z417q => exact rfl); (case z417R => (intro q9 hq9; repeat (first | assumption | apply List.mem_cons_of_mem))); (case z417b => assumption); (case z417bn => (repeat' (first | exact True.intro | refine And.intro ⟨_, by (repeat (first | (with_reducible exact List.mem_cons_self) | apply List.mem_cons_of_mem))⟩ ?_))); (case z417cl => exact rfl); k_whole); intro f' c' oc' vs' t' ct' ps' h' tk' F' N' d1' d2' l1 l2 hc' TJ'; (try dsimp only at N'); (try k_lt l1); k_dflt (obtain ⟨_, _, _, _, _, _, _⟩ := hc'))) | ((with_reducible show wpAny _ _ (getAttr _ _ _) _ _ _); first | (with_reducible ((with_reducible show wpAny _ _ (getAttr (Value.ref _) (PySem.Str.ofString "many") _) _ _ _); k_dflt (apply many_wd; walk_at "s7"; (case W => assumption); walk_at "n1"; (case hm1 => assumption)); intro t' h' tk' F' N'; (try k_sweep))) | (with_reducible ((with_reducible show wpAny _ _ (getAttr (Value.ref _) (PySem.Str.ofString "told") _) _ _ _); k_dflt (refine' exc_told (K := hd.heap_1 _) ?z418X (exc_inst ?z418N ?z418m1 ?z418m2 ?z418c ?z418d) ?z418a ?z418b ?z418q ?z418f1 ?z418f2 ?z418f3 ?z418f4 ?z418h ?_; (case z418N => k_asm); (case z418m1 => k_mem); (case z418c => assumption); (case z418d => assumption); (case z418m2 => k_mem); (case z418X => k_in); (case z418a => k_is); (case z418b => k_is); (case z418q => k_is); (case z418f1 => k_is); (case z418f2 => k_is); (case z418f3 => k_is); (case z418f4 => k_get); (case z418h => exact rfl); k_whole)))) | ((with_reducible show wpAny _ _ (subscriptTail _ _ _ _) _ _ _); first | (with_reducible ((with_reducible show wpAny _ _ (subscriptTail _ (PySem.Expr.Slice _ _ none _) (Value.ref _) (Value.ref _)) _ _ _); k_dflt (refine' kmk_slice_lit ?z419F ?z419N ?z419l ?z419p ?z419q ?z419e ?_ ?z419s ?z419t ?z419z; (case z419F => k_asm); (case z419N => k_asm); (case z419l => exact News.isList (by k_asm) (by k_mem)); (case z419p => kmk_part); (case z419q => kmk_part); (case z419e => first | exact pk_all | exact pk_upto (by omega) | exact pk_from (by omega) | exact pk_run (by omega) (by omega) | exact pk_upto_neg (by omega)); (case z419s => with_unfolding_all rfl); (case z419t => kmk_pure); (case z419z => size_fits)); intro D' h' F' N' l1; (try k_lt l1); (try k_sweep)))) | ((with_reducible show wpAny _ _ (binaryOp _ _ _) _ _ _); first | (with_reducible ((with_reducible show wpAny _ _ (binaryOp _ (Value.ref _) (Value.ref _)) _ _ _); k_dflt (refine' my_add ?z420F ?z420N ?z420a ?z420b ?_ ?z420z; (case z420F => k_asm); (case z420N => k_asm); (case z420a => exact News.isList (by k_asm) (by k_mem)); (case z420b => exact News.isList (by k_asm) (by k_mem)); (case z420z => walk_at "sz")); intro D' h' F' N' l1; (try k_lt l1); (try k_sweep)))) | ((with_reducible show wpAny _ _ (compareOp _ _ _) _ _ _); first | (with_reducible ((with_reducible show wpAny _ _ (compareOp CmpOp.NotEq (Value.ref _) (Value.ref _)) _ _ _); k_dflt (refine' ne_wd ?z430N ?z430W ?z430HI ?z430hu ?_; (case z430W => assumption); (case z430HI => assumption); (case z430N => assumption); (case z430hu => ktr_units)))) | (with_reducible ((with_reducible show wpAny _ _ (compareOp CmpOp.Eq (Value.ref _) (Value.ref _)) _ _ _); k_dflt (refine' eq_empty ?z423a ?z423b ?z423e ?z423u ?_; (case z423a => exact News.isList (by k_asm) (by k_mem)); (case z423b => exact News.isList (by k_asm) (by k_mem)); (case z423e => exact rfl); (case z423u => ktr_units))))) | (with_reducible (k_dflt (refine' things_src ?z424hh ?z424F ?z424N ?z424hm ?z424hi ?z424hz ?z424T ?z424hb ?z424bn ?z424elt ?_; (case z424hh => exact rfl); (case z424F => k_asm); (case z424N => k_asm); (case z424hm => k_mem); (case z424hi => assumption); (case z424hz => (try simp only [List.length_take, List.length_cons, List.length_nil]); omega); (case z424hb => assumption); (case z424T => repeat (first | exact Tail.head | apply Tail.tail)); (case z424bn => (repeat' (first | exact True.intro | refine And.intro ⟨_, by (repeat (first | (with_reducible exact List.mem_cons_self) | apply List.mem_cons_of_mem))⟩ ?_))); (case z424elt => (intro v9 t9 I9 oI9 C9 oC9 D9 oD9 m9 h9 tk9 X9 E9 hN9 hx9 F9 N9; (repeat' (first | (k_unfold; (try dsimp only)) | (k_end; wrow_close) | ((with_reducible show wpAny _ _ (call _ _) _ _ _); first | (with_reducible ((with_reducible show wpAny _ _ (call (Value.ref 208) [_]) _ _ _); k_dflt (apply thing_call; walk_at "s7"; walk_at "n2"); intro x' dx' od' h' tk' F' N' l1 l2 hT'; (try simp only [List.cons_append, List.nil_append] at N' l1 l2); (try k_lt l1); (try k_lt l2); (try k_sweep))) | (with_reducible ((with_reducible show wpAny _ _ (call (Value.ref 208) [_]) _ _ _); k_dflt (apply thing_call; walk_at "s7"; walk_at "n2"); intro x' dx' od' h' tk' F' N' l1 l2 hT'; (try k_lt l1); (try k_lt l2); (try k_sweep)))) | walk1 | (dsimp only; walk1) | (dsimp only [List.nil_append, List.cons_append]; walk1) | (leave1; walk_say "STEP leave1"; try dsimp only))); (show ThElt _ _ _ _ _ _ _ _ _ _ _ _ _ _ _); unfold ThElt; exact ⟨_, _, _, _, _, rfl, rfl, by assumption, by assumption, lt3 (by assumption), lt3 (by assumption), by assumption⟩))); intro ys' R' D' h' tk' hT' hs' ho' F' N' l1; (try dsimp only at N'); (try dsimp only at l1); (simp only [List.forall_mem_cons] at l1); (repeat (obtain ⟨_, l1⟩ := l1)); (have o3' := off_at3 ho'); (have hyl' := ThingsIn.length hT'); (simp only [List.length_take, List.length_cons, List.length_nil] at hyl'); (try k_sweep))) | ((with_reducible show wpAny _ _ (getMethod _ _ _) _ _ _); first | (with_reducible ((with_reducible show wpAny _ _ (getMethod (Value.ref _) (PySem.Str.ofString "append") _) _ _ _); k_dflt (refine' method_kp_wd ?z435W ?z435N ?_; (case z435W => assumption); (case z435N => assumption)))) | (with_reducible ((with_reducible show wpAny _ _ (getMethod (Value.ref _) _ _) _ _ _); k_dflt ((first | (refine' look_wd ?z433W ?z433N ?_; (case z433W => assumption); (case z433N => first | assumption | exact News.tl (by assumption) | exact News.tl (News.tl (by assumption)))) | (refine' look_wd0 ?z433W0 ?z433N0 ?_; (case z433W0 => assumption); (case z433N0 => first | assumption | exact News.tl (by assumption) | exact News.tl (News.tl (by assumption))))); intro sd9 k19 k29 tm9 l9 N'; refine' method_inst ?z433k1 ?z433k2 ?z433k3 ?z433k4 ?z433k5 ?z433k6 ?z433k7 ?_; (case z433k1 => k_asm); (case z433k2 => k_asm); (case z433k3 => k_inst); (case z433k4 => k_is); (case z433k5 => k_is); (case z433k6 => k_is); (case z433k7 => k_get); k_whole; clear N')))) | walk1 | (dsimp only; walk1) | (dsimp only [List.nil_append, List.cons_append]; walk1) | (leave1; walk_say "STEP leave1"; try dsimp only)))
      unfold Stop
      with_reducible rename Fr _ _ _ _ => F16
      with_reducible rename News _ _ _ _ => N16
      w_strict (refine' wd_range (R0 := [_, _]) (n := 4) (K3 w d it kp most tmm kvs nk) K3.keeps ?q5hh ?q5hr ?q5hs ?q5hn ?q5F ?q5N W4 h04 ?q5hk ?q5turn ?q5done; (case q5hh => exact rfl); (case q5hr => assumption); (case q5hs => decide); (case q5hn => decide); (case q5F => exact F16); (case q5N => exact N16); (case q5hk => exact ⟨⟨by with_unfolding_all rfl, by with_unfolding_all rfl, by with_unfolding_all rfl, by with_unfolding_all rfl⟩, by omega, by omega, rfl, hKI⟩))
      case q5turn =>
        intro i5 k5 t5 m5 T5 ol5 own5 ok5 R5 nw5 h5 tk5 hi5 h05 hK5 W5 F5 N5
        obtain ⟨HM5, hT50, hT51, rfl, hKI5⟩ := hK5
        have F17 := fr_law HM5 F5
        w_strict (repeat' (first | (k_unfold; (try dsimp only)) | (k_end; wrow_close) | ((with_reducible show wpAny _ _ (call _ _) _ _ _); first | (with_reducible ((with_reducible show wpAny _ _ (call (Value.ref 213) [_]) _ _ _); k_dflt (apply numbers_use; walk_at "s7"; walk_at "n2"; walk_at "p3"; (case HT => exact ThingsIn.cons (by assumption) .nil); (case hR => exact List.forall_mem_cons.mpr ⟨by k_mem, List.forall_mem_cons.mpr ⟨by k_mem, List.forall_mem_nil _⟩⟩); (case hlen => exact Nat.le_of_ble_eq_true rfl)); intro D' ws' n' h' tk' HI' F' N'; k_dflt (have n229 : @Ne Nat D' 229 := ne_tab N' (List.Mem.head _) (by k_mem)); (try k_sweep))) | (with_reducible ((with_reducible show wpAny _ _ (call (Value.ref 208) [_]) _ _ _); k_dflt (apply thing_call; walk_at "s7"; walk_at "n2"); intro x' dx' od' h' tk' F' N' l1 l2 hT'; (try simp only [List.cons_append, List.nil_append] at N' l1 l2); (try k_lt l1); (try k_lt l2); (try k_sweep))) | (with_reducible ((with_reducible show wpAny _ _ (call (Value.type _) [Value.int _ _]) _ _ _); (rename Fr _ _ _ _ => F'); (rename News _ _ _ _ => N'); (with_unfolding_all refine range1_rows F' N' ?_; intro _ _ _ _ _ _ _ _ _))) | (with_reducible ((with_reducible show wpAny _ _ (call (Value.builtin "len") [Value.ref _]) _ _ _); k_dflt (refine' len_wd ?z459W ?z459N ?z459hm1 ?_; (case z459W => assumption); (case z459N => first | assumption | exact News.tl (by assumption) | exact News.tl (News.tl (by assumption))); (case z459hm1 => assumption); k_whole))) | (with_reducible ((with_reducible show wpAny _ _ (call (Value.ref 153) [_, _]) _ _ _); k_dflt (apply put_back_wd; walk_at "s7"; (case m2 => assumption); (case HT => assumption); (case m3 => assumption); (case HO => assumption); (case hom => assumption); (case hm1 => assumption); (case W => first | assumption | exact Wd.weak (by assumption) (by assumption)); walk_at "n1"); intro nw' h' tk' F' N' W'; (try k_sweep))) | (with_reducible ((with_reducible show wpAny _ _ (call (Value.ref 83) [_, _]) _ _ _); k_dflt (apply push_wd0; walk_at "s7"; (case W => assumption); walk_at "n1"; (case hm1 => assumption); (case hlt => omega)); intro nw' h' tk' F' N' W'; (try k_sweep))) | (with_reducible ((with_reducible show wpAny _ _ (call (Value.ref 201) [_, _]) _ _ _); k_dflt (apply pick_wd; walk_at "s7"; (case W => assumption); walk_at "n1"; (case K => assumption); (case hT0 => omega); (case hT1 => omega); (case hM0 => assumption); (case hM1 => assumption); (case hk0 => omega); (case hk1 => omega)); intro pa' ta' la' vs' ows' n' own' nw' h' tk' F' N' W' m2' m3' HT' HO' ho'; (try k_sweep))) | (with_reducible ((with_reducible show wpAny _ _ (call (Value.builtin _) [Value.ref _, _]) _ _ _); k_dflt (refine' append_wd ?z457F ?z457N ?z457W ?z457hz ?_; (case z457F => k_asm); (case z457W => assumption); (case z457N => first | assumption | exact News.tl (by assumption)); (case z457hz => omega)); intro n' nw' h' F' N' W'; (try k_sweep))) | (with_reducible ((with_reducible show wpAny _ _ (call (Value.type _) [Value.ref _]) _ _ _); k_dflt (refine' copy_wd ?z456F ?z456N ?z456W ?z456hm1 ?_; (case z456F => k_asm); (case z456W => assumption); (case z456N => first | assumption | exact News.tl (by assumption)); (case z456hm1 => assumption)); intro la' ows' n' R' nw' h' F' N' W' hs' ml' HO'; (try k_sweep))) | (with_reducible ((with_reducible show wpAny _ _ (call (Value.ref 146) [_]) _ _ _); k_dflt (apply snapshot_wd; walk_at "s7"; (case W => assumption); walk_at "n1"; (case hm1 => assumption)); intro ta' vs' R' nw' h' tk' F' N' W' hs' mt' HT'; (try k_sweep))) | (with_reducible ((with_reducible show wpAny _ _ (call (Value.ref 213) [_]) _ _ _); k_dflt (apply numbers_wd; walk_at "s7"; (case W => assumption); walk_at "n1"; (case hm1 => assumption)); intro D' ws' n' h' tk' HI' F' N'; (try k_sweep))) | (with_reducible ((with_reducible show wpAny _ _ (call (Value.ref 227) [_, _, _, _]) _ _ _); k_dflt (apply deed_call; walk_at "s7"; (case W => assumption); walk_at "n1"; (case XB => k_asm); (case TB => k_asm); (case CH => assumption); (case hm0 => assumption); (case hm1 => assumption); (case hT0 => omega); (case hT1 => omega); (case hM0 => assumption); (case hM1 => assumption)); intro ol' own' R' nw' h' tk' F' N' hs' W'; (try k_sweep))) | (with_reducible ((with_reducible show wpAny _ _ (call (Value.ref 194) [_, _]) _ _ _); k_dflt (apply draw_wd; walk_at "s7"; (case W => assumption); walk_at "n1"; (case hb0 => decide); (case hb1 => decide); (case hT0 => omega); (case hT1 => omega); (case hM0 => assumption); (case hM1 => assumption)); intro v' t' nw' h' tk' hv0' hv1' F' N' W'; (try k_sweep))) | (with_reducible ((with_reducible show wpAny _ _ (call (Value.ref 194) [_, _]) _ _ _); k_dflt (apply draw_use; walk_at "s7"; walk_at "n2"; (case P1 => walk_at "pk"); (case ho => first | assumption | (with_unfolding_all assumption)); (case P2 => walk_at "pk"); (case hi => assumption); (case hlen => first | assumption | (simp only [List.length_reverse, List.length_map, List.length_take]; omega)); (case hne => walk_at "cne"); (case offd => walk_at "of"); (case offD => walk_at "of"); (case hb0 => decide); (case hb1 => decide); (case hT0 => decide); (case hT1 => decide); (case hM0 => exact (fold_rng _ _ (by decide) (by decide)).1); (case hM1 => exact (fold_rng _ _ (by decide) (by decide)).2)); intro v' t' o' ws' cells' n' t1' t2' h' tk' hD' hv0' hv1' F' N' ho' hi' hl'; (try k_sweep))) | (with_reducible ((with_reducible show wpAny _ _ (call (Value.ref 153) [_, _]) _ _ _); k_dflt (apply put_back_ok; walk_at "s7"; (case N => exact pick4b (by k_asm) (by walk_at "pk") (by walk_at "pk") (by walk_at "pk") (by walk_at "pk")); (case hlen => exact Nat.le_of_ble_eq_true rfl); (case h1 => walk_at "cne"); (case h2 => walk_at "cne"); (case h3 => walk_at "cne"); (case h4 => walk_at "cne"); (case offd => walk_at "of")); intro l' n' h' tk' F' a1 a2 a3 a4 a5 N'; (try dsimp only [AllLt] at a5); (try k_sweep))) | (with_reducible ((with_reducible show wpAny _ _ (call (Value.ref 146) [_]) _ _ _); k_dflt (apply snapshot_ok; walk_at "s7"; walk_at "n3"; (case hlen => exact Nat.le_of_ble_eq_true rfl)); intro t' h' tk' F' a1 a2 a3 a4 N'; (try dsimp only [AllLt] at a4); (try k_sweep))) | (with_reducible ((with_reducible show wpAny _ _ (call (Value.ref 83) [_, _]) _ _ _); k_dflt (apply push_ok; walk_at "s7"; walk_at "n3"; (case h1 => walk_at "cne"); (case h2 => walk_at "cne"); (case h3 => walk_at "cne"); (case offl => walk_at "of"); (case offd => walk_at "of"); (case hlen => exact Nat.le_of_ble_eq_true rfl); (case hm => exact of_decide_eq_true rfl)); intro n' h' tk' F' N'; (try dsimp only [List.nil_append, List.cons_append] at N'); (try k_sweep))) | (with_reducible ((with_reducible show wpAny _ _ (call (Value.builtin "len") [Value.ref _]) _ _ _); k_dflt (refine' my_len_ints ?z454k1 ?z454ki ?z454k2 ?_; (case z454k1 => exact News.isList (by k_asm) (by k_mem)); (case z454ki => assumption); (case z454k2 => ((try simp only [List.length_append, List.length_cons, List.length_nil, List.length_take, List.length_drop, List.length_dropLast]); omega)); intro le'; (try simp only [List.length_take, List.length_cons, List.length_nil] at le'); k_whole))) | (with_reducible ((with_reducible show wpAny _ _ (call (Value.ref 220) [_]) _ _ _); k_dflt (refine wpAny_call ?_; (refine' code_defT ?z453k1 ?z453k2 ?z453k3 ?z453k4 ?z453k5 ?z453kA ?z453kF ?z453kK ?z453k6 ?z453k7 ?z453k8 ?z453k9 ?z453kB ?_ ?z453c2 ?z453c3 ?z453c4 ?z453c5; (case z453kA => exact rfl); (case z453kF => exact rfl); (case z453kK => exact rfl); (case z453k2 => k_asm); (case z453k1 => k_asm); (case z453k3 => k_asm); (case z453k4 => k_asm); (case z453k5 => k_asm); (case z453k6 => k_is); (case z453k7 => k_is); (case z453k8 => k_room); (case z453k9 => exact BindsTo.of_eq rfl); (case z453c5 => decide); (case z453kB => exact locs rfl); (case z453c2 => exact rfl); (case z453c3 => exact rfl); (case z453c4 => exact rfl); k_whole; intro g' L' h' FG' F' N' B' X' T'; (try dsimp only); (try k_lift B'); (try k_fold))))) | (with_reducible ((with_reducible show wpAny _ _ (call (Value.ref 194) [_, _]) _ _ _); k_dflt (refine' draw_use ?z452B ?z452F ?z452X ?z452TP ?z452hk ?z452hdp ?z452hun ?z452N ?z452P1 ?z452P2 ?z452ho ?z452hi ?z452hlen ?z452hne ?z452offd ?z452offD ?z452hb0 ?z452hb1 ?z452hT0 ?z452hT1 ?z452hM0 ?z452hM1 ?_; (case z452B => k_asm); (case z452F => k_asm); (case z452X => k_asm); (case z452TP => k_asm); (case z452hk => first | exact rfl | assumption); (case z452hdp => ktr_room); (case z452hun => ktr_units); (case z452N => k_asm); (case z452P1 => repeat (first | exact Pick.head | apply Pick.tail)); (case z452P2 => repeat (first | exact Pick.head | apply Pick.tail)); (case z452ho => assumption); (case z452hi => assumption); (case z452hlen => assumption); (case z452hne => k_ne); (case z452offd => k_all); (case z452offD => k_all); (case z452hb0 => decide); (case z452hb1 => decide); (case z452hT0 => omega); (case z452hT1 => omega); (case z452hM0 => assumption); (case z452hM1 => assumption)); intro v' t' o' ws' cells' n' t1' t2' h' tk' hD' hv0' hv1' F' N' ho' hi' hl'; (try k_sweep))) | (with_reducible ((with_reducible show wpAny _ _ (call (Value.ref 132) [_, Value.int _ _, Value.int 1 _]) _ _ _); k_dflt (apply rolled_low_use; walk_at "s7"; walk_at "n2"; walk_at "p3"; (case hm2 => omega); (case hm1 => omega); (case hm0 => omega); (case hlen => omega)); intro h' tk' F' N'; (try k_sweep))) | (with_reducible ((with_reducible show wpAny _ _ (call (Value.ref 132) [_, Value.int _ _, Value.int 1 _]) _ _ _); k_dflt (apply rolled_use; walk_at "s7"; walk_at "n2"; walk_at "p3"; (case hm2 => omega); (case hm0 => omega); (case h1 => k_ne); (case h2 => k_ne); (case h3 => k_ne); (case offl => k_all); (case offd => k_all); (case hlen => omega)); intro l' n' h' tk' F' l1 l2 l3 l4 N'; (try simp only [AllLt, and_true] at l4); (try k_sweep))) | (with_reducible ((with_reducible show wpAny _ _ (call (Value.ref 132) [_, Value.int _ _, Value.int 1 _]) _ _ _); k_dflt (refine' split132 ?z451N ?z451P1 ?z451P2 ?z451P3 ?z451sa ?z451sb ?z451sc; (case z451N => k_asm); (case z451P1 => walk_at "pk"); (case z451P2 => walk_at "pk"); (case z451P3 => walk_at "pk"); (case' z451sa => intro hm8 hm9; fail_if_success (exfalso; omega)); (case' z451sb => intro hm8 hm9); (case' z451sc => intro hm9; fail_if_success (exfalso; omega))))) | (with_reducible ((with_reducible show wpAny _ _ (call (Value.ref 90) [_, _]) _ _ _); k_dflt (apply push_all_use; walk_at "s7"; walk_at "n2"; walk_at "p3"; (case P4 => walk_at "pk"); (case hm => walk_at "ln"); (case h1 => k_ne); (case h2 => k_ne); (case h3 => k_ne); (case h4 => first | k_ne | exact Nat.ne_of_gt (by omega)); (case offl => k_all); (case hlen => walk_at "ln"); (case hlen2 => walk_at "ln")); intro n' h' tk' F' N'; (try k_sweep))) | (with_reducible ((with_reducible show wpAny _ _ (call (Value.ref 90) [_, _]) _ _ _); k_dflt (refine' split90 ?z450N ?z450P1 ?z450P2 ?z450P3 ?z450P4 ?z450g1 ?z450g2; (case z450N => k_asm); (case z450P1 => walk_at "pk"); (case z450P2 => walk_at "pk"); (case z450P3 => walk_at "pk"); (case z450P4 => walk_at "pk"); (case' z450g1 => intro hm9; fail_if_success (exfalso; omega)); (case' z450g2 => intro hm9; fail_if_success (exfalso; omega))))) | (with_reducible ((with_reducible show wpAny _ _ (call (Value.ref 52) [_]) _ _ _); k_dflt (apply pserr_call; walk_at "s7"; walk_at "n2"); intro e' d' t' k' h' tk' F' N' l1 l2 l3; (try dsimp only [AllLt] at l1 l2 l3); (try k_sweep))) | (with_reducible ((with_reducible show wpAny _ _ (call (Value.ref 208) [_]) _ _ _); k_dflt (apply thing_call; walk_at "s7"; walk_at "n2"); intro x' dx' od' h' tk' F' N' l1 l2 hT'; (try k_lt l1); (try k_lt l2); (try k_sweep))) | (with_reducible ((with_reducible show wpAny _ _ (call (Value.builtin _) [Value.ref _]) _ _ _); k_dflt (refine' my_pop ?z447F ?z447N ?z447U ?z447e ?z447z ?_; (case z447F => k_asm); (case z447N => k_asm); (case z447U => k_updF); (case z447e => assumption); (case z447z => omega)); intro y' n' h' F' N'; (try dsimp only at N'); (try k_sweep))) | (with_reducible ((with_reducible show wpAny _ _ (call (Value.builtin _) [Value.ref _, Value.ref _]) _ _ _); k_dflt (refine' my_extend ?z446F ?z446N ?z446b ?z446U ?z446z ?_; (case z446F => k_asm); (case z446N => k_asm); (case z446b => k_mem); (case z446U => k_updF); (case z446z => walk_at "sz")); intro n' h' F' N'; (try dsimp only at N'); (try k_sweep))) | (with_reducible ((with_reducible show wpAny _ _ (call (Value.builtin "len") [Value.ref _]) _ _ _); k_dflt (refine' my_len ?z440k1 ?z440k2 ?_; (case z440k1 => exact News.isList (by k_asm) (by k_mem)); (case z440k2 => ((try simp only [List.length_append, List.length_cons, List.length_nil, List.length_take, List.length_drop, List.length_dropLast]); omega)); k_whole))) | (dsimp only [List.nil_append, List.cons_append]; first | (with_reducible ((with_reducible show wpAny _ _ (call (Value.builtin _) [Value.ref _, _]) _ _ _); k_dflt (refine' append_wd ?z462F ?z462N ?z462W ?z462hz ?_; (case z462F => k_asm); (case z462W => assumption); (case z462N => first | assumption | exact News.tl (by assumption)); (case z462hz => omega)); intro n' nw' h' F' N' W'; (try k_sweep))) | (with_reducible ((with_reducible show wpAny _ _ (call (Value.builtin _) [Value.ref _]) _ _ _); k_dflt (refine' my_pop ?z463F ?z463N ?z463U ?z463e ?z463z ?_; (case z463F => k_asm); (case z463N => k_asm); (case z463U => k_updF); (case z463e => assumption); (case z463z => omega)); intro y' n' h' F' N'; (try dsimp only at N'); (try k_sweep))) | (with_reducible ((with_reducible show wpAny _ _ (call (Value.builtin _) [Value.ref _, Value.ref _]) _ _ _); k_dflt (refine' my_extend ?z464F ?z464N ?z464b ?z464U ?z464z ?_; (case z464F => k_asm); (case z464N => k_asm); (case z464b => k_mem); (case z464U => k_updF); (case z464z => walk_at "sz")); intro n' h' F' N'; (try dsimp only at N'); (try k_sweep))))) | ((with_reducible show wpAny _ _ (callWith _ _ _ _ _) _ _ _); first | (with_reducible ((with_reducible show wpAny _ _ (callWith _ (Value.ref (OfNat.ofNat _)) _ _ _) _ _ _); k_dflt (first | refine' callWith_K ?z461k1 ?z461k2 ?_; (case z461k1 => with_reducible assumption); (case z461k2 => k_is); k_whole | (refine' callWith_K0 ?z461k1 ?z461k2 ?_; (case z461k1 => k_in); (case z461k2 => k_is); k_whole; try dsimp only [List.nil_append, List.cons_append]) | (refine' callWith_M0 ?z461k1 ?z461k2 ?_; (case z461k1 => k_meth); (case z461k2 => k_is); k_whole; try dsimp only [List.nil_append, List.cons_append]) | refine' callWith_M ?z461k1 ?z461k2 ?z461k3 ?z461k4 ?_; (case z461k1 => k_asm); (case z461k2 => k_asm); (case z461k3 => k_mem); (case z461k4 => k_is); k_whole))) | (with_reducible ((with_reducible show wpAny _ _ (callWith _ (Value.ref (OfNat.ofNat _)) _ _ _) _ _ _); k_dflt (first | refine' callWith_K ?z441k1 ?z441k2 ?_; (case z441k1 => k_asm); (case z441k2 => k_is); k_whole | refine' callWith_K0 ?z441k1 ?z441k2 ?_; (case z441k1 => k_in); (case z441k2 => k_is); k_whole | (refine' callWith_M0 ?z441k1 ?z441k2 ?_; (case z441k1 => k_meth); (case z441k2 => k_is); k_whole; try dsimp only [List.nil_append, List.cons_append]) | refine' callWith_M ?z441k1 ?z441k2 ?z441k3 ?z441k4 ?_; (case z441k1 => k_asm); (case z441k2 => k_asm); (case z441k3 => k_mem); (case z441k4 => k_is); k_whole)))) | (with_reducible ((with_reducible show wpAny _ _ (eval (PySem.Expr.Lambda _ _ _ _) _) _ _ _); kn_here; k_dflt (refine' kla_eval ?z442d0 ?_; (case z442d0 => exact rfl)); (with_reducible rename TabInv _ _ => TI'); k_dflt (refine' lam_both ?z442F ?z442N ?z442T ?z442C ?z442cd ?z442U TI' ?z442q ?z442R ?z442b ?z442bn ?z442cl ?_; (case z442F => k_asm); (case z442N => k_asm); (case z442T => k_asm); (case z442cd => exact rfl); (case z442C => kn_code); (case z442U => k_updF); (case z442q => exact rfl); (case z442R => (intro q9 hq9; repeat (first | assumption | apply List.mem_cons_of_mem))); (case z442b => assumption); (case z442bn => (repeat' (first | exact True.intro | refine And.intro ⟨_, by (repeat (first | (with_reducible exact List.mem_cons_self) | apply List.mem_cons_of_mem))⟩ ?_))); (case z442cl => exact rfl); k_whole); intro f' c' oc' vs' t' ct' ps' h' tk' F' N' d1' d2' l1 l2 hc' TJ'; (try dsimp only at N'); (try k_lt l1); k_dflt (obtain ⟨_, _, _, _, _, _, _⟩ := hc'))) | ((with_reducible show wpAny _ _ (getAttr _ _ _) _ _ _); first | (with_reducible ((with_reducible show wpAny _ _ (getAttr (Value.ref _) (PySem.Str.ofString "many") _) _ _ _); k_dflt (apply many_wd; walk_at "s7"; (case W => assumption); walk_at "n1"; (case hm1 => assumption)); intro t' h' tk' F' N'; (try k_sweep))) | (with_reducible ((with_reducible show wpAny _ _ (getAttr (Value.ref _) (PySem.Str.ofString "told") _) _ _ _); k_dflt (refine' exc_told (K := hd.heap_1 _) ?z443X (exc_inst ?z443N ?z443m1 ?z443m2 ?z443c ?z443d) ?z443a ?z443b ?z443q ?z443f1 ?z443f2 ?z443f3 ?z443f4 ?z443h ?_; (case z443N => k_asm); (case z443m1 => k_mem); (case z443c => assumption); (case z443d => assumption); (case z443m2 => k_mem); (case z443X => k_in); (case z443a => k_is); (case z443b => k_is); (case z443q => k_is); (case z443f1 => k_is); (case z443f2 => k_is); (case z443f3 => k_is); (case z443f4 => k_get); (case z443h => exact rfl); k_whole)))) | ((with_reducible show wpAny _ _ (subscriptTail _ _ _ _) _ _ _); first | (with_reducible ((with_reducible show wpAny _ _ (subscriptTail _ (PySem.Expr.Slice _ _ none _) (Value.ref _) (Value.ref _)) _ _ _); k_dflt (refine' kmk_slice_lit ?z444F ?z444N ?z444l ?z444p ?z444q ?z444e ?_ ?z444s ?z444t ?z444z; (case z444F => k_asm); (case z444N => k_asm); (case z444l => exact News.isList (by k_asm) (by k_mem)); (case z444p => kmk_part); (case z444q => kmk_part); (case z444e => first | exact pk_all | exact pk_upto (by omega) | exact pk_from (by omega) | exact pk_run (by omega) (by omega) | exact pk_upto_neg (by omega)); (case z444s => with_unfolding_all rfl); (case z444t => kmk_pure); (case z444z => size_fits)); intro D' h' F' N' l1; (try k_lt l1); (try k_sweep)))) | ((with_reducible show wpAny _ _ (binaryOp _ _ _) _ _ _); first | (with_reducible ((with_reducible show wpAny _ _ (binaryOp _ (Value.ref _) (Value.ref _)) _ _ _); k_dflt (refine' my_add ?z445F ?z445N ?z445a ?z445b ?_ ?z445z; (case z445F => k_asm); (case z445N => k_asm); (case z445a => exact News.isList (by k_asm) (by k_mem)); (case z445b => exact News.isList (by k_asm) (by k_mem)); (case z445z => walk_at "sz")); intro D' h' F' N' l1; (try k_lt l1); (try k_sweep)))) | ((with_reducible show wpAny _ _ (compareOp _ _ _) _ _ _); first | (with_reducible ((with_reducible show wpAny _ _ (compareOp CmpOp.NotEq (Value.ref _) (Value.ref _)) _ _ _); k_dflt (refine' ne_wd ?z455N ?z455W ?z455HI ?z455hu ?_; (case z455W => assumption); (case z455HI => assumption); (case z455N => assumption); (case z455hu => ktr_units)))) | (with_reducible ((with_reducible show wpAny _ _ (compareOp CmpOp.Eq (Value.ref _) (Value.ref _)) _ _ _); k_dflt (refine' eq_empty ?z448a ?z448b ?z448e ?z448u ?_; (case z448a => exact News.isList (by k_asm) (by k_mem)); (case z448b => exact News.isList (by k_asm) (by k_mem)); (case z448e => exact rfl); (case z448u => ktr_units))))) | (with_reducible (k_dflt (refine' things_src ?z449hh ?z449F ?z449N ?z449hm ?z449hi ?z449hz ?z449T ?z449hb ?z449bn ?z449elt ?_; (case z449hh => exact rfl); (case z449F => k_asm); (case z449N => k_asm); (case z449hm => k_mem); (case z449hi => assumption); (case z449hz => (try simp only [List.length_take, List.length_cons, List.length_nil]); omega); (case z449hb => assumption); (case z449T => repeat (first | exact Tail.head | apply Tail.tail)); (case z449bn => (repeat' (first | exact True.intro | refine And.intro ⟨_, by (repeat (first | (with_reducible exact List.mem_cons_self) | apply List.mem_cons_of_mem))⟩ ?_))); (case z449elt => (intro v9 t9 I9 oI9 C9 oC9 D9 oD9 m9 h9 tk9 X9 E9 hN9 hx9 F9 N9; (repeat' (first | (k_unfold; (try dsimp only)) | (k_end; wrow_close) | ((with_reducible show wpAny _ _ (call _ _) _ _ _); first | (with_reducible ((with_reducible show wpAny _ _ (call (Value.ref 208) [_]) _ _ _); k_dflt (apply thing_call; walk_at "s7"; walk_at "n2"); intro x' dx' od' h' tk' F' N' l1 l2 hT'; (try simp only [List.cons_append, List.nil_append] at N' l1 l2); (try k_lt l1); (try k_lt l2); (try k_sweep))) | (with_reducible ((with_reducible show wpAny _ _ (call (Value.ref 208) [_]) _ _ _); k_dflt (apply thing_call; walk_at "s7"; walk_at "n2"); intro x' dx' od' h' tk' F' N' l1 l2 hT'; (try k_lt l1); (try k_lt l2); (try k_sweep)))) | walk1 | (dsimp only; walk1) | (dsimp only [List.nil_append, List.cons_append]; walk1) | (leave1; walk_say "STEP leave1"; try dsimp only))); (show ThElt _ _ _ _ _ _ _ _ _ _ _ _ _ _ _); unfold ThElt; exact ⟨_, _, _, _, _, rfl, rfl, by assumption, by assumption, lt3 (by assumption), lt3 (by assumption), by assumption⟩))); intro ys' R' D' h' tk' hT' hs' ho' F' N' l1; (try dsimp only at N'); (try dsimp only at l1); (simp only [List.forall_mem_cons] at l1); (repeat (obtain ⟨_, l1⟩ := l1)); (have o3' := off_at3 ho'); (have hyl' := ThingsIn.length hT'); (simp only [List.length_take, List.length_cons, List.length_nil] at hyl'); (try k_sweep))) | ((with_reducible show wpAny _ _ (getMethod _ _ _) _ _ _); first | (with_reducible ((with_reducible show wpAny _ _ (getMethod (Value.ref _) (PySem.Str.ofString "append") _) _ _ _); k_dflt (refine' method_kp_wd ?z460W ?z460N ?_; (case z460W => assumption); (case z460N => assumption)))) | (with_reducible ((with_reducible show wpAny _ _ (getMethod (Value.ref _) _ _) _ _ _); k_dflt ((first | (refine' look_wd ?z458W ?z458N ?_; (case z458W => assumption); (case z458N => first | assumption | exact News.tl (by assumption) | exact News.tl (News.tl (by assumption)))) | (refine' look_wd0 ?z458W0 ?z458N0 ?_; (case z458W0 => assumption); (case z458N0 => first | assumption | exact News.tl (by assumption) | exact News.tl (News.tl (by assumption))))); intro sd9 k19 k29 tm9 l9 N'; refine' method_inst ?z458k1 ?z458k2 ?z458k3 ?z458k4 ?z458k5 ?z458k6 ?z458k7 ?_; (case z458k1 => k_asm); (case z458k2 => k_asm); (case z458k3 => k_inst); (case z458k4 => k_is); (case z458k5 => k_is); (case z458k6 => k_is); (case z458k7 => k_get); k_whole; clear N')))) | walk1 | (dsimp only; walk1) | (dsimp only [List.nil_append, List.cons_append]; walk1) | (leave1; walk_say "STEP leave1"; try dsimp only)))
        all_goals first | contradiction | (refine' WdPost.mk ?p6F ?p6W ?p6N ?p6s ?p6k; (case p6F => k_asm); (case p6W => assumption); (case p6N => first | assumption | exact News.tl (by assumption)); (case p6s => exact fun _ hq => hq); (case p6k => exact ⟨⟨by with_unfolding_all rfl, by with_unfolding_all rfl, by with_unfolding_all rfl, by with_unfolding_all rfl⟩, by omega, by omega, rfl, hKI5⟩))
      case q5done =>
        intro m6 T6 ol6 own6 ok6 R6 nw6 h6 tk6 hK6 h06 W6 F6 N6
        obtain ⟨ps6, hps6⟩ := W6.tab
        have N20 : News _ _ h6 [(_, _), (229, tabObj #[]), (222, tabObj ps6)] := fun q hq => N6 q (by
          rcases List.mem_cons.mp hq with rfl | hq
          · exact W6.mem _ (h06 _ (.head _))
          rcases List.mem_cons.mp hq with rfl | hq
          · exact W6.mem _ (h06 _ (.tail _ (.head _)))
          rcases List.mem_cons.mp hq with rfl | hq
          · exact hps6
          · cases hq)
        clear W6 N6 hK6
        revert l00 F6 N20
        repeat (with_reducible rename Wd _ _ _ _ _ _ _ _ _ _ _ _ _ => z9; clear z9)
        repeat (with_reducible rename KeptIn _ _ _ _ => z9; clear z9)
        repeat (with_reducible rename LawM _ _ _ _ _ _ => z9; clear z9)
        repeat (with_reducible rename Fr _ _ _ _ => z9; clear z9)
        repeat (with_reducible rename News _ _ _ _ => z9; clear z9)
        repeat (with_reducible rename @LE.le Int _ _ _ => z9; clear z9)
        repeat (with_reducible rename @LT.lt Int _ _ _ => z9; clear z9)
        repeat (with_reducible rename @LE.le Nat _ _ _ => z9; clear z9)
        repeat (with_reducible rename @LT.lt Nat _ _ _ => z9; clear z9)
        repeat (with_reducible rename @Eq Nat _ _ => z9; clear z9)
        intro l00 F6 N20
        w_strict (repeat' (first | (k_unfold; (try dsimp only)) | (k_end; wrow_close) | ((with_reducible show wpAny _ _ (call _ _) _ _ _); first | (with_reducible ((with_reducible show wpAny _ _ (call (Value.ref 213) [_]) _ _ _); k_dflt (apply numbers_use; walk_at "s7"; walk_at "n2"; walk_at "p3"; (case HT => exact ThingsIn.cons (by assumption) .nil); (case hR => exact List.forall_mem_cons.mpr ⟨by k_mem, List.forall_mem_cons.mpr ⟨by k_mem, List.forall_mem_nil _⟩⟩); (case hlen => exact Nat.le_of_ble_eq_true rfl)); intro D' ws' n' h' tk' HI' F' N'; k_dflt (have n229 : @Ne Nat D' 229 := ne_tab N' (List.Mem.head _) (by k_mem)); (try k_sweep))) | (with_reducible ((with_reducible show wpAny _ _ (call (Value.ref 208) [_]) _ _ _); k_dflt (apply thing_call; walk_at "s7"; walk_at "n2"); intro x' dx' od' h' tk' F' N' l1 l2 hT'; (try simp only [List.cons_append, List.nil_append] at N' l1 l2); (try k_lt l1); (try k_lt l2); (try k_sweep))) | (with_reducible ((with_reducible show wpAny _ _ (call (Value.type _) [Value.int _ _]) _ _ _); (rename Fr _ _ _ _ => F'); (rename News _ _ _ _ => N'); (with_unfolding_all refine range1_rows F' N' ?_; intro _ _ _ _ _ _ _ _ _))) | (with_reducible ((with_reducible show wpAny _ _ (call (Value.builtin "len") [Value.ref _]) _ _ _); k_dflt (refine' len_wd ?z484W ?z484N ?z484hm1 ?_; (case z484W => assumption); (case z484N => first | assumption | exact News.tl (by assumption) | exact News.tl (News.tl (by assumption))); (case z484hm1 => assumption); k_whole))) | (with_reducible ((with_reducible show wpAny _ _ (call (Value.ref 153) [_, _]) _ _ _); k_dflt (apply put_back_wd; walk_at "s7"; (case m2 => assumption); (case HT => assumption); (case m3 => assumption); (case HO => assumption); (case hom => assumption); (case hm1 => assumption); (case W => first | assumption | exact Wd.weak (by assumption) (by assumption)); walk_at "n1"); intro nw' h' tk' F' N' W'; (try k_sweep))) | (with_reducible ((with_reducible show wpAny _ _ (call (Value.ref 83) [_, _]) _ _ _); k_dflt (apply push_wd0; walk_at "s7"; (case W => assumption); walk_at "n1"; (case hm1 => assumption); (case hlt => omega)); intro nw' h' tk' F' N' W'; (try k_sweep))) | (with_reducible ((with_reducible show wpAny _ _ (call (Value.ref 201) [_, _]) _ _ _); k_dflt (apply pick_wd; walk_at "s7"; (case W => assumption); walk_at "n1"; (case K => assumption); (case hT0 => omega); (case hT1 => omega); (case hM0 => assumption); (case hM1 => assumption); (case hk0 => omega); (case hk1 => omega)); intro pa' ta' la' vs' ows' n' own' nw' h' tk' F' N' W' m2' m3' HT' HO' ho'; (try k_sweep))) | (with_reducible ((with_reducible show wpAny _ _ (call (Value.builtin _) [Value.ref _, _]) _ _ _); k_dflt (refine' append_wd ?z482F ?z482N ?z482W ?z482hz ?_; (case z482F => k_asm); (case z482W => assumption); (case z482N => first | assumption | exact News.tl (by assumption)); (case z482hz => omega)); intro n' nw' h' F' N' W'; (try k_sweep))) | (with_reducible ((with_reducible show wpAny _ _ (call (Value.type _) [Value.ref _]) _ _ _); k_dflt (refine' copy_wd ?z481F ?z481N ?z481W ?z481hm1 ?_; (case z481F => k_asm); (case z481W => assumption); (case z481N => first | assumption | exact News.tl (by assumption)); (case z481hm1 => assumption)); intro la' ows' n' R' nw' h' F' N' W' hs' ml' HO'; (try k_sweep))) | (with_reducible ((with_reducible show wpAny _ _ (call (Value.ref 146) [_]) _ _ _); k_dflt (apply snapshot_wd; walk_at "s7"; (case W => assumption); walk_at "n1"; (case hm1 => assumption)); intro ta' vs' R' nw' h' tk' F' N' W' hs' mt' HT'; (try k_sweep))) | (with_reducible ((with_reducible show wpAny _ _ (call (Value.ref 213) [_]) _ _ _); k_dflt (apply numbers_wd; walk_at "s7"; (case W => assumption); walk_at "n1"; (case hm1 => assumption)); intro D' ws' n' h' tk' HI' F' N'; (try k_sweep))) | (with_reducible ((with_reducible show wpAny _ _ (call (Value.ref 227) [_, _, _, _]) _ _ _); k_dflt (apply deed_call; walk_at "s7"; (case W => assumption); walk_at "n1"; (case XB => k_asm); (case TB => k_asm); (case CH => assumption); (case hm0 => assumption); (case hm1 => assumption); (case hT0 => omega); (case hT1 => omega); (case hM0 => assumption); (case hM1 => assumption)); intro ol' own' R' nw' h' tk' F' N' hs' W'; (try k_sweep))) | (with_reducible ((with_reducible show wpAny _ _ (call (Value.ref 194) [_, _]) _ _ _); k_dflt (apply draw_wd; walk_at "s7"; (case W => assumption); walk_at "n1"; (case hb0 => decide); (case hb1 => decide); (case hT0 => omega); (case hT1 => omega); (case hM0 => assumption); (case hM1 => assumption)); intro v' t' nw' h' tk' hv0' hv1' F' N' W'; (try k_sweep))) | (with_reducible ((with_reducible show wpAny _ _ (call (Value.ref 194) [_, _]) _ _ _); k_dflt (apply draw_use; walk_at "s7"; walk_at "n2"; (case P1 => walk_at "pk"); (case ho => first | assumption | (with_unfolding_all assumption)); (case P2 => walk_at "pk"); (case hi => assumption); (case hlen => first | assumption | (simp only [List.length_reverse, List.length_map, List.length_take]; omega)); (case hne => walk_at "cne"); (case offd => walk_at "of"); (case offD => walk_at "of"); (case hb0 => decide); (case hb1 => decide); (case hT0 => decide); (case hT1 => decide); (case hM0 => exact (fold_rng _ _ (by decide) (by decide)).1); (case hM1 => exact (fold_rng _ _ (by decide) (by decide)).2)); intro v' t' o' ws' cells' n' t1' t2' h' tk' hD' hv0' hv1' F' N' ho' hi' hl'; (try k_sweep))) | (with_reducible ((with_reducible show wpAny _ _ (call (Value.ref 153) [_, _]) _ _ _); k_dflt (apply put_back_ok; walk_at "s7"; (case N => exact pick4b (by k_asm) (by walk_at "pk") (by walk_at "pk") (by walk_at "pk") (by walk_at "pk")); (case hlen => exact Nat.le_of_ble_eq_true rfl); (case h1 => walk_at "cne"); (case h2 => walk_at "cne"); (case h3 => walk_at "cne"); (case h4 => walk_at "cne"); (case offd => walk_at "of")); intro l' n' h' tk' F' a1 a2 a3 a4 a5 N'; (try dsimp only [AllLt] at a5); (try k_sweep))) | (with_reducible ((with_reducible show wpAny _ _ (call (Value.ref 146) [_]) _ _ _); k_dflt (apply snapshot_ok; walk_at "s7"; walk_at "n3"; (case hlen => exact Nat.le_of_ble_eq_true rfl)); intro t' h' tk' F' a1 a2 a3 a4 N'; (try dsimp only [AllLt] at a4); (try k_sweep))) | (with_reducible ((with_reducible show wpAny _ _ (call (Value.ref 83) [_, _]) _ _ _); k_dflt (apply push_ok; walk_at "s7"; walk_at "n3"; (case h1 => walk_at "cne"); (case h2 => walk_at "cne"); (case h3 => walk_at "cne"); (case offl => walk_at "of"); (case offd => walk_at "of"); (case hlen => exact Nat.le_of_ble_eq_true rfl); (case hm => exact of_decide_eq_true rfl)); intro n' h' tk' F' N'; (try dsimp only [List.nil_append, List.cons_append] at N'); (try k_sweep))) | (with_reducible ((with_reducible show wpAny _ _ (call (Value.builtin "len") [Value.ref _]) _ _ _); k_dflt (refine' my_len_ints ?z479k1 ?z479ki ?z479k2 ?_; (case z479k1 => exact News.isList (by k_asm) (by k_mem)); (case z479ki => assumption); (case z479k2 => ((try simp only [List.length_append, List.length_cons, List.length_nil, List.length_take, List.length_drop, List.length_dropLast]); omega)); intro le'; (try simp only [List.length_take, List.length_cons, List.length_nil] at le'); k_whole))) | (with_reducible ((with_reducible show wpAny _ _ (call (Value.ref 220) [_]) _ _ _); k_dflt (refine wpAny_call ?_; (refine' code_defT ?z478k1 ?z478k2 ?z478k3 ?z478k4 ?z478k5 ?z478kA ?z478kF ?z478kK ?z478k6 ?z478k7 ?z478k8 ?z478k9 ?z478kB ?_ ?z478c2 ?z478c3 ?z478c4 ?z478c5; (case z478kA => exact rfl); (case z478kF => exact rfl); (case z478kK => exact rfl); (case z478k2 => k_asm); (case z478k1 => k_asm); (case z478k3 => k_asm); (case z478k4 => k_asm); (case z478k5 => k_asm); (case z478k6 => k_is); (case z478k7 => k_is); (case z478k8 => k_room); (case z478k9 => exact BindsTo.of_eq rfl); (case z478c5 => decide); (case z478kB => exact locs rfl); (case z478c2 => exact rfl); (case z478c3 => exact rfl); (case z478c4 => exact rfl); k_whole; intro g' L' h' FG' F' N' B' X' T'; (try dsimp only); (try k_lift B'); (try k_fold))))) | (with_reducible ((with_reducible show wpAny _ _ (call (Value.ref 194) [_, _]) _ _ _); k_dflt (refine' draw_use ?z477B ?z477F ?z477X ?z477TP ?z477hk ?z477hdp ?z477hun ?z477N ?z477P1 ?z477P2 ?z477ho ?z477hi ?z477hlen ?z477hne ?z477offd ?z477offD ?z477hb0 ?z477hb1 ?z477hT0 ?z477hT1 ?z477hM0 ?z477hM1 ?_; (case z477B => k_asm); (case z477F => k_asm); (case z477X => k_asm); (case z477TP => k_asm); (case z477hk => first | exact rfl | assumption); (case z477hdp => ktr_room); (case z477hun => ktr_units); (case z477N => k_asm); (case z477P1 => repeat (first | exact Pick.head | apply Pick.tail)); (case z477P2 => repeat (first | exact Pick.head | apply Pick.tail)); (case z477ho => assumption); (case z477hi => assumption); (case z477hlen => assumption); (case z477hne => k_ne); (case z477offd => k_all); (case z477offD => k_all); (case z477hb0 => decide); (case z477hb1 => decide); (case z477hT0 => omega); (case z477hT1 => omega); (case z477hM0 => assumption); (case z477hM1 => assumption)); intro v' t' o' ws' cells' n' t1' t2' h' tk' hD' hv0' hv1' F' N' ho' hi' hl'; (try k_sweep))) | (with_reducible ((with_reducible show wpAny _ _ (call (Value.ref 132) [_, Value.int _ _, Value.int 1 _]) _ _ _); k_dflt (apply rolled_low_use; walk_at "s7"; walk_at "n2"; walk_at "p3"; (case hm2 => omega); (case hm1 => omega); (case hm0 => omega); (case hlen => omega)); intro h' tk' F' N'; (try k_sweep))) | (with_reducible ((with_reducible show wpAny _ _ (call (Value.ref 132) [_, Value.int _ _, Value.int 1 _]) _ _ _); k_dflt (apply rolled_use; walk_at "s7"; walk_at "n2"; walk_at "p3"; (case hm2 => omega); (case hm0 => omega); (case h1 => k_ne); (case h2 => k_ne); (case h3 => k_ne); (case offl => k_all); (case offd => k_all); (case hlen => omega)); intro l' n' h' tk' F' l1 l2 l3 l4 N'; (try simp only [AllLt, and_true] at l4); (try k_sweep))) | (with_reducible ((with_reducible show wpAny _ _ (call (Value.ref 132) [_, Value.int _ _, Value.int 1 _]) _ _ _); k_dflt (refine' split132 ?z476N ?z476P1 ?z476P2 ?z476P3 ?z476sa ?z476sb ?z476sc; (case z476N => k_asm); (case z476P1 => walk_at "pk"); (case z476P2 => walk_at "pk"); (case z476P3 => walk_at "pk"); (case' z476sa => intro hm8 hm9; fail_if_success (exfalso; omega)); (case' z476sb => intro hm8 hm9); (case' z476sc => intro hm9; fail_if_success (exfalso; omega))))) | (with_reducible ((with_reducible show wpAny _ _ (call (Value.ref 90) [_, _]) _ _ _); k_dflt (apply push_all_use; walk_at "s7"; walk_at "n2"; walk_at "p3"; (case P4 => walk_at "pk"); (case hm => walk_at "ln"); (case h1 => k_ne); (case h2 => k_ne); (case h3 => k_ne); (case h4 => first | k_ne | exact Nat.ne_of_gt (by omega)); (case offl => k_all); (case hlen => walk_at "ln"); (case hlen2 => walk_at "ln")); intro n' h' tk' F' N'; (try k_sweep))) | (with_reducible ((with_reducible show wpAny _ _ (call (Value.ref 90) [_, _]) _ _ _); k_dflt (refine' split90 ?z475N ?z475P1 ?z475P2 ?z475P3 ?z475P4 ?z475g1 ?z475g2; (case z475N => k_asm); (case z475P1 => walk_at "pk"); (case z475P2 => walk_at "pk"); (case z475P3 => walk_at "pk"); (case z475P4 => walk_at "pk"); (case' z475g1 => intro hm9; fail_if_success (exfalso; omega)); (case' z475g2 => intro hm9; fail_if_success (exfalso; omega))))) | (with_reducible ((with_reducible show wpAny _ _ (call (Value.ref 52) [_]) _ _ _); k_dflt (apply pserr_call; walk_at "s7"; walk_at "n2"); intro e' d' t' k' h' tk' F' N' l1 l2 l3; (try dsimp only [AllLt] at l1 l2 l3); (try k_sweep))) | (with_reducible ((with_reducible show wpAny _ _ (call (Value.ref 208) [_]) _ _ _); k_dflt (apply thing_call; walk_at "s7"; walk_at "n2"); intro x' dx' od' h' tk' F' N' l1 l2 hT'; (try k_lt l1); (try k_lt l2); (try k_sweep))) | (with_reducible ((with_reducible show wpAny _ _ (call (Value.builtin _) [Value.ref _]) _ _ _); k_dflt (refine' my_pop ?z472F ?z472N ?z472U ?z472e ?z472z ?_; (case z472F => k_asm); (case z472N => k_asm); (case z472U => k_updF); (case z472e => assumption); (case z472z => omega)); intro y' n' h' F' N'; (try dsimp only at N'); (try k_sweep))) | (with_reducible ((with_reducible show wpAny _ _ (call (Value.builtin _) [Value.ref _, Value.ref _]) _ _ _); k_dflt (refine' my_extend ?z471F ?z471N ?z471b ?z471U ?z471z ?_; (case z471F => k_asm); (case z471N => k_asm); (case z471b => k_mem); (case z471U => k_updF); (case z471z => walk_at "sz")); intro n' h' F' N'; (try dsimp only at N'); (try k_sweep))) | (with_reducible ((with_reducible show wpAny _ _ (call (Value.builtin "len") [Value.ref _]) _ _ _); k_dflt (refine' my_len ?z465k1 ?z465k2 ?_; (case z465k1 => exact News.isList (by k_asm) (by k_mem)); (case z465k2 => ((try simp only [List.length_append, List.length_cons, List.length_nil, List.length_take, List.length_drop, List.length_dropLast]); omega)); k_whole))) | (dsimp only [List.nil_append, List.cons_append]; first | (with_reducible ((with_reducible show wpAny _ _ (call (Value.builtin _) [Value.ref _, _]) _ _ _); k_dflt (refine' append_wd ?z487F ?z487N ?z487W ?z487hz ?_; (case z487F => k_asm); (case z487W => assumption); (case z487N => first | assumption | exact News.tl (by assumption)); (case z487hz => omega)); intro n' nw' h' F' N' W'; (try k_sweep))) | (with_reducible ((with_reducible show wpAny _ _ (call (Value.builtin _) [Value.ref _]) _ _ _); k_dflt (refine' my_pop ?z488F ?z488N ?z488U ?z488e ?z488z ?_; (case z488F => k_asm); (case z488N => k_asm); (case z488U => k_updF); (case z488e => assumption); (case z488z => omega)); intro y' n' h' F' N'; (try dsimp only at N'); (try k_sweep))) | (with_reducible ((with_reducible show wpAny _ _ (call (Value.builtin _) [Value.ref _, Value.ref _]) _ _ _); k_dflt (refine' my_extend ?z489F ?z489N ?z489b ?z489U ?z489z ?_; (case z489F => k_asm); (case z489N => k_asm); (case z489b => k_mem); (case z489U => k_updF); (case z489z => walk_at "sz")); intro n' h' F' N'; (try dsimp only at N'); (try k_sweep))))) | ((with_reducible show wpAny _ _ (callWith _ _ _ _ _) _ _ _); first | (with_reducible ((with_reducible show wpAny _ _ (callWith _ (Value.ref (OfNat.ofNat _)) _ _ _) _ _ _); k_dflt (first | refine' callWith_K ?z486k1 ?z486k2 ?_; (case z486k1 => with_reducible assumption); (case z486k2 => k_is); k_whole | (refine' callWith_K0 ?z486k1 ?z486k2 ?_; (case z486k1 => k_in); (case z486k2 => k_is); k_whole; try dsimp only [List.nil_append, List.cons_append]) | (refine' callWith_M0 ?z486k1 ?z486k2 ?_; (case z486k1 => k_meth); (case z486k2 => k_is); k_whole; try dsimp only [List.nil_append, List.cons_append]) | refine' callWith_M ?z486k1 ?z486k2 ?z486k3 ?z486k4 ?_; (case z486k1 => k_asm); (case z486k2 => k_asm); (case z486k3 => k_mem); (case z486k4 => k_is); k_whole))) | (with_reducible ((with_reducible show wpAny _ _ (callWith _ (Value.ref (OfNat.ofNat _)) _ _ _) _ _ _); k_dflt (first | refine' callWith_K ?z466k1 ?z466k2 ?_; (case z466k1 => k_asm); (case z466k2 => k_is); k_whole | refine' callWith_K0 ?z466k1 ?z466k2 ?_; (case z466k1 => k_in); (case z466k2 => k_is); k_whole | (refine' callWith_M0 ?z466k1 ?z466k2 ?_; (case z466k1 => k_meth); (case z466k2 => k_is); k_whole; try dsimp only [List.nil_append, List.cons_append]) | refine' callWith_M ?z466k1 ?z466k2 ?z466k3 ?z466k4 ?_; (case z466k1 => k_asm); (case z466k2 => k_asm); (case z466k3 => k_mem); (case z466k4 => k_is); k_whole)))) | (with_reducible ((with_reducible show wpAny _ _ (eval (PySem.Expr.Lambda _ _ _ _) _) _ _ _); kn_here; k_dflt (refine' kla_eval ?z467d0 ?_; (case z467d0 => exact rfl)); (with_reducible rename TabInv _ _ => TI'); k_dflt (refine' lam_both ?z467F ?z467N ?z467T ?z467C ?z467cd ?z467U TI' ?z467q ?z467R ?z467b ?z467bn ?z467cl ?_; (case z467F => k_asm); (case z467N => k_asm); (case z467T => k_asm); (case z467cd => exact rfl); (case z467C => kn_code); (case z467U => k_updF); (case z467q => exact rfl); (case z467R => (intro q9 hq9; repeat (first | assumption | apply List.mem_cons_of_mem))); (case z467b => assumption); (case z467bn => (repeat' (first | exact True.intro | refine And.intro ⟨_, by (repeat (first | (with_reducible exact List.mem_cons_self) | apply List.mem_cons_of_mem))⟩ ?_))); (case z467cl => exact rfl); k_whole); intro f' c' oc' vs' t' ct' ps' h' tk' F' N' d1' d2' l1 l2 hc' TJ'; (try dsimp only at N'); (try k_lt l1); k_dflt (obtain ⟨_, _, _, _, _, _, _⟩ := hc'))) | ((with_reducible show wpAny _ _ (getAttr _ _ _) _ _ _); first | (with_reducible ((with_reducible show wpAny _ _ (getAttr (Value.ref _) (PySem.Str.ofString "many") _) _ _ _); k_dflt (apply many_wd; walk_at "s7"; (case W => assumption); walk_at "n1"; (case hm1 => assumption)); intro t' h' tk' F' N'; (try k_sweep))) | (with_reducible ((with_reducible show wpAny _ _ (getAttr (Value.ref _) (PySem.Str.ofString "told") _) _ _ _); k_dflt (refine' exc_told (K := hd.heap_1 _) ?z468X (exc_inst ?z468N ?z468m1 ?z468m2 ?z468c ?z468d) ?z468a ?z468b ?z468q ?z468f1 ?z468f2 ?z468f3 ?z468f4 ?z468h ?_; (case z468N => k_asm); (case z468m1 => k_mem); (case z468c => assumption); (case z468d => assumption); (case z468m2 => k_mem); (case z468X => k_in); (case z468a => k_is); (case z468b => k_is); (case z468q => k_is); (case z468f1 => k_is); (case z468f2 => k_is); (case z468f3 => k_is); (case z468f4 => k_get); (case z468h => exact rfl); k_whole)))) | ((with_reducible show wpAny _ _ (subscriptTail _ _ _ _) _ _ _); first | (with_reducible ((with_reducible show wpAny _ _ (subscriptTail _ (PySem.Expr.Slice _ _ none _) (Value.ref _) (Value.ref _)) _ _ _); k_dflt (refine' kmk_slice_lit ?z469F ?z469N ?z469l ?z469p ?z469q ?z469e ?_ ?z469s ?z469t ?z469z; (case z469F => k_asm); (case z469N => k_asm); (case z469l => exact News.isList (by k_asm) (by k_mem)); (case z469p => kmk_part); (case z469q => kmk_part); (case z469e => first | exact pk_all | exact pk_upto (by omega) | exact pk_from (by omega) | exact pk_run (by omega) (by omega) | exact pk_upto_neg (by omega)); (case z469s => with_unfolding_all rfl); (case z469t => kmk_pure); (case z469z => size_fits)); intro D' h' F' N' l1; (try k_lt l1); (try k_sweep)))) | ((with_reducible show wpAny _ _ (binaryOp _ _ _) _ _ _); first | (with_reducible ((with_reducible show wpAny _ _ (binaryOp _ (Value.ref _) (Value.ref _)) _ _ _); k_dflt (refine' my_add ?z470F ?z470N ?z470a ?z470b ?_ ?z470z; (case z470F => k_asm); (case z470N => k_asm); (case z470a => exact News.isList (by k_asm) (by k_mem)); (case z470b => exact News.isList (by k_asm) (by k_mem)); (case z470z => walk_at "sz")); intro D' h' F' N' l1; (try k_lt l1); (try k_sweep)))) | ((with_reducible show wpAny _ _ (compareOp _ _ _) _ _ _); first | (with_reducible ((with_reducible show wpAny _ _ (compareOp CmpOp.NotEq (Value.ref _) (Value.ref _)) _ _ _); k_dflt (refine' ne_wd ?z480N ?z480W ?z480HI ?z480hu ?_; (case z480W => assumption); (case z480HI => assumption); (case z480N => assumption); (case z480hu => ktr_units)))) | (with_reducible ((with_reducible show wpAny _ _ (compareOp CmpOp.Eq (Value.ref _) (Value.ref _)) _ _ _); k_dflt (refine' eq_empty ?z473a ?z473b ?z473e ?z473u ?_; (case z473a => exact News.isList (by k_asm) (by k_mem)); (case z473b => exact News.isList (by k_asm) (by k_mem)); (case z473e => exact rfl); (case z473u => ktr_units))))) | (with_reducible (k_dflt (refine' things_src ?z474hh ?z474F ?z474N ?z474hm ?z474hi ?z474hz ?z474T ?z474hb ?z474bn ?z474elt ?_; (case z474hh => exact rfl); (case z474F => k_asm); (case z474N => k_asm); (case z474hm => k_mem); (case z474hi => assumption); (case z474hz => (try simp only [List.length_take, List.length_cons, List.length_nil]); omega); (case z474hb => assumption); (case z474T => repeat (first | exact Tail.head | apply Tail.tail)); (case z474bn => (repeat' (first | exact True.intro | refine And.intro ⟨_, by (repeat (first | (with_reducible exact List.mem_cons_self) | apply List.mem_cons_of_mem))⟩ ?_))); (case z474elt => (intro v9 t9 I9 oI9 C9 oC9 D9 oD9 m9 h9 tk9 X9 E9 hN9 hx9 F9 N9; (repeat' (first | (k_unfold; (try dsimp only)) | (k_end; wrow_close) | ((with_reducible show wpAny _ _ (call _ _) _ _ _); first | (with_reducible ((with_reducible show wpAny _ _ (call (Value.ref 208) [_]) _ _ _); k_dflt (apply thing_call; walk_at "s7"; walk_at "n2"); intro x' dx' od' h' tk' F' N' l1 l2 hT'; (try simp only [List.cons_append, List.nil_append] at N' l1 l2); (try k_lt l1); (try k_lt l2); (try k_sweep))) | (with_reducible ((with_reducible show wpAny _ _ (call (Value.ref 208) [_]) _ _ _); k_dflt (apply thing_call; walk_at "s7"; walk_at "n2"); intro x' dx' od' h' tk' F' N' l1 l2 hT'; (try k_lt l1); (try k_lt l2); (try k_sweep)))) | walk1 | (dsimp only; walk1) | (dsimp only [List.nil_append, List.cons_append]; walk1) | (leave1; walk_say "STEP leave1"; try dsimp only))); (show ThElt _ _ _ _ _ _ _ _ _ _ _ _ _ _ _); unfold ThElt; exact ⟨_, _, _, _, _, rfl, rfl, by assumption, by assumption, lt3 (by assumption), lt3 (by assumption), by assumption⟩))); intro ys' R' D' h' tk' hT' hs' ho' F' N' l1; (try dsimp only at N'); (try dsimp only at l1); (simp only [List.forall_mem_cons] at l1); (repeat (obtain ⟨_, l1⟩ := l1)); (have o3' := off_at3 ho'); (have hyl' := ThingsIn.length hT'); (simp only [List.length_take, List.length_cons, List.length_nil] at hyl'); (try k_sweep))) | ((with_reducible show wpAny _ _ (getMethod _ _ _) _ _ _); first | (with_reducible ((with_reducible show wpAny _ _ (getMethod (Value.ref _) (PySem.Str.ofString "append") _) _ _ _); k_dflt (refine' method_kp_wd ?z485W ?z485N ?_; (case z485W => assumption); (case z485N => assumption)))) | (with_reducible ((with_reducible show wpAny _ _ (getMethod (Value.ref _) _ _) _ _ _); k_dflt ((first | (refine' look_wd ?z483W ?z483N ?_; (case z483W => assumption); (case z483N => first | assumption | exact News.tl (by assumption) | exact News.tl (News.tl (by assumption)))) | (refine' look_wd0 ?z483W0 ?z483N0 ?_; (case z483W0 => assumption); (case z483N0 => first | assumption | exact News.tl (by assumption) | exact News.tl (News.tl (by assumption))))); intro sd9 k19 k29 tm9 l9 N'; refine' method_inst ?z483k1 ?z483k2 ?z483k3 ?z483k4 ?z483k5 ?z483k6 ?z483k7 ?_; (case z483k1 => k_asm); (case z483k2 => k_asm); (case z483k3 => k_inst); (case z483k4 => k_is); (case z483k5 => k_is); (case z483k6 => k_is); (case z483k7 => k_get); k_whole; clear N')))) | walk1 | (dsimp only; walk1) | (dsimp only [List.nil_append, List.cons_append]; walk1) | (leave1; walk_say "STEP leave1"; try dsimp only)))
end Q_D
end Mine
theorem PySem.Challenge.cw_on0259_01_holds : PySem.Challenge.rw_on0259_01.Holds := by
  exact Mine.law_dev5
