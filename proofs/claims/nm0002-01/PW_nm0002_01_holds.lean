import PyProof.Rows.All
import Wide.All
import OpenK.AllK
import Wide.FinOn
import PySem.Challenge.RW_nm0002_01

open PySem PySem.W PyProof.Rows
set_option Elab.async false
set_option maxRecDepth 100000
set_option maxHeartbeats 8000000
set_option rowWalk.seconds 0

namespace Mine
open_top hd for PySem.Challenge.rw_nm0002_01

section PartBase
abbrev Calls (k : Nat) (w : World) (mean : ExcName → Option Value) (mg mb : Str → Option Value) (f : Addr) (news : List (Addr × Obj)) (vs : List Value)
    (Ret : Heap → Addr → (Str → Option Value) → Shared → (Value → Shared → Prop) → Prop) : Prop :=
  ∀ (dp un : Nat) (gd : Option (List Code)) (cn : Str) (cs : Scope) (a : Addr) (ccd : Value) (cl : List (Str × Addr)) (outer : List Env) (A₀ : Around) (base h₀ : Heap) (L : Addr) (m : Str → Option Value) (s : Shared) (Q E : Value → Shared → Prop),
    Below A₀ base outer h₀ → Fr h₀ L s.heap m → (hd.heap_39 w.params).In h₀ → News h₀ L s.heap news → Top hd.view_39 (looseW hd.view_39 [Str.ofString "REGISTER_NAMES"]) mean mg mb h₀ → cs.kind = .function →
    dp + k < recursionLimit → un + 100 + 10 * k < cLine → Ret h₀ L m s Q →
      wpAny (model PySem.Challenge.rw_nm0002_01.row.prog w) (ktrTop dp un gd cn cs L a ccd cl outer) (call (.ref f) vs) Q E s
theorem Calls.go {k : Nat} {w : World} {mean : ExcName → Option Value} {mg mb : Str → Option Value} {f : Addr} {news : List (Addr × Obj)} {vs : List Value} {Ret : Heap → Addr → (Str → Option Value) → Shared → (Value → Shared → Prop) → Prop}
    (C : Calls k w mean mg mb f news vs Ret) {dp un : Nat} {gd : Option (List Code)} {cn : Str} {cs : Scope} {a : Addr} {ccd : Value} {cl : List (Str × Addr)} {outer : List Env} {A₀ : Around} {base h₀ : Heap} {L : Addr} {m : Str → Option Value} {s : Shared} {Q E : Value → Shared → Prop}
    (B : Below A₀ base outer h₀) (F : Fr h₀ L s.heap m) (X : (hd.heap_39 w.params).In h₀) (N : News h₀ L s.heap news) (T : Top hd.view_39 (looseW hd.view_39 [Str.ofString "REGISTER_NAMES"]) mean mg mb h₀) (hk : cs.kind = .function)
    (hd : dp + k < recursionLimit) (hu : un + 100 + 10 * k < cLine) (r : Ret h₀ L m s Q) : wpAny (model PySem.Challenge.rw_nm0002_01.row.prog w) (ktrTop dp un gd cn cs L a ccd cl outer) (call (.ref f) vs) Q E s :=
  C _ _ _ _ _ _ _ _ _ _ _ _ _ _ _ _ _ B F X N T hk hd hu r
end PartBase

section PartL1
local macro_rules | `(tactic| k_room) => `(tactic| ktr_room)
local macro_rules | `(tactic| walk_at "call builtin:str.partition") => `(tactic| (k_here; (with_reducible show wpAny _ _ (call (Value.builtin "str.partition") [Value.str _ _, Value.str _ _]) _ _ _); (refine KXpa.partition (by k_asm) (by k_asm) (by decide) (by with_reducible assumption) (by with_reducible assumption) (by with_reducible assumption) (by size_fits) ?_); intro D' _ _ _ _ _ F' N' l1; (try k_lt l1)))
local macro_rules | `(tactic| walk_at "call builtin:str.split") => `(tactic| (k_here; (with_reducible show wpAny _ _ (call (Value.builtin "str.split") _) _ _ _); (refine KSpl.split1 (by k_asm) (by k_asm) (by decide) ?_ (by size_fits)); (intro D' l' h' k' e' a' F' N' l1); (try k_lt l1); (have e' := e'.trans (by with_reducible assumption)); (kspl_open e'); (simp only [strValues, List.map_cons, List.map_nil] at N' a')))
theorem lparts3 {w : World} {mean : ExcName → Option Value} {mg mb : Str → Option Value} {news : List (Addr × Obj)} {line : Str} {t : Tok} {c verb rest p1 p2 p3 : Str}
    (hlen : line.length ≤ 100) (hr : rest.length ≤ 100) (h01 : Txt.slice line none (some 1) = Str.ofString "\t") (h12 : Txt.slice line (some 1) (some 2) = c) (hc : c = Str.ofString "a" ∨ c = Str.ofString "l")
    (hp1 : (Txt.partition (Txt.slice line (some 1) none) (Str.ofString " ")).1 = verb) (hp2 : (Txt.partition (Txt.slice line (some 1) none) (Str.ofString " ")).2.1 = Str.ofString " ") (hp3 : (Txt.partition (Txt.slice line (some 1) none) (Str.ofString " ")).2.2 = rest)
    (hs : Txt.split rest (Str.ofString ", ") = [p1, p2, p3]) :
    Calls 1 w mean mg mb 70 news [Value.str line t] (fun h₀ L m s Q => ∀ D D2 tv t1 t2 t3 h' tk, Fr h₀ L h' m → News h₀ L h' ((D, ({ cls := .type "tuple", data := .seq #[.str verb tv, .ref D2] } : Obj)) :: (D2, listOf #[.str p1 t1, .str p2 t2, .str p3 t3] 0) :: news) → (∀ p ∈ news, p.1 < D2) → (D2 < D ∧ ∀ p ∈ news, p.1 < D) → Q (.ref D) { s with heap := h', toks := tk }) := by
  w_top off
  unfold Calls
  k_fill
  intros; rename_i hret
  refine wpAny_call ?_
  k_dflt cell_enter
  w_strict k_steps
  all_goals first
    | (exfalso; rename ((Txt.slice _ none (some 1) != _) = true) => hx; rw [h01] at hx; exact absurd hx (by decide))
    | (exfalso; rename ((List.any _ _) = true) => hx; rw [h12] at hx; rcases hc with rfl | rfl <;> exact absurd hx (by decide))
    | (rename (_ < _ ∧ _ < _ ∧ AllLt _ _) => q2; rename (_ < _ ∧ _ < _ ∧ _ < _ ∧ AllLt _ _) => q1; rename News _ _ _ _ => hN
       exact hret _ _ _ _ _ _ _ _ (by assumption) (cb_drop hN (by kcj_all)) (kst_ltOf q2.2.2) ⟨q1.1, kst_ltOf q1.2.2.2⟩)
theorem lparts2 {w : World} {mean : ExcName → Option Value} {mg mb : Str → Option Value} {news : List (Addr × Obj)} {line : Str} {t : Tok} {c verb rest p1 p2 : Str}
    (hlen : line.length ≤ 100) (hr : rest.length ≤ 100) (h01 : Txt.slice line none (some 1) = Str.ofString "\t") (h12 : Txt.slice line (some 1) (some 2) = c) (hc : c = Str.ofString "a" ∨ c = Str.ofString "l")
    (hp1 : (Txt.partition (Txt.slice line (some 1) none) (Str.ofString " ")).1 = verb) (hp2 : (Txt.partition (Txt.slice line (some 1) none) (Str.ofString " ")).2.1 = Str.ofString " ") (hp3 : (Txt.partition (Txt.slice line (some 1) none) (Str.ofString " ")).2.2 = rest)
    (hs : Txt.split rest (Str.ofString ", ") = [p1, p2]) :
    Calls 1 w mean mg mb 70 news [Value.str line t] (fun h₀ L m s Q => ∀ D D2 tv t1 t2 h' tk, Fr h₀ L h' m → News h₀ L h' ((D, ({ cls := .type "tuple", data := .seq #[.str verb tv, .ref D2] } : Obj)) :: (D2, listOf #[.str p1 t1, .str p2 t2] 0) :: news) → (∀ p ∈ news, p.1 < D2) → (D2 < D ∧ ∀ p ∈ news, p.1 < D) → Q (.ref D) { s with heap := h', toks := tk }) := by
  w_top off
  unfold Calls
  k_fill
  intros; rename_i hret
  refine wpAny_call ?_
  k_dflt cell_enter
  w_strict k_steps
  all_goals first
    | (exfalso; rename ((Txt.slice _ none (some 1) != _) = true) => hx; rw [h01] at hx; exact absurd hx (by decide))
    | (exfalso; rename ((List.any _ _) = true) => hx; rw [h12] at hx; rcases hc with rfl | rfl <;> exact absurd hx (by decide))
    | (rename (_ < _ ∧ _ < _ ∧ AllLt _ _) => q2; rename (_ < _ ∧ _ < _ ∧ _ < _ ∧ AllLt _ _) => q1; rename News _ _ _ _ => hN
       exact hret _ _ _ _ _ _ _ (by assumption) (cb_drop hN (by kcj_all)) (kst_ltOf q2.2.2) ⟨q1.1, kst_ltOf q1.2.2.2⟩)
def LnOk (line c verb rest : Str) : Prop :=
  line.length ≤ 100 ∧ rest.length ≤ 100 ∧ Txt.slice line none (some 1) = Str.ofString "\t" ∧ Txt.slice line (some 1) (some 2) = c ∧ (c = Str.ofString "a" ∨ c = Str.ofString "l") ∧
  (Txt.partition (Txt.slice line (some 1) none) (Str.ofString " ")).1 = verb ∧ (Txt.partition (Txt.slice line (some 1) none) (Str.ofString " ")).2.1 = Str.ofString " " ∧ (Txt.partition (Txt.slice line (some 1) none) (Str.ofString " ")).2.2 = rest
def Ln3 (line verb p1 p2 p3 : Str) : Prop := ∃ c rest, LnOk line c verb rest ∧ Txt.split rest (Str.ofString ", ") = [p1, p2, p3]
def Ln2 (line verb p1 p2 : Str) : Prop := ∃ c rest, LnOk line c verb rest ∧ Txt.split rest (Str.ofString ", ") = [p1, p2]
theorem cparts3 {w : World} {mean : ExcName → Option Value} {mg mb : Str → Option Value} {news : List (Addr × Obj)} {line : Str} {t : Tok} {verb p1 p2 p3 : Str} (h : Ln3 line verb p1 p2 p3) :
    Calls 1 w mean mg mb 70 news [Value.str line t] (fun h₀ L m s Q => ∀ D D2 tv t1 t2 t3 h' tk, Fr h₀ L h' m → News h₀ L h' ((D, ({ cls := .type "tuple", data := .seq #[.str verb tv, .ref D2] } : Obj)) :: (D2, listOf #[.str p1 t1, .str p2 t2, .str p3 t3] 0) :: news) → (∀ p ∈ news, p.1 < D2) → (D2 < D ∧ ∀ p ∈ news, p.1 < D) → Q (.ref D) { s with heap := h', toks := tk }) := by
  obtain ⟨c, rest, ⟨h1, h2, h3, h4, h5, h6, h7, h8⟩, h9⟩ := h
  exact lparts3 h1 h2 h3 h4 h5 h6 h7 h8 h9
theorem cparts2 {w : World} {mean : ExcName → Option Value} {mg mb : Str → Option Value} {news : List (Addr × Obj)} {line : Str} {t : Tok} {verb p1 p2 : Str} (h : Ln2 line verb p1 p2) :
    Calls 1 w mean mg mb 70 news [Value.str line t] (fun h₀ L m s Q => ∀ D D2 tv t1 t2 h' tk, Fr h₀ L h' m → News h₀ L h' ((D, ({ cls := .type "tuple", data := .seq #[.str verb tv, .ref D2] } : Obj)) :: (D2, listOf #[.str p1 t1, .str p2 t2] 0) :: news) → (∀ p ∈ news, p.1 < D2) → (D2 < D ∧ ∀ p ∈ news, p.1 < D) → Q (.ref D) { s with heap := h', toks := tk }) := by
  obtain ⟨c, rest, ⟨h1, h2, h3, h4, h5, h6, h7, h8⟩, h9⟩ := h
  exact lparts2 h1 h2 h3 h4 h5 h6 h7 h8 h9
end PartL1

section PartR1
def line3 (op a b c : Str) : Str := Str.ofString "\t" ++ op ++ Str.ofString " " ++ Txt.join (Str.ofString ", ") [a, b, c]
def line2 (op a b : Str) : Str := Str.ofString "\t" ++ op ++ Str.ofString " " ++ Txt.join (Str.ofString ", ") [a, b]
local macro_rules | `(tactic| k_room) => `(tactic| ktr_room)
theorem joinLen (sep : Str) (xs : List Str) : (Txt.join sep xs).length ≤ (xs.map (·.length)).sum + xs.length * sep.length := by
  show (Builtin.Str.glued sep xs).length ≤ _
  rw [StrLaws.glued_eq_join]
  exact StrLaws.join_length_le sep xs
section
variable {prog : Program} {w : World} {A : Around} {E : Value → Shared → Prop} {s : Shared} {t : Tok} {Q : Value → Shared → Prop} {D : Addr} {a b c : Str} {ta tb tc : Tok} {n : Nat}
theorem join3 (hl : s.heap.IsList D #[Value.str a ta, .str b tb, .str c tc]) (ha : a.length ≤ 20) (hb : b.length ≤ 20) (hc : c.length ≤ 20)
    (h : ∀ t' k, (Txt.join (Str.ofString ", ") [a, b, c]).length ≤ 100 → Q (.str (Txt.join (Str.ofString ", ") [a, b, c]) t') { s with toks := k }) : wpAny (model prog w) A (call (.builtin "str.join") [.str (Str.ofString ", ") t, .ref D]) Q E s := by
  have e2 : (Str.ofString ", ").length = 2 := by decide
  refine join_listW hl (ys := [a, b, c]) (by repeat constructor) (by decide) (by simp only [List.map_cons, List.map_nil, List.sum_cons, List.sum_nil, List.length_cons, List.length_nil]; omega) fun t' k => h t' k ?_
  have q := joinLen (Str.ofString ", ") [a, b, c]
  simp only [List.map_cons, List.map_nil, List.sum_cons, List.sum_nil, List.length_cons, List.length_nil, e2] at q
  omega
theorem join2 (hl : s.heap.IsList D #[Value.str a ta, .str b tb]) (ha : a.length ≤ 20) (hb : b.length ≤ 20)
    (h : ∀ t' k, (Txt.join (Str.ofString ", ") [a, b]).length ≤ 100 → Q (.str (Txt.join (Str.ofString ", ") [a, b]) t') { s with toks := k }) : wpAny (model prog w) A (call (.builtin "str.join") [.str (Str.ofString ", ") t, .ref D]) Q E s := by
  have e2 : (Str.ofString ", ").length = 2 := by decide
  refine join_listW hl (ys := [a, b]) (by repeat constructor) (by decide) (by simp only [List.map_cons, List.map_nil, List.sum_cons, List.sum_nil, List.length_cons, List.length_nil]; omega) fun t' k => h t' k ?_
  have q := joinLen (Str.ofString ", ") [a, b]
  simp only [List.map_cons, List.map_nil, List.sum_cons, List.sum_nil, List.length_cons, List.length_nil, e2] at q
  omega
end
local macro_rules | `(tactic| walk_at "call builtin:str.join") => `(tactic| (k_here; (with_reducible show wpAny _ _ (call (Value.builtin _) [Value.str _ _, Value.ref _]) _ _ _); k_dflt (first | refine join3 (News.isList (by k_asm) (by assumption)) (by assumption) (by assumption) (by assumption) ?_ | refine join2 (News.isList (by k_asm) (by assumption)) (by assumption) (by assumption) ?_); intro _ _ jl))
theorem rowof3 {w : World} {mean : ExcName → Option Value} {mg mb : Str → Option Value} {news : List (Addr × Obj)} {l : Addr} {t : Tok} {op a b c : Str} {ta tb tc : Tok} (hop : op.length ≤ 10) (ha : a.length ≤ 20) (hb : b.length ≤ 20) (hc : c.length ≤ 20)
    (hl : (l, listOf #[Value.str a ta, .str b tb, .str c tc] 0) ∈ news) :
    Calls 1 w mean mg mb 43 news [Value.str op t, .ref l] (fun h₀ L m s Q => ∀ t' h' tk, Fr h₀ L h' m → News h₀ L h' news → Q (.str (line3 op a b c) t') { s with heap := h', toks := tk }) := by
  w_top off
  unfold Calls
  k_fill
  intros; rename_i hret
  refine wpAny_call ?_
  k_dflt cell_enter
  w_strict k_steps
  all_goals exact hret _ _ _ (by assumption) (by assumption)
theorem rowof2 {w : World} {mean : ExcName → Option Value} {mg mb : Str → Option Value} {news : List (Addr × Obj)} {l : Addr} {t : Tok} {op a b : Str} {ta tb : Tok} (hop : op.length ≤ 10) (ha : a.length ≤ 20) (hb : b.length ≤ 20)
    (hl : (l, listOf #[Value.str a ta, .str b tb] 0) ∈ news) :
    Calls 1 w mean mg mb 43 news [Value.str op t, .ref l] (fun h₀ L m s Q => ∀ t' h' tk, Fr h₀ L h' m → News h₀ L h' news → Q (.str (line2 op a b) t') { s with heap := h', toks := tk }) := by
  w_top off
  unfold Calls
  k_fill
  intros; rename_i hret
  refine wpAny_call ?_
  k_dflt cell_enter
  w_strict k_steps
  all_goals exact hret _ _ _ (by assumption) (by assumption)
end PartR1

section PartS1
def sg (v : Int) : Int := if 2147483648 ≤ v.fmod 4294967296 then v.fmod 4294967296 - 4294967296 else v.fmod 4294967296
def hi (v : Int) : Int := ((v + 2048).fdiv 4096).fmod 1048576
def lo (v : Int) : Int := sg (v - hi v * 4096)
local macro_rules | `(tactic| k_room) => `(tactic| ktr_room)
theorem csigned {w : World} {mean : ExcName → Option Value} {mg mb : Str → Option Value} {news : List (Addr × Obj)} {v : Int} {t : Tok} :
    Calls 1 w mean mg mb 22 news [Value.int v t] (fun h₀ L m s Q => ∀ t' h' tk, Fr h₀ L h' m → News h₀ L h' news → Q (.int (sg v) t') { s with heap := h', toks := tk }) := by
  w_top off
  unfold Calls
  k_fill
  intros; rename_i hret
  refine wpAny_call ?_
  k_dflt cell_enter
  w_strict k_steps
  all_goals (refine cb_retI hret ?_ (by assumption) (by assumption))
  all_goals (have e31 : (2 : Int) ^ Int.toNat 31 = 2147483648 := by decide)
  all_goals (have e32 : (2 : Int) ^ Int.toNat 32 = 4294967296 := by decide)
  all_goals (simp only [e31, e32] at *)
  · exact (if_pos (by assumption)).symm
  · exact (if_neg (by assumption)).symm
theorem csmall {w : World} {mean : ExcName → Option Value} {mg mb : Str → Option Value} {news : List (Addr × Obj)} {v : Int} {t : Tok} :
    Calls 1 w mean mg mb 29 news [Value.int v t] (fun h₀ L m s Q => ∀ h' tk, Fr h₀ L h' m → News h₀ L h' news → Q (.bool (decide (-2048 ≤ v ∧ v ≤ 2047))) { s with heap := h', toks := tk }) := by
  w_top off
  unfold Calls
  k_fill
  intros; rename_i hret
  refine wpAny_call ?_
  k_dflt cell_enter
  w_strict k_steps
  all_goals (refine cb_retB (fun _ => hret) ?_ (by assumption) (by assumption))
  · rw [Bool.eq_iff_iff, decide_eq_true_eq, decide_eq_true_eq]; omega
  · rw [Bool.eq_iff_iff, decide_eq_true_eq, decide_eq_true_eq]; omega
local macro_rules | `(tactic| walk_at "eval Call") => `(tactic| (k_here; k_dflt (refine Call_ ?_)))
local macro_rules | `(tactic| walk_at "call ref") => `(tactic| (k_here; k_dflt (refine' Calls.go csigned ?k1 ?k2 ?k3 ?k4 ?k5 ?k6 ?k7 ?k8 ?_; (case k1 => k_asm); (case k2 => k_asm); (case k3 => k_asm); (case k4 => k_asm); (case k5 => k_asm); (case k6 => first | exact rfl | assumption); (case k7 => ktr_room); (case k8 => ktr_units); k_whole); (try dsimp only); intro t9 h9 tk9 F9 N9; (try dsimp only); (try k_fold)))
theorem chalves {w : World} {mean : ExcName → Option Value} {mg mb : Str → Option Value} {news : List (Addr × Obj)} {v : Int} {t : Tok} :
    Calls 2 w mean mg mb 36 news [Value.int v t] (fun h₀ L m s Q => ∀ D t1 t2 h' tk, Fr h₀ L h' m → News h₀ L h' ((D, ({ cls := .type "tuple", data := .seq #[.int (hi v) t1, .int (lo v) t2] } : Obj)) :: news) → (∀ p ∈ news, p.1 < D) → Q (.ref D) { s with heap := h', toks := tk }) := by
  w_top off
  unfold Calls
  k_fill
  intros; rename_i hret
  refine wpAny_call ?_
  k_dflt cell_enter
  w_strict k_steps
  all_goals (rename News _ _ _ _ => hN; rename ∀ (p : Addr × Obj), p ∈ _ → p.fst < _ => hA; have e20 : (2 : Int) ^ Int.toNat 20 = 1048576 := by decide)
  all_goals (simp only [e20] at hN)
  exact hret _ _ _ _ _ (by assumption) hN hA
end PartS1

section PartNr
def nmList : List Str := [Str.ofString "zero", Str.ofString "ra", Str.ofString "sp", Str.ofString "gp", Str.ofString "tp", Str.ofString "t0", Str.ofString "t1", Str.ofString "t2", Str.ofString "s0", Str.ofString "s1", Str.ofString "a0", Str.ofString "a1", Str.ofString "a2", Str.ofString "a3", Str.ofString "a4", Str.ofString "a5", Str.ofString "a6", Str.ofString "a7", Str.ofString "s2", Str.ofString "s3", Str.ofString "s4", Str.ofString "s5", Str.ofString "s6", Str.ofString "s7", Str.ofString "s8", Str.ofString "s9", Str.ofString "s10", Str.ofString "s11", Str.ofString "t3", Str.ofString "t4", Str.ofString "t5", Str.ofString "t6"]
def nm (r : Int) : Str := nmList.getD r.toNat Str.empty
theorem item_nm {prog : Program} {w : World} {A : Around} {E : Value → Shared → Prop} {s : Shared} {value slice : PySem.Expr} {l : Addr} {vs : List Value} {x : Str} {i : Int} {u : Tok} {Q : Value → Shared → Prop}
    (hl : s.heap.IsList l vs.toArray) (hw : StrsAre vs nmList) (hx : nm i = x) (h0 : 1 ≤ i) (h1 : i ≤ 31) (h : ∀ t', Q (.str x t') s)
    (hs : subscripted slice false (.ref l) (.int i u) = operate [.ref l, .int i u] (getItem (.ref l) (.int i u)) := by with_unfolding_all rfl) :
    wpAny (model prog w) A (subscriptTail value slice (.ref l) (.int i u)) Q E s :=
  KTb.item_list hl hw (by omega) (by show i < ((32 : Nat) : Int); omega) (by omega) (fun t' _ => by rw [show nmList.getD i.toNat Str.empty = x from hx]; exact h t') hs
theorem item_zero {prog : Program} {w : World} {A : Around} {E : Value → Shared → Prop} {s : Shared} {value slice : PySem.Expr} {l : Addr} {vs : List Value} {u : Tok} {Q : Value → Shared → Prop}
    (hl : s.heap.IsList l vs.toArray) (hw : StrsAre vs nmList) (h : ∀ t', Q (.str (Str.ofString "zero") t') s)
    (hs : subscripted slice false (.ref l) (.int 0 u) = operate [.ref l, .int 0 u] (getItem (.ref l) (.int 0 u)) := by with_unfolding_all rfl) :
    wpAny (model prog w) A (subscriptTail value slice (.ref l) (.int 0 u)) Q E s :=
  KTb.item_list hl hw (by omega) (by show (0 : Int) < ((32 : Nat) : Int); omega) (by omega) (fun t' _ => h t') hs
theorem str_of {prog : Program} {w : World} {A : Around} {E : Value → Shared → Prop} {s : Shared} {a : Int} {t : Tok} {x : Str} {Q : Value → Shared → Prop}
    (hx : Str.ofString (toString a) = x) (h1 : -2048 ≤ a) (h2 : a < 1048576) (h : ∀ t' k, Q (.str x t') { s with toks := k }) : wpAny (model prog w) A (call (.type "str") [.int a t]) Q E s :=
  P.str_of_int (shown (N := 1048577) (by omega) (by omega) (by decide +kernel)) (by rw [hx]; exact h _ _)
local macro_rules | `(tactic| k_room) => `(tactic| ktr_room)
local macro_rules | `(tactic| walk_at "eval Call") => `(tactic| (k_here; k_dflt (refine Call_ ?_)))
local macro_rules | `(tactic| walk_at "subscriptTail") => `(tactic| (k_here; (with_reducible show wpAny _ _ (subscriptTail _ _ (Value.ref 15) (Value.int _ _)) _ _ _); k_dflt (refine' item_nm ?ktbl ?ktbw ?ktx ?ktb0 ?ktb1 ?_; (case ktbl => ktb_isList); (case ktbw => repeat constructor); (case ktx => with_reducible assumption); (case ktb0 => assumption); (case ktb1 => assumption)); intro _))
local macro_rules | `(tactic| walk_at "call type:str") => `(tactic| (k_here; k_dflt (refine' str_of ?ktx ?kt0 ?kt1 ?_; (case ktx => with_reducible assumption); (case kt0 => omega); (case kt1 => omega)); intro _ _))
local macro_rules | `(tactic| walk_at "call ref") => `(tactic| (k_here; k_dflt (refine' Calls.go csigned ?k1 ?k2 ?k3 ?k4 ?k5 ?k6 ?k7 ?k8 ?_; (case k1 => k_asm); (case k2 => k_asm); (case k3 => k_asm); (case k4 => k_asm); (case k5 => k_asm); (case k6 => first | exact rfl | assumption); (case k7 => ktr_room); (case k8 => ktr_units); k_whole); (try dsimp only); intro t9 h9 tk9 F9 N9; (try dsimp only); (try k_fold)))
local macro_rules | `(tactic| walk_at "call ref") => `(tactic| (k_here; k_dflt (refine' Calls.go csmall ?k1 ?k2 ?k3 ?k4 ?k5 ?k6 ?k7 ?k8 ?_; (case k1 => k_asm); (case k2 => k_asm); (case k3 => k_asm); (case k4 => k_asm); (case k5 => k_asm); (case k6 => first | exact rfl | assumption); (case k7 => ktr_room); (case k8 => ktr_units); k_whole); (try dsimp only); intro h9 tk9 F9 N9; (try dsimp only); (try k_fold)))
local macro_rules | `(tactic| walk_at "call ref") => `(tactic| (k_here; k_dflt (refine' Calls.go chalves ?k1 ?k2 ?k3 ?k4 ?k5 ?k6 ?k7 ?k8 ?_; (case k1 => k_asm); (case k2 => k_asm); (case k3 => k_asm); (case k4 => k_asm); (case k5 => k_asm); (case k6 => first | exact rfl | assumption); (case k7 => ktr_room); (case k8 => ktr_units); k_whole); (try dsimp only); intro D' t8 t9 h9 tk9 F9 N9 l1; (try k_lt l1); (try dsimp only); (try k_fold)))
local macro_rules | `(tactic| walk_at "call ref") => `(tactic| (k_here; k_dflt (refine' Calls.go (rowof3 ?h1 ?h2 ?h3 ?h4 ?hl) ?k1 ?k2 ?k3 ?k4 ?k5 ?k6 ?k7 ?k8 ?_; (case k1 => k_asm); (case k2 => k_asm); (case k3 => k_asm); (case k4 => k_asm); (case k5 => k_asm); (case k6 => first | exact rfl | assumption); (case k7 => ktr_room); (case k8 => ktr_units); (case hl => k_mem); (case h1 => first | assumption | decide); (case h2 => first | assumption | decide); (case h3 => first | assumption | decide); (case h4 => first | assumption | decide); k_whole); (try dsimp only); intro t9 h9 tk9 F9 N9; (try dsimp only); (try k_fold)))
local macro_rules | `(tactic| walk_at "call ref") => `(tactic| (k_here; k_dflt (refine' Calls.go (rowof2 ?h1 ?h2 ?h3 ?hl) ?k1 ?k2 ?k3 ?k4 ?k5 ?k6 ?k7 ?k8 ?_; (case k1 => k_asm); (case k2 => k_asm); (case k3 => k_asm); (case k4 => k_asm); (case k5 => k_asm); (case k6 => first | exact rfl | assumption); (case k7 => ktr_room); (case k8 => ktr_units); (case hl => k_mem); (case h1 => first | assumption | decide); (case h2 => first | assumption | decide); (case h3 => first | assumption | decide); k_whole); (try dsimp only); intro t9 h9 tk9 F9 N9; (try dsimp only); (try k_fold)))
theorem cnrows {w : World} {mean : ExcName → Option Value} {mg mb : Str → Option Value} {news : List (Addr × Obj)} {v : Int} {t : Tok} {r : Int} {t2 : Tok} (h1 : 1 ≤ r) (h2 : r ≤ 31) {x Dg Dh Dl : Str} (hx : nm r = x) (hxl : x.length ≤ 20)
    (hg : Str.ofString (toString (sg v)) = Dg) (hgl : Dg.length ≤ 20) (hh : Str.ofString (toString (hi v)) = Dh) (hhl : Dh.length ≤ 20) (hl : Str.ofString (toString (lo v)) = Dl) (hll : Dl.length ≤ 20)
    (hi0 : 0 ≤ hi v) (hi1 : hi v < 1048576) (lo0 : -2048 ≤ lo v) (lo1 : lo v ≤ 2047) :
    Calls 3 w mean mg mb 50 news [Value.int r t2, Value.int v t] (fun h₀ L m s Q =>
      (-2048 ≤ sg v ∧ sg v ≤ 2047 → ∀ D t n h' tk, Fr h₀ L h' m → News h₀ L h' ((D, listOf #[.str (line3 (Str.ofString "addi") x (Str.ofString "zero") Dg) t] n) :: news) → (∀ p ∈ news, p.1 < D) → Q (.ref D) { s with heap := h', toks := tk }) ∧
      (¬ (-2048 ≤ sg v ∧ sg v ≤ 2047) → lo v = 0 → ∀ D t n h' tk, Fr h₀ L h' m → News h₀ L h' ((D, listOf #[.str (line2 (Str.ofString "lui") x Dh) t] n) :: news) → (∀ p ∈ news, p.1 < D) → Q (.ref D) { s with heap := h', toks := tk }) ∧
      (¬ (-2048 ≤ sg v ∧ sg v ≤ 2047) → lo v ≠ 0 → ∀ D t t' n h' tk, Fr h₀ L h' m → News h₀ L h' ((D, listOf #[.str (line2 (Str.ofString "lui") x Dh) t, .str (line3 (Str.ofString "addi") x x Dl) t'] n) :: news) → (∀ p ∈ news, p.1 < D) → Q (.ref D) { s with heap := h', toks := tk })) := by
  w_top off
  unfold Calls
  k_fill
  intros; rename_i hret
  refine wpAny_call ?_
  k_dflt cell_enter
  w_strict k_steps
  · rename (_ < _ ∧ _ < _ ∧ AllLt _ _) => q
    rename News _ _ _ _ => hN
    exact hret.1 (by assumption) _ _ _ _ _ (by assumption) (cb_drop hN (by kcj_all)) (kst_ltOf q.2.2)
  · rename (_ < _ ∧ _ < _ ∧ _ < _ ∧ AllLt _ _) => q
    rename News _ _ _ _ => hN
    exact hret.2.2 (by assumption) (by assumption) _ _ _ _ _ _ (by assumption) (cb_drop hN (by kcj_all)) (kst_ltOf q.2.2.2)
  · rename (_ < _ ∧ _ < _ ∧ _ < _ ∧ AllLt _ _) => q
    rename News _ _ _ _ => hN
    exact hret.2.1 (by assumption) (by assumption) _ _ _ _ _ (by assumption) (cb_drop hN (by kcj_all)) (kst_ltOf q.2.2.2)
end PartNr

section PartWh
def dval (l : List Int) : Int := l.foldl (fun (a : Int) (c : Int) => a * 10 + (c - 48)) 0
theorem dval_snoc (l : List Int) (c : Int) : dval (l ++ [c]) = dval l * 10 + (c - 48) := by
  unfold dval; rw [List.foldl_append]; rfl
theorem code_mem {D : Str} {c : Nat} (h : c ∈ D.cps.toList) : (c : Int) ∈ KStt.codes D := List.mem_map_of_mem h
theorem digs_mem : ∀ c : Nat, 48 ≤ c → c ≤ 57 → c ∈ (Str.ofString "0123456789").cps.toList := by
  intro c h1 h2
  have : c = 48 ∨ c = 49 ∨ c = 50 ∨ c = 51 ∨ c = 52 ∨ c = 53 ∨ c = 54 ∨ c = 55 ∨ c = 56 ∨ c = 57 := by omega
  rcases this with rfl | rfl | rfl | rfl | rfl | rfl | rfl | rfl | rfl | rfl <;> decide
theorem no_bad {D : Str} (hd : ∀ c ∈ KStt.codes D, 48 ≤ c ∧ c ≤ 57) :
    List.filter (fun a => !!(Builtin.Str.occurrences (Str.ofString "0123456789") a 0 (Str.ofString "0123456789").length 1).isEmpty) (signs D) = [] := by
  rw [List.filter_eq_nil_iff]
  intro a ha
  obtain ⟨c, hc, rfl⟩ := List.mem_map.mp ha
  have q := hd _ (code_mem hc)
  have e := StrLaws.found_one (Str.ofString "0123456789") c
  have e2 : decide (c ∈ (Str.ofString "0123456789").cps.toList) = true := decide_eq_true (digs_mem c (by omega) (by omega))
  rw [e2] at e
  rw [e]
  decide
theorem carried_nil {ys : List Value} {l : List Str} (h : CarriedAll ys (List.map PyData.str l)) (e : l = []) : ys = [] := by
  subst e
  cases h
  rfl
theorem digit_at {D : Str} {pre post : List Int} {n : Nat} (hd : ∀ c ∈ KStt.codes D, 48 ≤ c ∧ c ≤ 57) (e : KStt.codes D = pre ++ (n : Int) :: post) : 48 ≤ n ∧ n ≤ 57 := by
  have q := hd (n : Int) (by rw [e]; exact List.mem_append_right _ (.head _))
  omega
theorem index_digit {prog : Program} {w : World} {A : Around} {E : Value → Shared → Prop} {s : Shared} {t u : Tok} {n : Nat} {Q : Value → Shared → Prop} (hA : A.handled = none) (hn : 48 ≤ n ∧ n ≤ 57)
    (h : ∀ t' k, Q (.int ((n : Int) - 48) t') { s with toks := k }) : wpAny (model prog w) A (call (.builtin "str.index") [.str (Str.ofString "0123456789") t, .str ⟨#[n]⟩ u]) Q E s := by
  have hc : n = 48 ∨ n = 49 ∨ n = 50 ∨ n = 51 ∨ n = 52 ∨ n = 53 ∨ n = 54 ∨ n = 55 ∨ n = 56 ∨ n = 57 := by omega
  have e : Txt.find (Str.ofString "0123456789") ⟨#[n]⟩ = (n : Int) - 48 := by
    rcases hc with rfl | rfl | rfl | rfl | rfl | rfl | rfl | rfl | rfl | rfl <;> decide +kernel
  refine index_or hA (fun h1 _ => ?_) fun _ _ => ?_
  · rw [e] at h1; omega
  · rw [e]; exact h _ _
theorem inv_step {f : Int} {pre : List Int} {n : Int} (h : f = dval pre) : f * 10 + (n - 48) = dval (pre ++ [n]) := by rw [dval_snoc, h]
local macro_rules | `(tactic| k_room) => `(tactic| ktr_room)
local macro_rules | `(tactic| units_room) => `(tactic| ktr_units)
local macro_rules | `(tactic| walk_at "compareOp NotEq ref ref") => `(tactic| (k_here; (with_reducible rename CarriedAll _ (List.map _ _) => ktC); (have ktE := carried_nil ktC (no_bad (by with_reducible assumption))); subst ktE; clear ktC))
local macro_rules | `(tactic| walk_at "call builtin:str.index") => `(tactic| (k_here; k_dflt (refine' index_digit rfl ?k1 ?_; (case k1 => exact digit_at (by with_reducible assumption) (by with_reducible assumption)); k_whole); intro _ _))
theorem cwholeP {w : World} {mean : ExcName → Option Value} {mg mb : Str → Option Value} {news : List (Addr × Obj)} {t : Tok} {D : Str} {z : Int} (hl : D.length ≤ 20) (hne : (D == Str.ofString "") = false) (hd : ∀ c ∈ KStt.codes D, 48 ≤ c ∧ c ≤ 57) (hz : dval (KStt.codes D) = z)
    (h01 : (Txt.slice D none (some 1) == Str.ofString "-") = false) :
    Calls 1 w mean mg mb 63 news [Value.str D t] (fun h₀ L m s Q => ∀ t' h' tk, Fr h₀ L h' m → News h₀ L h' news → Q (.int z t') { s with heap := h', toks := tk }) := by
  w_top off
  unfold Calls
  k_fill
  intros; rename_i hret
  refine wpAny_call ?_
  k_dflt cell_enter
  k_with "pyIter str" => k_state (fun pre k => k = dval pre) "found"
  k_with "state" => first | exact inv_step (by assumption) | exact rfl
  w_strict k_steps
  rename (_ = dval _) => q
  rename News _ _ _ _ => hN
  exact cb_retI hret (q.trans hz) (by assumption) (cb_drop hN (by kcj_all))
theorem cwholeN {w : World} {mean : ExcName → Option Value} {mg mb : Str → Option Value} {news : List (Addr × Obj)} {t : Tok} {D : Str} {z : Int} (hl : D.length ≤ 20) (hne : (Txt.slice D (some 1) none == Str.ofString "") = false) (hd : ∀ c ∈ KStt.codes (Txt.slice D (some 1) none), 48 ≤ c ∧ c ≤ 57) (hz : dval (KStt.codes (Txt.slice D (some 1) none)) = z)
    (h01 : (Txt.slice D none (some 1) == Str.ofString "-") = true) :
    Calls 1 w mean mg mb 63 news [Value.str D t] (fun h₀ L m s Q => ∀ t' h' tk, Fr h₀ L h' m → News h₀ L h' news → Q (.int (-z) t') { s with heap := h', toks := tk }) := by
  w_top off
  unfold Calls
  k_fill
  intros; rename_i hret
  refine wpAny_call ?_
  k_dflt cell_enter
  k_with "pyIter str" => k_state (fun pre k => k = dval pre) "found"
  k_with "state" => first | exact inv_step (by assumption) | exact rfl
  w_strict k_steps
  rename (_ = dval _) => q
  rename News _ _ _ _ => hN
  exact cb_retI hret (by rw [q, hz]) (by assumption) (cb_drop hN (by kcj_all))
def Rd (D : Str) (z : Int) : Prop := D.length ≤ 20 ∧
  (((D == Str.ofString "") = false ∧ (∀ c ∈ KStt.codes D, 48 ≤ c ∧ c ≤ 57) ∧ dval (KStt.codes D) = z ∧ (Txt.slice D none (some 1) == Str.ofString "-") = false) ∨
   ((Txt.slice D (some 1) none == Str.ofString "") = false ∧ (∀ c ∈ KStt.codes (Txt.slice D (some 1) none), 48 ≤ c ∧ c ≤ 57) ∧ dval (KStt.codes (Txt.slice D (some 1) none)) = -z ∧ (Txt.slice D none (some 1) == Str.ofString "-") = true))
theorem cwhole {w : World} {mean : ExcName → Option Value} {mg mb : Str → Option Value} {news : List (Addr × Obj)} {t : Tok} {D : Str} {z : Int} (hr : Rd D z) :
    Calls 1 w mean mg mb 63 news [Value.str D t] (fun h₀ L m s Q => ∀ t' h' tk, Fr h₀ L h' m → News h₀ L h' news → Q (.int z t') { s with heap := h', toks := tk }) := by
  obtain ⟨hl, ⟨h1, h2, h3, h4⟩ | ⟨h1, h2, h3, h4⟩⟩ := hr
  · exact cwholeP hl h1 h2 h3 h4
  · have e : z = -(-z) := by omega
    rw [e]
    exact cwholeN hl h1 h2 h3 h4
end PartWh

section PartDn
theorem names_split : Txt.split (Str.ofString "zero ra sp gp tp t0 t1 t2 s0 s1 a0 a1 a2 a3 a4 a5 a6 a7 s2 s3 s4 s5 s6 s7 s8 s9 s10 s11 t3 t4 t5 t6") (Str.ofString " ") = nmList := by decide +kernel
theorem split_names {prog : Program} {w : World} {A : Around} {E : Value → Shared → Prop} {s : Shared} {h₀ : Heap} {L : Addr} {m : PySem.Str → Option Value} {news : List (Addr × Obj)} {t u : Tok} {Q : Value → Shared → Prop} (hF : Fr h₀ L s.heap m) (hN : News h₀ L s.heap news)
    (h : ∀ D vs h' k, StrsAre vs nmList → Fr h₀ L h' m → News h₀ L h' ((D, listOf vs.toArray 0) :: news) → (∀ p ∈ news, p.1 < D) → Q (.ref D) { s with heap := h', toks := k }) :
    wpAny (model prog w) A (call (.builtin "str.split") [.str (Str.ofString "zero ra sp gp tp t0 t1 t2 s0 s1 a0 a1 a2 a3 a4 a5 a6 a7 s2 s3 s4 s5 s6 s7 s8 s9 s10 s11 t3 t4 t5 t6") t, .str (Str.ofString " ") u]) Q E s :=
  KSpl.split1 hF hN (by decide) (fun D l h' k e a F N l1 => h D (strValues l) h' k (by rw [e, names_split] at a; exact a) F N l1) (by decide +kernel)
local macro_rules | `(tactic| k_room) => `(tactic| ktr_room)
local macro_rules | `(tactic| units_room) => `(tactic| ktr_units)
local macro_rules | `(tactic| k_all) => `(tactic| with_reducible assumption)
local macro_rules | `(tactic| walk_at "eval Call") => `(tactic| (k_here; k_dflt (refine Call_ ?_)))
local macro_rules | `(tactic| walk_at "call builtin:str.split") => `(tactic| (k_here; k_dflt (refine' split_names ?k1 ?k2 ?_; (case k1 => k_asm); (case k2 => k_asm); k_whole); intro D' vs' h' k' ns' F' N' l1; (try k_lt l1)))
local macro_rules | `(tactic| walk_at "subscriptTail") => `(tactic| (k_here; (with_reducible show wpAny _ _ (subscriptTail _ _ (Value.ref _) (Value.int _ _)) _ _ _); k_dflt (refine' item_nm ?ktbl ?ktbw ?ktx ?ktb0 ?ktb1 ?_; (case ktbl => exact News.isList (by k_asm) (by k_mem)); (case ktbw => with_reducible assumption); (case ktx => with_reducible assumption); (case ktb0 => with_reducible assumption); (case ktb1 => with_reducible assumption)); intro _))
local macro_rules | `(tactic| walk_at "call ref") => `(tactic| (k_here; k_dflt (refine' Calls.go (cparts3 ?hL) ?k1 ?k2 ?k3 ?k4 ?k5 ?k6 ?k7 ?k8 ?_; (case k1 => k_asm); (case k2 => k_asm); (case k3 => k_asm); (case k4 => k_asm); (case k5 => k_asm); (case k6 => first | exact rfl | assumption); (case k7 => ktr_room); (case k8 => ktr_units); (case hL => with_reducible assumption); k_whole); (try dsimp only); intro D' D2' tv' t1' t2' t3' h9 tk9 F9 N9 l1 l2; (try k_lt l1); (have l3 := l2.1); (have l4 := l2.2); clear l2; (try k_lt l4); (try dsimp only); (try k_fold)))
local macro_rules | `(tactic| walk_at "call ref") => `(tactic| (k_here; k_dflt (refine' Calls.go (cparts2 ?hL) ?k1 ?k2 ?k3 ?k4 ?k5 ?k6 ?k7 ?k8 ?_; (case k1 => k_asm); (case k2 => k_asm); (case k3 => k_asm); (case k4 => k_asm); (case k5 => k_asm); (case k6 => first | exact rfl | assumption); (case k7 => ktr_room); (case k8 => ktr_units); (case hL => with_reducible assumption); k_whole); (try dsimp only); intro D' D2' tv' t1' t2' h9 tk9 F9 N9 l1 l2; (try k_lt l1); (have l3 := l2.1); (have l4 := l2.2); clear l2; (try k_lt l4); (try dsimp only); (try k_fold)))
local macro_rules | `(tactic| walk_at "call ref") => `(tactic| (k_here; k_dflt (refine' Calls.go (cwhole ?hL) ?k1 ?k2 ?k3 ?k4 ?k5 ?k6 ?k7 ?k8 ?_; (case k1 => k_asm); (case k2 => k_asm); (case k3 => k_asm); (case k4 => k_asm); (case k5 => k_asm); (case k6 => first | exact rfl | assumption); (case k7 => ktr_room); (case k8 => ktr_units); (case hL => with_reducible assumption); k_whole); (try dsimp only); intro t9 h9 tk9 F9 N9; (try dsimp only); (try k_fold)))
theorem cdone_lui {w : World} {mean : ExcName → Option Value} {mg mb : Str → Option Value} {news : List (Addr × Obj)} {C : Addr} {n : Nat} {us : List Value} {ns : List Int} {line x H : Str} {t t2 : Tok} {r z : Int} (h1 : 1 ≤ r) (h2 : r ≤ 31) (hx : nm r = x)
    (hL : Ln2 line (Str.ofString "lui") x H) (hH : Rd H z) (hz0 : 0 ≤ z) (hz1 : z < 1048576) (hI : IntsAre us ns) (hlen : ns.length = 32) (hoff : ∀ p ∈ news, p.1 ≠ C) :
    Calls 2 w mean mg mb 77 ((C, listOf us.toArray n) :: news) [Value.ref C, .str line t, .int r t2] (fun h₀ L m s Q => ∀ us' h' tk, Fr h₀ L h' m → News h₀ L h' ((C, listOf (List.toArray us') n) :: news) → IntsAre us' (ns.set r.toNat ((z * 4096).fmod 4294967296)) → Q (.bool true) { s with heap := h', toks := tk }) := by
  w_top off
  unfold Calls
  k_fill
  intros; rename_i hret
  refine wpAny_call ?_
  k_dflt cell_enter
  w_strict k_steps
  · exfalso; rename ((_ != _) = true) => q; simp at q
  · rename IntsAre (List.set _ _ _) _ => hI2
    rename News _ _ _ _ => hN
    exact hret _ _ _ (by assumption) (cb_drop hN (by kcj_all)) hI2
theorem cdone_zero {w : World} {mean : ExcName → Option Value} {mg mb : Str → Option Value} {news : List (Addr × Obj)} {C : Addr} {n : Nat} {us : List Value} {ns : List Int} {line x H : Str} {t t2 : Tok} {r z : Int} (h1 : 1 ≤ r) (h2 : r ≤ 31) (hx : nm r = x)
    (hL : Ln3 line (Str.ofString "addi") x (Str.ofString "zero") H) (hH : Rd H z) (hz0 : -2048 ≤ z) (hz1 : z < 2048) (hI : IntsAre us ns) (hlen : ns.length = 32) (hoff : ∀ p ∈ news, p.1 ≠ C) :
    Calls 2 w mean mg mb 77 ((C, listOf us.toArray n) :: news) [Value.ref C, .str line t, .int r t2] (fun h₀ L m s Q => ∀ us' h' tk, Fr h₀ L h' m → News h₀ L h' ((C, listOf (List.toArray us') n) :: news) → IntsAre us' (ns.set r.toNat ((0 + z).fmod 4294967296)) → Q (.bool true) { s with heap := h', toks := tk }) := by
  w_top off
  unfold Calls
  k_fill
  intros; rename_i hret
  refine wpAny_call ?_
  k_dflt cell_enter
  w_strict k_steps
  · exfalso; rename ((_ != _) = true) => q; simp at q
  · rename IntsAre (List.set _ _ _) _ => hI2
    rename News _ _ _ _ => hN
    exact hret _ _ _ (by assumption) (cb_drop hN (by kcj_all)) hI2
  · exfalso; rename ((List.any _ _) = false) => q; simp at q
theorem cdone_self {w : World} {mean : ExcName → Option Value} {mg mb : Str → Option Value} {news : List (Addr × Obj)} {C : Addr} {n : Nat} {us : List Value} {ns : List Int} {line x H : Str} {t t2 : Tok} {r z : Int} (h1 : 1 ≤ r) (h2 : r ≤ 31) (hx : nm r = x)
    (hxz : (x == Str.ofString "zero") = false) (hL : Ln3 line (Str.ofString "addi") x x H) (hH : Rd H z) (hz0 : -2048 ≤ z) (hz1 : z < 2048) (hI : IntsAre us ns) (hlen : ns.length = 32) (hoff : ∀ p ∈ news, p.1 ≠ C) :
    Calls 2 w mean mg mb 77 ((C, listOf us.toArray n) :: news) [Value.ref C, .str line t, .int r t2] (fun h₀ L m s Q => ∀ us' h' tk, Fr h₀ L h' m → News h₀ L h' ((C, listOf (List.toArray us') n) :: news) → IntsAre us' (ns.set r.toNat ((ns.getD r.toNat 0 + z).fmod 4294967296)) → Q (.bool true) { s with heap := h', toks := tk }) := by
  w_top off
  unfold Calls
  k_fill
  intros; rename_i hret
  refine wpAny_call ?_
  k_dflt cell_enter
  w_strict k_steps
  · exfalso; rename ((_ != _) = true) => q; simp at q
  · rename IntsAre (List.set _ _ _) _ => hI2
    rename News _ _ _ _ => hN
    exact hret _ _ _ (by assumption) (cb_drop hN (by kcj_all)) hI2
  · exfalso; rename ((List.any _ _) = false) => q; simp at q
end PartDn

section PartDu
abbrev DoneRet (C : Addr) (n : Nat) (news : List (Addr × Obj)) (ns' : List Int) : Heap → Addr → (Str → Option Value) → Shared → (Value → Shared → Prop) → Prop :=
  fun h₀ L m s Q => ∀ us' h' tk, Fr h₀ L h' m → News h₀ L h' ((C, listOf (List.toArray us') n) :: news) → IntsAre us' ns' → Q (.bool true) { s with heap := h', toks := tk }
theorem goU {k : Nat} {w : World} {mean : ExcName → Option Value} {mg mb : Str → Option Value} {f : Addr} {vs : List Value} {C : Addr} {us : List Value} {n : Nat} {ns' : List Int} {l : List (Addr × Obj)} {g : Obj → List (Addr × Obj)}
    (D : ∀ news : List (Addr × Obj), (∀ p ∈ news, p.1 ≠ C) → Calls k w mean mg mb f ((C, listOf us.toArray n) :: news) vs (DoneRet C n news ns')) (U : UpdF C (listOf us.toArray n) l g)
    {dp un : Nat} {gd : Option (List Code)} {cn : Str} {cs : Scope} {a : Addr} {ccd : Value} {cl : List (Str × Addr)} {outer : List Env} {A₀ : Around} {base h₀ : Heap} {L : Addr} {m : Str → Option Value} {s : Shared} {Q E : Value → Shared → Prop}
    (B : Below A₀ base outer h₀) (F : Fr h₀ L s.heap m) (X : (hd.heap_39 w.params).In h₀) (N : News h₀ L s.heap l) (T : Top hd.view_39 (looseW hd.view_39 [Str.ofString "REGISTER_NAMES"]) mean mg mb h₀) (hk : cs.kind = .function)
    (hd : dp + k < recursionLimit) (hu : un + 100 + 10 * k < cLine) (r : ∀ us' h' tk, Fr h₀ L h' m → News h₀ L h' (g (listOf (List.toArray us') n)) → IntsAre us' ns' → Q (.bool true) { s with heap := h', toks := tk }) :
    wpAny (model PySem.Challenge.rw_nm0002_01.row.prog w) (ktrTop dp un gd cn cs L a ccd cl outer) (call (.ref f) vs) Q E s := by
  obtain ⟨pre, post, rfl, hg, h1, h2⟩ := U.split
  refine Calls.go (D (pre ++ post) ?_) B F X (fun p hp => N p ?_) T hk hd hu fun us' h' tk F' N' I' => r us' h' tk F' (fun p hp => N' p ?_) I'
  · intro p hp
    rcases List.mem_append.mp hp with hp | hp
    · exact h1 p hp
    · exact h2 p hp
  · rcases List.mem_cons.mp hp with rfl | hp
    · exact List.mem_append_right _ (.head _)
    · rcases List.mem_append.mp hp with hp | hp
      · exact List.mem_append_left _ hp
      · exact List.mem_append_right _ (.tail _ hp)
  · rw [hg] at hp
    rcases List.mem_append.mp hp with hp | hp
    · exact .tail _ (List.mem_append_left _ hp)
    · rcases List.mem_cons.mp hp with rfl | hp
      · exact .head _
      · exact .tail _ (List.mem_append_right _ hp)
end PartDu

section PartNr123
theorem ne_all {l : List (Addr × Obj)} {d : Addr} (h : ∀ p ∈ l, p.1 < d) : ∀ p ∈ l, p.1 ≠ d := fun p hp => Nat.ne_of_lt (h p hp)
theorem ne_all1 {l : List (Addr × Obj)} {d : Addr} (h : ∀ p ∈ l, p.1 < d) : ∀ p ∈ l, p.1 ≠ d + 1 := fun p hp => Nat.ne_of_lt (Nat.lt_succ_of_lt (h p hp))
theorem ne_all2 {l : List (Addr × Obj)} {d : Addr} (h : ∀ p ∈ l, p.1 < d) : ∀ p ∈ l, p.1 ≠ d + 1 + 1 := fun p hp => Nat.ne_of_lt (Nat.lt_succ_of_lt (Nat.lt_succ_of_lt (h p hp)))
theorem eA {z : Int} (hS : -2048 ≤ z ∧ z ≤ 2047) : (decide (-2048 ≤ z ∧ z ≤ 2047) == decide (z < 2048)) = true := by
  rw [decide_eq_true hS, decide_eq_true (show z < 2048 by omega)]; rfl
theorem eB {z : Int} (hS : ¬ (-2048 ≤ z ∧ z ≤ 2047)) (h : -2048 ≤ z) : (decide (-2048 ≤ z ∧ z ≤ 2047) == decide (z < 2048)) = true := by
  rw [decide_eq_false hS, decide_eq_false (show ¬ z < 2048 by omega)]; rfl
theorem eC {z : Int} (hS : ¬ (-2048 ≤ z ∧ z ≤ 2047)) (h : ¬ -2048 ≤ z) : (decide (-2048 ≤ z ∧ z ≤ 2047) == decide (-2048 ≤ z)) = true := by
  rw [decide_eq_false hS, decide_eq_false h]; rfl
theorem eF {z : Int} {P : Prop} (hS : ¬ (-2048 ≤ z ∧ z ≤ 2047)) (h : -2048 ≤ z) (h2 : z < 2048) : P := absurd ⟨h, by omega⟩ hS
def DuePost (z : Int) (s : Shared) (v : Value) (s' : Shared) : Prop := ∃ t k, v = .int z t ∧ s' = { s with toks := k }
def DueV (_ : Int) : Prop := True
theorem due_join {M : Model} {A : Around} {E : Value → Shared → Prop} {s : Shared} {tree : Sem Value} {Q : Value → Shared → Prop} {v : Int} (_ : DueV v) (h1 : wpAny M A tree (DuePost (sg v) s) E s) (h2 : ∀ t k, Q (.int (sg v) t) { s with toks := k }) : wpAny M A tree Q E s :=
  wpAny_mono h1 (fun _ _ ⟨t, k, e1, e2⟩ => by subst e1; subst e2; exact h2 t k) fun _ _ e => e
theorem due_pos {v : Int} {s : Shared} {t : Tok} {k : Nat} (h : 2147483648 ≤ v.fmod 4294967296) : DuePost (sg v) s (.int (v.fmod 4294967296 - 4294967296) t) { s with toks := k } := ⟨t, k, by rw [sg, if_pos h], rfl⟩
theorem due_neg {v : Int} {s : Shared} {t : Tok} {k : Nat} (h : ¬ 2147483648 ≤ v.fmod 4294967296) : DuePost (sg v) s (.int (v.fmod 4294967296) t) { s with toks := k } := ⟨t, k, by rw [sg, if_neg h], rfl⟩
theorem ne_same {prog : Program} {w : World} {A : Around} {E : Value → Shared → Prop} {s : Shared} {a b : Addr} {vs us : List Value} {ns ms : List Int} {Q : Value → Shared → Prop} (hl : s.heap.IsList a vs.toArray) (hi : IntsAre vs ns) (hl' : s.heap.IsList b us.toArray) (hi' : IntsAre us ms) (hu : A.units + 64 < cLine) (e : ns = ms)
    (h : Q (.bool false) s) : wpAny (model prog w) A (compareOp .NotEq (.ref a) (.ref b)) Q E s := ne_intsK hl hi hl' hi' hu (by rw [decide_eq_true e]; exact h)
theorem mod_zero {prog : Program} {w : World} {A : Around} {E : Value → Shared → Prop} {s : Shared} {a b : Int} {t u : Tok} {Q : Value → Shared → Prop} (e : a.fmod b = 0) (hb : b ≠ 0) (h : ∀ t' k, Q (.int 0 t') { s with toks := k }) : wpAny (model prog w) A (binaryOp .Mod (.int a t) (.int b u)) Q E s := mod_int' hb (by rw [e]; exact h _ _)
theorem crows1 {w : World} {mean : ExcName → Option Value} {mg mb : Str → Option Value} {news : List (Addr × Obj)} {v : Int} {t : Tok} {r : Int} {t2 : Tok} (h1 : 1 ≤ r) (h2 : r ≤ 31) {x Dg Dh Dl : Str} (hx : nm r = x) (hxl : x.length ≤ 20)
    (hg : Str.ofString (toString (sg v)) = Dg) (hgl : Dg.length ≤ 20) (hh : Str.ofString (toString (hi v)) = Dh) (hhl : Dh.length ≤ 20) (hl : Str.ofString (toString (lo v)) = Dl) (hll : Dl.length ≤ 20)
    (hi0 : 0 ≤ hi v) (hi1 : hi v < 1048576) (lo0 : -2048 ≤ lo v) (lo1 : lo v ≤ 2047) (hS : -2048 ≤ sg v ∧ sg v ≤ 2047) :
    Calls 3 w mean mg mb 50 news [Value.int r t2, Value.int v t] (fun h₀ L m s Q => ∀ D t n h' tk, Fr h₀ L h' m → News h₀ L h' ((D, listOf #[.str (line3 (Str.ofString "addi") x (Str.ofString "zero") Dg) t] n) :: news) → (∀ p ∈ news, p.1 < D) → Q (.ref D) { s with heap := h', toks := tk }) :=
  fun dp un gd cn cs a ccd cl outer A₀ base h₀ L m s Q E B F X N T hk hd hu ret => cnrows h1 h2 hx hxl hg hgl hh hhl hl hll hi0 hi1 lo0 lo1 _ _ _ _ _ _ _ _ _ _ _ _ _ _ _ _ _ B F X N T hk hd hu ⟨fun _ => ret, fun h => absurd hS h, fun h => absurd hS h⟩
theorem crows2 {w : World} {mean : ExcName → Option Value} {mg mb : Str → Option Value} {news : List (Addr × Obj)} {v : Int} {t : Tok} {r : Int} {t2 : Tok} (h1 : 1 ≤ r) (h2 : r ≤ 31) {x Dg Dh Dl : Str} (hx : nm r = x) (hxl : x.length ≤ 20)
    (hg : Str.ofString (toString (sg v)) = Dg) (hgl : Dg.length ≤ 20) (hh : Str.ofString (toString (hi v)) = Dh) (hhl : Dh.length ≤ 20) (hl : Str.ofString (toString (lo v)) = Dl) (hll : Dl.length ≤ 20)
    (hi0 : 0 ≤ hi v) (hi1 : hi v < 1048576) (lo0 : -2048 ≤ lo v) (lo1 : lo v ≤ 2047) (hS : ¬ (-2048 ≤ sg v ∧ sg v ≤ 2047)) (hZ : lo v = 0) :
    Calls 3 w mean mg mb 50 news [Value.int r t2, Value.int v t] (fun h₀ L m s Q => ∀ D t n h' tk, Fr h₀ L h' m → News h₀ L h' ((D, listOf #[.str (line2 (Str.ofString "lui") x Dh) t] n) :: news) → (∀ p ∈ news, p.1 < D) → Q (.ref D) { s with heap := h', toks := tk }) :=
  fun dp un gd cn cs a ccd cl outer A₀ base h₀ L m s Q E B F X N T hk hd hu ret => cnrows h1 h2 hx hxl hg hgl hh hhl hl hll hi0 hi1 lo0 lo1 _ _ _ _ _ _ _ _ _ _ _ _ _ _ _ _ _ B F X N T hk hd hu ⟨fun h => absurd h hS, fun _ _ => ret, fun _ h => absurd hZ h⟩
theorem crows3 {w : World} {mean : ExcName → Option Value} {mg mb : Str → Option Value} {news : List (Addr × Obj)} {v : Int} {t : Tok} {r : Int} {t2 : Tok} (h1 : 1 ≤ r) (h2 : r ≤ 31) {x Dg Dh Dl : Str} (hx : nm r = x) (hxl : x.length ≤ 20)
    (hg : Str.ofString (toString (sg v)) = Dg) (hgl : Dg.length ≤ 20) (hh : Str.ofString (toString (hi v)) = Dh) (hhl : Dh.length ≤ 20) (hl : Str.ofString (toString (lo v)) = Dl) (hll : Dl.length ≤ 20)
    (hi0 : 0 ≤ hi v) (hi1 : hi v < 1048576) (lo0 : -2048 ≤ lo v) (lo1 : lo v ≤ 2047) (hS : ¬ (-2048 ≤ sg v ∧ sg v ≤ 2047)) (hZ : lo v ≠ 0) :
    Calls 3 w mean mg mb 50 news [Value.int r t2, Value.int v t] (fun h₀ L m s Q => ∀ D t t' n h' tk, Fr h₀ L h' m → News h₀ L h' ((D, listOf #[.str (line2 (Str.ofString "lui") x Dh) t, .str (line3 (Str.ofString "addi") x x Dl) t'] n) :: news) → (∀ p ∈ news, p.1 < D) → Q (.ref D) { s with heap := h', toks := tk }) :=
  fun dp un gd cn cs a ccd cl outer A₀ base h₀ L m s Q E B F X N T hk hd hu ret => cnrows h1 h2 hx hxl hg hgl hh hhl hl hll hi0 hi1 lo0 lo1 _ _ _ _ _ _ _ _ _ _ _ _ _ _ _ _ _ B F X N T hk hd hu ⟨fun h => absurd h hS, fun _ h => absurd h hZ, fun _ _ => ret⟩
local macro_rules | `(tactic| k_all) => `(tactic| first | with_reducible assumption | exact ne_all (by with_reducible assumption) | exact ne_all1 (by with_reducible assumption) | exact ne_all2 (by with_reducible assumption))
local macro_rules | `(tactic| k_room) => `(tactic| ktr_room)
local macro_rules | `(tactic| units_room) => `(tactic| ktr_units)
local macro_rules | `(tactic| walk_at "eval Call") => `(tactic| (k_here; k_dflt (refine Call_ ?_)))
local macro_rules | `(tactic| walk_at "call type:list") => `(tactic| (k_here; (with_reducible show wpAny _ _ (call (Value.type _) [Value.ref _]) _ _ _); (rename IsRange _ _ _ _ _ _ _ _ => rgX); k_dflt (refine' kll_range (n := 32) ?k0 ?k1 ?k2 ?k3 ?k4 ?k5 ?k6 ?_; (case k0 => rfl); (case k1 => k_asm); (case k2 => k_asm); (case k3 => first | exact rgX | assumption); (case k4 => decide); (case k5 => decide); (case k6 => decide); k_whole); intro D' vs' c' h' tk' F' N' l1 hI'; (have l9 := l1); (repeat (replace l9 := (List.forall_mem_cons.mp l9).2)); (try k_lt l1); (try k_sweep)))
local macro_rules | `(tactic| walk_at "call ref") => `(tactic| (k_here; k_dflt (refine' Calls.go (csigned) ?k1 ?k2 ?k3 ?k4 ?k5 ?k6 ?k7 ?k8 ?_; (case k1 => k_asm); (case k2 => k_asm); (case k3 => k_asm); (case k4 => k_asm); (case k5 => k_asm); (case k6 => first | exact rfl | assumption); (case k7 => ktr_room); (case k8 => ktr_units); k_whole); (try dsimp only); intro t9 h9 tk9 F9 N9; (try dsimp only); (try k_fold)))
local macro_rules | `(tactic| walk_at "call ref") => `(tactic| (k_here; k_dflt (refine' Calls.go (csmall) ?k1 ?k2 ?k3 ?k4 ?k5 ?k6 ?k7 ?k8 ?_; (case k1 => k_asm); (case k2 => k_asm); (case k3 => k_asm); (case k4 => k_asm); (case k5 => k_asm); (case k6 => first | exact rfl | assumption); (case k7 => ktr_room); (case k8 => ktr_units); k_whole); (try dsimp only); intro h9 tk9 F9 N9; (try dsimp only); (try k_fold)))
local macro_rules | `(tactic| walk_at "call ref") => `(tactic| (k_here; k_dflt (refine' Calls.go (chalves) ?k1 ?k2 ?k3 ?k4 ?k5 ?k6 ?k7 ?k8 ?_; (case k1 => k_asm); (case k2 => k_asm); (case k3 => k_asm); (case k4 => k_asm); (case k5 => k_asm); (case k6 => first | exact rfl | assumption); (case k7 => ktr_room); (case k8 => ktr_units); k_whole); (try dsimp only); intro D' t8 t9 h9 tk9 F9 N9 l1; (try k_lt l1); (try dsimp only); (try k_fold)))
local macro_rules | `(tactic| walk_at "call ref") => `(tactic| (k_here; k_dflt (refine' Calls.go (crows1 ?q0 ?q1 ?q2 ?q3 ?q4 ?q5 ?q6 ?q7 ?q8 ?q9 ?q10 ?q11 ?q12 ?q13 ?q14) ?k1 ?k2 ?k3 ?k4 ?k5 ?k6 ?k7 ?k8 ?_; (case k1 => k_asm); (case k2 => k_asm); (case k3 => k_asm); (case k4 => k_asm); (case k5 => k_asm); (case k6 => first | exact rfl | assumption); (case k7 => ktr_room); (case k8 => ktr_units); (case q0 => with_reducible assumption); (case q1 => with_reducible assumption); (case q2 => with_reducible assumption); (case q3 => with_reducible assumption); (case q4 => with_reducible assumption); (case q5 => with_reducible assumption); (case q6 => with_reducible assumption); (case q7 => with_reducible assumption); (case q8 => with_reducible assumption); (case q9 => with_reducible assumption); (case q10 => with_reducible assumption); (case q11 => with_reducible assumption); (case q12 => with_reducible assumption); (case q13 => with_reducible assumption); (case q14 => with_reducible assumption); k_whole); (try dsimp only); intro D' t8 n8 h9 tk9 F9 N9 l1; (try k_lt l1); (try dsimp only); (try k_fold)))
local macro_rules | `(tactic| walk_at "call ref") => `(tactic| (k_here; k_dflt (refine' Calls.go (crows2 ?q0 ?q1 ?q2 ?q3 ?q4 ?q5 ?q6 ?q7 ?q8 ?q9 ?q10 ?q11 ?q12 ?q13 ?q14 ?q15) ?k1 ?k2 ?k3 ?k4 ?k5 ?k6 ?k7 ?k8 ?_; (case k1 => k_asm); (case k2 => k_asm); (case k3 => k_asm); (case k4 => k_asm); (case k5 => k_asm); (case k6 => first | exact rfl | assumption); (case k7 => ktr_room); (case k8 => ktr_units); (case q0 => with_reducible assumption); (case q1 => with_reducible assumption); (case q2 => with_reducible assumption); (case q3 => with_reducible assumption); (case q4 => with_reducible assumption); (case q5 => with_reducible assumption); (case q6 => with_reducible assumption); (case q7 => with_reducible assumption); (case q8 => with_reducible assumption); (case q9 => with_reducible assumption); (case q10 => with_reducible assumption); (case q11 => with_reducible assumption); (case q12 => with_reducible assumption); (case q13 => with_reducible assumption); (case q14 => with_reducible assumption); (case q15 => with_reducible assumption); k_whole); (try dsimp only); intro D' t8 n8 h9 tk9 F9 N9 l1; (try k_lt l1); (try dsimp only); (try k_fold)))
local macro_rules | `(tactic| walk_at "call ref") => `(tactic| (k_here; k_dflt (refine' Calls.go (crows3 ?q0 ?q1 ?q2 ?q3 ?q4 ?q5 ?q6 ?q7 ?q8 ?q9 ?q10 ?q11 ?q12 ?q13 ?q14 ?q15) ?k1 ?k2 ?k3 ?k4 ?k5 ?k6 ?k7 ?k8 ?_; (case k1 => k_asm); (case k2 => k_asm); (case k3 => k_asm); (case k4 => k_asm); (case k5 => k_asm); (case k6 => first | exact rfl | assumption); (case k7 => ktr_room); (case k8 => ktr_units); (case q0 => with_reducible assumption); (case q1 => with_reducible assumption); (case q2 => with_reducible assumption); (case q3 => with_reducible assumption); (case q4 => with_reducible assumption); (case q5 => with_reducible assumption); (case q6 => with_reducible assumption); (case q7 => with_reducible assumption); (case q8 => with_reducible assumption); (case q9 => with_reducible assumption); (case q10 => with_reducible assumption); (case q11 => with_reducible assumption); (case q12 => with_reducible assumption); (case q13 => with_reducible assumption); (case q14 => with_reducible assumption); (case q15 => with_reducible assumption); k_whole); (try dsimp only); intro D' t8 t9 n8 h9 tk9 F9 N9 l1; (try k_lt l1); (try dsimp only); (try k_fold)))
local macro_rules | `(tactic| walk_at "call ref") => `(tactic| (k_here; k_dflt (refine' goU (fun _ hoff9 => cdone_lui ?q1 ?q2 ?qx ?qL ?qH ?qz ?qy ?qI ?qn hoff9) ?kU ?k1 ?k2 ?k3 ?k4 ?k5 ?k6 ?k7 ?k8 ?_; (case k1 => k_asm); (case k2 => k_asm); (case k3 => k_asm); (case k4 => k_asm); (case k5 => k_asm); (case k6 => first | exact rfl | assumption); (case kU => k_updF); (case q1 => with_reducible assumption); (case q2 => with_reducible assumption); (case qx => with_reducible assumption); (case qL => with_reducible assumption); (case qH => with_reducible assumption); (case qz => omega); (case qy => omega); (case qI => with_reducible assumption); (case qn => simp only [List.length_set, rangeKs_length]); (case k7 => ktr_room); (case k8 => ktr_units); k_whole); (try dsimp only); intro us' h9 tk9 F9 N9 hI'; (try dsimp only at N9); (try dsimp only); (try k_fold); (try k_sweep)))
local macro_rules | `(tactic| walk_at "call ref") => `(tactic| (k_here; k_dflt (refine' goU (fun _ hoff9 => cdone_zero ?q1 ?q2 ?qx ?qL ?qH ?qz ?qy ?qI ?qn hoff9) ?kU ?k1 ?k2 ?k3 ?k4 ?k5 ?k6 ?k7 ?k8 ?_; (case k1 => k_asm); (case k2 => k_asm); (case k3 => k_asm); (case k4 => k_asm); (case k5 => k_asm); (case k6 => first | exact rfl | assumption); (case kU => k_updF); (case q1 => with_reducible assumption); (case q2 => with_reducible assumption); (case qx => with_reducible assumption); (case qL => with_reducible assumption); (case qH => with_reducible assumption); (case qz => omega); (case qy => omega); (case qI => with_reducible assumption); (case qn => simp only [List.length_set, rangeKs_length]); (case k7 => ktr_room); (case k8 => ktr_units); k_whole); (try dsimp only); intro us' h9 tk9 F9 N9 hI'; (try dsimp only at N9); (try dsimp only); (try k_fold); (try k_sweep)))
local macro_rules | `(tactic| walk_at "call ref") => `(tactic| (k_here; k_dflt (refine' goU (fun _ hoff9 => cdone_self ?q1 ?q2 ?qx ?qZ ?qL ?qH ?qz ?qy ?qI ?qn hoff9) ?kU ?k1 ?k2 ?k3 ?k4 ?k5 ?k6 ?k7 ?k8 ?_; (case k1 => k_asm); (case k2 => k_asm); (case k3 => k_asm); (case k4 => k_asm); (case k5 => k_asm); (case k6 => first | exact rfl | assumption); (case kU => k_updF); (case q1 => with_reducible assumption); (case q2 => with_reducible assumption); (case qx => with_reducible assumption); (case qL => with_reducible assumption); (case qH => with_reducible assumption); (case qZ => with_reducible assumption); (case qz => omega); (case qy => omega); (case qI => with_reducible assumption); (case qn => simp only [List.length_set, rangeKs_length]); (case k7 => ktr_room); (case k8 => ktr_units); k_whole); (try dsimp only); intro us' h9 tk9 F9 N9 hI'; (try dsimp only at N9); (try dsimp only); (try k_fold); (try k_sweep)))
local macro_rules | `(tactic| walk_at "CompEnd") => `(tactic| (k_dflt (refine LCg.CompEnd.intro (by assumption) (by assumption) _ (fun _ hp => hp) (by assumption) (Or.inr ⟨_, by k_mem, rfl, _, rfl⟩) ?_)))
local macro_rules | `(tactic| walk_at "execs nil") => `(tactic| (refine wpAny_execs_nil ?_; (try dsimp only)))
local macro_rules | `(tactic| walk_at "execs cons") => `(tactic| (refine wpAny_execs_cons ?_; (try dsimp only)))
local macro_rules | `(tactic| walk_at "DuePost") => `(tactic| k_dflt (first | exact due_pos (by assumption) | exact due_neg (by assumption)))
local macro_rules | `(tactic| walk_at "eval IfExp") => `(tactic| (k_here; (with_reducible show wpAny _ _ (eval (Expr.IfExp (Expr.Compare _ _ _ _) _ _ _) _) _ _ _); (fail_if_success (with_reducible show wpAny _ _ _ (DuePost _ _) _ _)); k_dflt (refine' due_join (by with_reducible assumption) ?_ ?_); (rotate_left; intro _ _; rotate_left)))
local macro_rules | `(tactic| walk_at "compareOp NotEq ref ref") => `(tactic| (k_here; (with_reducible show wpAny _ _ (compareOp CmpOp.NotEq (Value.ref _) (Value.ref _)) _ _ _); k_dflt (refine' ne_same ?k1 ?k2 ?k3 ?k4 ?k5 ?k6 ?_; (case k1 => is_list); (case k2 => with_reducible assumption); (case k3 => is_list); (case k4 => with_reducible assumption); (case k5 => units_room); (case k6 => with_reducible assumption); k_whole)))
local macro_rules | `(tactic| walk_at "binaryOp Mod int int") => `(tactic| (k_here; k_dflt (refine' mod_zero ?k1 ?k2 ?_; (case k1 => with_reducible assumption); (case k2 => decide); k_whole); intro _ _))
theorem cnr1 {w : World} {mean : ExcName → Option Value} {mg mb : Str → Option Value} {news : List (Addr × Obj)} {v : Int} {t : Tok} {r : Int} {t2 : Tok} (h1 : 1 ≤ r) (h2 : r ≤ 31) {x Dg Dh Dl : Str} (hx : nm r = x) (hxl : x.length ≤ 20)
    (hg : Str.ofString (toString (sg v)) = Dg) (hgl : Dg.length ≤ 20) (hh : Str.ofString (toString (hi v)) = Dh) (hhl : Dh.length ≤ 20) (hl : Str.ofString (toString (lo v)) = Dl) (hll : Dl.length ≤ 20)
    (hi0 : 0 ≤ hi v) (hi1 : hi v < 1048576) (lo0 : -2048 ≤ lo v) (lo1 : lo v ≤ 2047)
    (hxz : (x == Str.ofString "zero") = false) (hLg : Ln3 (line3 (Str.ofString "addi") x (Str.ofString "zero") Dg) (Str.ofString "addi") x (Str.ofString "zero") Dg) (hLh : Ln2 (line2 (Str.ofString "lui") x Dh) (Str.ofString "lui") x Dh) (hLl : Ln3 (line3 (Str.ofString "addi") x x Dl) (Str.ofString "addi") x x Dl)
    (hRg : Rd Dg (sg v)) (hRh : Rd Dh (hi v)) (hRl : Rd Dl (lo v)) (hDV : DueV v) (hmod : (hi v * 4096 + lo v - v).fmod 4294967296 = 0) (hS : -2048 ≤ sg v ∧ sg v ≤ 2047) (hE : (rangeKs 1000 32).set r.toNat ((0 + sg v).fmod 4294967296) = (rangeKs 1000 32).set r.toNat (v.fmod 4294967296)) :
    Calls 4 w mean mg mb 82 news [Value.int v t, Value.int r t2] (fun h₀ L m s Q => ∀ h' tk, Fr h₀ L h' m → News h₀ L h' news → Q (.bool true) { s with heap := h', toks := tk }) := by
  w_top off
  unfold Calls
  k_fill
  intros; rename_i hret
  refine wpAny_call ?_
  k_dflt (refine' code_defC ?k1 ?k2 ?k3 ?k4 ?k5 ?kA ?kF ?kK ?k6 ?k7 ?k8 ?k9 ?kB ?kD ?_ ?c2 ?c3 ?c4; (case kA => exact rfl); (case kF => exact rfl); (case kK => assumption); (case k1 => k_asm); (case k2 => k_asm); (case k3 => k_asm); (case k4 => k_asm); (case k5 => k_asm); (case k6 => k_is); (case k7 => k_is); (case k8 => ktr_room); (case k9 => exact BindsTo.of_eq rfl); (case kB => exact rfl); (case kD => decide +kernel); (case c2 => exact rfl); (case c3 => exact rfl); (case c4 => exact rfl); k_whole; intro g' L' h' tk' cells' FG' F' N' Y' B' X' T' l1; (try k_lt l1); k_cells Y'; (try simp only [List.cons_append, List.nil_append] at N'); (try dsimp only); (try k_lift B'); (try k_fold))
  w_strict k_steps
  all_goals (rename News _ _ _ _ => hN)
  all_goals (refine cb_retB (fun _ => hret) ?_ (by assumption) (cb_drop hN (by kcj_all)))
  all_goals first
    | exact beq_self_eq_true (sg v)
    | exact eA hS
theorem cnr2 {w : World} {mean : ExcName → Option Value} {mg mb : Str → Option Value} {news : List (Addr × Obj)} {v : Int} {t : Tok} {r : Int} {t2 : Tok} (h1 : 1 ≤ r) (h2 : r ≤ 31) {x Dg Dh Dl : Str} (hx : nm r = x) (hxl : x.length ≤ 20)
    (hg : Str.ofString (toString (sg v)) = Dg) (hgl : Dg.length ≤ 20) (hh : Str.ofString (toString (hi v)) = Dh) (hhl : Dh.length ≤ 20) (hl : Str.ofString (toString (lo v)) = Dl) (hll : Dl.length ≤ 20)
    (hi0 : 0 ≤ hi v) (hi1 : hi v < 1048576) (lo0 : -2048 ≤ lo v) (lo1 : lo v ≤ 2047)
    (hxz : (x == Str.ofString "zero") = false) (hLg : Ln3 (line3 (Str.ofString "addi") x (Str.ofString "zero") Dg) (Str.ofString "addi") x (Str.ofString "zero") Dg) (hLh : Ln2 (line2 (Str.ofString "lui") x Dh) (Str.ofString "lui") x Dh) (hLl : Ln3 (line3 (Str.ofString "addi") x x Dl) (Str.ofString "addi") x x Dl)
    (hRg : Rd Dg (sg v)) (hRh : Rd Dh (hi v)) (hRl : Rd Dl (lo v)) (hDV : DueV v) (hmod : (hi v * 4096 + lo v - v).fmod 4294967296 = 0) (hS : ¬ (-2048 ≤ sg v ∧ sg v ≤ 2047)) (hZ : lo v = 0) (hE : (rangeKs 1000 32).set r.toNat ((hi v * 4096).fmod 4294967296) = (rangeKs 1000 32).set r.toNat (v.fmod 4294967296)) (hM : (v.fmod 4294967296).fmod 4096 = 0) :
    Calls 4 w mean mg mb 82 news [Value.int v t, Value.int r t2] (fun h₀ L m s Q => ∀ h' tk, Fr h₀ L h' m → News h₀ L h' news → Q (.bool true) { s with heap := h', toks := tk }) := by
  w_top off
  unfold Calls
  k_fill
  intros; rename_i hret
  refine wpAny_call ?_
  k_dflt (refine' code_defC ?k1 ?k2 ?k3 ?k4 ?k5 ?kA ?kF ?kK ?k6 ?k7 ?k8 ?k9 ?kB ?kD ?_ ?c2 ?c3 ?c4; (case kA => exact rfl); (case kF => exact rfl); (case kK => assumption); (case k1 => k_asm); (case k2 => k_asm); (case k3 => k_asm); (case k4 => k_asm); (case k5 => k_asm); (case k6 => k_is); (case k7 => k_is); (case k8 => ktr_room); (case k9 => exact BindsTo.of_eq rfl); (case kB => exact rfl); (case kD => decide +kernel); (case c2 => exact rfl); (case c3 => exact rfl); (case c4 => exact rfl); k_whole; intro g' L' h' tk' cells' FG' F' N' Y' B' X' T' l1; (try k_lt l1); k_cells Y'; (try simp only [List.cons_append, List.nil_append] at N'); (try dsimp only); (try k_lift B'); (try k_fold))
  w_strict k_steps
  all_goals (rename News _ _ _ _ => hN)
  all_goals (refine cb_retB (fun _ => hret) ?_ (by assumption) (cb_drop hN (by kcj_all)))
  all_goals first
    | exact beq_self_eq_true (sg v)
    | exact eB hS (by with_reducible assumption)
    | exact eC hS (by with_reducible assumption)
    | exact eF hS (by with_reducible assumption) (by with_reducible assumption)
theorem cnr3 {w : World} {mean : ExcName → Option Value} {mg mb : Str → Option Value} {news : List (Addr × Obj)} {v : Int} {t : Tok} {r : Int} {t2 : Tok} (h1 : 1 ≤ r) (h2 : r ≤ 31) {x Dg Dh Dl : Str} (hx : nm r = x) (hxl : x.length ≤ 20)
    (hg : Str.ofString (toString (sg v)) = Dg) (hgl : Dg.length ≤ 20) (hh : Str.ofString (toString (hi v)) = Dh) (hhl : Dh.length ≤ 20) (hl : Str.ofString (toString (lo v)) = Dl) (hll : Dl.length ≤ 20)
    (hi0 : 0 ≤ hi v) (hi1 : hi v < 1048576) (lo0 : -2048 ≤ lo v) (lo1 : lo v ≤ 2047)
    (hxz : (x == Str.ofString "zero") = false) (hLg : Ln3 (line3 (Str.ofString "addi") x (Str.ofString "zero") Dg) (Str.ofString "addi") x (Str.ofString "zero") Dg) (hLh : Ln2 (line2 (Str.ofString "lui") x Dh) (Str.ofString "lui") x Dh) (hLl : Ln3 (line3 (Str.ofString "addi") x x Dl) (Str.ofString "addi") x x Dl)
    (hRg : Rd Dg (sg v)) (hRh : Rd Dh (hi v)) (hRl : Rd Dl (lo v)) (hDV : DueV v) (hmod : (hi v * 4096 + lo v - v).fmod 4294967296 = 0) (hS : ¬ (-2048 ≤ sg v ∧ sg v ≤ 2047)) (hZ : lo v ≠ 0) (hE : ((rangeKs 1000 32).set r.toNat ((hi v * 4096).fmod 4294967296)).set r.toNat ((((rangeKs 1000 32).set r.toNat ((hi v * 4096).fmod 4294967296)).getD r.toNat 0 + lo v).fmod 4294967296) = (rangeKs 1000 32).set r.toNat (v.fmod 4294967296)) (hM : (v.fmod 4294967296).fmod 4096 ≠ 0) :
    Calls 4 w mean mg mb 82 news [Value.int v t, Value.int r t2] (fun h₀ L m s Q => ∀ h' tk, Fr h₀ L h' m → News h₀ L h' news → Q (.bool true) { s with heap := h', toks := tk }) := by
  w_top off
  unfold Calls
  k_fill
  intros; rename_i hret
  refine wpAny_call ?_
  k_dflt (refine' code_defC ?k1 ?k2 ?k3 ?k4 ?k5 ?kA ?kF ?kK ?k6 ?k7 ?k8 ?k9 ?kB ?kD ?_ ?c2 ?c3 ?c4; (case kA => exact rfl); (case kF => exact rfl); (case kK => assumption); (case k1 => k_asm); (case k2 => k_asm); (case k3 => k_asm); (case k4 => k_asm); (case k5 => k_asm); (case k6 => k_is); (case k7 => k_is); (case k8 => ktr_room); (case k9 => exact BindsTo.of_eq rfl); (case kB => exact rfl); (case kD => decide +kernel); (case c2 => exact rfl); (case c3 => exact rfl); (case c4 => exact rfl); k_whole; intro g' L' h' tk' cells' FG' F' N' Y' B' X' T' l1; (try k_lt l1); k_cells Y'; (try simp only [List.cons_append, List.nil_append] at N'); (try dsimp only); (try k_lift B'); (try k_fold))
  w_strict k_steps
  all_goals (rename News _ _ _ _ => hN)
  all_goals (refine cb_retB (fun _ => hret) ?_ (by assumption) (cb_drop hN (by kcj_all)))
  all_goals first
    | exact beq_self_eq_true (sg v)
    | exact eB hS (by with_reducible assumption)
    | exact eC hS (by with_reducible assumption)
    | exact eF hS (by with_reducible assumption) (by with_reducible assumption)
    | exact absurd (by with_reducible assumption) hM
end PartNr123

section PartCp
theorem eq_strs3 {prog : Program} {w : World} {A : Around} {E : Value → Shared → Prop} {s : Shared} {a b : Addr} {x y z : Str} {t1 t2 t3 u1 u2 u3 : Tok} {Q : Value → Shared → Prop} (hl : s.heap.IsList a #[Value.str x t1, .str y t2, .str z t3]) (hl' : s.heap.IsList b #[Value.str x u1, .str y u2, .str z u3]) (hu : A.units + 64 < cLine) (ox : PyData.strOk x = true) (oy : PyData.strOk y = true) (oz : PyData.strOk z = true)
    (h : Q (.bool true) s) : wpAny (model prog w) A (compareOp .Eq (.ref a) (.ref b)) Q E s :=
  eq_dataH_same (da := .list [.str x, .str y, .str z]) (db := .list [.str x, .str y, .str z]) (reads_newData (ys := [Value.str x t1, .str y t2, .str z t3]) hl (.cons (.str _ _) (.cons (.str _ _) (.cons (.str _ _) .nil)))) (reads_newData (ys := [Value.str x u1, .str y u2, .str z u3]) hl' (.cons (.str _ _) (.cons (.str _ _) (.cons (.str _ _) .nil))))
    (by simp [SeqAt.shaped, PyData.canLay0, PyData.depth, PyData.canLayAll0, PyData.depthAll, ox, oy, oz]) (by simp [SeqAt.shaped, PyData.canLay0, PyData.depth, PyData.canLayAll0, PyData.depthAll, ox, oy, oz]) hu
    (SeqAt.noMix_of_shape (.list .str) rfl _ _ (by rfl) (by rfl)) (by rw [show PySem.Spec.same (.list [.str x, .str y, .str z]) (.list [.str x, .str y, .str z]) = true from by simp [PySem.Spec.same, PySem.Spec.sameAll]]; exact h)
theorem eq_nils {prog : Program} {w : World} {A : Around} {E : Value → Shared → Prop} {s : Shared} {a b : Addr} {Q : Value → Shared → Prop} (hl : s.heap.IsList a #[]) (hl' : s.heap.IsList b #[]) (hu : A.units + 64 < cLine)
    (h : Q (.bool true) s) : wpAny (model prog w) A (compareOp .Eq (.ref a) (.ref b)) Q E s := eq_intsK (vs := []) (us := []) hl .nil hl' .nil hu h
local macro_rules | `(tactic| walk_at "compareOp Eq ref ref") => `(tactic| (k_here; (with_reducible show wpAny _ _ (compareOp CmpOp.Eq (Value.ref _) (Value.ref _)) _ _ _); k_dflt (refine' eq_strs3 ?k1 ?k2 ?k3 ?k4 ?k5 ?k6 ?_; (case k1 => exact News.isList (by k_asm) (by k_mem)); (case k2 => exact News.isList (by k_asm) (by k_mem)); (case k3 => units_room); (case k4 => with_reducible assumption); (case k5 => with_reducible assumption); (case k6 => decide +kernel); k_whole)))
local macro_rules | `(tactic| walk_at "compareOp Eq ref ref") => `(tactic| (k_here; (with_reducible show wpAny _ _ (compareOp CmpOp.Eq (Value.ref _) (Value.ref _)) _ _ _); k_dflt (refine' eq_nils ?k1 ?k2 ?k3 ?_; (case k1 => is_list); (case k2 => is_list); (case k3 => units_room); k_whole)))
theorem eqi_ne {prog : Program} {w : World} {A : Around} {E : Value → Shared → Prop} {s : Shared} {a b : Int} {t u : Tok} {Q : Value → Shared → Prop} (e : a ≠ b) (h : Q (.bool false) s) : wpAny (model prog w) A (compareOp .Eq (.int a t) (.int b u)) Q E s := eq_int (by rw [beq_false_of_ne e]; exact h)
theorem eqi_eq {prog : Program} {w : World} {A : Around} {E : Value → Shared → Prop} {s : Shared} {a b : Int} {t u : Tok} {Q : Value → Shared → Prop} (e : a = b) (h : Q (.bool true) s) : wpAny (model prog w) A (compareOp .Eq (.int a t) (.int b u)) Q E s := eq_int (by rw [beq_iff_eq.mpr e]; exact h)
local macro_rules | `(tactic| walk_at "compareOp Eq int int") => `(tactic| (k_here; k_dflt (first | refine eqi_ne (by with_reducible assumption) ?_ | refine eqi_eq (by with_reducible assumption) ?_)))
local macro_rules | `(tactic| k_room) => `(tactic| ktr_room)
local macro_rules | `(tactic| units_room) => `(tactic| ktr_units)
local macro_rules | `(tactic| walk_at "eval Call") => `(tactic| (k_here; k_dflt (refine Call_ ?_)))
local macro_rules | `(tactic| walk_at "execs nil") => `(tactic| (refine wpAny_execs_nil ?_; (try dsimp only)))
local macro_rules | `(tactic| walk_at "execs cons") => `(tactic| (refine wpAny_execs_cons ?_; (try dsimp only)))
local macro_rules | `(tactic| walk_at "call builtin:str.split") => `(tactic| (k_here; k_dflt (refine' split_names ?k1 ?k2 ?_; (case k1 => k_asm); (case k2 => k_asm); k_whole); intro D' vs' h' k' ns' F' N' l1; (try k_lt l1)))
local macro_rules | `(tactic| walk_at "subscriptTail") => `(tactic| (k_here; (with_reducible show wpAny _ _ (subscriptTail _ _ (Value.ref _) (Value.int _ _)) _ _ _); k_dflt (refine' item_nm ?ktbl ?ktbw ?ktx ?ktb0 ?ktb1 ?_; (case ktbl => exact News.isList (by k_asm) (by k_mem)); (case ktbw => with_reducible assumption); (case ktx => with_reducible assumption); (case ktb0 => with_reducible assumption); (case ktb1 => with_reducible assumption)); intro _))
local macro_rules | `(tactic| walk_at "subscriptTail") => `(tactic| (k_here; (with_reducible show wpAny _ _ (subscriptTail _ _ (Value.ref 15) (Value.int _ _)) _ _ _); k_dflt (refine' item_nm ?ktbl ?ktbw ?ktx ?ktb0 ?ktb1 ?_; (case ktbl => ktb_isList); (case ktbw => repeat constructor); (case ktx => with_reducible assumption); (case ktb0 => with_reducible assumption); (case ktb1 => with_reducible assumption)); intro _))
local macro_rules | `(tactic| walk_at "call ref") => `(tactic| (k_here; k_dflt (refine' Calls.go (rowof3 ?h1 ?h2 ?h3 ?h4 ?hl) ?k1 ?k2 ?k3 ?k4 ?k5 ?k6 ?k7 ?k8 ?_; (case k1 => k_asm); (case k2 => k_asm); (case k3 => k_asm); (case k4 => k_asm); (case k5 => k_asm); (case k6 => first | exact rfl | assumption); (case k7 => ktr_room); (case k8 => ktr_units); (case hl => k_mem); (case h1 => first | assumption | decide); (case h2 => first | assumption | decide); (case h3 => first | assumption | decide); (case h4 => first | assumption | decide); k_whole); (try dsimp only); intro t9 h9 tk9 F9 N9; (try dsimp only); (try k_fold)))
local macro_rules | `(tactic| walk_at "call ref") => `(tactic| (k_here; k_dflt (refine' Calls.go (cparts3 ?hL) ?k1 ?k2 ?k3 ?k4 ?k5 ?k6 ?k7 ?k8 ?_; (case k1 => k_asm); (case k2 => k_asm); (case k3 => k_asm); (case k4 => k_asm); (case k5 => k_asm); (case k6 => first | exact rfl | assumption); (case k7 => ktr_room); (case k8 => ktr_units); (case hL => with_reducible assumption); k_whole); (try dsimp only); intro D' D2' tv' t1' t2' t3' h9 tk9 F9 N9 l1 l2; (try k_lt l1); (have l3 := l2.1); (have l4 := l2.2); clear l2; (try k_lt l4); (try dsimp only); (try k_fold)))
theorem ccopyN {w : World} {mean : ExcName → Option Value} {mg mb : Str → Option Value} {news : List (Addr × Obj)} {a b : Int} {t t2 : Tok} {x y : Str} (ha1 : 1 ≤ a) (ha2 : a ≤ 31) (hb1 : 1 ≤ b) (hb2 : b ≤ 31) (hx : nm a = x) (hy : nm b = y) (hxl : x.length ≤ 20) (hyl : y.length ≤ 20) (hox : PyData.strOk x = true) (hoy : PyData.strOk y = true)
    (hL : Ln3 (line3 (Str.ofString "addi") x y (Str.ofString "0")) (Str.ofString "addi") x y (Str.ofString "0")) (hne : a ≠ b) :
    Calls 4 w mean mg mb 89 news [Value.int a t, Value.int b t2] (fun h₀ L m s Q => ∀ h' tk, Fr h₀ L h' m → News h₀ L h' news → Q (.bool true) { s with heap := h', toks := tk }) := by
  w_top off
  unfold Calls
  k_fill
  intros; rename_i hret
  refine wpAny_call ?_
  k_dflt cell_enter
  w_strict k_steps
  rename News _ _ _ _ => hN
  exact hret _ _ (by assumption) (cb_drop hN (by kcj_all))
theorem ccopyE {w : World} {mean : ExcName → Option Value} {mg mb : Str → Option Value} {news : List (Addr × Obj)} {a b : Int} {t t2 : Tok} (hne : a = b) :
    Calls 4 w mean mg mb 89 news [Value.int a t, Value.int b t2] (fun h₀ L m s Q => ∀ h' tk, Fr h₀ L h' m → News h₀ L h' news → Q (.bool true) { s with heap := h', toks := tk }) := by
  w_top off
  unfold Calls
  k_fill
  intros; rename_i hret
  refine wpAny_call ?_
  k_dflt cell_enter
  w_strict k_steps
  rename News _ _ _ _ => hN
  exact hret _ _ (by assumption) (cb_drop hN (by kcj_all))
end PartCp

section PartPd
-- slices
theorem slice_cps (x : Str) {a b : Nat} (hab : a ≤ b) (hb : b ≤ x.length) : (Txt.slice x (some (a : Int)) (some (b : Int))).cps.toList = (x.cps.toList.drop a).take (b - a) := by
  unfold Txt.slice
  rw [StrLaws.sliced_plain x hab hb]
  split
  · rename_i h
    rw [StrLaws.strSliceIndices_plain hab hb] at h
    simp at h
    have hl : x.cps.toList.length = x.length := by simp [Str.length]
    have ha : a = 0 := by omega
    subst ha
    rw [List.drop_zero, List.take_of_length_le (by omega)]
  · rfl
theorem slice_none_lo (x : Str) (u : Option Int) : Txt.slice x none u = Txt.slice x (some 0) u := by unfold Txt.slice; rw [StrLaws.sliceIdx_none_lo]
theorem slice_none_hi (x : Str) (l : Option Int) : Txt.slice x l none = Txt.slice x l (some (x.length : Int)) := by unfold Txt.slice; rw [StrLaws.sliceIdx_none_hi]
theorem slice01 (x : Str) (h : 1 ≤ x.length) : (Txt.slice x none (some 1)).cps.toList = x.cps.toList.take 1 := by
  rw [slice_none_lo]
  have q := slice_cps x (a := 0) (b := 1) (by decide) h
  simpa using q
theorem slice12 (x : Str) (h : 2 ≤ x.length) : (Txt.slice x (some 1) (some 2)).cps.toList = (x.cps.toList.drop 1).take 1 := slice_cps x (a := 1) (b := 2) (by decide) h
theorem slice1 (x : Str) (h : 1 ≤ x.length) : (Txt.slice x (some 1) none).cps.toList = x.cps.toList.drop 1 := by
  rw [slice_none_hi]
  have q := slice_cps x (a := 1) (b := x.length) h (Nat.le_refl _)
  have hl : x.cps.toList.length = x.length := by simp [Str.length]
  rw [List.take_of_length_le (by rw [List.length_drop, hl]; exact Nat.le_refl _)] at q
  exact q
theorem str_eq {x y : Str} (h : x.cps.toList = y.cps.toList) : x = y := Str.ext' (Array.toList_inj.mp h)
theorem str_ne {x y : Str} (h : x.cps.toList ≠ y.cps.toList) : (x == y) = false := beq_false_of_ne fun e => h (by rw [e])
theorem len_cps (x : Str) : x.length = x.cps.toList.length := by simp [Str.length]
-- digits
def D (m : Nat) : List Nat := (Nat.toDigits 10 m).map Char.toNat
theorem D_digits (m : Nat) : ∀ c ∈ D m, 48 ≤ c ∧ c ≤ 57 := by
  intro c hc
  obtain ⟨ch, hch, e⟩ := List.mem_map.mp hc
  rw [← e]
  exact digit_range (Nat.isDigit_of_mem_toDigits (by decide) (by decide) hch)
theorem D_len {m k : Nat} (hk : 1 ≤ k) (h : m < 10 ^ k) : (D m).length ≤ k := by
  unfold D
  rw [List.length_map]
  exact digits10_le hk h
theorem D_pos (m : Nat) : 1 ≤ (D m).length := by
  unfold D
  rw [List.length_map]
  exact tDigits_len_ge 10 m
theorem text_nat (m : Nat) : (Str.ofString (toString (Int.ofNat m))).cps.toList = D m := by
  rw [text_ofNat]; rfl
theorem text_neg (m : Nat) : (Str.ofString (toString (Int.negSucc m))).cps.toList = 45 :: D (m + 1) := by
  rw [signs_ofString]
  have e : toString (Int.negSucc m) = "-" ++ Nat.repr (m + 1) := rfl
  rw [e, String.toList_append, List.map_append, Nat.toList_repr]
  rfl
theorem dval_nat : ∀ (l : List Nat) (a : Nat), (∀ c ∈ l, 48 ≤ c) → (l.map fun (c : Nat) => (c : Int)).foldl (fun (a : Int) (c : Int) => a * 10 + (c - 48)) (a : Int) = ((l.foldl (fun acc c => acc * 10 + (c - 48)) a : Nat) : Int)
  | [], _, _ => rfl
  | c :: r, a, h => by
    have hc := h c (.head _)
    have e : (a : Int) * 10 + ((c : Int) - 48) = ((a * 10 + (c - 48) : Nat) : Int) := by omega
    show (r.map fun (c : Nat) => (c : Int)).foldl _ ((a : Int) * 10 + ((c : Int) - 48)) = _
    rw [e, dval_nat r _ fun d hd => h d (.tail _ hd)]
    rfl
theorem dval_D (m : Nat) : dval ((D m).map fun (c : Nat) => (c : Int)) = (m : Int) := by
  unfold dval
  have q := dval_nat (D m) 0 fun c hc => (D_digits m c hc).1
  have e : (D m).foldl (fun acc c => acc * 10 + (c - 48)) 0 = m := KIN.val_back m
  rw [e] at q
  exact q
theorem codes_eq {x : Str} {l : List Nat} (h : x.cps.toList = l) : KStt.codes x = l.map fun (c : Nat) => (c : Int) := by unfold KStt.codes; rw [h]
theorem codes_D {x : Str} {m : Nat} (h : x.cps.toList = D m) : ∀ c ∈ KStt.codes x, 48 ≤ c ∧ c ≤ 57 := by
  intro c hc
  rw [codes_eq h] at hc
  obtain ⟨d, hd, rfl⟩ := List.mem_map.mp hc
  have q := D_digits m d hd
  omega
theorem rd_text {n : Int} (h : n.natAbs < 10 ^ 10) : Rd (Str.ofString (toString n)) n := by
  have hmin : (Str.ofString "-").cps.toList = [45] := by decide
  have hemp : (Str.ofString "").cps.toList = [] := by decide
  cases n with
  | ofNat m =>
    have hm : m < 10 ^ 10 := h
    have e := text_nat m
    have hl := len_cps (Str.ofString (toString (Int.ofNat m)))
    rw [e] at hl
    have h1 := D_len (by decide) hm
    have h2 := D_pos m
    refine ⟨by omega, Or.inl ⟨str_ne ?_, codes_D e, ?_, str_ne ?_⟩⟩
    · rw [e, hemp]; intro q; rw [q] at h2; exact absurd h2 (by decide)
    · rw [codes_eq e]; exact dval_D m
    · rw [slice01 _ (by omega), e, hmin]
      have hd := D_digits m
      cases hD : D m with
      | nil => simp
      | cons c r =>
        intro q
        have hc := hd c (by rw [hD]; exact .head _)
        have : c = 45 := by simpa using q
        omega
  | negSucc m =>
    have hm : m + 1 < 10 ^ 10 := h
    have e := text_neg m
    have hl := len_cps (Str.ofString (toString (Int.negSucc m)))
    rw [e] at hl
    have h1 := D_len (by decide) hm
    have h2 := D_pos (m + 1)
    have hl' : (Str.ofString (toString (Int.negSucc m))).length = (D (m + 1)).length + 1 := hl
    have e1 : (Txt.slice (Str.ofString (toString (Int.negSucc m))) (some 1) none).cps.toList = D (m + 1) := by rw [slice1 _ (by omega), e]; rfl
    refine ⟨by omega, Or.inr ⟨str_ne ?_, codes_D e1, ?_, ?_⟩⟩
    · rw [e1, hemp]; intro q; rw [q] at h2; exact absurd h2 (by decide)
    · rw [codes_eq e1]; exact dval_D (m + 1)
    · exact beq_iff_eq.mpr (str_eq (by rw [slice01 _ (by omega), e, hmin]; rfl))
theorem text_free {n : Int} : ∀ c ∈ (Str.ofString (toString n)).cps.toList, c = 45 ∨ (48 ≤ c ∧ c ≤ 57) := by
  cases n with
  | ofNat m => intro c hc; rw [text_nat] at hc; exact Or.inr (D_digits m c hc)
  | negSucc m =>
    intro c hc
    rw [text_neg] at hc
    rcases List.mem_cons.mp hc with rfl | hc
    · exact Or.inl rfl
    · exact Or.inr (D_digits _ c hc)
end PartPd

section PartPl
open PySem.Builtin PySem.Builtin.Str
theorem at_one (x : Str) (c i : Nat) : StrLaws.At x ⟨#[c]⟩ x.length i ↔ x.cps.toList[i]? = some c := StrLaws.subAt_one x c i
theorem sub_list (x : Str) (i j : Nat) : (strSub x i j).cps.toList = (x.cps.toList.drop i).take (j - i) := StrLaws.strSub_toList x i j
theorem part_at (x : Str) (c : Nat) (A B : List Nat) (hx : x.cps.toList = A ++ c :: B) (hA : c ∉ A) : Txt.partition x ⟨#[c]⟩ = (⟨A.toArray⟩, ⟨#[c]⟩, ⟨B.toArray⟩) := by
  have hlen : x.length = A.length + (B.length + 1) := by rw [len_cps, hx]; simp
  unfold Txt.partition
  rcases StrLaws.occ_head x ⟨#[c]⟩ 1 (Nat.le_refl 1) with ⟨_, h⟩ | ⟨i, r, e, hi, hk⟩
  · refine absurd ((at_one x c A.length).mpr ?_) (h A.length)
    rw [hx]; simp
  · have hiA : i = A.length := by
      have h1 := (at_one x c i).mp hi
      rcases Nat.lt_trichotomy i A.length with hlt | heq | hgt
      · exfalso
        rw [hx, List.getElem?_append_left hlt] at h1
        exact hA (List.mem_of_getElem? h1)
      · exact heq
      · exact absurd ((at_one x c A.length).mpr (by rw [hx]; simp)) (hk _ hgt)
    subst hiA
    rw [e]
    have e1 : strSub x 0 A.length = ⟨A.toArray⟩ := str_eq (by rw [sub_list, hx]; simp)
    have e2 : strSub x (A.length + (⟨#[c]⟩ : Str).length) x.length = ⟨B.toArray⟩ := str_eq (by
      rw [sub_list, hx, hlen]
      have e3 : (⟨#[c]⟩ : Str).length = 1 := rfl
      rw [e3, show A ++ c :: B = (A ++ [c]) ++ B by simp, List.drop_left' (by simp)]
      exact List.take_of_length_le (by omega))
    simp only [e1, e2]
theorem chain_unique {s sub : Str} {hi : Nat} (hw : 1 ≤ sub.length) : ∀ {cuts cuts' : List Nat} {a f f' : Nat}, StrLaws.ChainG s sub hi a cuts f → (∀ k, f ≤ k → ¬ StrLaws.At s sub hi k) → StrLaws.ChainG s sub hi a cuts' f' → (∀ k, f' ≤ k → ¬ StrLaws.At s sub hi k) → cuts = cuts'
  | [], [], _, _, _, _, _, _, _ => rfl
  | [], c :: r, a, f, f', h, hn, h', _ => by
    have e : f = a := h
    subst e
    exact absurd h'.2.1 (hn c h'.1)
  | c :: r, [], a, f, f', h, _, h', hn' => by
    have e : f' = a := h'
    subst e
    exact absurd h.2.1 (hn' c h.1)
  | c :: r, d :: q, a, f, f', h, hn, h', hn' => by
    have e : c = d := by
      rcases Nat.lt_trichotomy c d with hlt | heq | hgt
      · exact absurd h.2.1 (h'.2.2.1 c h.1 hlt)
      · exact heq
      · exact absurd h'.2.1 (h.2.2.1 d h'.1 hgt)
    subst e
    rw [chain_unique hw h.2.2.2 hn h'.2.2.2 hn']
def sep : Str := ⟨#[44, 32]⟩
theorem at_comma {x : Str} {i : Nat} (h : StrLaws.At x sep x.length i) : x.cps.toList[i]? = some 44 := by
  have h2 := h.2
  rw [StrLaws.subAt_eq] at h2
  have h3 : (x.cps.toList.drop i).take 2 = [44, 32] := eq_of_beq h2
  have h4 : ((x.cps.toList.drop i).take 2)[0]? = some 44 := by rw [h3]; rfl
  rw [List.getElem?_take_of_lt (by decide), List.getElem?_drop] at h4
  exact h4
theorem at_of {x : Str} {i : Nat} (h : (x.cps.toList.drop i).take 2 = [44, 32]) : StrLaws.At x sep x.length i := by
  refine ⟨?_, ?_⟩
  · have hl := congrArg List.length h
    rw [List.length_take, List.length_drop, ← len_cps] at hl
    have e : sep.length = 2 := rfl
    have : ([44, 32] : List Nat).length = 2 := rfl
    omega
  · rw [StrLaws.subAt_eq]
    exact beq_iff_eq.mpr h
theorem split_of {x : Str} {cuts : List Nat} {f : Nat} (hC : StrLaws.ChainG x sep x.length 0 cuts f) (hn : ∀ k, f ≤ k → ¬ StrLaws.At x sep x.length k) (hl : 2 ≤ x.length) (hne : cuts ≠ []) : Txt.split x sep = StrLaws.partsFrom x 2 0 cuts := by
  obtain ⟨f', hC', hn'⟩ := StrLaws.occ_tight x sep (by decide)
  have e := chain_unique (by decide) hC' hn' hC hn
  unfold Txt.split
  have c1 : (decide (x.length < sep.length) || decide (Builtin.Str.strKind x < Builtin.Str.strKind sep)) = false := by
    have h1 : sep.length = 2 := rfl
    have h2 : ¬ (Builtin.Str.strKind x < Builtin.Str.strKind sep) := by
      have h3 : Builtin.Str.strKind sep = 1 := by decide +kernel
      have h4 : 1 ≤ Builtin.Str.strKind x := by
        unfold Builtin.Str.strKind
        split
        · decide
        · split <;> decide
      show ¬ (Builtin.Str.strKind x < Builtin.Str.strKind sep)
      omega
    rw [Bool.or_eq_false_iff]
    exact ⟨decide_eq_false (by omega), decide_eq_false h2⟩
  rw [c1, e]
  have c2 : cuts.isEmpty = false := by cases cuts with
    | nil => exact absurd rfl hne
    | cons _ _ => rfl
  rw [if_neg (by decide), c2, if_neg (by decide), StrLaws.partsBetween_eq]
  rfl
theorem no_at {x : Str} {A B : List Nat} {k : Nat} (hx : x.cps.toList = A ++ B) (hk : A.length ≤ k) (hB : 44 ∉ B) : ¬ StrLaws.At x sep x.length k := by
  intro h
  have h1 := at_comma h
  rw [hx, List.getElem?_append_right hk] at h1
  exact hB (List.mem_of_getElem? h1)
theorem no_at_mid {x : Str} {A B C : List Nat} {k : Nat} (hx : x.cps.toList = A ++ (B ++ C)) (hk : A.length ≤ k) (hk2 : k < A.length + B.length) (hB : 44 ∉ B) : ¬ StrLaws.At x sep x.length k := by
  intro h
  have h1 := at_comma h
  rw [hx, List.getElem?_append_right hk, List.getElem?_append_left (by omega)] at h1
  exact hB (List.mem_of_getElem? h1)
theorem splitL2 {x : Str} {A B : List Nat} (hx : x.cps.toList = A ++ ([44, 32] ++ B)) (ha : 44 ∉ A) (hb : 44 ∉ B) : Txt.split x sep = [⟨A.toArray⟩, ⟨B.toArray⟩] := by
  have hl : x.length = A.length + (2 + B.length) := by rw [len_cps, hx, List.length_append, List.length_append]; rfl
  have q1 : x.cps.toList.drop A.length = [44, 32] ++ B := by rw [hx, List.drop_left]
  have q2 : x.cps.toList.drop (A.length + 2) = B := by rw [← List.drop_drop, q1]; rfl
  have h := split_of (x := x) (cuts := [A.length]) (f := A.length + 2) ⟨Nat.zero_le _, at_of (by rw [q1]; rfl), fun k _ h2 => no_at_mid (A := []) (B := A) (C := [44, 32] ++ B) hx (Nat.zero_le _) (by show k < 0 + A.length; omega) ha, rfl⟩
    (fun k hk => no_at (A := A ++ [44, 32]) (B := B) (by rw [hx, List.append_assoc]) (by rw [List.length_append]; exact hk) hb) (by omega) (by simp)
  rw [h]
  show [strSub x 0 A.length, strSub x (A.length + 2) x.length] = _
  have e1 : strSub x 0 A.length = ⟨A.toArray⟩ := str_eq (by rw [sub_list, hx, List.drop_zero, Nat.sub_zero, List.take_left])
  have e2 : strSub x (A.length + 2) x.length = ⟨B.toArray⟩ := str_eq (by rw [sub_list, q2]; exact List.take_of_length_le (by omega))
  rw [e1, e2]
theorem splitL3 {x : Str} {A B C : List Nat} (hx : x.cps.toList = A ++ ([44, 32] ++ (B ++ ([44, 32] ++ C)))) (ha : 44 ∉ A) (hb : 44 ∉ B) (hc : 44 ∉ C) : Txt.split x sep = [⟨A.toArray⟩, ⟨B.toArray⟩, ⟨C.toArray⟩] := by
  have hl : x.length = A.length + (2 + (B.length + (2 + C.length))) := by rw [len_cps, hx, List.length_append, List.length_append, List.length_append, List.length_append]; rfl
  have q1 : x.cps.toList.drop A.length = [44, 32] ++ (B ++ ([44, 32] ++ C)) := by rw [hx, List.drop_left]
  have q2 : x.cps.toList.drop (A.length + 2) = B ++ ([44, 32] ++ C) := by rw [← List.drop_drop, q1]; rfl
  have q3 : x.cps.toList.drop (A.length + 2 + B.length) = [44, 32] ++ C := by rw [← List.drop_drop, q2, List.drop_left]
  have q4 : x.cps.toList.drop (A.length + 2 + B.length + 2) = C := by rw [← List.drop_drop, q3]; rfl
  have h := split_of (x := x) (cuts := [A.length, A.length + 2 + B.length]) (f := A.length + 2 + B.length + 2)
    ⟨Nat.zero_le _, at_of (by rw [q1]; rfl), fun k _ h2 => no_at_mid (A := []) (B := A) hx (Nat.zero_le _) (by show k < 0 + A.length; omega) ha,
     Nat.le_add_right _ _, at_of (by rw [q3]; rfl), fun k h1 h2 => no_at_mid (A := A ++ [44, 32]) (B := B) (C := [44, 32] ++ C) (by rw [hx]; simp only [List.append_assoc]) (by rw [List.length_append]; exact h1) (by rw [List.length_append]; exact h2) hb, rfl⟩
    (fun k hk => no_at (A := A ++ [44, 32] ++ B ++ [44, 32]) (B := C) (by rw [hx]; simp only [List.append_assoc]) (by simp only [List.length_append]; exact hk) hc) (by omega) (by simp)
  rw [h]
  show [strSub x 0 A.length, strSub x (A.length + 2) (A.length + 2 + B.length), strSub x (A.length + 2 + B.length + 2) x.length] = _
  have e1 : strSub x 0 A.length = ⟨A.toArray⟩ := str_eq (by rw [sub_list, hx, List.drop_zero, Nat.sub_zero, List.take_left])
  have e2 : strSub x (A.length + 2) (A.length + 2 + B.length) = ⟨B.toArray⟩ := str_eq (by rw [sub_list, q2, Nat.add_sub_cancel_left, List.take_left])
  have e3 : strSub x (A.length + 2 + B.length + 2) x.length = ⟨C.toArray⟩ := str_eq (by rw [sub_list, q4]; exact List.take_of_length_le (by omega))
  rw [e1, e2, e3]
theorem mk_self (a : Str) : (⟨a.cps.toList.toArray⟩ : Str) = a := str_eq rfl
theorem split2 {x a b : Str} (hx : x.cps.toList = a.cps.toList ++ ([44, 32] ++ b.cps.toList)) (ha : 44 ∉ a.cps.toList) (hb : 44 ∉ b.cps.toList) : Txt.split x sep = [a, b] := by
  have h := splitL2 hx ha hb
  rw [mk_self, mk_self] at h
  exact h
theorem split3 {x a b c : Str} (hx : x.cps.toList = a.cps.toList ++ ([44, 32] ++ (b.cps.toList ++ ([44, 32] ++ c.cps.toList)))) (ha : 44 ∉ a.cps.toList) (hb : 44 ∉ b.cps.toList) (hc : 44 ∉ c.cps.toList) : Txt.split x sep = [a, b, c] := by
  have h := splitL3 hx ha hb hc
  rw [mk_self, mk_self, mk_self] at h
  exact h
-- lines
theorem sep_eq : Str.ofString ", " = sep := by decide
theorem sp_eq : Str.ofString " " = ⟨#[32]⟩ := by decide
theorem join3_cps (a b c : Str) : (Txt.join (Str.ofString ", ") [a, b, c]).cps.toList = a.cps.toList ++ ([44, 32] ++ (b.cps.toList ++ ([44, 32] ++ c.cps.toList))) := by
  show (Builtin.Str.glued (Str.ofString ", ") [a, b, c]).cps.toList = _
  rw [StrLaws.glued_eq_join, sep_eq]
  show (a ++ sep ++ (b ++ sep ++ c)).cps.toList = _
  simp only [Str.cps_append, Array.toList_append, List.append_assoc]
  rfl
theorem join2_cps (a b : Str) : (Txt.join (Str.ofString ", ") [a, b]).cps.toList = a.cps.toList ++ ([44, 32] ++ b.cps.toList) := by
  show (Builtin.Str.glued (Str.ofString ", ") [a, b]).cps.toList = _
  rw [StrLaws.glued_eq_join, sep_eq]
  show (a ++ sep ++ b).cps.toList = _
  simp only [Str.cps_append, Array.toList_append, List.append_assoc]
  rfl
theorem line_ok {op rest : Str} {c : Nat} {O : List Nat} (ho : op.cps.toList = c :: O) (hs : 32 ∉ op.cps.toList) (hc : (⟨#[c]⟩ : Str) = Str.ofString "a" ∨ (⟨#[c]⟩ : Str) = Str.ofString "l") (hl1 : op.length ≤ 10) (hl2 : rest.length ≤ 80) :
    LnOk (Str.ofString "\t" ++ op ++ Str.ofString " " ++ rest) ⟨#[c]⟩ op rest := by
  have ht : (Str.ofString "\t").cps.toList = [9] := by decide
  have hp : (Str.ofString " ").cps.toList = [32] := by decide
  have hx : (Str.ofString "\t" ++ op ++ Str.ofString " " ++ rest).cps.toList = 9 :: (op.cps.toList ++ 32 :: rest.cps.toList) := by
    simp only [Str.cps_append, Array.toList_append, ht, hp]
    simp
  generalize hX : Str.ofString "\t" ++ op ++ Str.ofString " " ++ rest = X at hx
  have hlen : X.length = 1 + (op.length + (1 + rest.length)) := by rw [len_cps, hx, len_cps op, len_cps rest]; simp only [List.length_cons, List.length_append]; omega
  have hop : 1 ≤ op.length := by rw [len_cps, ho]; simp
  have hb : (Txt.slice X (some 1) none).cps.toList = op.cps.toList ++ 32 :: rest.cps.toList := by rw [slice1 _ (by omega), hx]; rfl
  have hpart : Txt.partition (Txt.slice X (some 1) none) (Str.ofString " ") = (op, Str.ofString " ", rest) := by
    rw [sp_eq, part_at _ 32 op.cps.toList rest.cps.toList hb hs, mk_self, mk_self]
  refine ⟨by omega, by omega, str_eq ?_, str_eq ?_, hc, by rw [hpart], by rw [hpart], by rw [hpart]⟩
  · rw [slice01 _ (by omega), hx, ht]; rfl
  · rw [slice12 _ (by omega), hx, ho]; rfl
theorem ln3 {op a b c : Str} {k : Nat} {O : List Nat} (ho : op.cps.toList = k :: O) (hs : 32 ∉ op.cps.toList) (hk : (⟨#[k]⟩ : Str) = Str.ofString "a" ∨ (⟨#[k]⟩ : Str) = Str.ofString "l") (hl1 : op.length ≤ 10) (la : a.length ≤ 20) (lb : b.length ≤ 20) (lc : c.length ≤ 20)
    (ha : 44 ∉ a.cps.toList) (hb : 44 ∉ b.cps.toList) (hc : 44 ∉ c.cps.toList) : Ln3 (line3 op a b c) op a b c := by
  have hj := join3_cps a b c
  have hlen : (Txt.join (Str.ofString ", ") [a, b, c]).length ≤ 80 := by
    rw [len_cps, hj]; simp only [List.length_append, ← len_cps]; show a.length + (2 + (b.length + (2 + c.length))) ≤ 80; omega
  refine ⟨_, _, line_ok ho hs hk hl1 hlen, ?_⟩
  rw [sep_eq]
  exact split3 (by rw [← sep_eq]; exact hj) ha hb hc
theorem ln2 {op a b : Str} {k : Nat} {O : List Nat} (ho : op.cps.toList = k :: O) (hs : 32 ∉ op.cps.toList) (hk : (⟨#[k]⟩ : Str) = Str.ofString "a" ∨ (⟨#[k]⟩ : Str) = Str.ofString "l") (hl1 : op.length ≤ 10) (la : a.length ≤ 20) (lb : b.length ≤ 20)
    (ha : 44 ∉ a.cps.toList) (hb : 44 ∉ b.cps.toList) : Ln2 (line2 op a b) op a b := by
  have hj := join2_cps a b
  have hlen : (Txt.join (Str.ofString ", ") [a, b]).length ≤ 80 := by
    rw [len_cps, hj]; simp only [List.length_append, ← len_cps]; show a.length + (2 + b.length) ≤ 80; omega
  refine ⟨_, _, line_ok ho hs hk hl1 hlen, ?_⟩
  rw [sep_eq]
  exact split2 (by rw [← sep_eq]; exact hj) ha hb
end PartPl

section PartPa
theorem fW (v : Int) : v.fmod 4294967296 = v % 4294967296 := Int.fmod_eq_emod_of_nonneg v (by decide)
theorem f4096 (v : Int) : v.fmod 4096 = v % 4096 := Int.fmod_eq_emod_of_nonneg v (by decide)
theorem sg_eq (v : Int) : sg v = if 2147483648 ≤ v % 4294967296 then v % 4294967296 - 4294967296 else v % 4294967296 := by unfold sg; rw [fW]
theorem hi_eq (v : Int) : hi v = ((v + 2048) / 4096) % 1048576 := by
  unfold hi
  rw [Int.fdiv_eq_ediv_of_nonneg _ (by decide), Int.fmod_eq_emod_of_nonneg _ (by decide)]
theorem lo_eq (v : Int) : lo v = (v + 2048) % 4096 - 2048 := by
  unfold lo
  rw [sg_eq, hi_eq]
  split <;> omega
theorem sg_bounds (v : Int) : -2147483648 ≤ sg v ∧ sg v < 2147483648 := by rw [sg_eq]; split <;> omega
theorem hi_bounds (v : Int) : 0 ≤ hi v ∧ hi v < 1048576 := by rw [hi_eq]; omega
theorem lo_bounds (v : Int) : -2048 ≤ lo v ∧ lo v ≤ 2047 := by rw [lo_eq]; omega
theorem mod_law (v : Int) : (hi v * 4096 + lo v - v).fmod 4294967296 = 0 := by rw [fW, lo_eq, hi_eq]; omega
theorem e1 (v : Int) : (0 + sg v).fmod 4294967296 = v.fmod 4294967296 := by rw [fW, fW, sg_eq]; split <;> omega
theorem e2 (v : Int) (h : lo v = 0) : (hi v * 4096).fmod 4294967296 = v.fmod 4294967296 := by rw [lo_eq] at h; rw [fW, fW, hi_eq]; omega
theorem e3 (v : Int) : ((hi v * 4096).fmod 4294967296 + lo v).fmod 4294967296 = v.fmod 4294967296 := by rw [fW, fW, fW, hi_eq, lo_eq]; omega
theorem m2 (v : Int) (h : lo v = 0) : (v.fmod 4294967296).fmod 4096 = 0 := by rw [lo_eq] at h; rw [fW, f4096]; omega
theorem m3 (v : Int) (h : lo v ≠ 0) : (v.fmod 4294967296).fmod 4096 ≠ 0 := by rw [lo_eq] at h; rw [fW, f4096]; omega
theorem set3 {R : List Int} {i : Nat} (h : i < R.length) (a b : Int) (c : Int) (e : (a + b).fmod 4294967296 = c) : (R.set i a).set i (((R.set i a).getD i 0 + b).fmod 4294967296) = R.set i c := by
  have q : (R.set i a).getD i 0 = a := by rw [List.getD_eq_getElem?_getD, List.getElem?_set_self h]; rfl
  rw [q, e, List.set_set]
theorem abs_small {n : Int} (h1 : -2147483648 ≤ n) (h2 : n < 2147483648) : n.natAbs < 10 ^ 10 := by
  have : (10 : Nat) ^ 10 = 10000000000 := by decide
  omega
theorem text_len {n : Int} (h1 : -2147483648 ≤ n) (h2 : n < 2147483648) : (Str.ofString (toString n)).length ≤ 20 := (rd_text (abs_small h1 h2)).1
theorem text_comma (n : Int) : 44 ∉ (Str.ofString (toString n)).cps.toList := by
  intro h
  have q := text_free 44 h
  omega
def goodB (x : Str) : Bool := decide (x.length ≤ 20) && !(x == Str.ofString "zero") && PyData.strOk x && !(x.cps.toList.contains 44)
theorem nm_all : (List.range 32).all (fun n => n == 0 || goodB (nmList.getD n Str.empty)) = true := by decide +kernel
theorem nm_good {r : Int} (h1 : 1 ≤ r) (h2 : r ≤ 31) : (nm r).length ≤ 20 ∧ (nm r == Str.ofString "zero") = false ∧ PyData.strOk (nm r) = true ∧ 44 ∉ (nm r).cps.toList := by
  have q := List.all_eq_true.mp nm_all r.toNat (List.mem_range.mpr (by omega))
  have h0 : (r.toNat == 0) = false := by rw [beq_eq_false_iff_ne]; omega
  rw [h0, Bool.false_or] at q
  unfold goodB at q
  simp only [Bool.and_eq_true, decide_eq_true_eq, Bool.not_eq_true'] at q
  obtain ⟨⟨⟨a, b⟩, c⟩, d⟩ := q
  refine ⟨a, b, c, fun hm => ?_⟩
  have d2 : List.contains (nm r).cps.toList 44 = false := d
  rw [List.contains_iff_mem.mpr hm] at d2
  cases d2
end PartPa

section PartCr
theorem cright {w : World} {mean : ExcName → Option Value} {mg mb : Str → Option Value} {news : List (Addr × Obj)} {v : Int} {t : Tok} {r : Int} {t2 : Tok} (h1 : 1 ≤ r) (h2 : r ≤ 31) :
    Calls 4 w mean mg mb 82 news [Value.int v t, Value.int r t2] (fun h₀ L m s Q => ∀ h' tk, Fr h₀ L h' m → News h₀ L h' news → Q (.bool true) { s with heap := h', toks := tk }) := by
  obtain ⟨g1, g2, g3, g4⟩ := nm_good h1 h2
  have sb := sg_bounds v
  have hb := hi_bounds v
  have lb := lo_bounds v
  have oa : (Str.ofString "addi").cps.toList = [97, 100, 100, 105] := by decide
  have ol : (Str.ofString "lui").cps.toList = [108, 117, 105] := by decide
  have sa : 32 ∉ (Str.ofString "addi").cps.toList := by decide
  have sl : 32 ∉ (Str.ofString "lui").cps.toList := by decide
  have oz : 44 ∉ (Str.ofString "zero").cps.toList := by decide
  have lz : (Str.ofString "zero").length ≤ 20 := by decide
  have la : (Str.ofString "addi").length ≤ 10 := by decide
  have ll : (Str.ofString "lui").length ≤ 10 := by decide
  have ka : (⟨#[97]⟩ : Str) = Str.ofString "a" := by decide
  have kl : (⟨#[108]⟩ : Str) = Str.ofString "l" := by decide
  have tg := text_len sb.1 sb.2
  have th : (Str.ofString (toString (hi v))).length ≤ 20 := text_len (by omega) (by omega)
  have tl : (Str.ofString (toString (lo v))).length ≤ 20 := text_len (by omega) (by omega)
  have Lg := ln3 (a := nm r) (b := Str.ofString "zero") (c := Str.ofString (toString (sg v))) oa sa (Or.inl ka) la g1 lz tg g4 oz (text_comma _)
  have Lh := ln2 (a := nm r) (b := Str.ofString (toString (hi v))) ol sl (Or.inr kl) ll g1 th g4 (text_comma _)
  have Ll := ln3 (a := nm r) (b := nm r) (c := Str.ofString (toString (lo v))) oa sa (Or.inl ka) la g1 g1 tl g4 g4 (text_comma _)
  have Rg : Rd (Str.ofString (toString (sg v))) (sg v) := rd_text (abs_small sb.1 sb.2)
  have Rh : Rd (Str.ofString (toString (hi v))) (hi v) := rd_text (abs_small (by omega) (by omega))
  have Rl : Rd (Str.ofString (toString (lo v))) (lo v) := rd_text (abs_small (by omega) (by omega))
  have hlen : r.toNat < (rangeKs 1000 32).length := by rw [rangeKs_length]; omega
  by_cases hS : -2048 ≤ sg v ∧ sg v ≤ 2047
  · exact cnr1 h1 h2 rfl g1 rfl tg rfl th rfl tl hb.1 hb.2 lb.1 lb.2 g2 Lg Lh Ll Rg Rh Rl True.intro (mod_law v) hS (by rw [e1])
  · by_cases hZ : lo v = 0
    · exact cnr2 h1 h2 rfl g1 rfl tg rfl th rfl tl hb.1 hb.2 lb.1 lb.2 g2 Lg Lh Ll Rg Rh Rl True.intro (mod_law v) hS hZ (by rw [e2 v hZ]) (m2 v hZ)
    · exact cnr3 h1 h2 rfl g1 rfl tg rfl th rfl tl hb.1 hb.2 lb.1 lb.2 g2 Lg Lh Ll Rg Rh Rl True.intro (mod_law v) hS hZ (set3 hlen _ _ _ (e3 v)) (m3 v hZ)
theorem ccopy {w : World} {mean : ExcName → Option Value} {mg mb : Str → Option Value} {news : List (Addr × Obj)} {a b : Int} {t t2 : Tok} (ha1 : 1 ≤ a) (ha2 : a ≤ 31) (hb1 : 1 ≤ b) (hb2 : b ≤ 31) :
    Calls 4 w mean mg mb 89 news [Value.int a t, Value.int b t2] (fun h₀ L m s Q => ∀ h' tk, Fr h₀ L h' m → News h₀ L h' news → Q (.bool true) { s with heap := h', toks := tk }) := by
  by_cases e : a = b
  · exact ccopyE e
  · obtain ⟨g1, _, g3, g4⟩ := nm_good ha1 ha2
    obtain ⟨f1, _, f3, f4⟩ := nm_good hb1 hb2
    have oa : (Str.ofString "addi").cps.toList = [97, 100, 100, 105] := by decide
    have L := ln3 (a := nm a) (b := nm b) (c := Str.ofString "0") oa (by decide) (Or.inl (by decide : (⟨#[97]⟩ : Str) = Str.ofString "a")) (by decide) g1 f1 (by decide) g4 f4 (by decide)
    exact ccopyN ha1 ha2 hb1 hb2 rfl rfl g1 f1 g3 f3 L e
end PartCr

section PartMain
theorem fm31 (a : Int) : 1 ≤ 1 + a.fmod 31 ∧ 1 + a.fmod 31 ≤ 31 := by
  have h1 := Int.fmod_nonneg_of_pos a (show (0 : Int) < 31 by decide)
  have h2 := Int.fmod_lt_of_pos a (show (0 : Int) < 31 by decide)
  omega
def LtAll (I : Addr) (l : List (Addr × Obj)) : Prop := ∀ p ∈ l, p.1 < I
theorem LtAll.of {I : Addr} {l : List (Addr × Obj)} (h : ∀ p ∈ l, p.1 < I) : LtAll I l := h
theorem off_its {I : Addr} {l : List (Addr × Obj)} {o1 o2 o3 o4 o5 : Obj} (h : LtAll I l) : ∀ p ∈ l, ∀ q ∈ [(I + 4, o1), (I + 2, o2), (I + 3, o3), (I, o4), (I + 1, o5)], p.1 ≠ q.1 := by
  intro p hp q hq e
  have h1 : @LT.lt Nat _ p.1 I := h p hp
  have h2 : @LE.le Nat _ I q.1 := by
    simp only [List.mem_cons, List.not_mem_nil, or_false] at hq
    rcases hq with rfl | rfl | rfl | rfl | rfl
    · exact Nat.le_add_right I 4
    · exact Nat.le_add_right I 2
    · exact Nat.le_add_right I 3
    · exact Nat.le_refl I
    · exact Nat.le_add_right I 1
  rw [e] at h1
  exact Nat.lt_irrefl _ (Nat.lt_of_lt_of_le h1 h2)
theorem unrEnd_same {h₀ : Heap} {L : Addr} {s₁ : Shared} {its : List (Addr × Obj)} {rest : (Str → Option Value) → List (Addr × Obj) → Prop} {h' : Heap} {tk : Nat} {m' : Str → Option Value} {l : List (Addr × Obj)}
    (F : Fr h₀ L h' m') (off : ∀ p ∈ l, ∀ q ∈ its, p.1 ≠ q.1) (N : News h₀ L h' (its ++ l)) (r : rest m' l) : UnrEndW h₀ L s₁ its rest { s₁ with heap := h', toks := tk } := ⟨h', tk, m', l, rfl, F, N, off, r⟩
local macro_rules | `(tactic| walk_at "exec For Tuple Call cons nil") => `(tactic| (k_here; (rename Fr _ _ _ _ => lF'); (with_unfolding_all refine' For_turns lF' ?_; k_whole)))
local macro_rules | `(tactic| walk_at "call type:zip") => `(tactic| (k_here; (with_reducible show wpAny _ _ (call (Value.type _) [Value.ref _, Value.ref _]) (fun xv s₁ => wpAny _ _ (pyIter xv) (fun it s₂ => TurnsAt _ _ _ _ _ _ _ _ _ it s₂) _ s₁) _ _); (rename Fr _ _ _ _ => lF'); (rename News _ _ _ _ => lN'); (with_unfolding_all refine ktu_zip (by rfl) lF' lN' (by k_mem) (by rfl) (by rfl) (by k_mem) (by rfl) (by rfl) ?_); clear lF' lN'; intro i' l1; (have lZ := LtAll.of l1); (try k_lt l1)))
local macro_rules | `(tactic| walk_at "UnrEndW") => `(tactic| (k_dflt (refine unrEnd_same (by assumption) (off_its (by with_reducible assumption)) (by assumption) ⟨by k_subL, ?_⟩)))
local macro_rules | `(tactic| walk_at "eval Call") => `(tactic| (k_here; k_dflt (refine Call_ ?_)))
local macro_rules | `(tactic| walk_at "call ref") => `(tactic| (k_here; k_dflt (refine' Calls.go (cright ?q1 ?q2) ?k1 ?k2 ?k3 ?k4 ?k5 ?k6 ?k7 ?k8 ?_; (case k1 => k_asm); (case k2 => k_asm); (case k3 => k_asm); (case k4 => k_asm); (case k5 => k_asm); (case k6 => first | exact rfl | assumption); (case k7 => ktr_room); (case k8 => ktr_units); (case q1 => first | exact (fm31 _).1 | decide | omega); (case q2 => first | exact (fm31 _).2 | decide | omega); k_whole); (try dsimp only); intro h9 tk9 F9 N9; (try dsimp only); (try k_fold)))
local macro_rules | `(tactic| walk_at "call ref") => `(tactic| (k_here; k_dflt (refine' Calls.go (ccopy ?q1 ?q2 ?q3 ?q4) ?k1 ?k2 ?k3 ?k4 ?k5 ?k6 ?k7 ?k8 ?_; (case k1 => k_asm); (case k2 => k_asm); (case k3 => k_asm); (case k4 => k_asm); (case k5 => k_asm); (case k6 => first | exact rfl | assumption); (case k7 => ktr_room); (case k8 => ktr_units); (case q1 => first | exact (fm31 _).1 | decide | omega); (case q2 => first | exact (fm31 _).2 | decide | omega); (case q3 => first | exact (fm31 _).1 | decide | omega); (case q4 => first | exact (fm31 _).2 | decide | omega); k_whole); (try dsimp only); intro h9 tk9 F9 N9; (try dsimp only); (try k_fold)))
theorem law : PySem.Challenge.rw_nm0002_01.Holds := hd (by
  k_with "pyIter ref" => k_state (fun pre s => 0 ≤ s ∧ s < 2147483647) "stirred"
  w_strict k_go)
end PartMain

end Mine

theorem PySem.Challenge.cw_nm0002_01_holds : PySem.Challenge.rw_nm0002_01.Holds := by
  exact Mine.law
