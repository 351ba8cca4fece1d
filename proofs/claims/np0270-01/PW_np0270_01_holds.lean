import PyProof.Rows.All
import Wide.All
import OpenK.AllK
import Wide.FinOn
import KE.KBytesUnr
import PyProof.Rows.WhileGen
import PyProof.ListStr
import Lean
import PySem.Challenge.RW_np0270_01
set_option Elab.async false
namespace Mine
local macro_rules | `(tactic| walk_at $s:str) => `(tactic| k_extra $s)
local macro_rules | `(tactic| ktr_enter) => `(tactic| k_extra "ktr_enter")
/-! Hd -/
section
open PySem PySem.W PyProof.Rows
set_option maxRecDepth 100000
set_option maxHeartbeats 8000000
open_top hd for PySem.Challenge.rw_np0270_01
end
/-! Rules -/
section
open PySem PySem.W PyProof.Rows
set_option maxRecDepth 100000
section
variable {α : Type} {P : α → Prop} {a b c d : α}
theorem all2 (h1 : P a) (h2 : P b) : ∀ p ∈ [a, b], P p := List.forall_mem_cons.mpr ⟨h1, List.forall_mem_cons.mpr ⟨h2, fun _ h => nomatch h⟩⟩
theorem all3 (h1 : P a) (h2 : P b) (h3 : P c) : ∀ p ∈ [a, b, c], P p := List.forall_mem_cons.mpr ⟨h1, all2 h2 h3⟩
theorem all4 (h1 : P a) (h2 : P b) (h3 : P c) (h4 : P d) : ∀ p ∈ [a, b, c, d], P p := List.forall_mem_cons.mpr ⟨h1, all3 h2 h3 h4⟩
end
section
variable {prog : Program} {w : World} {A : Around} {E : Value → Shared → Prop} {s : Shared} {b : Array UInt8} {t : Tok} {ks : List Int}
theorem len_lit {Q : Value → Shared → Prop} (n : Int) (hk : KBw.bInts b = ks) (hn : (ks.length : Int) = n) (hfit : n ≤ 1099511627776) (h : ∀ t' k, Q (.int n t') { s with toks := k }) :
    wpAny (model prog w) A (call (.builtin "len") [.bytes b t]) Q E s := by
  subst hn
  exact KBw.len_K hk (by omega) (h _ _)
theorem item_lit {value slice : PySem.Expr} {ui : Tok} {i k : Int} {Q : Value → Shared → Prop} (hk : KBw.bInts b = ks) (hfit : ks.length ≤ 1099511627776) (h0 : 0 ≤ i) (hi : ks[i.toNat]? = some k)
    (h : ∀ t' tk, Q (.int k t') { s with toks := tk })
    (hs : subscripted slice false (.bytes b t) (.int i ui) = operate [.bytes b t, .int i ui] (getItem (.bytes b t) (.int i ui)) := by with_unfolding_all rfl)
    (ht : ∀ r, letTemporaryGo value (.bytes b t) r = pure () := by intro _; with_unfolding_all rfl) : wpAny (model prog w) A (subscriptTail value slice (.bytes b t) (.int i ui)) Q E s := by
  have hlt : i.toNat < ks.length := (List.getElem?_eq_some_iff.mp hi).1
  refine KBw.item_K hk hfit h0 (by omega) (fun t' tk _ _ => ?_) hs ht
  have e : ks.getD i.toNat 0 = k := by rw [List.getD_eq_getElem?_getD, hi]; rfl
  rw [e]
  exact h _ _
theorem slice_lit {value slice : PySem.Expr} {h₀ : Heap} {L : Addr} {m : PySem.Str → Option Value} {news : List (Addr × Obj)} {l u : Value} {lo hi : Option Int} {Q : Value → Shared → Prop} {ks' : List Int}
    (hF : Fr h₀ L s.heap m) (hN : News h₀ L s.heap news) (hk : KBw.bInts b = ks) (hl : IsPart l lo) (hu : IsPart u hi) (hz : ks.length ≤ 16777216)
    (e : (ks.drop (lo.elim 0 (clipAt ks.length))).take (hi.elim ks.length (clipAt ks.length) - lo.elim 0 (clipAt ks.length)) = ks')
    (h : ∀ b' h' t' k, Fr h₀ L h' m → News h₀ L h' news → KBw.bInts b' = ks' → Q (.bytes b' t') { s with heap := h', toks := k })
    (hs : subscripted slice false (.bytes b t) (.ref s.heap.objs.size) = operate [.ref s.heap.objs.size, .bytes b t] (getItem (.bytes b t) (.ref s.heap.objs.size)) := by with_unfolding_all rfl)
    (ht : ∀ r, letTemporaryGo value (.bytes b t) r = pure () := by intro _; with_unfolding_all rfl) :
    wpAny (model prog w) A (subscriptTail value slice (.bytes b t) (.ref s.heap.objs.size)) Q E { s with heap := s.heap.push { cls := .type "slice", data := .fields #[l, u, .none] } } :=
  KBc.slice_K hF hN hk hl hu hz (fun h' t' k F N e' => h _ h' t' k F N (e'.trans e)) hs ht
theorem execs_gen {env : Env} {st : Stmt} {r : List Stmt} {Q : Flow → Shared → Prop} {hp : Heap} {gs} {dr} {tk : Nat} {os} (h : ∀ tk, wpAny (model prog w) A (execs (st :: r) env) Q E ⟨hp, gs, dr, tk, os⟩) :
    wpAny (model prog w) A (execs (st :: r) env) Q E ⟨hp, gs, dr, tk, os⟩ := h _
end
end
/-! Con2 -/
section
open PySem PySem.W PyProof.Rows
set_option maxRecDepth 100000
/-- a call upon the objects led: what it gives back and what it leaves (made); all else stands as it stood -/
noncomputable def Con (lvl : Nat) (w : World) (mean : ExcName → Option Value) (mg mb : Str → Option Value) (f : Addr) (vs : List Value) (led : List (Addr × Obj)) (Out : Value → List (Addr × Obj) → Prop) : Prop :=
  ∀ (dp un : Nat) (gd : Option (List Code)) (cn : Str) (cs : Scope) (a : Addr) (ccd : Value) (cl : List (Str × Addr)) (outer : List Env) (A₀ : Around) (base h₀ : Heap) (L : Addr) (m : Str → Option Value) (s : Shared) (Q E : Value → Shared → Prop),
    Below A₀ base outer h₀ → Fr h₀ L s.heap m → (hd.heap_39 w.params).In h₀ → News h₀ L s.heap led → Top hd.view_39 (looseW hd.view_39 [Str.ofString "_law_menu", Str.ofString "_law_codes"]) mean mg mb h₀ → cs.kind = .function →
    dp + 4 * (lvl + 1) < recursionLimit → un + 100 * (lvl + 1) < cLine →
    (∀ v made h' tk', Fr h₀ L h' m → News h₀ L h' made → (∀ b o, s.heap.get? b = some o → b ∉ led.map (·.1) → h'.get? b = some o) → (∀ p ∈ made, p.1 ∉ led.map (·.1) → s.heap.get? p.1 = none) → Out v made → Q v { s with heap := h', toks := tk' }) →
    wpAny (model PySem.Challenge.rw_np0270_01.row.prog w) (ktrTop dp un gd cn cs L a ccd cl outer) (call (.ref f) vs) Q E s

/-- the end of a contract's walk -/
theorem con_end {h₀ g h' : Heap} {L L' : Addr} {m m' : Str → Option Value} {s : Shared} {Q : Value → Shared → Prop} {led made made' : List (Addr × Obj)} {Out : Value → List (Addr × Obj) → Prop} {v : Value} {tk' : Nat}
    (hret : ∀ v made h' tk', Fr h₀ L h' m → News h₀ L h' made → (∀ b o, s.heap.get? b = some o → b ∉ led.map (·.1) → h'.get? b = some o) → (∀ p ∈ made, p.1 ∉ led.map (·.1) → s.heap.get? p.1 = none) → Out v made → Q v { s with heap := h', toks := tk' })
    (G : GSub s.heap g (led.map (·.1))) (F' : Fr g L' h' m') (N' : News g L' h' made') (F : Fr h₀ L h' m) (N : News h₀ L h' made') (sub : ∀ p ∈ made, p ∈ made') (o : Out v made) : Q v { s with heap := h', toks := tk' } :=
  hret v made h' tk' F (fun p hp => N p (sub p hp)) (fun b ob e n => F'.keep b ob (G b ob e n)) (fun p hp n => by
    cases e : s.heap.get? p.1 with
    | none => rfl
    | some ob => have h1 := G _ _ e n; rw [(N' p (sub p hp)).2.2] at h1; cases h1) o

/-- a contract is used -/
theorem con_use {lvl : Nat} {w : World} {mean : ExcName → Option Value} {mg mb : Str → Option Value} {f : Addr} {vs : List Value} {led : List (Addr × Obj)} {Out : Value → List (Addr × Obj) → Prop}
    {dp un : Nat} {gd : Option (List Code)} {cn : Str} {cs : Scope} {a : Addr} {ccd : Value} {cl : List (Str × Addr)} {outer : List Env} {A₀ : Around} {base h₀ : Heap} {L : Addr} {m : Str → Option Value} {s : Shared} {Q E : Value → Shared → Prop} {news : List (Addr × Obj)}
    (C : Con lvl w mean mg mb f vs led Out) (B : Below A₀ base outer h₀) (F : Fr h₀ L s.heap m) (X : (hd.heap_39 w.params).In h₀) (N : News h₀ L s.heap news)
    (T : Top hd.view_39 (looseW hd.view_39 [Str.ofString "_law_menu", Str.ofString "_law_codes"]) mean mg mb h₀) (hk : cs.kind = .function) (hd : dp + 4 * (lvl + 1) < recursionLimit) (hu : un + 100 * (lvl + 1) < cLine)
    (sub : ∀ p ∈ led, p ∈ news) (rest : List (Addr × Obj)) (hr : ∀ p ∈ rest, p ∈ news ∧ p.1 ∉ led.map (·.1))
    (h : ∀ v made h' tk', Fr h₀ L h' m → News h₀ L h' (made ++ rest) → (∀ p ∈ made, p.1 ∉ led.map (·.1) → ∀ q ∈ news, q.1 ≠ p.1) → Out v made → Q v { s with heap := h', toks := tk' }) :
    wpAny (model PySem.Challenge.rw_np0270_01.row.prog w) (ktrTop dp un gd cn cs L a ccd cl outer) (call (.ref f) vs) Q E s := by
  refine C dp un gd cn cs a ccd cl outer A₀ base h₀ L m s Q E B F X (fun p hp => N p (sub p hp)) T hk hd hu fun v made h' tk' F' N' keep fresh o => ?_
  refine h v made h' tk' F' (fun p hp => ?_) (fun p hp n q hq e => ?_) o
  · rcases List.mem_append.mp hp with hp | hp
    · exact N' p hp
    · have x := hr p hp
      exact ⟨keep _ _ (N p x.1).1 x.2, (N p x.1).2⟩
  · have h1 := (N q hq).1
    rw [e, fresh p hp n] at h1
    cases h1

/-- a contract that makes nothing of use: the ledger stands -/
theorem con_pure {lvl : Nat} {w : World} {mean : ExcName → Option Value} {mg mb : Str → Option Value} {f : Addr} {vs : List Value} {R : Value → Prop}
    {dp un : Nat} {gd : Option (List Code)} {cn : Str} {cs : Scope} {a : Addr} {ccd : Value} {cl : List (Str × Addr)} {outer : List Env} {A₀ : Around} {base h₀ : Heap} {L : Addr} {m : Str → Option Value} {s : Shared} {Q E : Value → Shared → Prop} {news : List (Addr × Obj)}
    (C : Con lvl w mean mg mb f vs [] (fun v _ => R v)) (B : Below A₀ base outer h₀) (F : Fr h₀ L s.heap m) (X : (hd.heap_39 w.params).In h₀) (N : News h₀ L s.heap news)
    (T : Top hd.view_39 (looseW hd.view_39 [Str.ofString "_law_menu", Str.ofString "_law_codes"]) mean mg mb h₀) (hk : cs.kind = .function) (hd : dp + 4 * (lvl + 1) < recursionLimit) (hu : un + 100 * (lvl + 1) < cLine)
    (h : ∀ v h' tk', Fr h₀ L h' m → News h₀ L h' news → (∀ b o, s.heap.get? b = some o → h'.get? b = some o) → R v → Q v { s with heap := h', toks := tk' }) :
    wpAny (model PySem.Challenge.rw_np0270_01.row.prog w) (ktrTop dp un gd cn cs L a ccd cl outer) (call (.ref f) vs) Q E s := by
  refine C dp un gd cn cs a ccd cl outer A₀ base h₀ L m s Q E B F X (fun p hp => nomatch hp) T hk hd hu fun v made h' tk' F' N' keep fresh o => ?_
  have k : ∀ b o, s.heap.get? b = some o → h'.get? b = some o := fun b o e => keep b o e (fun h => nomatch h)
  exact h v h' tk' F' (fun p hp => ⟨k _ _ (N p hp).1, (N p hp).2⟩) k o

noncomputable def OptInt (o : Option Int) (v : Value) : Prop := match o with
  | some c => ∃ t, v = .int c t
  | none => v = .none
theorem optN {o : Option Int} (h : o = none) : OptInt o .none := by rw [h]; rfl
theorem optI {o : Option Int} {c : Int} {t : Tok} (h : o = some c) : OptInt o (.int c t) := by rw [h]; exact ⟨t, rfl⟩
theorem optInt_cases {o : Option Int} {v : Value} (h : OptInt o v) : (o = none ∧ v = .none) ∨ ∃ c t, o = some c ∧ v = .int c t := by
  cases o with
  | none => exact .inl ⟨rfl, h⟩
  | some c => obtain ⟨t, e⟩ := h; exact .inr ⟨c, t, rfl, e⟩
section
variable {prog : Program} {w : World} {A : Around} {E : Value → Shared → Prop} {s : Shared} {h₀ : Heap} {L D : Addr} {m : PySem.Str → Option Value} {news : List (Addr × Obj)} {vs : List Value} {ns ks ls ms : List Int} {b c : Array UInt8} {t u : Tok}
theorem bytes_lit {Q : Value → Shared → Prop} (F : Fr h₀ L s.heap m) (N : News h₀ L s.heap news) (hh : A.handled = none) (hl : s.heap.IsList D vs.toArray) (hi : IntsAre vs ns) (hr : KBa.In ns) (hn : ns.length ≤ 16777216)
    (h : ∀ b h' t' k, Fr h₀ L h' m → News h₀ L h' news → KBw.bInts b = ns → Q (.bytes b t') { s with heap := h', toks := k }) : wpAny (model prog w) A (call (.type "bytes") [.ref D]) Q E s :=
  KBa.make_K F N hh hl hi hr hn fun h' t' k F' N' _ => h _ h' t' k F' N' (KBa.ints_make hr)
theorem add_lit {Q : Value → Shared → Prop} (hb : KBw.bInts b = ks) (hc : KBw.bInts c = ls) (hsz : ks.length + ls.length ≤ 16777216) (e : ks ++ ls = ms) (h : ∀ d t' k, KBw.bInts d = ms → Q (.bytes d t') { s with toks := k }) :
    wpAny (model prog w) A (binaryOp .Add (.bytes b t) (.bytes c u)) Q E s :=
  KBa.add_K hb hc hsz fun t' k e' => h _ t' k (e'.trans e)
theorem clip_nat (n m : Nat) : clipAt n (m : Int) = min m n := by
  have h := clipAt_cast n m
  rw [if_neg (Int.not_lt.mpr (Int.natCast_nonneg m)), Int.max_eq_right (Int.le_min.mpr ⟨Int.natCast_nonneg m, Int.natCast_nonneg n⟩)] at h
  rcases Nat.le_total m n with l | l
  · rw [Int.min_eq_left (Int.ofNat_le.mpr l)] at h; rw [Nat.min_eq_left l]; exact Int.ofNat_inj.mp h
  · rw [Int.min_eq_right (Int.ofNat_le.mpr l)] at h; rw [Nat.min_eq_right l]; exact Int.ofNat_inj.mp h
theorem clip_le {n m : Nat} (h : m ≤ n) : clipAt n (m : Int) = m := (clip_nat n m).trans (Nat.min_eq_left h)
theorem slice_to (n : Nat) (ks : List Int) (hn : n ≤ ks.length) : (ks.drop ((none : Option Int).elim 0 (clipAt ks.length))).take ((some (n : Int)).elim ks.length (clipAt ks.length) - (none : Option Int).elim 0 (clipAt ks.length)) = ks.take n := by
  have e : clipAt ks.length n = n := clip_le hn
  simp only [Option.elim, e, List.drop_zero, Nat.sub_zero]
end
end
/-! Draw -/
section
open PySem PySem.W PyProof.Rows
set_option maxRecDepth 100000
set_option maxHeartbeats 8000000
noncomputable abbrev deckIs (w : World) (o : Obj) (C : Addr) (k : Int) (t : Tok) : Prop := Obj.IsDictOf (PySem.strKind PySem.Challenge.rw_np0270_01.row.prog w) o [(Str.ofString "cells", Value.ref C), (Str.ofString "at", Value.int k t)]
noncomputable def DrawOut (w : World) (d C : Addr) (ys : List Value) (k below : Int) (v : Value) (made : List (Addr × Obj)) : Prop :=
  ∃ r t o t', v = .int r t ∧ 0 ≤ r ∧ r < below ∧ made = [(d, o), (C, LCg.lst ys)] ∧ deckIs w o C (k + 1) t'
theorem draw_end {w : World} {h₀ g h' : Heap} {L L' : Addr} {s : Shared} {d C : Addr} {ys : List Value} {k below x : Int} {o' : Obj} {t t' : Tok} {m m' : Str → Option Value} {led made' : List (Addr × Obj)} {tk' : Nat} {Q : Value → Shared → Prop}
    (hret : ∀ v made h' tk', Fr h₀ L h' m → News h₀ L h' made → (∀ b o, s.heap.get? b = some o → b ∉ led.map (·.1) → h'.get? b = some o) → (∀ p ∈ made, p.1 ∉ led.map (·.1) → s.heap.get? p.1 = none) → DrawOut w d C ys k below v made → Q v { s with heap := h', toks := tk' })
    (G : GSub s.heap g (led.map (·.1))) (F' : Fr g L' h' m') (N' : News g L' h' made') (F : Fr h₀ L h' m) (N : News h₀ L h' made')
    (n1 : (d, o') ∈ made') (n2 : (C, LCg.lst ys) ∈ made') (hd' : deckIs w o' C (k + 1) t') (b0 : 0 < below) : Q (.int (x.fmod below) t) { s with heap := h', toks := tk' } :=
  con_end hret G F' N' F N (made := [(d, o'), (C, LCg.lst ys)]) (all2 n1 n2) ⟨_, t, o', t', rfl, Int.fmod_nonneg_of_pos _ b0, Int.fmod_lt_of_pos _ b0, rfl, hd'⟩
theorem draw_any (w : World) (mean) (mg mb) (d C : Addr) (hdC : @Ne Nat C d) (hlo : (d == sysModules) = false) (o : Obj) (ys : List Value) (ns : List Int) (k : Int) (t : Tok) (hD : deckIs w o C k t) (hI : IntsAre ys ns) (k0 : 0 ≤ k) (k1 : k ≤ 100) (hns : ns.length ≤ 100)
    (below : Int) (b0 : 0 < below) (b1 : below ≤ 100) (tb : Tok) :
    Con 0 w mean mg mb 139 [.ref d, .int below tb] [(d, o), (C, LCg.lst ys)] (fun v made => DrawOut w d C ys k below v made) := by
  w_top off
  k_with_none
  k_with "ktr_enter" => (refine' code_defG ?k1 ?k2 ?k3 ?k4 ?k5 ?kA ?kF ?kK ?k6 ?k7 ?k8 ?k9 ?kB ?_ ?c2 ?c3 ?c4 ?c5; (case kA => exact rfl); (case kF => exact rfl); (case kK => first | exact rfl | assumption); (case k1 => k_asm); (case k2 => k_asm); (case k3 => k_asm); (case k4 => k_asm); (case k5 => k_asm); (case k6 => k_is); (case k7 => k_is); (case k8 => ktr_room); (case k9 => first | exact BindsTo.of_eq rfl | exact binds_K (by k_in) rfl (by k_is) rfl rfl rfl); (case c5 => decide); (case kB => exact locs rfl); (case c2 => exact rfl); (case c3 => exact rfl); (case c4 => exact rfl); k_whole; intro g' L' h' FG' F' N' B' X' T' kG'; (try dsimp only); (try k_fold))
  k_with "execs cons" => ((try dsimp only); (with_reducible refine execs_gen ?_); intro tk9; (with_reducible refine wpAny_execs_cons ?_); (try dsimp only))
  unfold Con
  k_fill
  intro dp un gd cn cs a ccd cl outer A₀ base h₀ L m s Q E B F X N T hk hd hu hret
  dsimp only [deckIs] at hD
  refine wpAny_call ?_
  k_dflt ktr_enter
  repeat' (first
    | (refine' draw_end hret (by assumption) (by assumption) (by assumption) (by assumption) (by assumption) ?n1 ?n2 ?hd ?b0; (case n1 => k_mem); (case n2 => k_mem); (case hd => with_reducible assumption); (case b0 => with_reducible assumption))
    | (k_unfold; (try dsimp only)) | walk1 | (dsimp only; walk1) | (leave1; walk_say "STEP leave1"; try dsimp only) | fail "no step")
  all_goals (exact absurd (List.eq_nil_of_length_eq_zero (show ns.length = 0 by omega)) (of_decide_eq_false (by with_reducible assumption)))
end
/-! Deck -/
section
open PySem PySem.W PyProof.Rows
set_option maxRecDepth 100000
set_option maxHeartbeats 8000000
noncomputable def DeckOut (w : World) (v : Value) (made : List (Addr × Obj)) : Prop :=
  ∃ d o C ys ns t, v = .ref d ∧ made = [(d, o), (C, LCg.lst ys)] ∧ deckIs w o C 0 t ∧ IntsAre ys ns ∧ ns.length ≤ 100 ∧ (d == sysModules) = false ∧ @Ne Nat C d
theorem deck_end {w : World} {h₀ g h' : Heap} {L L' : Addr} {s : Shared} {d C : Addr} {o : Obj} {ys : List Value} {ns : List Int} {t : Tok} {m m' : Str → Option Value} {led made' : List (Addr × Obj)} {tk' : Nat} {Q : Value → Shared → Prop}
    (hret : ∀ v made h' tk', Fr h₀ L h' m → News h₀ L h' made → (∀ b o, s.heap.get? b = some o → b ∉ led.map (·.1) → h'.get? b = some o) → (∀ p ∈ made, p.1 ∉ led.map (·.1) → s.heap.get? p.1 = none) → DeckOut w v made → Q v { s with heap := h', toks := tk' })
    (G : GSub s.heap g (led.map (·.1))) (F' : Fr g L' h' m') (N' : News g L' h' made') (F : Fr h₀ L h' m) (N : News h₀ L h' made')
    (n1 : (d, o) ∈ made') (n2 : (C, LCg.lst ys) ∈ made') (hd : deckIs w o C 0 t) (hi : IntsAre ys ns) (hn : ns.length ≤ 100) (hs : (d == sysModules) = false) (hne : @Ne Nat C d) : Q (.ref d) { s with heap := h', toks := tk' } :=
  con_end hret G F' N' F N (made := [(d, o), (C, LCg.lst ys)]) (all2 n1 n2) ⟨d, o, C, ys, ns, t, rfl, rfl, hd, hi, hn, hs, hne⟩
theorem deck_any (w : World) (mean) (mg mb) (D : Addr) (n : Nat) (ws : List Value) (ns : List Int) (hI : IntsAre ws ns) (hns : ns.length ≤ 63) :
    Con 0 w mean mg mb 132 [.ref D] [(D, listOf ws.toArray n)] (fun v made => DeckOut w v made) := by
  w_top off
  k_with_none
  k_with "ktr_enter" => (refine' code_defG ?k1 ?k2 ?k3 ?k4 ?k5 ?kA ?kF ?kK ?k6 ?k7 ?k8 ?k9 ?kB ?_ ?c2 ?c3 ?c4 ?c5; (case kA => exact rfl); (case kF => exact rfl); (case kK => first | exact rfl | assumption); (case k1 => k_asm); (case k2 => k_asm); (case k3 => k_asm); (case k4 => k_asm); (case k5 => k_asm); (case k6 => k_is); (case k7 => k_is); (case k8 => ktr_room); (case k9 => first | exact BindsTo.of_eq rfl | exact binds_K (by k_in) rfl (by k_is) rfl rfl rfl); (case c5 => decide); (case kB => exact locs rfl); (case c2 => exact rfl); (case c3 => exact rfl); (case c4 => exact rfl); k_whole; intro g' L' h' FG' F' N' B' X' T' kG'; (try dsimp only); (try k_fold))
  k_with "execs cons" => ((try dsimp only); (with_reducible refine execs_gen ?_); intro tk9; (with_reducible refine wpAny_execs_cons ?_); (try dsimp only))
  k_with "call ref" => (k_dflt (refine wpAny_call ?_; ktr_enter))
  unfold Con
  k_fill
  intro dp un gd cn cs a ccd cl outer A₀ base h₀ L m s Q E B F X N T hk hd hu hret
  refine wpAny_call ?_
  k_dflt ktr_enter
  repeat' (first
    | (refine' deck_end hret (by assumption) (by assumption) (by assumption) (by assumption) (by assumption) ?n1 ?n2 ?hd ?hi ?hn ?hs ?hne; (case hd => assumption); (case n1 => k_mem); (case n2 => k_mem); (case hi => with_reducible assumption); (case hs => with_reducible assumption); (case hn => (simp only [List.length_map, List.length_take]; omega)); (case hne => (refine neN ?_; omega)))
    | (k_unfold; (try dsimp only)) | walk1 | (dsimp only; walk1) | (leave1; walk_say "STEP leave1"; try dsimp only) | fail "no step")
end
/-! Plain1 -/
section
set_option maxRecDepth 10000
/-- the law's own sign: what the octets tell, all of them -/
noncomputable def sgn : List Int → Option Int
  | [a] => if a < 128 then some a else none
  | [a, b] => if a / 32 = 6 ∧ b / 64 = 2 ∧ 128 ≤ a % 32 * 64 + b % 64 then some (a % 32 * 64 + b % 64) else none
  | [a, b, c] => if a / 16 = 14 ∧ b / 64 = 2 ∧ c / 64 = 2 ∧ 2048 ≤ (a % 16 * 64 + b % 64) * 64 + c % 64 ∧ ¬ (55296 ≤ (a % 16 * 64 + b % 64) * 64 + c % 64 ∧ (a % 16 * 64 + b % 64) * 64 + c % 64 < 57344)
      then some ((a % 16 * 64 + b % 64) * 64 + c % 64) else none
  | [a, b, c, d] => if a / 8 = 30 ∧ b / 64 = 2 ∧ c / 64 = 2 ∧ d / 64 = 2 ∧ 65536 ≤ ((a % 8 * 64 + b % 64) * 64 + c % 64) * 64 + d % 64 ∧ ((a % 8 * 64 + b % 64) * 64 + c % 64) * 64 + d % 64 < 1114112
      then some (((a % 8 * 64 + b % 64) * 64 + c % 64) * 64 + d % 64) else none
  | _ => none
/-- what the block of tests leaves of the ints -/
noncomputable def notTrail (ks : List Int) : List Int := ks.filter fun k => !(decide (k.fdiv 64 = 2))
theorem notTrail_snoc {ks : List Int} {i : Nat} {k : Int} (h : ks[i]? = some k) : notTrail (ks.take (i + 1)) = if k.fdiv 64 = 2 then notTrail (ks.take i) else notTrail (ks.take i) ++ [k] := by
  have e : ks.take (i + 1) = ks.take i ++ [k] := by rw [List.take_add_one, h]; rfl
  unfold notTrail
  rw [e, List.filter_append]
  by_cases hk : k.fdiv 64 = 2 <;> simp [hk]
theorem fd {a : Int} (b : Nat) : a.fdiv (b : Int) = a / b := Int.fdiv_eq_ediv_of_nonneg _ (by omega)
theorem fm {a : Int} (b : Nat) : a.fmod (b : Int) = a % b := Int.fmod_eq_emod_of_nonneg _ (by omega)
theorem nt_nil : notTrail [] = [] := rfl
theorem nt_cons {a : Int} {r : List Int} : notTrail (a :: r) = [] ↔ a / 64 = 2 ∧ notTrail r = [] := by
  have := fd (a := a) 64
  unfold notTrail
  rw [List.filter_cons]
  by_cases h : a.fdiv 64 = 2
  · simp only [h, decide_true, Bool.not_true, Bool.false_eq_true, if_false]
    exact ⟨fun e => ⟨by rw [← h]; exact this.symm, e⟩, fun e => e.2⟩
  · simp only [h, decide_false, Bool.not_false, if_true]
    refine ⟨fun e => ?_, fun e => absurd (this.trans e.1) h⟩
    cases e
section
variable {a b c d : Int}
-- two
theorem s2_n1 (h : a.fdiv (2 ^ Int.toNat 5) ≠ 1 * 2 ^ Int.toNat 3 - 2) : sgn [a, b] = none := by
  have e : a.fdiv (2 ^ Int.toNat 5) = a / 32 := fd 32
  rw [e] at h
  exact if_neg fun x => h x.1
theorem s2_n2 (h : decide (notTrail [b] = []) = false) : sgn [a, b] = none := by
  rw [decide_eq_false_iff_not, nt_cons] at h
  exact if_neg fun x => h ⟨x.2.1, rfl⟩
theorem code2 : a.fmod (1 * 2 ^ Int.toNat 5) * 64 + b.fmod 64 = a % 32 * 64 + b % 64 := by
  have e1 : a.fmod (1 * 2 ^ Int.toNat 5) = a % 32 := fm 32
  have e2 : b.fmod 64 = b % 64 := fm 64
  rw [e1, e2]
theorem s2_n3 (h : ¬ 128 ≤ a.fmod (1 * 2 ^ Int.toNat 5) * 64 + b.fmod 64) : sgn [a, b] = none := by
  rw [code2] at h
  exact if_neg fun x => h x.2.2
theorem s2_n4 (h : ¬ a.fmod (1 * 2 ^ Int.toNat 5) * 64 + b.fmod 64 < 1114112) : sgn [a, b] = none := by
  rw [code2] at h; omega
theorem s2_n5 (h : 55296 ≤ a.fmod (1 * 2 ^ Int.toNat 5) * 64 + b.fmod 64) : sgn [a, b] = none := by
  rw [code2] at h; omega
theorem s2_y (h1 : a.fdiv (2 ^ Int.toNat 5) = 1 * 2 ^ Int.toNat 3 - 2) (h2 : decide (notTrail [b] = []) = true) (h3 : 128 ≤ a.fmod (1 * 2 ^ Int.toNat 5) * 64 + b.fmod 64) :
    sgn [a, b] = some (a.fmod (1 * 2 ^ Int.toNat 5) * 64 + b.fmod 64) := by
  have e : a.fdiv (2 ^ Int.toNat 5) = a / 32 := fd 32
  rw [e] at h1
  rw [decide_eq_true_eq, nt_cons] at h2
  rw [code2] at h3 ⊢
  exact if_pos ⟨h1, h2.1, h3⟩
-- three
theorem code3 : (a.fmod (1 * 2 ^ Int.toNat 4) * 64 + b.fmod 64) * 64 + c.fmod 64 = (a % 16 * 64 + b % 64) * 64 + c % 64 := by
  have e1 : a.fmod (1 * 2 ^ Int.toNat 4) = a % 16 := fm 16
  have e2 : b.fmod 64 = b % 64 := fm 64
  have e3 : c.fmod 64 = c % 64 := fm 64
  rw [e1, e2, e3]
theorem s3_n1 (h : a.fdiv (2 ^ Int.toNat 4) ≠ 1 * 2 ^ Int.toNat 4 - 2) : sgn [a, b, c] = none := by
  have e : a.fdiv (2 ^ Int.toNat 4) = a / 16 := fd 16
  rw [e] at h
  exact if_neg fun x => h x.1
theorem s3_n2 (h : decide (notTrail [b, c] = []) = false) : sgn [a, b, c] = none := by
  rw [decide_eq_false_iff_not, nt_cons, nt_cons] at h
  exact if_neg fun x => h ⟨x.2.1, x.2.2.1, rfl⟩
theorem s3_n3 (h : ¬ 2048 ≤ (a.fmod (1 * 2 ^ Int.toNat 4) * 64 + b.fmod 64) * 64 + c.fmod 64) : sgn [a, b, c] = none := by
  rw [code3] at h
  exact if_neg fun x => h x.2.2.2.1
theorem s3_n4 (h : ¬ (a.fmod (1 * 2 ^ Int.toNat 4) * 64 + b.fmod 64) * 64 + c.fmod 64 < 1114112) : sgn [a, b, c] = none := by
  rw [code3] at h; omega
theorem s3_n5 (h : 55296 ≤ (a.fmod (1 * 2 ^ Int.toNat 4) * 64 + b.fmod 64) * 64 + c.fmod 64) (h' : (a.fmod (1 * 2 ^ Int.toNat 4) * 64 + b.fmod 64) * 64 + c.fmod 64 < 57344) : sgn [a, b, c] = none := by
  rw [code3] at h h'
  exact if_neg fun x => x.2.2.2.2 ⟨h, h'⟩
theorem s3_y (h1 : a.fdiv (2 ^ Int.toNat 4) = 1 * 2 ^ Int.toNat 4 - 2) (h2 : decide (notTrail [b, c] = []) = true) (h3 : 2048 ≤ (a.fmod (1 * 2 ^ Int.toNat 4) * 64 + b.fmod 64) * 64 + c.fmod 64)
    (h5 : ¬ (55296 ≤ (a.fmod (1 * 2 ^ Int.toNat 4) * 64 + b.fmod 64) * 64 + c.fmod 64 ∧ (a.fmod (1 * 2 ^ Int.toNat 4) * 64 + b.fmod 64) * 64 + c.fmod 64 < 57344)) :
    sgn [a, b, c] = some ((a.fmod (1 * 2 ^ Int.toNat 4) * 64 + b.fmod 64) * 64 + c.fmod 64) := by
  have e : a.fdiv (2 ^ Int.toNat 4) = a / 16 := fd 16
  rw [e] at h1
  rw [decide_eq_true_eq, nt_cons, nt_cons] at h2
  rw [code3] at h3 h5 ⊢
  exact if_pos ⟨h1, h2.1, h2.2.1, h3, h5⟩
-- four
theorem code4 : ((a.fmod (1 * 2 ^ Int.toNat 3) * 64 + b.fmod 64) * 64 + c.fmod 64) * 64 + d.fmod 64 = ((a % 8 * 64 + b % 64) * 64 + c % 64) * 64 + d % 64 := by
  have e1 : a.fmod (1 * 2 ^ Int.toNat 3) = a % 8 := fm 8
  have e2 : b.fmod 64 = b % 64 := fm 64
  have e3 : c.fmod 64 = c % 64 := fm 64
  have e4 : d.fmod 64 = d % 64 := fm 64
  rw [e1, e2, e3, e4]
theorem s4_n1 (h : a.fdiv (2 ^ Int.toNat 3) ≠ 1 * 2 ^ Int.toNat 5 - 2) : sgn [a, b, c, d] = none := by
  have e : a.fdiv (2 ^ Int.toNat 3) = a / 8 := fd 8
  rw [e] at h
  exact if_neg fun x => h x.1
theorem s4_n2 (h : decide (notTrail [b, c, d] = []) = false) : sgn [a, b, c, d] = none := by
  rw [decide_eq_false_iff_not, nt_cons, nt_cons, nt_cons] at h
  exact if_neg fun x => h ⟨x.2.1, x.2.2.1, x.2.2.2.1, rfl⟩
theorem s4_n3 (h : ¬ 65536 ≤ ((a.fmod (1 * 2 ^ Int.toNat 3) * 64 + b.fmod 64) * 64 + c.fmod 64) * 64 + d.fmod 64) : sgn [a, b, c, d] = none := by
  rw [code4] at h
  exact if_neg fun x => h x.2.2.2.2.1
theorem s4_n4 (h : ¬ ((a.fmod (1 * 2 ^ Int.toNat 3) * 64 + b.fmod 64) * 64 + c.fmod 64) * 64 + d.fmod 64 < 1114112) : sgn [a, b, c, d] = none := by
  rw [code4] at h
  exact if_neg fun x => h x.2.2.2.2.2
theorem s4_n5 (h3 : 65536 ≤ ((a.fmod (1 * 2 ^ Int.toNat 3) * 64 + b.fmod 64) * 64 + c.fmod 64) * 64 + d.fmod 64) (h' : ((a.fmod (1 * 2 ^ Int.toNat 3) * 64 + b.fmod 64) * 64 + c.fmod 64) * 64 + d.fmod 64 < 57344) : sgn [a, b, c, d] = none := by
  omega
theorem s4_y (h1 : a.fdiv (2 ^ Int.toNat 3) = 1 * 2 ^ Int.toNat 5 - 2) (h2 : decide (notTrail [b, c, d] = []) = true) (h3 : 65536 ≤ ((a.fmod (1 * 2 ^ Int.toNat 3) * 64 + b.fmod 64) * 64 + c.fmod 64) * 64 + d.fmod 64)
    (h4 : ((a.fmod (1 * 2 ^ Int.toNat 3) * 64 + b.fmod 64) * 64 + c.fmod 64) * 64 + d.fmod 64 < 1114112) :
    sgn [a, b, c, d] = some (((a.fmod (1 * 2 ^ Int.toNat 3) * 64 + b.fmod 64) * 64 + c.fmod 64) * 64 + d.fmod 64) := by
  have e : a.fdiv (2 ^ Int.toNat 3) = a / 8 := fd 8
  rw [e] at h1
  rw [decide_eq_true_eq, nt_cons, nt_cons, nt_cons] at h2
  rw [code4] at h3 h4 ⊢
  exact if_pos ⟨h1, h2.1, h2.2.1, h2.2.2.1, h3, h4⟩
end
end
/-! Plain2 -/
section
set_option maxRecDepth 10000
/-- the least and the greatest octet that may stand second -/
noncomputable def loF (a : Int) : Int := if a = 224 then 160 else if a = 240 then 144 else 128
noncomputable def hiF (a : Int) : Int := if a = 237 then 159 else if a = 244 then 143 else 191
/-- could these octets go on to be a sign? (one to three of them) -/
noncomputable def canb : List Int → Bool
  | [a] => decide (194 ≤ a ∧ a ≤ 244)
  | [a, b] => decide (224 ≤ a ∧ a ≤ 244 ∧ loF a ≤ b ∧ b ≤ hiF a)
  | [a, b, c] => decide (240 ≤ a ∧ a ≤ 244 ∧ loF a ≤ b ∧ b ≤ hiF a ∧ 128 ≤ c ∧ c ≤ 191)
  | _ => false
section
variable {a b c d x z : Int}
theorem lo_3 (h : a ≤ 239) : loF a ≤ b ↔ 128 ≤ b ∧ (a = 224 → 160 ≤ b) := by
  unfold loF
  by_cases e : a = 224
  · rw [if_pos e]; exact ⟨fun h => ⟨Int.le_trans (by decide) h, fun _ => h⟩, fun h => h.2 e⟩
  · rw [if_neg e, if_neg (by omega)]; exact ⟨fun h => ⟨h, fun x => absurd x e⟩, fun h => h.1⟩
theorem lo_4 (h : 240 ≤ a) : loF a ≤ b ↔ 128 ≤ b ∧ (a = 240 → 144 ≤ b) := by
  unfold loF
  rw [if_neg (by omega)]
  by_cases e : a = 240
  · rw [if_pos e]; exact ⟨fun h => ⟨Int.le_trans (by decide) h, fun _ => h⟩, fun h => h.2 e⟩
  · rw [if_neg e]; exact ⟨fun h => ⟨h, fun x => absurd x e⟩, fun h => h.1⟩
theorem hi_3 (h : a ≤ 239) : b ≤ hiF a ↔ b ≤ 191 ∧ (a = 237 → b ≤ 159) := by
  unfold hiF
  by_cases e : a = 237
  · rw [if_pos e]; exact ⟨fun h => ⟨Int.le_trans h (by decide), fun _ => h⟩, fun h => h.2 e⟩
  · rw [if_neg e, if_neg (by omega)]; exact ⟨fun h => ⟨h, fun x => absurd x e⟩, fun h => h.1⟩
theorem hi_4 (h : 240 ≤ a) : b ≤ hiF a ↔ b ≤ 191 ∧ (a = 244 → b ≤ 143) := by
  unfold hiF
  rw [if_neg (by omega)]
  by_cases e : a = 244
  · rw [if_pos e]; exact ⟨fun h => ⟨Int.le_trans h (by decide), fun _ => h⟩, fun h => h.2 e⟩
  · rw [if_neg e]; exact ⟨fun h => ⟨h, fun x => absurd x e⟩, fun h => h.1⟩
theorem d64 : b / 64 = 2 ↔ 128 ≤ b ∧ b ≤ 191 := by omega
theorem d16 : a / 16 = 14 ↔ 224 ≤ a ∧ a ≤ 239 := by omega
theorem d8 : a / 8 = 30 ↔ 240 ≤ a ∧ a ≤ 247 := by omega
theorem m64 : 0 ≤ b % 64 ∧ b % 64 < 64 := by omega
theorem b64 (h : 128 ≤ b ∧ b ≤ 191) : b % 64 = b - 128 := by omega
theorem a16 (h : 224 ≤ a ∧ a ≤ 239) : a % 16 = a - 224 := by omega
theorem a8 (h : 240 ≤ a ∧ a ≤ 247) : a % 8 = a - 240 := by omega
theorem c2_iff : (a / 32 = 6 ∧ b / 64 = 2 ∧ 128 ≤ a % 32 * 64 + b % 64) ↔ (194 ≤ a ∧ a ≤ 223 ∧ 128 ≤ b ∧ b ≤ 191) := by
  rw [d64]
  have hm := m64 (b := b)
  generalize b % 64 = y at hm
  constructor
  · rintro ⟨h1, h2, h3⟩
    refine ⟨?_, ?_, h2.1, h2.2⟩ <;> clear h2 <;> omega
  · rintro ⟨h1, h2, h3, h4⟩
    refine ⟨?_, ⟨h3, h4⟩, ?_⟩ <;> clear h3 h4 <;> omega
theorem v3_lo (h : 0 ≤ z ∧ z < 64) : (2048 ≤ (a * 64 + b) * 64 + z) ↔ 32 ≤ a * 64 + b := by omega
theorem v3_hi (h : 0 ≤ z ∧ z < 64) : (55296 ≤ (a * 64 + b) * 64 + z ∧ (a * 64 + b) * 64 + z < 57344) ↔ (864 ≤ a * 64 + b ∧ a * 64 + b < 896) := by omega
theorem c3_iff : (a / 16 = 14 ∧ b / 64 = 2 ∧ c / 64 = 2 ∧ 2048 ≤ (a % 16 * 64 + b % 64) * 64 + c % 64 ∧ ¬ (55296 ≤ (a % 16 * 64 + b % 64) * 64 + c % 64 ∧ (a % 16 * 64 + b % 64) * 64 + c % 64 < 57344)) ↔
    (224 ≤ a ∧ a ≤ 239 ∧ loF a ≤ b ∧ b ≤ hiF a ∧ 128 ≤ c ∧ c ≤ 191) := by
  rw [d64, d64, d16, v3_lo m64, v3_hi m64]
  constructor
  · rintro ⟨h1, h2, h3, h4, h5⟩
    rw [a16 h1, b64 h2] at h4 h5
    exact ⟨h1.1, h1.2, (lo_3 h1.2).mpr ⟨h2.1, fun e => by subst e; clear h1 h2 h3 h5; omega⟩, (hi_3 h1.2).mpr ⟨h2.2, fun e => by subst e; clear h1 h3 h4; omega⟩, h3⟩
  · rintro ⟨h1, h1', h2, h2', h3⟩
    rw [lo_3 h1'] at h2
    rw [hi_3 h1'] at h2'
    refine ⟨⟨h1, h1'⟩, ⟨h2.1, h2'.1⟩, h3, ?_, ?_⟩
    · rw [a16 ⟨h1, h1'⟩, b64 ⟨h2.1, h2'.1⟩]; clear h3 h2'; omega
    · rw [a16 ⟨h1, h1'⟩, b64 ⟨h2.1, h2'.1⟩]; clear h3; omega
theorem v4_lo (h : 0 ≤ z ∧ z < 64) (h' : 0 ≤ c ∧ c < 64) : (65536 ≤ ((a * 64 + b) * 64 + c) * 64 + z) ↔ 16 ≤ a * 64 + b := by omega
theorem v4_hi (h : 0 ≤ z ∧ z < 64) (h' : 0 ≤ c ∧ c < 64) : ((a * 64 + b) * 64 + c) * 64 + z < 1114112 ↔ a * 64 + b < 272 := by omega
theorem c4_iff : (a / 8 = 30 ∧ b / 64 = 2 ∧ c / 64 = 2 ∧ d / 64 = 2 ∧ 65536 ≤ ((a % 8 * 64 + b % 64) * 64 + c % 64) * 64 + d % 64 ∧ ((a % 8 * 64 + b % 64) * 64 + c % 64) * 64 + d % 64 < 1114112) ↔
    (240 ≤ a ∧ a ≤ 244 ∧ loF a ≤ b ∧ b ≤ hiF a ∧ 128 ≤ c ∧ c ≤ 191 ∧ 128 ≤ d ∧ d ≤ 191) := by
  rw [d64, d64, d64, d8, v4_lo m64 m64, v4_hi m64 m64]
  constructor
  · rintro ⟨h1, h2, h3, h3', h4, h5⟩
    rw [a8 h1, b64 h2] at h4 h5
    exact ⟨h1.1, by clear h3 h3' h4; omega, (lo_4 h1.1).mpr ⟨h2.1, fun e => by subst e; clear h1 h2 h3 h3' h5; omega⟩, (hi_4 h1.1).mpr ⟨h2.2, fun e => by subst e; clear h1 h3 h3' h4; omega⟩, h3.1, h3.2, h3'⟩
  · rintro ⟨h1, h1', h2, h2', h3, h3', h4⟩
    rw [lo_4 h1] at h2
    rw [hi_4 h1] at h2'
    have h1'' : a ≤ 247 := Int.le_trans h1' (by decide)
    refine ⟨⟨h1, h1''⟩, ⟨h2.1, h2'.1⟩, ⟨h3, h3'⟩, h4, ?_, ?_⟩
    · rw [a8 ⟨h1, h1''⟩, b64 ⟨h2.1, h2'.1⟩]; clear h3 h3' h4 h2'; omega
    · rw [a8 ⟨h1, h1''⟩, b64 ⟨h2.1, h2'.1⟩]; clear h3 h3' h4; omega
theorem ite_some {P : Prop} [Decidable P] {v x : Int} (h : (if P then some v else none) = some x) : P := by
  split at h
  · assumption
  · cases h
theorem ite_none {P : Prop} [Decidable P] {v : Int} (h : (if P then some v else none) = none) : ¬ P := fun y => by rw [if_pos y] at h; cases h
theorem sgn2_some (h : sgn [a, b] = some x) : 194 ≤ a ∧ a ≤ 223 ∧ 128 ≤ b ∧ b ≤ 191 := c2_iff.mp (ite_some h)
theorem sgn2_none (h : sgn [a, b] = none) : ¬ (194 ≤ a ∧ a ≤ 223 ∧ 128 ≤ b ∧ b ≤ 191) := fun y => ite_none h (c2_iff.mpr y)
theorem sgn3_some (h : sgn [a, b, c] = some x) : 224 ≤ a ∧ a ≤ 239 ∧ loF a ≤ b ∧ b ≤ hiF a ∧ 128 ≤ c ∧ c ≤ 191 := c3_iff.mp (ite_some h)
theorem sgn3_none (h : sgn [a, b, c] = none) : ¬ (224 ≤ a ∧ a ≤ 239 ∧ loF a ≤ b ∧ b ≤ hiF a ∧ 128 ≤ c ∧ c ≤ 191) := fun y => ite_none h (c3_iff.mpr y)
theorem sgn4_some (h : sgn [a, b, c, d] = some x) : 240 ≤ a ∧ a ≤ 244 ∧ loF a ≤ b ∧ b ≤ hiF a ∧ 128 ≤ c ∧ c ≤ 191 ∧ 128 ≤ d ∧ d ≤ 191 := c4_iff.mp (ite_some h)
theorem sgn4_none (h : sgn [a, b, c, d] = none) : ¬ (240 ≤ a ∧ a ≤ 244 ∧ loF a ≤ b ∧ b ≤ hiF a ∧ 128 ≤ c ∧ c ≤ 191 ∧ 128 ≤ d ∧ d ≤ 191) := fun y => ite_none h (c4_iff.mpr y)
-- one octet
theorem can1_t2 (h : sgn [a, z] = some x) (_ : z = 128 ∨ z = 144 ∨ z = 160) : canb [a] = true := by
  have h := sgn2_some h
  exact decide_eq_true ⟨h.1, Int.le_trans h.2.1 (by decide)⟩
theorem can1_t3 (h : sgn [a, z, 128] = some x) (_ : z = 128 ∨ z = 144 ∨ z = 160) : canb [a] = true := by
  have h := sgn3_some h
  exact decide_eq_true ⟨Int.le_trans (by decide) h.1, Int.le_trans h.2.1 (by decide)⟩
theorem can1_t4 (h : sgn [a, z, 128, 128] = some x) (_ : z = 128 ∨ z = 144 ∨ z = 160) : canb [a] = true := by
  have h := sgn4_some h
  exact decide_eq_true ⟨Int.le_trans (by decide) h.1, h.2.1⟩
theorem r128 : (128 : Int) ≤ 128 ∧ (128 : Int) ≤ 191 := by decide
theorem can1_f (h1 : sgn [a, 128] = none) (h2 : sgn [a, 128, 128] = none) (h3 : sgn [a, 160, 128] = none) (h4 : sgn [a, 128, 128, 128] = none) (h5 : sgn [a, 144, 128, 128] = none) : canb [a] = false := by
  refine decide_eq_false ?_
  rintro ⟨x1, x2⟩
  by_cases y : a ≤ 223
  · exact sgn2_none h1 ⟨x1, y, r128⟩
  by_cases y' : a ≤ 239
  · have y2 : 224 ≤ a := by omega
    by_cases e : a = 224
    · subst e
      exact sgn3_none h3 (by decide)
    · exact sgn3_none h2 ⟨y2, y', (lo_3 y').mpr ⟨by decide, fun x => absurd x e⟩, (hi_3 y').mpr ⟨by decide, fun _ => by decide⟩, r128⟩
  have y2 : 240 ≤ a := by omega
  by_cases e : a = 240
  · subst e
    exact sgn4_none h5 (by decide)
  · exact sgn4_none h4 ⟨y2, x2, (lo_4 y2).mpr ⟨by decide, fun x => absurd x e⟩, (hi_4 y2).mpr ⟨by decide, fun _ => by decide⟩, by decide, by decide, r128⟩
-- two
theorem can2_t3 (h : sgn [a, b, 128] = some x) : canb [a, b] = true := by
  have h := sgn3_some h
  exact decide_eq_true ⟨h.1, Int.le_trans h.2.1 (by decide), h.2.2.1, h.2.2.2.1⟩
theorem can2_t4 (h : sgn [a, b, 128, 128] = some x) : canb [a, b] = true := by
  have h := sgn4_some h
  exact decide_eq_true ⟨Int.le_trans (by decide) h.1, h.2.1, h.2.2.1, h.2.2.2.1⟩
theorem can2_f (h2 : sgn [a, b, 128] = none) (h4 : sgn [a, b, 128, 128] = none) : canb [a, b] = false := by
  refine decide_eq_false ?_
  rintro ⟨x1, x2, x3, x4⟩
  by_cases y : a ≤ 239
  · exact sgn3_none h2 ⟨x1, y, x3, x4, r128⟩
  · exact sgn4_none h4 ⟨by omega, x2, x3, x4, by decide, by decide, r128⟩
theorem can3_t (h : sgn [a, b, c, 128] = some x) : canb [a, b, c] = true := by
  have h := sgn4_some h
  exact decide_eq_true ⟨h.1, h.2.1, h.2.2.1, h.2.2.2.1, h.2.2.2.2.1, h.2.2.2.2.2.1⟩
theorem can3_f (h : sgn [a, b, c, 128] = none) : canb [a, b, c] = false := by
  refine decide_eq_false ?_
  rintro ⟨x1, x2, x3, x4, x5, x6⟩
  exact sgn4_none h ⟨x1, x2, x3, x4, x5, x6, r128⟩
end
end
/-! Plain3 -/
section
set_option maxRecDepth 10000
/-- is there a sign of k octets at the front? -/
noncomputable def hitb (r : List Int) (k : Int) : Bool := decide (k ≤ (r.length : Int)) && (sgn (r.take k.toNat)).isSome
noncomputable def hits (r : List Int) : List Int := [1, 2, 3, 4].filter (hitb r)
/-- how many octets go to one U+FFFD -/
noncomputable def badLen (r : List Int) : Nat := if 1 < r.length ∧ canb (r.take 2) = true then (if 2 < r.length ∧ canb (r.take 3) = true then 3 else 2) else 1
/-- the law's reading, with fuel -/
noncomputable def readN : Nat → List Int → List Int × Bool
  | 0, _ => ([], false)
  | _ + 1, [] => ([], false)
  | n + 1, a :: r => match hits (a :: r) with
    | k :: _ => ((sgn ((a :: r).take k.toNat)).getD 0 :: (readN n ((a :: r).drop k.toNat)).1, (readN n ((a :: r).drop k.toNat)).2)
    | [] => if badLen (a :: r) = (a :: r).length ∧ canb (a :: r) = true then ([], true)
      else (65533 :: (readN n ((a :: r).drop (badLen (a :: r)))).1, (readN n ((a :: r).drop (badLen (a :: r)))).2)
noncomputable def readL (ks : List Int) : List Int × Bool := readN ks.length ks
theorem badLen_pos (r : List Int) : 1 ≤ badLen r := by unfold badLen; (split; (split <;> omega); omega)
theorem nat_14 {k : Int} (h1 : 1 ≤ k) (h4 : k ≤ 4) : 1 ≤ k.toNat ∧ k.toNat ≤ 4 := by omega
theorem nat_1 {k : Int} (h1 : 1 ≤ k) : 1 ≤ k.toNat := by omega
theorem hits_mem {r : List Int} {k : Int} (h : k ∈ hits r) : (1 ≤ k ∧ k ≤ 4) ∧ k ≤ (r.length : Int) ∧ ∃ c, sgn (r.take k.toNat) = some c := by
  unfold hits at h
  rw [List.mem_filter] at h
  obtain ⟨h1, h2⟩ := h
  unfold hitb at h2
  rw [Bool.and_eq_true, decide_eq_true_eq] at h2
  refine ⟨?_, h2.1, Option.isSome_iff_exists.mp h2.2⟩
  simp only [List.mem_cons, List.not_mem_nil, or_false] at h1
  rcases h1 with rfl | rfl | rfl | rfl <;> decide
theorem readN_eq : ∀ (n m : Nat) (ks : List Int), ks.length ≤ n → ks.length ≤ m → readN n ks = readN m ks
  | 0, 0, _, _, _ => rfl
  | 0, m + 1, [], _, _ => rfl
  | 0, m + 1, _ :: _, h, _ => absurd h (by simp)
  | n + 1, 0, [], _, _ => rfl
  | n + 1, 0, _ :: _, _, h => absurd h (by simp)
  | n + 1, m + 1, [], _, _ => rfl
  | n + 1, m + 1, a :: r, h1, h2 => by
    have hb := badLen_pos (a :: r)
    have step : ∀ k : Nat, 1 ≤ k → readN n ((a :: r).drop k) = readN m ((a :: r).drop k) := fun k hk =>
      readN_eq n m _ (by rw [List.length_drop]; simp only [List.length_cons] at *; omega) (by rw [List.length_drop]; simp only [List.length_cons] at *; omega)
    simp only [readN]
    cases e : hits (a :: r) with
    | nil => simp only [step _ hb]
    | cons k rest =>
      have hk := (hits_mem (r := a :: r) (k := k) (by rw [e]; exact List.mem_cons_self ..)).1.1
      simp only [step k.toNat (nat_1 hk)]
theorem readL_nil : readL [] = ([], false) := rfl
theorem readN_L {n : Nat} {ks : List Int} (h : ks.length ≤ n) : readN n ks = readL ks := readN_eq _ _ _ h (Nat.le_refl _)
theorem readL_hit {r : List Int} {k c : Int} {rest : List Int} (hr : r ≠ []) (h : hits r = k :: rest) (hc : sgn (r.take k.toNat) = some c) :
    readL r = (c :: (readL (r.drop k.toNat)).1, (readL (r.drop k.toNat)).2) := by
  have hk := (hits_mem (r := r) (k := k) (by rw [h]; exact List.mem_cons_self ..)).1.1
  cases r with
  | nil => exact absurd rfl hr
  | cons a r =>
    show readN (r.length + 1) (a :: r) = _
    simp only [readN, h, hc]
    rw [readN_L (by rw [List.length_drop]; simp only [List.length_cons]; omega)]
    rfl
theorem readL_ill {r : List Int} {k : Nat} (hr : r ≠ []) (h : hits r = []) (hk : badLen r = k) (hn : ¬ (k = r.length ∧ canb r = true)) :
    readL r = (65533 :: (readL (r.drop k)).1, (readL (r.drop k)).2) := by
  have hp := badLen_pos r
  subst hk
  cases r with
  | nil => exact absurd rfl hr
  | cons a r =>
    show readN (r.length + 1) (a :: r) = _
    simp only [readN, h]
    rw [if_neg hn, readN_L (by rw [List.length_drop]; simp only [List.length_cons]; omega)]
theorem readL_wait {r : List Int} (hr : r ≠ []) (h : hits r = []) (hk : badLen r = r.length) (hc : canb r = true) : readL r = ([], true) := by
  cases r with
  | nil => exact absurd rfl hr
  | cons a r =>
    show readN (r.length + 1) (a :: r) = _
    simp only [readN, h]
    rw [if_pos ⟨hk, hc⟩]
/-- what the loop of the reading keeps -/
noncomputable def ReadInv (ks : List Int) (at_ : Int) (found : List Int) : Prop :=
  0 ≤ at_ ∧ at_ ≤ (ks.length : Int) ∧ found ++ (readL (ks.drop at_.toNat)).1 = (readL ks).1 ∧ (readL (ks.drop at_.toNat)).2 = (readL ks).2 ∧ found.length ≤ at_.toNat
section
variable {ks fs : List Int} {a : Int}
theorem le_drop {k : Int} (h0 : 0 ≤ a) (h : a + k ≤ (ks.length : Int)) : k.toNat ≤ (ks.drop a.toNat).length := by rw [List.length_drop]; omega
theorem inv_start : ReadInv ks 0 [] := ⟨Int.le_refl _, Int.natCast_nonneg _, by simp, by simp, by simp⟩
theorem dropNe (h0 : 0 ≤ a) (h : a < (ks.length : Int)) : ks.drop a.toNat ≠ [] := fun e => by
  have := congrArg List.length e
  rw [List.length_drop] at this
  simp only [List.length_nil] at this
  omega
theorem inv_step (I : ReadInv ks a fs) {k c : Int} (hk : 1 ≤ k) (hl : a + k ≤ (ks.length : Int)) (h : readL (ks.drop a.toNat) = (c :: (readL ((ks.drop a.toNat).drop k.toNat)).1, (readL ((ks.drop a.toNat).drop k.toNat)).2)) :
    ReadInv ks (a + k) (fs ++ [c]) := by
  obtain ⟨h0, h1, h2, h3, h4⟩ := I
  have e : ks.drop (a + k).toNat = (ks.drop a.toNat).drop k.toNat := by
    rw [List.drop_drop, Int.toNat_add h0 (Int.le_trans (by decide) hk)]
  refine ⟨Int.add_nonneg h0 (Int.le_trans (by decide) hk), hl, ?_, ?_, by rw [List.length_append, Int.toNat_add h0 (Int.le_trans (by decide) hk)]; exact Nat.add_le_add h4 (nat_1 hk)⟩
  · rw [e, ← h2, h, List.append_assoc]; rfl
  · rw [e, ← h3, h]
theorem inv_hit (I : ReadInv ks a fs) {k c : Int} {rest : List Int} (h : a < (ks.length : Int)) (hh : hits (ks.drop a.toNat) = k :: rest) (hc : sgn ((ks.drop a.toNat).take k.toNat) = some c) :
    ReadInv ks (a + k) (fs ++ [c]) := by
  have hm := hits_mem (r := ks.drop a.toNat) (k := k) (by rw [hh]; exact List.mem_cons_self ..)
  have hl := hm.2.1
  rw [List.length_drop] at hl
  exact inv_step I hm.1.1 (by have := I.1; omega) (readL_hit (dropNe I.1 h) hh hc)
theorem inv_end (I : ReadInv ks a fs) (h : ¬ a < (ks.length : Int)) : (fs, false) = readL ks := by
  obtain ⟨h0, h1, h2, h3, h4⟩ := I
  have e : ks.drop a.toNat = [] := List.drop_eq_nil_of_le (by omega)
  rw [e, readL_nil] at h2 h3
  rw [List.append_nil] at h2
  exact Prod.ext h2 h3
-- the ways of the inner loop: how long the bad part is
theorem bl1 (h1 : ¬ a + 1 < (ks.length : Int)) : badLen (ks.drop a.toNat) = 1 := by
  unfold badLen
  rw [if_neg fun x => ?_]
  have := x.1
  rw [List.length_drop] at this
  omega
theorem bl1' (h2 : canb ((ks.drop a.toNat).take 2) = false) : badLen (ks.drop a.toNat) = 1 := by
  unfold badLen
  rw [if_neg fun x => ?_]
  rw [h2] at x
  exact Bool.false_ne_true x.2
theorem bl2 (I : ReadInv ks a fs) (h1 : a + 1 < (ks.length : Int)) (h2 : canb ((ks.drop a.toNat).take 2) = true) (h3 : ¬ a + 2 < (ks.length : Int)) : badLen (ks.drop a.toNat) = 2 := by
  have := I.1
  unfold badLen
  rw [if_pos ⟨by rw [List.length_drop]; omega, h2⟩, if_neg fun x => ?_]
  have := x.1
  rw [List.length_drop] at this
  omega
theorem bl2' (I : ReadInv ks a fs) (h1 : a + 1 < (ks.length : Int)) (h2 : canb ((ks.drop a.toNat).take 2) = true) (h3 : canb ((ks.drop a.toNat).take 3) = false) : badLen (ks.drop a.toNat) = 2 := by
  have := I.1
  unfold badLen
  rw [if_pos ⟨by rw [List.length_drop]; omega, h2⟩, if_neg fun x => ?_]
  rw [h3] at x
  exact Bool.false_ne_true x.2
theorem bl3 (I : ReadInv ks a fs) (h1 : a + 2 < (ks.length : Int)) (h2 : canb ((ks.drop a.toNat).take 2) = true) (h3 : canb ((ks.drop a.toNat).take 3) = true) : badLen (ks.drop a.toNat) = 3 := by
  have := I.1
  unfold badLen
  rw [if_pos ⟨by rw [List.length_drop]; omega, h2⟩, if_pos ⟨by rw [List.length_drop]; omega, h3⟩]
theorem inv_ill (I : ReadInv ks a fs) (h : a < (ks.length : Int)) (hh : hits (ks.drop a.toNat) = []) {k : Nat} (hk : badLen (ks.drop a.toNat) = k) (hl : a + k ≤ (ks.length : Int)) (hn : ¬ a + k = (ks.length : Int) ∨ canb (ks.drop a.toNat) = false) :
    ReadInv ks (a + k) (fs ++ [65533]) := by
  have hp := badLen_pos (ks.drop a.toNat)
  have := I.1
  have e : ((k : Int)).toNat = k := Int.toNat_natCast k
  refine inv_step I (k := (k : Int)) (c := 65533) (Int.ofNat_le.mpr (hk ▸ hp)) hl ?_
  rw [e]
  refine readL_ill (dropNe I.1 h) hh hk fun x => ?_
  rw [List.length_drop] at x
  rcases hn with hn | hn
  · omega
  · rw [hn] at x; exact Bool.false_ne_true x.2
theorem inv_wait (I : ReadInv ks a fs) (h : a < (ks.length : Int)) (hh : hits (ks.drop a.toNat) = []) {k : Nat} (hk : badLen (ks.drop a.toNat) = k) (hl : a + k = (ks.length : Int)) (hc : canb (ks.drop a.toNat) = true) : (fs, true) = readL ks := by
  obtain ⟨h0, h1, h2, h3, h4⟩ := I
  have e := readL_wait (dropNe h0 h) hh (by rw [hk, List.length_drop]; omega) hc
  rw [e] at h2 h3
  rw [List.append_nil] at h2
  exact Prod.ext h2 h3
end

section
variable {ks : List Int} {a k c : Int}
theorem hb_f1 (h0 : 0 ≤ a) (h : ¬ a + k ≤ (ks.length : Int)) (hk : 1 ≤ k) : hitb (ks.drop a.toNat) k = false := by
  unfold hitb
  rw [List.length_drop, Bool.and_eq_false_iff]
  exact .inl (decide_eq_false (by omega))
theorem hb_f2 (h : sgn ((ks.drop a.toNat).take k.toNat) = none) : hitb (ks.drop a.toNat) k = false := by
  unfold hitb
  rw [h]; simp
theorem hb_t (h0 : 0 ≤ a) (h : a + k ≤ (ks.length : Int)) (hc : sgn ((ks.drop a.toNat).take k.toNat) = some c) : hitb (ks.drop a.toNat) k = true := by
  unfold hitb
  rw [hc, List.length_drop, Bool.and_eq_true]
  exact ⟨decide_eq_true (by omega), rfl⟩
end
section
variable {ks fs : List Int} {a k : Int}
theorem head_hit {r : List Int} (h : decide (hits r = []) = false) : ∃ k rest, hits r = k :: rest ∧ (hits r).getD 0 0 = k ∧ (1 ≤ k ∧ k ≤ 4) ∧ k ≤ (r.length : Int) ∧ ∃ c, sgn (r.take k.toNat) = some c := by
  cases e : hits r with
  | nil => rw [e] at h; exact absurd h (by decide)
  | cons k rest => exact ⟨k, rest, rfl, rfl, hits_mem (by rw [e]; exact List.mem_cons_self ..)⟩
theorem len_mid (h0 : 0 ≤ a) (h1 : 1 ≤ k) (h4 : k ≤ 4) (h : a + k ≤ (ks.length : Int)) : 1 ≤ ((ks.drop a.toNat).take k.toNat).length ∧ ((ks.drop a.toNat).take k.toNat).length ≤ 4 := by
  rw [List.length_take, Nat.min_eq_left (le_drop h0 h)]; exact nat_14 h1 h4
theorem len_head (h : decide (hits (ks.drop a.toNat) = []) = false) : 1 ≤ ((ks.drop a.toNat).take ((hits (ks.drop a.toNat)).getD 0 0).toNat).length ∧ ((ks.drop a.toNat).take ((hits (ks.drop a.toNat)).getD 0 0).toNat).length ≤ 4 := by
  obtain ⟨k, rest, _, e, h1, h2, _⟩ := head_hit h
  rw [e, List.length_take, Nat.min_eq_left (Int.toNat_le.mpr h2)]; exact nat_14 h1.1 h1.2
theorem sgn_head (h : decide (hits (ks.drop a.toNat) = []) = false) : sgn ((ks.drop a.toNat).take ((hits (ks.drop a.toNat)).getD 0 0).toNat) ≠ none := by
  obtain ⟨k, rest, _, e, h1, h2, c, hc⟩ := head_hit h
  rw [e, hc]; exact fun x => by cases x
theorem head_pos (h : decide (hits (ks.drop a.toNat) = []) = false) : 1 ≤ (hits (ks.drop a.toNat)).getD 0 0 ∧ (hits (ks.drop a.toNat)).getD 0 0 ≤ 4 ∧ (hits (ks.drop a.toNat)).getD 0 0 ≤ ((ks.drop a.toNat).length : Int) := by
  obtain ⟨k, rest, _, e, h1, h2, c, hc⟩ := head_hit h
  rw [e]; exact ⟨h1.1, h1.2, h2⟩
theorem inv_head {c : Int} (I : ReadInv ks a fs) (hlt : a < (ks.length : Int)) (h : decide (hits (ks.drop a.toNat) = []) = false) (hc : sgn ((ks.drop a.toNat).take ((hits (ks.drop a.toNat)).getD 0 0).toNat) = some c) : ReadInv ks (a + (hits (ks.drop a.toNat)).getD 0 0) (fs ++ [c]) := by
  obtain ⟨k, rest, e1, e, _⟩ := head_hit h
  rw [e] at hc ⊢
  exact inv_hit I hlt e1 hc
theorem no_hit {r : List Int} (h : decide (hits r = []) = true) : hits r = [] := of_decide_eq_true h
end
end
/-! Plain4 -/
section
set_option maxRecDepth 10000
/-- what a leading octet tells: how many follow, its bits, the least and the greatest next octet -/
noncomputable def leadF (o : Int) : Option (Int × Int × Int × Int) :=
  if 194 ≤ o ∧ o ≤ 223 then some (1, o % 32, 128, 191)
  else if 224 ≤ o ∧ o ≤ 239 then some (2, o % 16, if o = 224 then 160 else 128, if o = 237 then 159 else 191)
  else if 240 ≤ o ∧ o ≤ 244 then some (3, o % 8, if o = 240 then 144 else 128, if o = 244 then 143 else 191)
  else none
/-- a turn of the reader upon one octet -/
noncomputable def fstep (S : (Int × Int × Int × Int) × List Int) (o : Int) : (Int × Int × Int × Int) × List Int :=
  if 0 < S.1.1 ∧ S.1.2.2.1 ≤ o ∧ o ≤ S.1.2.2.2 then ((S.1.1 - 1, S.1.2.1 * 64 + o % 64, 128, 191), if S.1.1 - 1 = 0 then S.2 ++ [S.1.2.1 * 64 + o % 64] else S.2)
  else match leadF o with
    | some st => (st, if 0 < S.1.1 then S.2 ++ [65533] else S.2)
    | none => ((0, S.1.2.1, S.1.2.2.1, S.1.2.2.2), (if 0 < S.1.1 then S.2 ++ [65533] else S.2) ++ [if o < 128 then o else 65533])
noncomputable def feedF (st : Int × Int × Int × Int) (ks : List Int) : (Int × Int × Int × Int) × List Int := ks.foldl fstep (st, [])
/-- the reader's code fits its place -/
noncomputable def OkSt (l c : Int) : Prop := 0 ≤ l ∧ l ≤ 3 ∧ 0 ≤ c ∧ c < 2097152 ∧ (l = 1 → c < 32768) ∧ (l = 2 → c < 512) ∧ (l = 3 → c < 8)
noncomputable def FInv (st : Int × Int × Int × Int) (pre : List Int) (l c lo hi : Int) (found : List Int) : Prop :=
  feedF st pre = ((l, c, lo, hi), found) ∧ OkSt l c ∧ found.length ≤ 2 * pre.length
section
variable {st : Int × Int × Int × Int} {pre found : List Int} {l c lo hi o : Int}
theorem finv_start (h : OkSt l c) : FInv (l, c, lo, hi) [] l c lo hi [] := ⟨rfl, h, by simp⟩
theorem feedF_snoc : feedF st (pre ++ [o]) = fstep (feedF st pre) o := by
  unfold feedF
  rw [List.foldl_append]; rfl
theorem len_snoc : (pre ++ [o]).length = pre.length + 1 := by simp
theorem ok_go (k : OkSt l c) (h : 0 < l) : OkSt (l - 1) (c * 64 + o % 64) := by
  obtain ⟨k1, k2, k3, k4, k5, k6, k7⟩ := k
  have m0 := Int.emod_nonneg o (b := 64) (by decide)
  have m1 := Int.emod_lt_of_pos o (b := 64) (by decide)
  generalize o % 64 = m at m0 m1 ⊢
  have e : l = 1 ∨ l = 2 ∨ l = 3 := by clear k3 k4 k5 k6 k7 m0 m1; omega
  have p : 0 ≤ c * 64 + m := Int.add_nonneg (Int.mul_nonneg k3 (by decide)) m0
  clear k1 k2 k4 h k3 m0
  rcases e with rfl | rfl | rfl
  · have k := k5 rfl
    have q : c * 64 + m < 2097152 := by clear k5 k6 k7 p; omega
    exact ⟨by decide, by decide, p, q, fun e => absurd e (by decide), fun e => absurd e (by decide), fun e => absurd e (by decide)⟩
  · have k := k6 rfl
    have q : c * 64 + m < 32768 := by clear k5 k6 k7 p; omega
    exact ⟨by decide, by decide, p, Int.lt_trans q (by decide), fun _ => q, fun e => absurd e (by decide), fun e => absurd e (by decide)⟩
  · have k := k7 rfl
    have q : c * 64 + m < 512 := by clear k5 k6 k7 p; omega
    exact ⟨by decide, by decide, p, Int.lt_trans q (by decide), fun e => absurd e (by decide), fun _ => q, fun e => absurd e (by decide)⟩
theorem ln {f p k : Nat} (h : f ≤ 2 * p) (hk : k ≤ 2) : f + k ≤ 2 * (p + 1) := Nat.add_le_add h hk
theorem finv_go0 (I : FInv st pre l c lo hi found) (h : 0 < l) (h1 : lo ≤ o) (h2 : o ≤ hi) (hz : l - 1 = 0) : FInv st (pre ++ [o]) (l - 1) (c * 64 + o % 64) 128 191 (found ++ [c * 64 + o % 64]) := by
  obtain ⟨e, k, n⟩ := I
  refine ⟨?_, ok_go k h, by rw [len_snoc, List.length_append]; exact ln n (by decide)⟩
  rw [feedF_snoc, e]
  unfold fstep
  rw [if_pos ⟨h, h1, h2⟩]
  show _ = _
  rw [if_pos hz]
theorem finv_go (I : FInv st pre l c lo hi found) (h : 0 < l) (h1 : lo ≤ o) (h2 : o ≤ hi) (hz : ¬ l - 1 = 0) : FInv st (pre ++ [o]) (l - 1) (c * 64 + o % 64) 128 191 found := by
  obtain ⟨e, k, n⟩ := I
  refine ⟨?_, ok_go k h, by rw [len_snoc]; exact ln (k := 0) n (by decide)⟩
  rw [feedF_snoc, e]
  unfold fstep
  rw [if_pos ⟨h, h1, h2⟩]
  show _ = _
  rw [if_neg hz]
theorem lead_ok {a b : Int} {x : Int × Int} (h : leadF o = some (a, b, x)) : OkSt a b := by
  unfold leadF at h
  split at h
  · cases h
    have q := Int.emod_lt_of_pos o (b := 32) (by decide)
    exact ⟨by decide, by decide, Int.emod_nonneg o (by decide), Int.lt_trans q (by decide), fun _ => Int.lt_trans q (by decide), fun e => absurd e (by decide), fun e => absurd e (by decide)⟩
  split at h
  · cases h
    have q := Int.emod_lt_of_pos o (b := 16) (by decide)
    exact ⟨by decide, by decide, Int.emod_nonneg o (by decide), Int.lt_trans q (by decide), fun e => absurd e (by decide), fun _ => Int.lt_trans q (by decide), fun e => absurd e (by decide)⟩
  split at h
  · cases h
    have q := Int.emod_lt_of_pos o (b := 8) (by decide)
    exact ⟨by decide, by decide, Int.emod_nonneg o (by decide), Int.lt_trans q (by decide), fun e => absurd e (by decide), fun e => absurd e (by decide), fun _ => q⟩
  · cases h
theorem finv_lead {a b d e : Int} (I : FInv st pre l c lo hi found) (hn : ¬ (0 < l ∧ lo ≤ o ∧ o ≤ hi)) (h : leadF o = some (a, b, d, e)) (hl : 0 < l) : FInv st (pre ++ [o]) a b d e (found ++ [65533]) := by
  obtain ⟨ee, k, n⟩ := I
  refine ⟨?_, lead_ok h, by rw [len_snoc, List.length_append]; exact ln n (by decide)⟩
  rw [feedF_snoc, ee]
  unfold fstep
  rw [if_neg hn, h]
  show _ = _
  rw [if_pos hl]
theorem finv_lead0 {a b d e : Int} (I : FInv st pre l c lo hi found) (h : leadF o = some (a, b, d, e)) (hl : ¬ 0 < l) : FInv st (pre ++ [o]) a b d e found := by
  obtain ⟨ee, k, n⟩ := I
  refine ⟨?_, lead_ok h, by rw [len_snoc]; exact ln (k := 0) n (by decide)⟩
  rw [feedF_snoc, ee]
  unfold fstep
  rw [if_neg (fun x => hl x.1), h]
  show _ = _
  rw [if_neg hl]
theorem ok_zero (k : OkSt l c) : OkSt 0 c := by
  obtain ⟨k1, k2, k3, k4, k5, k6, k7⟩ := k
  exact ⟨by decide, by decide, k3, k4, fun e => absurd e (by decide), fun e => absurd e (by decide), fun e => absurd e (by decide)⟩
theorem finv_none {x : Int} (I : FInv st pre l c lo hi found) (hn : ¬ (0 < l ∧ lo ≤ o ∧ o ≤ hi)) (h : leadF o = none) (hl : 0 < l) (hx : x = if o < 128 then o else 65533) : FInv st (pre ++ [o]) 0 c lo hi (found ++ [65533] ++ [x]) := by
  obtain ⟨ee, k, n⟩ := I
  refine ⟨?_, ok_zero k, by rw [len_snoc, List.length_append, List.length_append]; exact ln (k := 2) n (Nat.le_refl 2)⟩
  rw [feedF_snoc, ee]
  unfold fstep
  rw [if_neg hn, h, hx]
  show _ = _
  rw [if_pos hl]
theorem finv_none0 {x : Int} (I : FInv st pre l c lo hi found) (h : leadF o = none) (hl : ¬ 0 < l) (hx : x = if o < 128 then o else 65533) : FInv st (pre ++ [o]) 0 c lo hi (found ++ [x]) := by
  obtain ⟨ee, k, n⟩ := I
  refine ⟨?_, ok_zero k, by rw [len_snoc, List.length_append]; exact ln n (by decide)⟩
  rw [feedF_snoc, ee]
  unfold fstep
  rw [if_neg (fun x => hl x.1), h, hx]
  show _ = _
  rw [if_neg hl]
end
end
/-! Lead -/
section
open PySem PySem.W PyProof.Rows
set_option maxRecDepth 100000
set_option maxHeartbeats 8000000
/-- what sign_lead gives back -/
noncomputable def LeadOut (o : Int) (v : Value) (made : List (Addr × Obj)) : Prop :=
  (leadF o = none ∧ v = .none) ∨ ∃ T a b c d t1 t2 t3 t4, leadF o = some (a, b, c, d) ∧ v = .ref T ∧ made = [(T, { cls := .type "tuple", data := .seq #[.int a t1, .int b t2, .int c t3, .int d t4] })]
theorem lead_any (w : World) (mean) (mg mb) (o : Int) (h0 : 0 ≤ o) (h1 : o < 256) (t : Tok) :
    Con 0 w mean mg mb 28 [.int o t] [] (fun v made => LeadOut o v made) := by
  w_top off
  k_with_none
  k_with "ktr_enter" => (refine' code_defG ?k1 ?k2 ?k3 ?k4 ?k5 ?kA ?kF ?kK ?k6 ?k7 ?k8 ?k9 ?kB ?_ ?c2 ?c3 ?c4 ?c5; (case kA => exact rfl); (case kF => exact rfl); (case kK => first | exact rfl | assumption); (case k1 => k_asm); (case k2 => k_asm); (case k3 => k_asm); (case k4 => k_asm); (case k5 => k_asm); (case k6 => k_is); (case k7 => k_is); (case k8 => ktr_room); (case k9 => first | exact BindsTo.of_eq rfl | exact binds_K (by k_in) rfl (by k_is) rfl rfl rfl); (case c5 => decide); (case kB => exact locs rfl); (case c2 => exact rfl); (case c3 => exact rfl); (case c4 => exact rfl); k_whole; intro g' L' h' FG' F' N' B' X' T' kG'; (try dsimp only); (try k_fold))
  k_with "execs cons" => ((try dsimp only); (with_reducible refine execs_gen ?_); intro tk9; (with_reducible refine wpAny_execs_cons ?_); (try dsimp only))
  unfold Con
  k_fill
  intro dp un gd cn cs a ccd cl outer A₀ base h₀ L m s Q E B F X N T hk hd hu hret
  refine wpAny_call ?_
  k_dflt ktr_enter
  repeat' (first
    | (exfalso; omega)
    | (refine' con_end hret (by assumption) (by assumption) (by assumption) (by assumption) (by assumption) (fun p hp => hp) (.inr ⟨_, _, _, _, _, _, _, _, _, ?e, rfl, rfl⟩); (case e => (simp only [bitAnd_m5, bitAnd_m4, bitAnd_m3]; unfold leadF; (repeat (first | rw [if_pos (by omega)] | rw [if_neg (by omega)])))))
    | (refine' con_end hret (by assumption) (by assumption) (by assumption) (by assumption) (by assumption) (fun p hp => hp) (.inl ⟨?e, rfl⟩); (case e => (unfold leadF; (repeat (first | rw [if_pos (by omega)] | rw [if_neg (by omega)])))))
    | (k_unfold; (try dsimp only)) | walk1 | (dsimp only; walk1) | (leave1; walk_say "STEP leave1"; try dsimp only) | fail "no step")
end
/-! FeedB -/
section
open PySem PySem.W PyProof.Rows
set_option maxRecDepth 100000
/-- a reader's own dict -/
noncomputable abbrev rdDict (w : World) (k1 k2 k3 k4 k5 : Tok) (u : Bool) (l c lo hi : Int) (t1 t2 t3 t4 : Tok) : Obj :=
  dictOf [⟨PyData.keyHash w.params (Str.ofString "is_utf8"), .str (Str.ofString "is_utf8") k1, .bool u⟩, ⟨PyData.keyHash w.params (Str.ofString "left"), .str (Str.ofString "left") k2, .int l t1⟩, ⟨PyData.keyHash w.params (Str.ofString "code"), .str (Str.ofString "code") k3, .int c t2⟩,
    ⟨PyData.keyHash w.params (Str.ofString "low"), .str (Str.ofString "low") k4, .int lo t3⟩, ⟨PyData.keyHash w.params (Str.ofString "high"), .str (Str.ofString "high") k5, .int hi t4⟩] 5
end
/-! FeedW -/
section
open PySem PySem.W PySem.Spec PySem.Calls PyProof.Rows
set_option maxRecDepth 100000
section
variable {prog : Program} {w : World} {A : Around} {E : Value → Shared → Prop} {Q : Flow → Shared → Prop} {s : Shared} {env : Env} {h₀ : Heap}
/-- the ledger of the reader's loop -/
noncomputable abbrev fdLed (w : World) (D x d : Addr) (K1 K2 K3 K4 K5 : Tok) (vs : List Value) (n : Nat) (l c lo hi : Int) (t1 t2 t3 t4 : Tok) : List (Addr × Obj) :=
  [(D, listOf vs.toArray n), (x, instObj 95 d), (d, rdDict w K1 K2 K3 K4 K5 true l c lo hi t1 t2 t3 t4)]
noncomputable def FdEnd (w : World) (st : Int × Int × Int × Int) (h₀ : Heap) (L : Addr) (s : Shared) (I : Addr) (it : Obj) (D x d : Addr) (K1 K2 K3 K4 K5 : Tok) (m : Str → Option Value) (pre : List Int) (s₃ : Shared) : Prop :=
  ∃ l c lo hi t1 t2 t3 t4 fs vs n h' tk', s₃ = { s with heap := h', toks := tk' } ∧ Fr h₀ L h' m ∧ News h₀ L h' ((I, it) :: fdLed w D x d K1 K2 K3 K4 K5 vs n l c lo hi t1 t2 t3 t4) ∧ FInv st pre l c lo hi fs ∧ IntsAre vs fs
noncomputable def FdPost (w : World) (st : Int × Int × Int × Int) (h₀ : Heap) (L : Addr) (s : Shared) (I : Addr) (it : Obj) (D x d : Addr) (K1 K2 K3 K4 K5 : Tok) (m : Str → Option Value) (pre : List Int) (Q : Flow → Shared → Prop) (f : Flow) (s₃ : Shared) : Prop := match f with
  | .ret v => Q (.ret v) s₃
  | .brk => Q .next s₃
  | _ => FdEnd w st h₀ L s I it D x d K1 K2 K3 K4 K5 m pre s₃
theorem feed_for {body : List Stmt} {ks : List Int} {b : Array UInt8} {tb : Tok} {m₀ : Str → Option Value} {D x d : Addr} {K1 K2 K3 K4 K5 : Tok} {l c lo hi : Int} {t1 t2 t3 t4 : Tok} {n : Nat} {nw : List (Addr × Obj)}
    (hl : ks.length ≤ 36) (hb : KBw.bInts b = ks) (hh : A.handled = none) (ok : OkSt l c) (F : Fr h₀ env.locals s.heap m₀) (N : News h₀ env.locals s.heap nw)
    (n1 : (D, listOf #[] n) ∈ nw) (n2 : (x, instObj 95 d) ∈ nw) (n3 : (d, rdDict w K1 K2 K3 K4 K5 true l c lo hi t1 t2 t3 t4) ∈ nw)
    (turn : ∀ (I : Addr) (it : Obj) (pre : List Int) (o : Int) (u : Tok) (l' c' lo' hi' : Int) (t1' t2' t3' t4' : Tok) (fs : List Int) (vs : List Value) (n' : Nat) (h : Heap) (tk : Nat), @LT.lt Nat _ D I → @LT.lt Nat _ x I → @LT.lt Nat _ d I → 0 ≤ o → o < 256 → FInv (l, c, lo, hi) pre l' c' lo' hi' fs → IntsAre vs fs → vs.toArray.size + 1 ≤ sizeLine →
      Fr h₀ env.locals h (fun y => if y = Str.ofString "octet" then some (.int o u) else m₀ y) → News h₀ env.locals h ((I, it) :: fdLed w D x d K1 K2 K3 K4 K5 vs n' l' c' lo' hi' t1' t2' t3' t4') →
      wpAny (model prog w) A (execs body env) (FdPost w (l, c, lo, hi) h₀ env.locals { s with heap := h, toks := tk } I it D x d K1 K2 K3 K4 K5 (fun y => if y = Str.ofString "octet" then some (.int o u) else m₀ y) (pre ++ [o]) Q) E { s with heap := h, toks := tk })
    (done : ∀ (l' c' lo' hi' : Int) (t1' t2' t3' t4' : Tok) (fs : List Int) (vs : List Value) (n' : Nat) (u : Str → Option Value) (h : Heap) (tk : Nat), FInv (l, c, lo, hi) ks l' c' lo' hi' fs → IntsAre vs fs →
      Fr h₀ env.locals h (fun y => if y = Str.ofString "octet" then u y else m₀ y) → News h₀ env.locals h (fdLed w D x d K1 K2 K3 K4 K5 vs n' l' c' lo' hi' t1' t2' t3' t4') → Q .next { s with heap := h, toks := tk }) :
    wpAny (model prog w) A (pyIter (.bytes b tb)) (fun it s₂ => LoopAtV prog w A h₀ env (Str.ofString "octet") body Q E it s₂) E s := by
  have N₀ : News h₀ env.locals s.heap (fdLed w D x d K1 K2 K3 K4 K5 [] n l c lo hi t1 t2 t3 t4) := all3 (N _ n1) (N _ n2) (N _ n3)
  refine iter_bytesUnr hh F N₀ hb fun I off => ?_
  have o1 : D < I := off (D, _) (List.mem_cons_self ..)
  have o2 : x < I := off (x, _) (List.mem_cons_of_mem _ (List.mem_cons_self ..))
  have o3 : d < I := off (d, _) (List.mem_cons_of_mem _ (List.mem_cons_of_mem _ (List.mem_cons_self ..)))
  have all : ∀ (post pre : List Int) (l' c' lo' hi' : Int) (t1' t2' t3' t4' : Tok) (fs : List Int) (vs : List Value) (n' : Nat) (m : Str → Option Value), ks = pre ++ post → FInv (l, c, lo, hi) pre l' c' lo' hi' fs → IntsAre vs fs → (∀ y, y ≠ Str.ofString "octet" → m y = m₀ y) →
      BytesRest prog w A E h₀ env (Str.ofString "octet") body Q s I post m (fdLed w D x d K1 K2 K3 K4 K5 vs n' l' c' lo' hi' t1' t2' t3' t4') := by
    intro post
    induction post with
    | nil =>
      intro pre l' c' lo' hi' t1' t2' t3' t4' fs vs n' m e I9 hi9 hm
      refine BytesRest.zero fun h tk F' N' => ?_
      rw [List.append_nil] at e
      have em : (fun y => if y = Str.ofString "octet" then m y else m₀ y) = m := by
        funext y
        by_cases hy : y = Str.ofString "octet"
        · rw [if_pos hy]
        · rw [if_neg hy, hm y hy]
      exact done l' c' lo' hi' t1' t2' t3' t4' fs vs n' m h tk (e ▸ I9) hi9 (by rw [em]; exact F') N'
    | cons o post ih =>
      intro pre l' c' lo' hi' t1' t2' t3' t4' fs vs n' m e I9 hi9 hm
      refine BytesRest.succ fun h0 h1 u it h tk F' N' => ?_
      have em : (fun y => if y = Str.ofString "octet" then some (Value.int o u) else m y) = (fun y => if y = Str.ofString "octet" then some (Value.int o u) else m₀ y) := by
        funext y
        by_cases hy : y = Str.ofString "octet"
        · rw [if_pos hy, if_pos hy]
        · rw [if_neg hy, if_neg hy, hm y hy]
      rw [em] at F'
      have hsz : vs.toArray.size + 1 ≤ sizeLine := by
        have h2 := I9.2.2
        have h3 := hi9.length
        have h4 := congrArg List.length e
        rw [List.length_append] at h4
        have h5 : (100 : Nat) ≤ sizeLine := Nat.le_of_ble_eq_true rfl
        rw [List.size_toArray]
        omega
      refine wpAny_mono (turn I it pre o u l' c' lo' hi' t1' t2' t3' t4' fs vs n' h tk o1 o2 o3 h0 h1 I9 hi9 hsz F' N') (fun f s₃ q => ?_) fun _ _ x => x
      have go : FdEnd w (l, c, lo, hi) h₀ env.locals { s with heap := h, toks := tk } I it D x d K1 K2 K3 K4 K5 (fun y => if y = Str.ofString "octet" then some (Value.int o u) else m₀ y) (pre ++ [o]) s₃ →
          UnrEnd h₀ env.locals { s with heap := h, toks := tk } I it (BytesRest prog w A E h₀ env (Str.ofString "octet") body Q s I post) s₃ := by
        rintro ⟨l9, c9, lo9, hi9', t19, t29, t39, t49, fs9, vs9, n9, h9, tk9, e9, F9, N9, I9', hi9''⟩
        refine ⟨h9, tk9, _, _, e9, F9, N9, all3 (Nat.ne_of_lt o1) (Nat.ne_of_lt o2) (Nat.ne_of_lt o3), ih (pre ++ [o]) l9 c9 lo9 hi9' t19 t29 t39 t49 fs9 vs9 n9 _ (by rw [e, List.append_assoc]; rfl) I9' hi9'' fun y hy => if_neg hy⟩
      cases f with
      | ret v => exact q
      | brk => exact q
      | next => exact go q
      | cont => exact go q
  exact all ks [] l c lo hi t1 t2 t3 t4 [] [] n m₀ rfl (finv_start ok) .nil fun _ _ => rfl
end
end
/-! Bits -/
section
open PySem PySem.W PyProof.Rows
theorem nat_low (n b k : Nat) (h : b < 2 ^ k) : (n * 2 ^ k) &&& b = 0 := by
  apply Nat.eq_of_testBit_eq
  intro i
  rw [Nat.testBit_and, Nat.zero_testBit]
  by_cases hi : i < k
  · have : (n * 2 ^ k).testBit i = false := by
      rw [Nat.testBit_mul_two_pow]
      simp; omega
    rw [this]; rfl
  · have : b.testBit i = false := Nat.testBit_lt_two_pow (Nat.lt_of_lt_of_le h (Nat.pow_le_pow_right (by decide) (by omega)))
    rw [this, Bool.and_false]
theorem and_low (a b : Int) (k : Nat) (ha : 0 ≤ a) (h0 : 0 ≤ b) (h1 : b < 2 ^ k) : Builtin.bitAnd (a * 2 ^ k) b = 0 := by
  obtain ⟨n, rfl⟩ := Int.eq_ofNat_of_zero_le ha
  obtain ⟨m, rfl⟩ := Int.eq_ofNat_of_zero_le h0
  have e : ((n : Int) * 2 ^ k) = ((n * 2 ^ k : Nat) : Int) := by push_cast; rfl
  have hm : m < 2 ^ k := by
    have : ((m : Nat) : Int) < ((2 ^ k : Nat) : Int) := by push_cast; exact h1
    omega
  rw [e]
  unfold Builtin.bitAnd
  have d1 : decide ((0 : Int) ≤ ((n * 2 ^ k : Nat) : Int)) = true := decide_eq_true (Int.natCast_nonneg _)
  have d2 : decide ((0 : Int) ≤ ((m : Nat) : Int)) = true := decide_eq_true (Int.natCast_nonneg _)
  rw [d1, d2]
  simp only [Int.toNat_natCast]
  rw [nat_low n m k hm]
  rfl
theorem or_low (a b : Int) (k : Nat) (ha : 0 ≤ a) (h0 : 0 ≤ b) (h1 : b < 2 ^ k) : Builtin.bitOr (a * 2 ^ k) b = a * 2 ^ k + b := by
  have h2 := bitXor_and (a * 2 ^ k) b
  have h3 := and_low a b k ha h0 h1
  have h4 : Builtin.bitXor (a * 2 ^ k) b = Builtin.bitOr (a * 2 ^ k) b - Builtin.bitAnd (a * 2 ^ k) b := rfl
  omega
theorem or6 {c o : Int} (hc : 0 ≤ c) : Builtin.bitOr (c * 64) (o % 64) = c * 64 + o % 64 := or_low c (o % 64) 6 hc (by omega) (by omega)
section
variable {prog : Program} {w : World} {A : Around} {E : Value → Shared → Prop} {s : Shared} {t u : Tok} {Q : Value → Shared → Prop} {a b : Int}
theorem shl6 (h0 : 0 ≤ a) (h1 : a < 2097152) (h : Q (.int (a * 64) s.toks) { s with toks := s.toks + 1 }) : wpAny (model prog w) A (binaryOp .LShift (.int a t) (.int 6 u)) Q E s :=
  lshift_int_small (by decide) (by decide) (by have : (2097152 : Nat) ≤ 2 ^ 64 := by decide
                                               omega) h
theorem and63 (h : Q (.int (a % 64) s.toks) { s with toks := s.toks + 1 }) : wpAny (model prog w) A (binaryOp .BitAnd (.int a t) (.int 63 u)) Q E s :=
  and_int (by rw [bitAnd_m6]; exact h)
theorem or64 (hc : 0 ≤ a) (h : Q (.int (a * 64 + b % 64) s.toks) { s with toks := s.toks + 1 }) : wpAny (model prog w) A (binaryOp .BitOr (.int (a * 64) t) (.int (b % 64) u)) Q E s :=
  or_int (by rw [or6 hc]; exact h)
end
section
variable {prog : Program} {w : World} {A : Around} {E : Value → Shared → Prop} {s : Shared} {t u : Tok} {Q : Value → Shared → Prop} {a b : Int}
theorem or192 (h0 : 0 ≤ b) (h1 : b < 32) (h : Q (.int (192 + b) s.toks) { s with toks := s.toks + 1 }) : wpAny (model prog w) A (binaryOp .BitOr (.int 192 t) (.int b u)) Q E s :=
  or_int (by have e : Builtin.bitOr 192 b = 192 + b := or_low 6 b 5 (by decide) h0 h1
             rw [e]; exact h)
theorem or128 (h0 : 0 ≤ b) (h1 : b < 64) (h : Q (.int (128 + b) s.toks) { s with toks := s.toks + 1 }) : wpAny (model prog w) A (binaryOp .BitOr (.int 128 t) (.int b u)) Q E s :=
  or_int (by have e : Builtin.bitOr 128 b = 128 + b := or_low 2 b 6 (by decide) h0 h1
             rw [e]; exact h)
theorem or224 (h0 : 0 ≤ b) (h1 : b < 16) (h : Q (.int (224 + b) s.toks) { s with toks := s.toks + 1 }) : wpAny (model prog w) A (binaryOp .BitOr (.int 224 t) (.int b u)) Q E s :=
  or_int (by have e : Builtin.bitOr 224 b = 224 + b := or_low 14 b 4 (by decide) h0 h1
             rw [e]; exact h)
theorem or240 (h0 : 0 ≤ b) (h1 : b < 8) (h : Q (.int (240 + b) s.toks) { s with toks := s.toks + 1 }) : wpAny (model prog w) A (binaryOp .BitOr (.int 240 t) (.int b u)) Q E s :=
  or_int (by have e : Builtin.bitOr 240 b = 240 + b := or_low 30 b 3 (by decide) h0 h1
             rw [e]; exact h)
end
section
variable {prog : Program} {w : World} {A : Around} {E : Value → Shared → Prop} {s : Shared} {t u : Tok} {Q : Value → Shared → Prop} {a : Int}
theorem shr6 (h : Q (.int (a / 64) s.toks) { s with toks := s.toks + 1 }) : wpAny (model prog w) A (binaryOp .RShift (.int a t) (.int 6 u)) Q E s :=
  rshift_int (by decide) (by have e : a.fdiv (2 ^ Int.toNat 6) = a / 64 := Int.fdiv_eq_ediv_of_nonneg a (by decide)
                             rw [e]; exact h)
theorem shr12 (h : Q (.int (a / 4096) s.toks) { s with toks := s.toks + 1 }) : wpAny (model prog w) A (binaryOp .RShift (.int a t) (.int 12 u)) Q E s :=
  rshift_int (by decide) (by have e : a.fdiv (2 ^ Int.toNat 12) = a / 4096 := Int.fdiv_eq_ediv_of_nonneg a (by decide)
                             rw [e]; exact h)
theorem shr18 (h : Q (.int (a / 262144) s.toks) { s with toks := s.toks + 1 }) : wpAny (model prog w) A (binaryOp .RShift (.int a t) (.int 18 u)) Q E s :=
  rshift_int (by decide) (by have e : a.fdiv (2 ^ Int.toNat 18) = a / 262144 := Int.fdiv_eq_ediv_of_nonneg a (by decide)
                             rw [e]; exact h)
end
end
/-! Feed -/
section
open PySem PySem.W PyProof.Rows
set_option maxRecDepth 100000
set_option maxHeartbeats 8000000
theorem off1_of {T : Addr} : ∀ {news : List (Addr × Obj)}, (∀ q ∈ news, q.1 ≠ T) → LCg.Off1 T news
  | [], _ => trivial
  | _ :: _, h => ⟨h _ (List.mem_cons_self ..), off1_of fun q hq => h q (List.mem_cons_of_mem _ hq)⟩
theorem lead_use {w : World} {mean : ExcName → Option Value} {mg mb : Str → Option Value} {o : Int} {t : Tok}
    {dp un : Nat} {gd : Option (List Code)} {cn : Str} {cs : Scope} {a : Addr} {ccd : Value} {cl : List (Str × Addr)} {outer : List Env} {A₀ : Around} {base h₀ : Heap} {L : Addr} {m : Str → Option Value} {s : Shared} {Q E : Value → Shared → Prop} {news : List (Addr × Obj)}
    (h0 : 0 ≤ o) (h1 : o < 256) (B : Below A₀ base outer h₀) (F : Fr h₀ L s.heap m) (X : (hd.heap_39 w.params).In h₀) (N : News h₀ L s.heap news)
    (T : Top hd.view_39 (looseW hd.view_39 [Str.ofString "_law_menu", Str.ofString "_law_codes"]) mean mg mb h₀) (hk : cs.kind = .function) (hd : dp + 4 * (0 + 1) < recursionLimit) (hu : un + 100 * (0 + 1) < cLine)
    (hn : ∀ h' tk', Fr h₀ L h' m → News h₀ L h' news → leadF o = none → Q .none { s with heap := h', toks := tk' })
    (hs : ∀ T a b c d t1 t2 t3 t4 h' tk', Fr h₀ L h' m → News h₀ L h' ((T, { cls := .type "tuple", data := .seq #[.int a t1, .int b t2, .int c t3, .int d t4] }) :: news) → LCg.Off1 T news → leadF o = some (a, b, c, d) → Q (.ref T) { s with heap := h', toks := tk' }) :
    wpAny (model PySem.Challenge.rw_np0270_01.row.prog w) (ktrTop dp un gd cn cs L a ccd cl outer) (call (.ref 28) [.int o t]) Q E s := by
  refine con_use (lead_any w mean mg mb o h0 h1 t) B F X N T hk hd hu (fun p hp => nomatch hp) news (fun p hp => ⟨hp, fun h => nomatch h⟩) fun v made h' tk' F' N' off O => ?_
  rcases O with ⟨e, rfl⟩ | ⟨T, a, b, c, d, t1, t2, t3, t4, e, rfl, rfl⟩
  · exact hn h' tk' F' (fun p hp => N' p (List.mem_append_right _ hp)) e
  · exact hs T a b c d t1 t2 t3 t4 h' tk' F' N' (off1_of fun q hq => off _ (List.mem_cons_self ..) (fun h => nomatch h) q hq) e
theorem fdEnd_of {w : World} {st : Int × Int × Int × Int} {h₀ h' : Heap} {L L9 : Addr} {s : Shared} {I : Addr} {it : Obj} {D x d : Addr} {K1 K2 K3 K4 K5 : Tok} {m : Str → Option Value} {pre fs : List Int} {vs : List Value} {arr : Array Value} {n : Nat} {l c lo hi : Int} {t1 t2 t3 t4 : Tok} {nw : List (Addr × Obj)} {tk' : Nat}
    (e : L9 = L) (N : News h₀ L9 h' nw) (F : Fr h₀ L9 h' m) (n0 : (I, it) ∈ nw) (n1 : (D, listOf arr n) ∈ nw) (n2 : (x, instObj 95 d) ∈ nw) (n3 : (d, rdDict w K1 K2 K3 K4 K5 true l c lo hi t1 t2 t3 t4) ∈ nw)
    (ha : IntsAre vs fs ∧ arr = vs.toArray) (FI : FInv st pre l c lo hi fs) : FdEnd w st h₀ L s I it D x d K1 K2 K3 K4 K5 m pre { s with heap := h', toks := tk' } := by
  subst e
  rw [ha.2] at n1
  exact ⟨l, c, lo, hi, t1, t2, t3, t4, fs, vs, n, h', tk', rfl, F, all4 (N _ n0) (N _ n1) (N _ n2) (N _ n3), FI, ha.1⟩
theorem ints0 {vs : List Value} {fs : List Int} (h : IntsAre vs fs) : IntsAre vs fs ∧ vs.toArray = vs.toArray := ⟨h, rfl⟩
theorem ints1 {vs : List Value} {fs : List Int} {a : Int} {t : Tok} (h : IntsAre vs fs) : IntsAre (vs ++ [Value.int a t]) (fs ++ [a]) ∧ vs.toArray.push (Value.int a t) = (vs ++ [Value.int a t]).toArray := ⟨h.append (.cons _ _ .nil), by simp⟩
theorem ints2 {vs : List Value} {fs : List Int} {a b : Int} {t u : Tok} (h : IntsAre vs fs) : IntsAre (vs ++ [Value.int a t] ++ [Value.int b u]) (fs ++ [a] ++ [b]) ∧ (vs.toArray.push (Value.int a t)).push (Value.int b u) = (vs ++ [Value.int a t] ++ [Value.int b u]).toArray := ⟨(h.append (.cons _ _ .nil)).append (.cons _ _ .nil), by simp⟩
theorem ill_x1 {o : Int} (h : o < 128) : o = if o < 128 then o else 65533 := by rw [if_pos h]
theorem ill_x2 {o : Int} (h : ¬ o < 128) : 65533 = if o < 128 then o else 65533 := by rw [if_neg h]
/-- what feed gives back, and what the reader is then -/
noncomputable def FdOut (w : World) (x d : Addr) (K1 K2 K3 K4 K5 : Tok) (st : Int × Int × Int × Int) (ks : List Int) (v : Value) (made : List (Addr × Obj)) : Prop :=
  ∃ D vs n l c lo hi t1 t2 t3 t4, v = .ref D ∧ made = [(D, listOf vs.toArray n), (x, instObj 95 d), (d, rdDict w K1 K2 K3 K4 K5 true l c lo hi t1 t2 t3 t4)] ∧ IntsAre vs (feedF st ks).2 ∧ (feedF st ks).1 = (l, c, lo, hi) ∧ OkSt l c
theorem fd_end {w : World} {st : Int × Int × Int × Int} {ks fs : List Int} {h₀ g h' : Heap} {L L' : Addr} {s : Shared} {D x d : Addr} {K1 K2 K3 K4 K5 : Tok} {m m' : Str → Option Value} {vs : List Value} {n : Nat} {l c lo hi : Int} {t1 t2 t3 t4 : Tok} {led made' : List (Addr × Obj)} {tk' : Nat} {Q : Value → Shared → Prop}
    (hret : ∀ v made h' tk', Fr h₀ L h' m → News h₀ L h' made → (∀ b o, s.heap.get? b = some o → b ∉ led.map (·.1) → h'.get? b = some o) → (∀ p ∈ made, p.1 ∉ led.map (·.1) → s.heap.get? p.1 = none) → FdOut w x d K1 K2 K3 K4 K5 st ks v made → Q v { s with heap := h', toks := tk' })
    (G : GSub s.heap g (led.map (·.1))) (F' : Fr g L' h' m') (N' : News g L' h' made') (F : Fr h₀ L h' m) (N : News h₀ L h' made')
    (n1 : (D, listOf vs.toArray n) ∈ made') (n2 : (x, instObj 95 d) ∈ made') (n3 : (d, rdDict w K1 K2 K3 K4 K5 true l c lo hi t1 t2 t3 t4) ∈ made') (hi' : IntsAre vs fs) (FI : FInv st ks l c lo hi fs) : Q (.ref D) { s with heap := h', toks := tk' } :=
  con_end hret G F' N' F N (made := [(D, listOf vs.toArray n), (x, instObj 95 d), (d, rdDict w K1 K2 K3 K4 K5 true l c lo hi t1 t2 t3 t4)]) (all3 n1 n2 n3) ⟨D, vs, n, l, c, lo, hi, t1, t2, t3, t4, rfl, rfl, by rw [FI.1]; exact hi', by rw [FI.1], FI.2.1⟩
theorem feed_utf8 (w : World) (mean) (mg mb) (b : Array UInt8) (ks : List Int) (hl : ks.length ≤ 36)
   (hb : KBw.bInts b = ks) (t : Tok) (x d : Addr) (hxd : @LT.lt Nat _ d x) (K1 K2 K3 K4 K5 : Tok) (l c lo hi : Int) (t1 t2 t3 t4 : Tok) (hok : OkSt l c) :
    Con 2 w mean mg mb 50 [.ref x, .bytes b t] [(x, instObj 95 d), (d, rdDict w K1 K2 K3 K4 K5 true l c lo hi t1 t2 t3 t4)] (fun v made => FdOut w x d K1 K2 K3 K4 K5 (l, c, lo, hi) ks v made) := by
  w_top off
  k_with_none
  k_with "ktr_enter" => (refine' code_defG ?k1 ?k2 ?k3 ?k4 ?k5 ?kA ?kF ?kK ?k6 ?k7 ?k8 ?k9 ?kB ?_ ?c2 ?c3 ?c4 ?c5; (case kA => exact rfl); (case kF => exact rfl); (case kK => first | exact rfl | assumption); (case k1 => k_asm); (case k2 => k_asm); (case k3 => k_asm); (case k4 => k_asm); (case k5 => k_asm); (case k6 => k_is); (case k7 => k_is); (case k8 => ktr_room); (case k9 => first | exact BindsTo.of_eq rfl | exact binds_K (by k_in) rfl (by k_is) rfl rfl rfl); (case c5 => decide); (case kB => exact locs rfl); (case c2 => exact rfl); (case c3 => exact rfl); (case c4 => exact rfl); k_whole; intro g' L' h' FG' F' N' B' X' T' kG'; (try dsimp only); (try k_fold))
  k_with "execs cons" => ((try dsimp only); (with_reducible refine execs_gen ?_); intro tk9; (with_reducible refine wpAny_execs_cons ?_); (try dsimp only))
  k_with "call ref" => ((with_reducible show wpAny _ _ (call (Value.ref 28) _) _ _ _); k_dflt (refine lead_use (by omega) (by omega) (by k_asm) (by k_asm) (by k_asm) (by k_asm) (by k_asm) (by first | exact rfl | assumption) (by ktr_room) (by ktr_units) ?_ ?_); (intro h9 tk9 F' N' ld9); rotate_left; (intro T9 la9 lb9 lc9 ld9 t19 t29 t39 t49 h9 tk9 F' N' off9 ld9; (try simp only [LCg.Off1, and_true] at off9)); rotate_left; (try dsimp only))
  k_with "binaryOp LShift int int" => ((with_reducible rename FInv _ _ _ _ _ _ _ => FI9); k_dflt (refine shl6 FI9.2.1.2.2.1 FI9.2.1.2.2.2.1 ?_); (try dsimp only))
  k_with "binaryOp BitAnd int int" => (k_dflt (refine and63 ?_); (try dsimp only))
  k_with "binaryOp BitOr int int" => ((with_reducible rename FInv _ _ _ _ _ _ _ => FI9); k_dflt (refine or64 FI9.2.1.2.2.1 ?_); (try dsimp only))
  k_with "call ref" => ((with_reducible show wpAny _ _ (call (Value.ref _) (Value.ref _ :: _)) _ _ _); k_dflt (refine wpAny_call ?_; ktr_enter))
  k_with "pyIter bytes" => ((with_reducible rename Fr _ _ _ _ => F'); (with_reducible rename News _ _ _ _ => N'); k_dflt (refine' feed_for ?hl ?hb ?hh ?ok F' N' ?n1 ?n2 ?n3 ?_ ?_; (case hl => with_reducible assumption); (case hb => with_reducible assumption); (case hh => exact rfl); (case ok => with_reducible assumption); (case n1 => k_mem); (case n2 => k_mem); (case n3 => k_mem)); (clear F' N'); ((intro I9 it9 pre9 o9 u9 l9 c9 lo9 hi9 t19 t29 t39 t49 fs9 vs9 n9 h9 tk9 oD9 ox9 od9 b09 b19 FI9 IA9 sz9 F' N'; dsimp only [fdLed, rdDict] at N'); rotate_left; (intro l9 c9 lo9 hi9 t19 t29 t39 t49 fs9 vs9 n9 u9 h9 tk9 FI9 IA9 F' N'; dsimp only [fdLed, rdDict] at N'); rotate_left); (try k_fold))
  k_with "FdPost" => (dsimp only [FdPost])
  k_with "exec For Name Name cons nil" => ((rename Fr _ _ _ _ => lF'); (with_unfolding_all refine' For_invVF lF' ?k1 ?k2 ?_; (case k1 => exact rfl); (case k2 => exact rfl); k_whole))
  k_with "FdEnd" => ((with_reducible rename FInv _ _ _ _ _ _ _ => FI9); (with_reducible rename News _ _ _ _ => N'); k_dflt (refine' fdEnd_of ?we N' ?wF ?n0 ?n1 ?n2 ?n3 ?ha ?FI; (case we => exact rfl); (case wF => with_reducible assumption); (case n0 => k_mem); (case n1 => k_mem); (case n2 => k_mem); (case n3 => k_mem); (case ha => first | exact ints2 (by with_reducible assumption) | exact ints1 (by with_reducible assumption) | exact ints0 (by with_reducible assumption)); (case FI => first | exact finv_go0 FI9 (by assumption) (by assumption) (by assumption) (by assumption) | exact finv_go FI9 (by assumption) (by assumption) (by assumption) (by assumption) | exact finv_lead FI9 (by omega) (by assumption) (by assumption) | exact finv_lead0 FI9 (by assumption) (by assumption) | exact finv_none FI9 (by omega) (by assumption) (by assumption) (by first | exact ill_x1 (by assumption) | exact ill_x2 (by assumption)) | exact finv_none0 FI9 (by assumption) (by assumption) (by first | exact ill_x1 (by assumption) | exact ill_x2 (by assumption)))))
  unfold Con
  k_fill
  intro dp un gd cn cs a ccd cl outer A₀ base h₀ L m s Q E B F X N T hk hd hu hret
  dsimp only [rdDict] at N
  refine wpAny_call ?_
  k_dflt ktr_enter
  repeat' (first
    | (refine' fd_end hret (by assumption) (by assumption) (by assumption) (by assumption) (by assumption) ?n1 ?n2 ?n3 ?hi ?FI; (case n1 => k_mem); (case n2 => k_mem); (case n3 => k_mem); (case hi => with_reducible assumption); (case FI => with_reducible assumption))
    | (k_unfold; (try dsimp only)) | walk1 | (dsimp only; walk1) | (leave1; walk_say "STEP leave1"; try dsimp only) | fail "no step")
end
/-! Plain5 -/
section
set_option maxRecDepth 10000
section
variable {a b c d x k : Int} {r : List Int}
theorem ne_ite {P : Prop} [Decidable P] {v : Int} (h : (if P then some v else none) ≠ none) : P := by
  by_cases p : P
  · exact p
  · exact absurd (if_neg p) h
theorem sgn2_iff (_ : 0 ≤ a ∧ a < 256) (_ : 0 ≤ b ∧ b < 256) : (sgn [a, b] ≠ none) ↔ (194 ≤ a ∧ a ≤ 223 ∧ 128 ≤ b ∧ b ≤ 191) :=
  ⟨fun h => c2_iff.mp (ne_ite h), fun h e => sgn2_none e h⟩
theorem sgn3_iff (_ : 0 ≤ a ∧ a < 256) (_ : 0 ≤ b ∧ b < 256) (_ : 0 ≤ c ∧ c < 256) : (sgn [a, b, c] ≠ none) ↔ (224 ≤ a ∧ a ≤ 239 ∧ loF a ≤ b ∧ b ≤ hiF a ∧ 128 ≤ c ∧ c ≤ 191) :=
  ⟨fun h => c3_iff.mp (ne_ite h), fun h e => sgn3_none e h⟩
theorem sgn4_iff (_ : 0 ≤ a ∧ a < 256) (_ : 0 ≤ b ∧ b < 256) (_ : 0 ≤ c ∧ c < 256) (_ : 0 ≤ d ∧ d < 256) : (sgn [a, b, c, d] ≠ none) ↔ (240 ≤ a ∧ a ≤ 244 ∧ loF a ≤ b ∧ b ≤ hiF a ∧ 128 ≤ c ∧ c ≤ 191 ∧ 128 ≤ d ∧ d ≤ 191) :=
  ⟨fun h => c4_iff.mp (ne_ite h), fun h e => sgn4_none e h⟩
theorem sgn2_val (h : sgn [a, b] ≠ none) : sgn [a, b] = some (a % 32 * 64 + b % 64) := if_pos (ne_ite h)
theorem sgn3_val (h : sgn [a, b, c] ≠ none) : sgn [a, b, c] = some ((a % 16 * 64 + b % 64) * 64 + c % 64) := if_pos (ne_ite h)
theorem sgn4_val (h : sgn [a, b, c, d] ≠ none) : sgn [a, b, c, d] = some (((a % 8 * 64 + b % 64) * 64 + c % 64) * 64 + d % 64) := if_pos (ne_ite h)
theorem sgn1_val (h : a < 128) : sgn [a] = some a := if_pos h
theorem sgn1_none (h : ¬ a < 128) : sgn [a] = none := if_neg h
/-- octets -/
noncomputable def Oct (ks : List Int) : Prop := ∀ k ∈ ks, 0 ≤ k ∧ k < 256
theorem Oct.cons (h : Oct (a :: r)) : (0 ≤ a ∧ a < 256) ∧ Oct r := ⟨h a (List.mem_cons_self ..), fun k hk => h k (List.mem_cons_of_mem _ hk)⟩
theorem hitb_def : hitb r k = true ↔ k ≤ (r.length : Int) ∧ sgn (r.take k.toNat) ≠ none := by
  unfold hitb
  rw [Bool.and_eq_true, decide_eq_true_eq, Option.isSome_iff_ne_none]
theorem hitb_false : hitb r k = false ↔ ¬ (k ≤ (r.length : Int) ∧ sgn (r.take k.toNat) ≠ none) := by
  rw [← hitb_def, Bool.not_eq_true]
theorem h1 : hitb (a :: r) 1 = true ↔ a < 128 := by
  rw [hitb_def]
  show _ ∧ sgn [a] ≠ none ↔ _
  by_cases h : a < 128
  · rw [sgn1_val h]; simp [h]; omega
  · rw [sgn1_none h]; simp [h]
theorem h2 (O : Oct (a :: r)) : hitb (a :: r) 2 = true ↔ ∃ b r', r = b :: r' ∧ 194 ≤ a ∧ a ≤ 223 ∧ 128 ≤ b ∧ b ≤ 191 := by
  rw [hitb_def]
  match r, O with
  | [], O => (simp; try omega)
  | b :: r', O =>
    show (2 : Int) ≤ ((a :: b :: r').length : Int) ∧ sgn [a, b] ≠ none ↔ _
    rw [sgn2_iff O.cons.1 O.cons.2.cons.1]
    constructor
    · rintro ⟨_, h⟩; exact ⟨b, r', rfl, h⟩
    · rintro ⟨b', r'', e, h⟩
      cases e
      exact ⟨by simp only [List.length_cons]; omega, h⟩
theorem h3 (O : Oct (a :: r)) : hitb (a :: r) 3 = true ↔ ∃ b c r', r = b :: c :: r' ∧ 224 ≤ a ∧ a ≤ 239 ∧ loF a ≤ b ∧ b ≤ hiF a ∧ 128 ≤ c ∧ c ≤ 191 := by
  rw [hitb_def]
  match r, O with
  | [], O => (simp; try omega)
  | [b], O => (simp; try omega)
  | b :: c :: r', O =>
    show (3 : Int) ≤ ((a :: b :: c :: r').length : Int) ∧ sgn [a, b, c] ≠ none ↔ _
    rw [sgn3_iff O.cons.1 O.cons.2.cons.1 O.cons.2.cons.2.cons.1]
    constructor
    · rintro ⟨_, h⟩; exact ⟨b, c, r', rfl, h⟩
    · rintro ⟨b', c', r'', e, h⟩
      cases e
      exact ⟨by simp only [List.length_cons]; omega, h⟩
theorem h4 (O : Oct (a :: r)) : hitb (a :: r) 4 = true ↔ ∃ b c d r', r = b :: c :: d :: r' ∧ 240 ≤ a ∧ a ≤ 244 ∧ loF a ≤ b ∧ b ≤ hiF a ∧ 128 ≤ c ∧ c ≤ 191 ∧ 128 ≤ d ∧ d ≤ 191 := by
  rw [hitb_def]
  match r, O with
  | [], O => (simp; try omega)
  | [b], O => (simp; try omega)
  | [b, c], O => (simp; try omega)
  | b :: c :: d :: r', O =>
    show (4 : Int) ≤ ((a :: b :: c :: d :: r').length : Int) ∧ sgn [a, b, c, d] ≠ none ↔ _
    rw [sgn4_iff O.cons.1 O.cons.2.cons.1 O.cons.2.cons.2.cons.1 O.cons.2.cons.2.cons.2.cons.1]
    constructor
    · rintro ⟨_, h⟩; exact ⟨b, c, d, r', rfl, h⟩
    · rintro ⟨b', c', d', r'', e, h⟩
      cases e
      exact ⟨by simp only [List.length_cons]; omega, h⟩
theorem hits_def : hits r = (if hitb r 1 = true then [1] else []) ++ (if hitb r 2 = true then [2] else []) ++ (if hitb r 3 = true then [3] else []) ++ (if hitb r 4 = true then [4] else []) := by
  cases e1 : hitb r 1 <;> cases e2 : hitb r 2 <;> cases e3 : hitb r 3 <;> cases e4 : hitb r 4 <;> simp [hits, List.filter, e1, e2, e3, e4]
theorem canb2 : canb [a, b] = true ↔ 224 ≤ a ∧ a ≤ 244 ∧ loF a ≤ b ∧ b ≤ hiF a := by
  unfold canb
  rw [decide_eq_true_eq]
theorem canb3 : canb [a, b, c] = true ↔ 240 ≤ a ∧ a ≤ 244 ∧ loF a ≤ b ∧ b ≤ hiF a ∧ 128 ≤ c ∧ c ≤ 191 := by
  unfold canb
  rw [decide_eq_true_eq]
theorem canb1 : canb [a] = true ↔ 194 ≤ a ∧ a ≤ 244 := by
  unfold canb
  rw [decide_eq_true_eq]
theorem nil_of (O : Oct (a :: r)) (h1' : ¬ a < 128) (h2' : ¬ ∃ b r', r = b :: r' ∧ 194 ≤ a ∧ a ≤ 223 ∧ 128 ≤ b ∧ b ≤ 191)
    (h3' : ¬ ∃ b c r', r = b :: c :: r' ∧ 224 ≤ a ∧ a ≤ 239 ∧ loF a ≤ b ∧ b ≤ hiF a ∧ 128 ≤ c ∧ c ≤ 191)
    (h4' : ¬ ∃ b c d r', r = b :: c :: d :: r' ∧ 240 ≤ a ∧ a ≤ 244 ∧ loF a ≤ b ∧ b ≤ hiF a ∧ 128 ≤ c ∧ c ≤ 191 ∧ 128 ≤ d ∧ d ≤ 191) : hits (a :: r) = [] := by
  rw [hits_def, if_neg (fun h => h1' (h1.mp h)), if_neg (fun h => h2' ((h2 O).mp h)), if_neg (fun h => h3' ((h3 O).mp h)), if_neg (fun h => h4' ((h4 O).mp h))]
  rfl
theorem bad1 (h : ∀ b r', r = b :: r' → ¬ (224 ≤ a ∧ a ≤ 244 ∧ loF a ≤ b ∧ b ≤ hiF a)) : badLen (a :: r) = 1 := by
  unfold badLen
  rw [if_neg]
  rintro ⟨h1', h2'⟩
  match r, h, h1', h2' with
  | [], h, h1', _ => exact absurd h1' (by simp)
  | b :: r', h, _, h2' => exact h b r' rfl (canb2.mp h2')
theorem bad2 (h : 224 ≤ a ∧ a ≤ 244 ∧ loF a ≤ b ∧ b ≤ hiF a) (h' : ∀ c r', r = c :: r' → ¬ (240 ≤ a ∧ a ≤ 244 ∧ loF a ≤ b ∧ b ≤ hiF a ∧ 128 ≤ c ∧ c ≤ 191)) : badLen (a :: b :: r) = 2 := by
  unfold badLen
  rw [if_pos ⟨by simp, canb2.mpr h⟩, if_neg]
  rintro ⟨h1', h2'⟩
  match r, h', h1', h2' with
  | [], _, h1', _ => exact absurd h1' (by simp)
  | c :: r', h', _, h2' => exact h' c r' rfl (canb3.mp h2')
theorem bad3 (h : 240 ≤ a ∧ a ≤ 244 ∧ loF a ≤ b ∧ b ≤ hiF a ∧ 128 ≤ c ∧ c ≤ 191) : badLen (a :: b :: c :: r) = 3 := by
  unfold badLen
  rw [if_pos ⟨by simp, canb2.mpr ⟨by omega, h.2.1, h.2.2.1, h.2.2.2.1⟩⟩, if_pos ⟨by simp, canb3.mpr h⟩]
-- the reading, step by step
theorem r_plain (O : Oct (a :: r)) (h : a < 128) : readL (a :: r) = (a :: (readL r).1, (readL r).2) := by
  have e : hits (a :: r) = [1] := by
    rw [hits_def, if_pos (h1.mpr h), if_neg (fun x => by obtain ⟨b, r', _, y⟩ := (h2 O).mp x; omega), if_neg (fun x => by obtain ⟨b, c, r', _, y⟩ := (h3 O).mp x; omega), if_neg (fun x => by obtain ⟨b, c, d, r', _, y⟩ := (h4 O).mp x; omega)]
    rfl
  exact readL_hit (by simp) e (sgn1_val h)
theorem r_ill (O : Oct (a :: r)) (h : ¬ a < 128) (h' : a < 194 ∨ 244 < a) : readL (a :: r) = (65533 :: (readL r).1, (readL r).2) := by
  have e : hits (a :: r) = [] := nil_of O h (fun x => by obtain ⟨b, r', _, y⟩ := x; omega) (fun x => by obtain ⟨b, c, r', _, y⟩ := x; omega) (fun x => by obtain ⟨b, c, d, r', _, y⟩ := x; omega)
  have z := readL_ill (by simp) e (bad1 (fun b r' _ x => by omega)) (fun x => by
    have l := x.1
    have : r = [] := List.eq_nil_of_length_eq_zero (by simp only [List.length_cons] at l; omega)
    subst this
    have := canb1.mp x.2
    omega)
  exact z
theorem r_wait1 (O : Oct [a]) (h : 194 ≤ a ∧ a ≤ 244) : readL [a] = ([], true) := by
  refine readL_wait (by simp) (nil_of O (by omega) ?_ ?_ ?_) (bad1 fun b r' e => by cases e) (canb1.mpr h)
  · rintro ⟨b, r', e, _⟩; cases e
  · rintro ⟨b, c, r', e, _⟩; cases e
  · rintro ⟨b, c, d, r', e, _⟩; cases e
theorem r2_hit (O : Oct (a :: b :: r)) (h : 194 ≤ a ∧ a ≤ 223) (hb : 128 ≤ b ∧ b ≤ 191) : readL (a :: b :: r) = ((a % 32 * 64 + b % 64) :: (readL r).1, (readL r).2) := by
  have e : hits (a :: b :: r) = [2] := by
    rw [hits_def, if_neg (fun x => by have := h1.mp x; omega), if_pos ((h2 O).mpr ⟨b, r, rfl, h.1, h.2, hb⟩), if_neg (fun x => by obtain ⟨b, c, r', _, y⟩ := (h3 O).mp x; omega), if_neg (fun x => by obtain ⟨b, c, d, r', _, y⟩ := (h4 O).mp x; omega)]
    rfl
  exact readL_hit (by simp) e (sgn2_val ((sgn2_iff O.cons.1 O.cons.2.cons.1).mpr ⟨h.1, h.2, hb⟩))
theorem r2_ill (O : Oct (a :: b :: r)) (h : 194 ≤ a ∧ a ≤ 223) (hb : ¬ (128 ≤ b ∧ b ≤ 191)) : readL (a :: b :: r) = (65533 :: (readL (b :: r)).1, (readL (b :: r)).2) := by
  have e : hits (a :: b :: r) = [] := nil_of O (by omega) (fun x => by obtain ⟨b', r', e, y⟩ := x; cases e; omega) (fun x => by obtain ⟨b, c, r', _, y⟩ := x; omega) (fun x => by obtain ⟨b, c, d, r', _, y⟩ := x; omega)
  exact readL_ill (by simp) e (bad1 (fun b r' _ x => by omega)) (fun x => by have l := x.1; simp only [List.length_cons] at l; omega)
theorem r34_ill1 (O : Oct (a :: b :: r)) (h : 224 ≤ a ∧ a ≤ 244) (hb : ¬ (loF a ≤ b ∧ b ≤ hiF a)) : readL (a :: b :: r) = (65533 :: (readL (b :: r)).1, (readL (b :: r)).2) := by
  have e : hits (a :: b :: r) = [] := nil_of O (by omega) (fun x => by obtain ⟨b', r', e, y⟩ := x; omega) (fun x => by obtain ⟨b', c, r', e, y⟩ := x; cases e; exact hb ⟨y.2.2.1, y.2.2.2.1⟩) (fun x => by obtain ⟨b', c, d, r', e, y⟩ := x; cases e; exact hb ⟨y.2.2.1, y.2.2.2.1⟩)
  exact readL_ill (by simp) e (bad1 (fun b' r' e x => by cases e; exact hb ⟨x.2.2.1, x.2.2.2⟩)) (fun x => by have l := x.1; simp only [List.length_cons] at l; omega)
theorem r34_wait2 (O : Oct [a, b]) (h : 224 ≤ a ∧ a ≤ 244) (hb : loF a ≤ b ∧ b ≤ hiF a) : readL [a, b] = ([], true) := by
  refine readL_wait (by simp) (nil_of O (by omega) ?_ ?_ ?_) (bad2 ⟨h.1, h.2, hb.1, hb.2⟩ fun c r' e => by cases e) (canb2.mpr ⟨h.1, h.2, hb.1, hb.2⟩)
  · rintro ⟨b', r', e, y⟩; omega
  · rintro ⟨b, c, r', e, _⟩; cases e
  · rintro ⟨b, c, d, r', e, _⟩; cases e
theorem r3_hit (O : Oct (a :: b :: c :: r)) (h : 224 ≤ a ∧ a ≤ 239) (hb : loF a ≤ b ∧ b ≤ hiF a) (hc : 128 ≤ c ∧ c ≤ 191) : readL (a :: b :: c :: r) = (((a % 16 * 64 + b % 64) * 64 + c % 64) :: (readL r).1, (readL r).2) := by
  have e : hits (a :: b :: c :: r) = [3] := by
    rw [hits_def, if_neg (fun x => by have := h1.mp x; omega), if_neg (fun x => by obtain ⟨b, r', _, y⟩ := (h2 O).mp x; omega), if_pos ((h3 O).mpr ⟨b, c, r, rfl, h.1, h.2, hb.1, hb.2, hc⟩), if_neg (fun x => by obtain ⟨b, c, d, r', _, y⟩ := (h4 O).mp x; omega)]
    rfl
  exact readL_hit (by simp) e (sgn3_val ((sgn3_iff O.cons.1 O.cons.2.cons.1 O.cons.2.cons.2.cons.1).mpr ⟨h.1, h.2, hb.1, hb.2, hc⟩))
theorem r34_ill2 (O : Oct (a :: b :: c :: r)) (h : 224 ≤ a ∧ a ≤ 244) (hb : loF a ≤ b ∧ b ≤ hiF a) (hc : ¬ (128 ≤ c ∧ c ≤ 191)) : readL (a :: b :: c :: r) = (65533 :: (readL (c :: r)).1, (readL (c :: r)).2) := by
  have e : hits (a :: b :: c :: r) = [] := nil_of O (by omega) (fun x => by obtain ⟨b', r', e, y⟩ := x; omega) (fun x => by obtain ⟨b', c', r', e, y⟩ := x; cases e; exact hc ⟨y.2.2.2.2.1, y.2.2.2.2.2⟩) (fun x => by obtain ⟨b', c', d, r', e, y⟩ := x; cases e; exact hc ⟨y.2.2.2.2.1, y.2.2.2.2.2.1⟩)
  exact readL_ill (by simp) e (bad2 ⟨h.1, h.2, hb.1, hb.2⟩ (fun c' r' e x => by cases e; exact hc ⟨x.2.2.2.2.1, x.2.2.2.2.2⟩)) (fun x => by have l := x.1; simp only [List.length_cons] at l; omega)
theorem r4_wait3 (O : Oct [a, b, c]) (h : 240 ≤ a ∧ a ≤ 244) (hb : loF a ≤ b ∧ b ≤ hiF a) (hc : 128 ≤ c ∧ c ≤ 191) : readL [a, b, c] = ([], true) := by
  refine readL_wait (by simp) (nil_of O (by omega) ?_ ?_ ?_) (bad3 ⟨h.1, h.2, hb.1, hb.2, hc⟩) (canb3.mpr ⟨h.1, h.2, hb.1, hb.2, hc⟩)
  · rintro ⟨b', r', e, y⟩; omega
  · rintro ⟨b, c, r', e, y⟩; omega
  · rintro ⟨b, c, d, r', e, _⟩; cases e
theorem r4_ill3 (O : Oct (a :: b :: c :: d :: r)) (h : 240 ≤ a ∧ a ≤ 244) (hb : loF a ≤ b ∧ b ≤ hiF a) (hc : 128 ≤ c ∧ c ≤ 191) (hd : ¬ (128 ≤ d ∧ d ≤ 191)) : readL (a :: b :: c :: d :: r) = (65533 :: (readL (d :: r)).1, (readL (d :: r)).2) := by
  have e : hits (a :: b :: c :: d :: r) = [] := nil_of O (by omega) (fun x => by obtain ⟨b', r', e, y⟩ := x; omega) (fun x => by obtain ⟨b', c', r', e, y⟩ := x; omega) (fun x => by obtain ⟨b', c', d', r', e, y⟩ := x; cases e; exact hd ⟨y.2.2.2.2.2.2.1, y.2.2.2.2.2.2.2⟩)
  exact readL_ill (by simp) e (bad3 ⟨h.1, h.2, hb.1, hb.2, hc⟩) (fun x => by have l := x.1; simp only [List.length_cons] at l; omega)
theorem r4_hit (O : Oct (a :: b :: c :: d :: r)) (h : 240 ≤ a ∧ a ≤ 244) (hb : loF a ≤ b ∧ b ≤ hiF a) (hc : 128 ≤ c ∧ c ≤ 191) (hd : 128 ≤ d ∧ d ≤ 191) : readL (a :: b :: c :: d :: r) = ((((a % 8 * 64 + b % 64) * 64 + c % 64) * 64 + d % 64) :: (readL r).1, (readL r).2) := by
  have e : hits (a :: b :: c :: d :: r) = [4] := by
    rw [hits_def, if_neg (fun x => by have := h1.mp x; omega), if_neg (fun x => by obtain ⟨b, r', _, y⟩ := (h2 O).mp x; omega), if_neg (fun x => by obtain ⟨b, c, r', _, y⟩ := (h3 O).mp x; omega), if_pos ((h4 O).mpr ⟨b, c, d, r, rfl, h.1, h.2, hb.1, hb.2, hc.1, hc.2, hd⟩)]
    rfl
  exact readL_hit (by simp) e (sgn4_val ((sgn4_iff O.cons.1 O.cons.2.cons.1 O.cons.2.cons.2.cons.1 O.cons.2.cons.2.cons.2.cons.1).mpr ⟨h.1, h.2, hb.1, hb.2, hc.1, hc.2, hd⟩))
end
end
/-! Plain6 -/
section
set_option maxRecDepth 10000
noncomputable abbrev St := Int × Int × Int × Int
section
variable {a b c d l lo hi o : Int} {r ks : List Int} {st : St} {acc : List Int}
theorem fstep_acc : fstep (st, acc) o = ((fstep (st, []) o).1, acc ++ (fstep (st, []) o).2) := by
  unfold fstep
  dsimp only
  split
  · split <;> simp
  · split
    · split <;> simp
    · split <;> simp
theorem fold_acc : ∀ (ks : List Int) (st : St) (acc : List Int), ks.foldl fstep (st, acc) = ((feedF st ks).1, acc ++ (feedF st ks).2)
  | [], st, acc => by unfold feedF; simp
  | o :: r, st, acc => by
    unfold feedF
    rw [List.foldl_cons, List.foldl_cons, fstep_acc]
    have e : fstep (st, []) o = ((fstep (st, []) o).1, (fstep (st, []) o).2) := rfl
    rw [e, fold_acc r, fold_acc r, List.append_assoc]
theorem feed_cons : feedF st (o :: r) = ((feedF (fstep (st, []) o).1 r).1, (fstep (st, []) o).2 ++ (feedF (fstep (st, []) o).1 r).2) := by
  show r.foldl fstep (fstep (st, []) o) = _
  have e : fstep (st, []) o = ((fstep (st, []) o).1, (fstep (st, []) o).2) := rfl
  rw [e, fold_acc]
theorem feed_app (x y : List Int) : feedF st (x ++ y) = ((feedF (feedF st x).1 y).1, (feedF st x).2 ++ (feedF (feedF st x).1 y).2) := by
  have e : feedF st x = ((feedF st x).1, (feedF st x).2) := rfl
  show (x ++ y).foldl fstep (st, []) = _
  rw [List.foldl_append]
  show y.foldl fstep (feedF st x) = _
  rw [e, fold_acc]
/-- what a reader tells of octets, and whether it waits then -/
noncomputable def run (st : St) (ks : List Int) : List Int × Bool := ((feedF st ks).2, decide (0 < (feedF st ks).1.1))
theorem run_nil : run st [] = ([], decide (0 < st.1)) := rfl
theorem run_cons : run st (o :: r) = ((fstep (st, []) o).2 ++ (run (fstep (st, []) o).1 r).1, (run (fstep (st, []) o).1 r).2) := by
  unfold run; rw [feed_cons]
theorem st_plain (h : leadF o = none) (hl : ¬ 0 < l) : fstep ((l, c, lo, hi), []) o = ((0, c, lo, hi), [if o < 128 then o else 65533]) := by
  unfold fstep
  rw [if_neg (fun x => hl x.1), h]
  simp [hl]
theorem st_lead (h : leadF o = some st) (hl : ¬ 0 < l) : fstep ((l, c, lo, hi), []) o = (st, []) := by
  unfold fstep
  rw [if_neg (fun x => hl x.1), h]
  simp [hl]
theorem st_go (hl : 1 < l) (h : lo ≤ o ∧ o ≤ hi) : fstep ((l, c, lo, hi), []) o = ((l - 1, c * 64 + o % 64, 128, 191), []) := by
  unfold fstep
  rw [if_pos ⟨by show 0 < l; omega, h⟩]
  simp; omega
theorem st_end (h : lo ≤ o ∧ o ≤ hi) : fstep ((1, c, lo, hi), []) o = ((0, c * 64 + o % 64, 128, 191), [c * 64 + o % 64]) := by
  unfold fstep
  rw [if_pos ⟨by show (0 : Int) < 1; omega, h⟩]
  simp
theorem st_bad (hl : 0 < l) (h : ¬ (lo ≤ o ∧ o ≤ hi)) : fstep ((l, c, lo, hi), []) o = ((fstep ((0, c, lo, hi), []) o).1, 65533 :: (fstep ((0, c, lo, hi), []) o).2) := by
  have z : ¬ (0 : Int) < 0 := by decide
  cases e : leadF o with
  | some st =>
    rw [st_lead e z]
    unfold fstep
    rw [if_neg (fun x => h x.2), e]
    simp [hl]
  | none =>
    rw [st_plain e z]
    unfold fstep
    rw [if_neg (fun x => h x.2), e]
    simp [hl]
theorem run_bad (hl : 0 < l) (h : ¬ (lo ≤ o ∧ o ≤ hi)) : run (l, c, lo, hi) (o :: r) = (65533 :: (run (0, c, lo, hi) (o :: r)).1, (run (0, c, lo, hi) (o :: r)).2) := by
  rw [run_cons, run_cons, st_bad hl h]; rfl
theorem lead2 (h : 194 ≤ o ∧ o ≤ 223) : leadF o = some (1, o % 32, 128, 191) := by unfold leadF; rw [if_pos h]
theorem lead3 (h : 224 ≤ o ∧ o ≤ 239) : leadF o = some (2, o % 16, loF o, hiF o) := by
  unfold leadF loF hiF; rw [if_neg (by omega), if_pos h]
  have e1 : (if o = 224 then (160 : Int) else if o = 240 then 144 else 128) = if o = 224 then 160 else 128 := by split; rfl; rw [if_neg (by omega)]
  have e2 : (if o = 237 then (159 : Int) else if o = 244 then 143 else 191) = if o = 237 then 159 else 191 := by split; rfl; rw [if_neg (by omega)]
  rw [e1, e2]
theorem lead4 (h : 240 ≤ o ∧ o ≤ 244) : leadF o = some (3, o % 8, loF o, hiF o) := by
  unfold leadF loF hiF; rw [if_neg (by omega), if_neg (by omega), if_pos h]
  have e1 : (if o = 224 then (160 : Int) else if o = 240 then 144 else 128) = if o = 240 then 144 else 128 := by rw [if_neg (by omega)]
  have e2 : (if o = 237 then (159 : Int) else if o = 244 then 143 else 191) = if o = 244 then 143 else 191 := by rw [if_neg (by omega)]
  rw [e1, e2]
theorem lead0 (h : o < 194 ∨ 244 < o) : leadF o = none := by
  unfold leadF; rw [if_neg (by omega), if_neg (by omega), if_neg (by omega)]
/-- the reader from empty tells what the law's reading tells -/
theorem run_read : ∀ (n : Nat) (ks : List Int), ks.length ≤ n → Oct ks → ∀ c lo hi, run (0, c, lo, hi) ks = readL ks := by
  intro n
  induction n with
  | zero =>
    intro ks hn _ c lo hi
    have : ks = [] := List.eq_nil_of_length_eq_zero (by omega)
    subst this
    rfl
  | succ n ih =>
    intro ks hn O c lo hi
    match ks, hn, O with
    | [], _, _ => rfl
    | a :: r, hn, O =>
      have hr : r.length ≤ n := by simp only [List.length_cons] at hn; omega
      have z0 : ¬ (0 : Int) < 0 := by decide
      by_cases hl : a < 194 ∨ 244 < a
      · rw [run_cons, st_plain (lead0 hl) z0, ih r hr O.cons.2]
        by_cases h1 : a < 128
        · rw [if_pos h1, r_plain O h1]; rfl
        · rw [if_neg h1, r_ill O h1 hl]; rfl
      by_cases h2 : a ≤ 223
      · rw [run_cons, st_lead (lead2 ⟨by omega, h2⟩) z0]
        match r, hr, O with
        | [], _, O => rw [r_wait1 O (by omega)]; rfl
        | b :: r', hr, O =>
          by_cases hb : 128 ≤ b ∧ b ≤ 191
          · rw [run_cons, st_end hb, ih r' (by simp only [List.length_cons] at hr; omega) O.cons.2.cons.2, r2_hit O (by omega) hb]; rfl
          · rw [run_bad (by decide) hb, ih (b :: r') hr O.cons.2, r2_ill O (by omega) hb]; rfl
      by_cases h3 : a ≤ 239
      · rw [run_cons, st_lead (lead3 ⟨by omega, h3⟩) z0]
        match r, hr, O with
        | [], _, O => rw [r_wait1 O (by omega)]; rfl
        | b :: r', hr, O =>
          by_cases hb : loF a ≤ b ∧ b ≤ hiF a
          · rw [run_cons, st_go (by decide) hb]
            match r', hr, O with
            | [], _, O => rw [r34_wait2 O (by omega) hb]; rfl
            | c' :: r'', hr, O =>
              by_cases hc : 128 ≤ c' ∧ c' ≤ 191
              · rw [run_cons]
                show (_ ++ ((fstep ((1, _, 128, 191), []) c').2 ++ _), _) = _
                have e := st_end (c := a % 16 * 64 + b % 64) hc
                have e2 : (2 : Int) - 1 = 1 := rfl
                rw [e2, e, ih r'' (by simp only [List.length_cons] at hr; omega) O.cons.2.cons.2.cons.2, r3_hit O (by omega) hb hc]; rfl
              · have e2 : (2 : Int) - 1 = 1 := rfl
                rw [e2, run_bad (by decide) hc, ih (c' :: r'') (by simp only [List.length_cons] at hr ⊢; omega) O.cons.2.cons.2, r34_ill2 O (by omega) hb hc]; rfl
          · rw [run_bad (by decide) hb, ih (b :: r') hr O.cons.2, r34_ill1 O (by omega) hb]; rfl
      · rw [run_cons, st_lead (lead4 (by omega)) z0]
        match r, hr, O with
        | [], _, O => rw [r_wait1 O (by omega)]; rfl
        | b :: r', hr, O =>
          by_cases hb : loF a ≤ b ∧ b ≤ hiF a
          · rw [run_cons, st_go (by decide) hb]
            match r', hr, O with
            | [], _, O => rw [r34_wait2 O (by omega) hb]; rfl
            | c' :: r'', hr, O =>
              by_cases hc : 128 ≤ c' ∧ c' ≤ 191
              · rw [run_cons, st_go (by decide) hc]
                have e2 : (3 : Int) - 1 - 1 = 1 := rfl
                rw [e2]
                match r'', hr, O with
                | [], _, O => rw [r4_wait3 O (by omega) hb hc]; rfl
                | d' :: r3, hr, O =>
                  by_cases hd : 128 ≤ d' ∧ d' ≤ 191
                  · rw [run_cons, st_end hd, ih r3 (by simp only [List.length_cons] at hr; omega) O.cons.2.cons.2.cons.2.cons.2, r4_hit O (by omega) hb hc hd]; rfl
                  · rw [run_bad (by decide) hd, ih (d' :: r3) (by simp only [List.length_cons] at hr ⊢; omega) O.cons.2.cons.2.cons.2, r4_ill3 O (by omega) hb hc hd]; rfl
              · have e2 : (0 : Int) < 3 - 1 := by decide
                rw [run_bad e2 hc, ih (c' :: r'') (by simp only [List.length_cons] at hr ⊢; omega) O.cons.2.cons.2, r34_ill2 O (by omega) hb hc]; rfl
          · rw [run_bad (by decide) hb, ih (b :: r') hr O.cons.2, r34_ill1 O (by omega) hb]; rfl
end
end
/-! Plain7 -/
section
set_option maxRecDepth 10000
/-- a code's octets (a code that has a sign) -/
noncomputable def encV (c : Int) : List Int :=
  if c < 128 then [c] else if c < 2048 then [192 + c / 64, 128 + c % 64]
  else if c < 65536 then [224 + c / 4096, 128 + c / 64 % 64, 128 + c % 64]
  else [240 + c / 262144, 128 + c / 4096 % 64, 128 + c / 64 % 64, 128 + c % 64]
noncomputable abbrev okC (c : Int) : Prop := 0 ≤ c ∧ c ≤ 1114111 ∧ ¬ (55296 ≤ c ∧ c ≤ 57343)
noncomputable def fixC (c : Int) : Int := if 55296 ≤ c ∧ c < 57344 then 65533 else c
noncomputable def enc (c : Int) : List Int := encV (if okC c then c else 65533)
section
variable {c : Int} {r : List Int}
theorem oct_cons {a : Int} (h : 0 ≤ a ∧ a < 256) (O : Oct r) : Oct (a :: r) := fun k hk => by
  rcases List.mem_cons.mp hk with rfl | hk
  · exact h
  · exact O k hk
theorem oct_nil : Oct [] := fun _ h => nomatch h
theorem t_oct {x : Int} : 0 ≤ 128 + x % 64 ∧ 128 + x % 64 < 256 := by omega
theorem encV_oct (h : okC c) (O : Oct r) : Oct (encV c ++ r) := by
  unfold okC at h
  unfold encV
  split
  · exact oct_cons (by omega) O
  split
  · exact oct_cons (by omega) (oct_cons t_oct O)
  split
  · exact oct_cons (by omega) (oct_cons t_oct (oct_cons t_oct O))
  · exact oct_cons (by omega) (oct_cons t_oct (oct_cons t_oct (oct_cons t_oct O)))
theorem encV_len : (encV c).length ≤ 4 := by
  unfold encV
  (repeat' split) <;> simp
theorem dm {x : Int} : x / 64 * 64 + x % 64 = x := by omega
theorem t64 {x : Int} : (128 + x % 64) % 64 = x % 64 := by omega
theorem d2 {x : Int} : x / 4096 = x / 64 / 64 := by omega
theorem d3 {x : Int} : x / 262144 = x / 64 / 64 / 64 := by omega
theorem t_in {x : Int} : 128 ≤ 128 + x % 64 ∧ 128 + x % 64 ≤ 191 := by omega
theorem q2 (h : 0 ≤ c) (h1 : ¬ c < 128) (h2 : c < 2048) : 2 ≤ c / 64 ∧ c / 64 ≤ 31 := by omega
theorem q3 (h1 : ¬ c < 2048) (h2 : c < 65536) : 32 ≤ c / 64 ∧ c / 64 ≤ 1023 := by omega
theorem q3x (h1 : ¬ (55296 ≤ c ∧ c ≤ 57343)) : ¬ (864 ≤ c / 64 ∧ c / 64 ≤ 895) := by omega
theorem q4 (h1 : ¬ c < 65536) (h2 : c ≤ 1114111) : 16 ≤ c / 64 / 64 ∧ c / 64 / 64 ≤ 271 := by omega
section
variable {q : Int}
theorem e32 (h : 2 ≤ q ∧ q ≤ 31) : (194 ≤ 192 + q ∧ 192 + q ≤ 223) ∧ (192 + q) % 32 = q := by omega
theorem e16 (h : 32 ≤ q ∧ q ≤ 1023) : (224 ≤ 224 + q / 64 ∧ 224 + q / 64 ≤ 239) ∧ (224 + q / 64) % 16 = q / 64 := by omega
theorem e16l (h : 32 ≤ q) : 224 + q / 64 = 224 → 160 ≤ 128 + q % 64 := by omega
theorem e16h (h : ¬ (864 ≤ q ∧ q ≤ 895)) : 224 + q / 64 = 237 → 128 + q % 64 ≤ 159 := by omega
theorem e8 (h : 16 ≤ q ∧ q ≤ 271) : (240 ≤ 240 + q / 64 ∧ 240 + q / 64 ≤ 244) ∧ (240 + q / 64) % 8 = q / 64 := by omega
theorem e8l (h : 16 ≤ q) : 240 + q / 64 = 240 → 144 ≤ 128 + q % 64 := by omega
theorem e8h (h : q ≤ 271) : 240 + q / 64 = 244 → 128 + q % 64 ≤ 143 := by omega
end
theorem read_encV (h : okC c) (O : Oct r) : readL (encV c ++ r) = (c :: (readL r).1, (readL r).2) := by
  have O' := encV_oct h O
  unfold okC at h
  unfold encV at O' ⊢
  split
  · rename_i h1
    rw [if_pos h1] at O'
    exact r_plain O' h1
  rename_i h1
  rw [if_neg h1] at O'
  split
  · rename_i h2
    rw [if_pos h2] at O'
    have z := e32 (q2 h.1 h1 h2)
    have e := r2_hit (a := 192 + c / 64) (b := 128 + c % 64) O' z.1 t_in
    rw [z.2, t64, dm] at e
    exact e
  rename_i h2
  rw [if_neg h2] at O'
  split
  · rename_i h3
    rw [if_pos h3] at O'
    have k := q3 h2 h3
    have z := e16 k
    rw [d2] at O' ⊢
    have e := r3_hit (a := 224 + c / 64 / 64) (b := 128 + c / 64 % 64) (c := 128 + c % 64) O' z.1 ⟨(lo_3 z.1.2).mpr ⟨t_in.1, e16l k.1⟩, (hi_3 z.1.2).mpr ⟨t_in.2, e16h (q3x h.2.2)⟩⟩ t_in
    rw [z.2, t64, t64, dm, dm] at e
    exact e
  rename_i h3
  rw [if_neg h3] at O'
  have k := q4 h3 h.2.1
  have z := e8 k
  rw [d3, d2] at O' ⊢
  have e := r4_hit (a := 240 + c / 64 / 64 / 64) (b := 128 + c / 64 / 64 % 64) (c := 128 + c / 64 % 64) (d := 128 + c % 64) O' z.1 ⟨(lo_4 z.1.1).mpr ⟨t_in.1, e8l k.1⟩, (hi_4 z.1.1).mpr ⟨t_in.2, e8h k.2⟩⟩ t_in t_in
  rw [z.2, t64, t64, t64, dm, dm, dm] at e
  exact e
theorem okC_ill : okC 65533 := by decide
theorem fix_eq (h : 0 ≤ c ∧ c ≤ 1114111) : (if okC c then c else 65533) = fixC c := by
  unfold okC fixC
  by_cases x : 55296 ≤ c ∧ c < 57344
  · rw [if_pos x, if_neg fun y => y.2.2 ⟨x.1, Int.le_of_lt_add_one x.2⟩]
  · rw [if_neg x, if_pos ⟨h.1, h.2, fun y => x ⟨y.1, Int.lt_add_one_of_le y.2⟩⟩]
theorem okC_if : okC (if okC c then c else 65533) := by
  split
  · assumption
  · exact okC_ill
theorem oct_app {x y : List Int} (hx : Oct x) (hy : Oct y) : Oct (x ++ y) := fun k hk => (List.mem_append.mp hk).elim (hx k) (hy k)
theorem enc_oct : Oct (enc c) := by have := encV_oct (c := if okC c then c else 65533) okC_if oct_nil; rw [List.append_nil] at this; exact this
theorem read_codes : ∀ (cs : List Int), (∀ c ∈ cs, 0 ≤ c ∧ c ≤ 1114111) → Oct ((cs.map enc).flatten) ∧ readL ((cs.map enc).flatten) = (cs.map fixC, false)
  | [], _ => ⟨oct_nil, rfl⟩
  | c :: cs, h => by
    have ⟨O, e⟩ := read_codes cs fun k hk => h k (List.mem_cons_of_mem _ hk)
    rw [List.map_cons, List.flatten_cons, List.map_cons]
    refine ⟨oct_app enc_oct O, ?_⟩
    have := read_encV (c := if okC c then c else 65533) okC_if O
    show readL (encV (if okC c then c else 65533) ++ _) = _
    rw [this, e, fix_eq (h c (List.mem_cons_self ..))]
theorem codes_len : ∀ (cs : List Int), ((cs.map enc).flatten).length ≤ 4 * cs.length
  | [] => by simp
  | c :: cs => by
    rw [List.map_cons, List.flatten_cons, List.length_append, List.length_cons]
    have := codes_len cs
    have h4 : (enc c).length ≤ 4 := encV_len (c := if okC c then c else 65533)
    omega
/-- three pieces, then rest: what the reader tells -/
theorem law_told {p1 p2 p3 ks : List Int} {lo hi : Int} {S1 S2 S3 : St × List Int} (O : Oct ks) (e : ks = p1 ++ p2 ++ p3) (h1 : feedF (0, 0, lo, hi) p1 = S1) (h2 : feedF S1.1 p2 = S2) (h3 : feedF S2.1 p3 = S3) :
    S1.2 ++ S2.2 ++ S3.2 = (readL ks).1 ∧ decide (0 < S3.1.1) = (readL ks).2 := by
  have e1 := feed_app (st := (0, 0, lo, hi)) (p1 ++ p2) p3
  have e2 := feed_app (st := (0, 0, lo, hi)) p1 p2
  rw [h1] at e2
  rw [h2] at e2
  rw [e2] at e1
  dsimp only at e1
  rw [h3] at e1
  have r := run_read ks.length ks (Nat.le_refl _) O 0 lo hi
  unfold run at r
  rw [e, e1] at r
  rw [e, ← r]
  exact ⟨rfl, rfl⟩
theorem law_one {ks : List Int} {c lo hi : Int} {S : St × List Int} (O : Oct ks) (h : feedF (0, c, lo, hi) ks = S) : S.2 = (readL ks).1 ∧ decide (0 < S.1.1) = (readL ks).2 := by
  have r := run_read ks.length ks (Nat.le_refl _) O c lo hi
  unfold run at r
  rw [h] at r
  rw [← r]
  exact ⟨rfl, rfl⟩
theorem law_a {c lo hi : Int} {S : St × List Int} (h : feedF (0, c, lo, hi) [97] = S) : S.2 = [97] := by
  have := law_one (ks := [97]) (oct_cons (by decide) oct_nil) h
  rw [this.1, r_plain (oct_cons (by decide) oct_nil) (by decide)]; rfl
theorem step_len {S : St} {acc : List Int} {o : Int} : (fstep (S, acc) o).2.length ≤ acc.length + 2 := by
  unfold fstep
  dsimp only
  split
  · split <;> simp
  · split
    · split <;> simp
    · split <;> simp
theorem feed_len {ks : List Int} {l c lo hi : Int} (_ : OkSt l c) : (feedF (l, c, lo, hi) ks).2.length ≤ 2 * ks.length := by
  have h : ∀ (ks : List Int) (S : St × List Int), (ks.foldl fstep S).2.length ≤ S.2.length + 2 * ks.length := by
    intro ks
    induction ks with
    | nil => intro S; simp
    | cons o r ih =>
      intro S
      rw [List.foldl_cons]
      have h1 := ih (fstep S o)
      have h2 := step_len (S := S.1) (acc := S.2) (o := o)
      simp only [List.length_cons]
      have e : fstep S o = fstep (S.1, S.2) o := rfl
      rw [e] at h1 ⊢
      omega
  have := h ks ((l, c, lo, hi), [])
  simpa [feedF] using this
end
end
/-! FeedU -/
section
open PySem PySem.W PyProof.Rows
set_option maxRecDepth 100000
set_option maxHeartbeats 8000000
theorem off1_app {T : Addr} : ∀ {a b : List (Addr × Obj)}, LCg.Off1 T a → LCg.Off1 T b → LCg.Off1 T (a ++ b)
  | [], _, _, h => h
  | _ :: _, _, h, h' => ⟨h.1, off1_app h.2 h'⟩
theorem off1_mem {T : Addr} : ∀ {a : List (Addr × Obj)}, LCg.Off1 T a → ∀ p ∈ a, p.1 ≠ T
  | [], _, _, hp => nomatch hp
  | _ :: _, h, p, hp => by
    rcases List.mem_cons.mp hp with rfl | hp
    · exact h.1
    · exact off1_mem h.2 p hp
theorem off1_sub {T : Addr} {a b : List (Addr × Obj)} (h : LCg.Off1 T a) (hs : ∀ p ∈ b, p ∈ a) : LCg.Off1 T b := off1_of fun q hq => off1_mem h q (hs q hq)
theorem feed_use {w : World} {mean : ExcName → Option Value} {mg mb : Str → Option Value} {b : Array UInt8} {ks : List Int} {t : Tok} {x d : Addr} {K1 K2 K3 K4 K5 : Tok} {l c lo hi : Int} {t1 t2 t3 t4 : Tok}
    {dp un : Nat} {gd : Option (List Code)} {cn : Str} {cs : Scope} {a : Addr} {ccd : Value} {cl : List (Str × Addr)} {outer : List Env} {A₀ : Around} {base h₀ : Heap} {L : Addr} {m : Str → Option Value} {s : Shared} {Q E : Value → Shared → Prop} (pre post : List (Addr × Obj))
    (hb : KBw.bInts b = ks) (hl : ks.length ≤ 36) (N : News h₀ L s.heap (pre ++ (x, instObj 95 d) :: (d, rdDict w K1 K2 K3 K4 K5 true l c lo hi t1 t2 t3 t4) :: post)) (hxd : @LT.lt Nat _ d x) (hok : OkSt l c) (ox : LCg.Off1 x (pre ++ post)) (od : LCg.Off1 d (pre ++ post))
    (B : Below A₀ base outer h₀) (F : Fr h₀ L s.heap m) (X : (hd.heap_39 w.params).In h₀)
    (T : Top hd.view_39 (looseW hd.view_39 [Str.ofString "_law_menu", Str.ofString "_law_codes"]) mean mg mb h₀) (hk : cs.kind = .function) (hd : dp + 4 * (2 + 1) < recursionLimit) (hu : un + 100 * (2 + 1) < cLine)
    (hs : ∀ (D : Addr) (vs : List Value) (n : Nat) (S : St × List Int) (t1' t2' t3' t4' : Tok) (h' : Heap) (tk' : Nat), Fr h₀ L h' m → News h₀ L h' ((D, listOf vs.toArray n) :: (x, instObj 95 d) :: (d, rdDict w K1 K2 K3 K4 K5 true S.1.1 S.1.2.1 S.1.2.2.1 S.1.2.2.2 t1' t2' t3' t4') :: (pre ++ post)) →
      LCg.Off1 D ((x, instObj 95 d) :: (d, rdDict w K1 K2 K3 K4 K5 true S.1.1 S.1.2.1 S.1.2.2.1 S.1.2.2.2 t1' t2' t3' t4') :: (pre ++ post)) → IntsAre vs S.2 → feedF (l, c, lo, hi) ks = S → OkSt S.1.1 S.1.2.1 → S.2.length ≤ 72 → Q (.ref D) { s with heap := h', toks := tk' }) :
    wpAny (model PySem.Challenge.rw_np0270_01.row.prog w) (ktrTop dp un gd cn cs L a ccd cl outer) (call (.ref 50) [.ref x, .bytes b t]) Q E s := by
  have sub : ∀ p ∈ [(x, instObj 95 d), (d, rdDict w K1 K2 K3 K4 K5 true l c lo hi t1 t2 t3 t4)], p ∈ pre ++ (x, instObj 95 d) :: (d, rdDict w K1 K2 K3 K4 K5 true l c lo hi t1 t2 t3 t4) :: post :=
    all2 (List.mem_append_right _ (List.mem_cons_self ..)) (List.mem_append_right _ (List.mem_cons_of_mem _ (List.mem_cons_self ..)))
  have sub2 : ∀ p ∈ pre ++ post, p ∈ pre ++ (x, instObj 95 d) :: (d, rdDict w K1 K2 K3 K4 K5 true l c lo hi t1 t2 t3 t4) :: post := fun p hp => by
    rcases List.mem_append.mp hp with hp | hp
    · exact List.mem_append_left _ hp
    · exact List.mem_append_right _ (List.mem_cons_of_mem _ (List.mem_cons_of_mem _ hp))
  refine con_use (feed_utf8 w mean mg mb b ks hl hb t x d hxd K1 K2 K3 K4 K5 l c lo hi t1 t2 t3 t4 hok) B F X N T hk hd hu sub (pre ++ post) (fun p hp => ⟨sub2 p hp, fun q => ?_⟩) fun v made h' tk' F' N' off O => ?_
  · have : p.1 = x ∨ p.1 = d := by simpa using q
    rcases this with e | e
    · exact off1_mem ox p hp e
    · exact off1_mem od p hp e
  · obtain ⟨D, vs, n, l', c', lo', hi', t1', t2', t3', t4', rfl, rfl, hi9, e9, ok9⟩ := O
    have hD : D ≠ x ∧ D ≠ d := by
      constructor <;> intro e
      · have h1 := (N' (D, listOf vs.toArray n) (List.mem_append_left _ (List.mem_cons_self ..))).1
        have h2 := (N' (x, instObj 95 d) (List.mem_append_left _ (List.mem_cons_of_mem _ (List.mem_cons_self ..)))).1
        rw [e] at h1
        have h3 := congrArg Obj.cls (Option.some.inj (h1.symm.trans h2))
        cases h3
      · have h1 := (N' (D, listOf vs.toArray n) (List.mem_append_left _ (List.mem_cons_self ..))).1
        have h2 := (N' (d, rdDict w K1 K2 K3 K4 K5 true l' c' lo' hi' t1' t2' t3' t4') (List.mem_append_left _ (List.mem_cons_of_mem _ (List.mem_cons_of_mem _ (List.mem_cons_self ..))))).1
        rw [e] at h1
        have h3 := congrArg Obj.cls (Option.some.inj (h1.symm.trans h2))
        exact absurd (Value.type.inj h3) (by decide)
    have offD : LCg.Off1 D ((x, instObj 95 d) :: (d, rdDict w K1 K2 K3 K4 K5 true l' c' lo' hi' t1' t2' t3' t4') :: (pre ++ post)) := by
      refine ⟨Ne.symm hD.1, Ne.symm hD.2, off1_of fun q hq => ?_⟩
      refine off (D, listOf vs.toArray n) (List.mem_cons_self ..) (fun z => ?_) q (sub2 q hq)
      have : D = x ∨ D = d := by simpa using z
      rcases this with e | e
      · exact hD.1 e
      · exact hD.2 e
    have eS : feedF (l, c, lo, hi) ks = ((l', c', lo', hi'), (feedF (l, c, lo, hi) ks).2) := Prod.ext e9 rfl
    have hlen : (feedF (l, c, lo, hi) ks).2.length ≤ 72 := Nat.le_trans (feed_len hok) (by omega)
    exact hs D vs n ((l', c', lo', hi'), (feedF (l, c, lo, hi) ks).2) t1' t2' t3' t4' h' tk' F' N' offD hi9 eS ok9 hlen
end
/-! Codes -/
section
open PySem PySem.W PyProof.Rows
set_option maxRecDepth 100000
set_option maxHeartbeats 8000000
theorem oct_of {b : Array UInt8} {ks : List Int} (h : KBw.bInts b = ks) : Oct ks := fun k hk => KBw.ints_in (by rw [h]; exact hk)
/-- all that octets tell, the rest too -/
noncomputable def codesOut (ks : List Int) : List Int := (readL ks).1 ++ (if (readL ks).2 = true then [65533] else [])
theorem codes_y {ks fs : List Int} {l c lo hi lo' hi' : Int} (O : Oct ks) (h : feedF (0, 0, lo', hi') ks = ((l, c, lo, hi), fs)) (hl : 0 < l) : fs ++ [65533] = codesOut ks := by
  have e := law_one O h
  dsimp only at e
  unfold codesOut
  rw [← e.1, ← e.2, if_pos (decide_eq_true hl)]
theorem codes_n {ks fs : List Int} {l c lo hi lo' hi' : Int} (O : Oct ks) (h : feedF (0, 0, lo', hi') ks = ((l, c, lo, hi), fs)) (hl : ¬ 0 < l) : fs = codesOut ks := by
  have e := law_one O h
  dsimp only at e
  unfold codesOut
  rw [← e.1, ← e.2, if_neg (by rw [decide_eq_false hl]; exact Bool.false_ne_true), List.append_nil]
noncomputable def CodesOut (ks : List Int) (v : Value) (made : List (Addr × Obj)) : Prop := ∃ D vs n, v = .ref D ∧ made = [(D, listOf vs.toArray n)] ∧ IntsAre vs (codesOut ks)
theorem codes_end {ks out : List Int} {h₀ g h' : Heap} {L L' D : Addr} {s : Shared} {vs : List Value} {n : Nat} {m m' : Str → Option Value} {made' : List (Addr × Obj)} {tk' : Nat} {Q : Value → Shared → Prop}
    (hret : ∀ v made h' tk', Fr h₀ L h' m → News h₀ L h' made → (∀ b o, s.heap.get? b = some o → b ∉ ([] : List (Addr × Obj)).map (·.1) → h'.get? b = some o) → (∀ p ∈ made, p.1 ∉ ([] : List (Addr × Obj)).map (·.1) → s.heap.get? p.1 = none) → CodesOut ks v made → Q v { s with heap := h', toks := tk' })
    (G : GSub s.heap g (([] : List (Addr × Obj)).map (·.1))) (F' : Fr g L' h' m') (N' : News g L' h' made') (F : Fr h₀ L h' m) (N : News h₀ L h' made')
    (n1 : (D, listOf vs.toArray n) ∈ made') (hi : IntsAre vs out) (e : out = codesOut ks) : Q (.ref D) { s with heap := h', toks := tk' } :=
  con_end hret G F' N' F N (made := [(D, listOf vs.toArray n)]) (fun p hp => by rw [List.mem_singleton.mp hp]; exact n1) ⟨D, vs, n, rfl, rfl, e ▸ hi⟩
theorem codes_any (w : World) (mean) (mg mb) (b : Array UInt8) (ks : List Int) (hl : ks.length ≤ 36)
   (hb : KBw.bInts b = ks) (t : Tok) :
    Con 4 w mean mg mb 125 [.bytes b t] [] (fun v made => CodesOut ks v made) := by
  w_top off
  k_with_none
  k_with "ktr_enter" => (refine' code_defG ?k1 ?k2 ?k3 ?k4 ?k5 ?kA ?kF ?kK ?k6 ?k7 ?k8 ?k9 ?kB ?_ ?c2 ?c3 ?c4 ?c5; (case kA => exact rfl); (case kF => exact rfl); (case kK => first | exact rfl | assumption); (case k1 => k_asm); (case k2 => k_asm); (case k3 => k_asm); (case k4 => k_asm); (case k5 => k_asm); (case k6 => k_is); (case k7 => k_is); (case k8 => ktr_room); (case k9 => first | exact BindsTo.of_eq rfl | exact binds_K (by k_in) rfl (by k_is) rfl rfl rfl); (case c5 => decide); (case kB => exact locs rfl); (case c2 => exact rfl); (case c3 => exact rfl); (case c4 => exact rfl); k_whole; intro g' L' h' FG' F' N' B' X' T' kG'; (try dsimp only); (try k_fold))
  k_with "execs cons" => ((try dsimp only); (with_reducible refine execs_gen ?_); intro tk9; (with_reducible refine wpAny_execs_cons ?_); (try dsimp only))
  k_with "call ref" => ((try dsimp only [List.cons_append, List.nil_append, List.append_nil]); (with_reducible show wpAny _ _ (call (Value.ref _) (Value.ref _ :: _)) _ _ _); k_dflt (refine wpAny_call ?_; ktr_enter))
  k_with "call ref" => ((with_reducible show wpAny _ _ (call (Value.ref 95) _) _ _ _); k_dflt (refine' call_cls ?k1 ?k2 ?k3 ?k4 ?k5 ?k6 ?_; (case k1 => k_asm); (case k2 => k_asm); (case k3 => k_asm); (case k4 => k_is); (case k5 => k_is); (case k6 => k_is); k_whole; intro x' d' h' F' N' l1 l2; (try k_lt l1); (try k_lt2 l2); (try k_sweep); ktr_enter))
  k_with "offs" => ((try simp only [List.nil_append, List.cons_append]); (repeat' (first | exact trivial | (refine And.intro ?_ ?_))) <;> first | ((try dsimp only); first | (simp only [*, ne_eq, not_false_eq_true]; done) | (refine Ne.symm ?_; simp only [*, ne_eq, not_false_eq_true]; done)) | (refine neN ?_; (try dsimp only); omega))
  k_with "fin50" => ((intro D9 vs9 n9 S9 t19 t29 t39 t49 h9 tk9 F' N' off9 IA9 FS9 ok9 ln9); (obtain ⟨⟨l9, c9, lo9, hi9⟩, fs9⟩ := S9); (try dsimp only at N' off9 IA9 FS9 ok9 ln9); (try simp only [List.nil_append, List.cons_append] at N' off9); (try simp only [LCg.Off1, and_true] at off9); (try dsimp only))
  k_with "call ref" => ((with_reducible show wpAny _ _ (call (Value.ref 50) _) _ _ _); (with_reducible rename News _ _ _ _ => N'); k_dflt (first
  | (refine' feed_use [] _ ?hb ?hl N' ?hxd ?hok ?ox ?od ?B ?F ?X ?T ?hk ?hd ?hu ?_; (case hb => with_reducible assumption))
  | (refine' feed_use [_] _ ?hb ?hl N' ?hxd ?hok ?ox ?od ?B ?F ?X ?T ?hk ?hd ?hu ?_; (case hb => with_reducible assumption))
  | (refine' feed_use [_, _] _ ?hb ?hl N' ?hxd ?hok ?ox ?od ?B ?F ?X ?T ?hk ?hd ?hu ?_; (case hb => with_reducible assumption))
  | (refine' feed_use [_, _, _] _ ?hb ?hl N' ?hxd ?hok ?ox ?od ?B ?F ?X ?T ?hk ?hd ?hu ?_; (case hb => with_reducible assumption))
  | (refine' feed_use [_, _, _, _] _ ?hb ?hl N' ?hxd ?hok ?ox ?od ?B ?F ?X ?T ?hk ?hd ?hu ?_; (case hb => with_reducible assumption))); k_dflt ((case hl => ((try simp only [List.length_take, List.length_drop, List.length_cons, List.length_nil]); omega)); (case hxd => (refine ltN ?_; omega)); (case hok => first | with_reducible assumption | (unfold OkSt; omega)); (case ox => walk_at "offs"); (case od => walk_at "offs"); (case B => k_asm); (case F => k_asm); (case X => k_asm); (case T => k_asm); (case hk => first | exact rfl | assumption); (case hd => ktr_room); (case hu => ktr_units)); walk_at "fin50")
  unfold Con
  k_fill
  intro dp un gd cn cs a ccd cl outer A₀ base h₀ L m s Q E B F X N T hk hd hu hret
  refine wpAny_call ?_
  k_dflt ktr_enter
  repeat' (first
    | (refine' codes_end hret (by assumption) (by assumption) (by assumption) (by assumption) (by assumption) ?n1 ?hi ?e; (case n1 => k_mem); (case hi => with_reducible assumption); (case e => first | exact codes_y (oct_of hb) (by with_reducible assumption) (by with_reducible assumption) | exact (List.append_nil _).trans (codes_n (oct_of hb) (by with_reducible assumption) (by with_reducible assumption)) | exact codes_n (oct_of hb) (by with_reducible assumption) (by with_reducible assumption)))
    | (k_unfold; (try dsimp only)) | walk1 | (dsimp only; walk1) | (leave1; walk_say "STEP leave1"; try dsimp only) | fail "no step")
end
/-! Oct -/
section
open PySem PySem.W PyProof.Rows
set_option maxRecDepth 100000
set_option maxHeartbeats 8000000
theorem enc_ok {c : Int} (h : okC c) : enc c = encV c := by unfold enc; rw [if_pos h]
theorem enc_not {c : Int} (h : ¬ okC c) : enc c = encV 65533 := by unfold enc; rw [if_neg h]
theorem oct_end {c : Int} {h₀ g h' : Heap} {L L' : Addr} {s : Shared} {b : Array UInt8} {t : Tok} {ns : List Int} {m m' : Str → Option Value} {made' : List (Addr × Obj)} {tk' : Nat} {Q : Value → Shared → Prop}
    (hret : ∀ v made h' tk', Fr h₀ L h' m → News h₀ L h' made → (∀ b o, s.heap.get? b = some o → b ∉ ([] : List (Addr × Obj)).map (·.1) → h'.get? b = some o) → (∀ p ∈ made, p.1 ∉ ([] : List (Addr × Obj)).map (·.1) → s.heap.get? p.1 = none) → (∃ b t', v = .bytes b t' ∧ KBw.bInts b = enc c) → Q v { s with heap := h', toks := tk' })
    (G : GSub s.heap g (([] : List (Addr × Obj)).map (·.1))) (F' : Fr g L' h' m') (N' : News g L' h' made') (F : Fr h₀ L h' m) (N : News h₀ L h' made')
    (hb : KBw.bInts b = ns) (e : ns = enc c) : Q (.bytes b t) { s with heap := h', toks := tk' } :=
  con_end hret G F' N' F N (made := []) (fun p hp => nomatch hp) ⟨b, t, rfl, hb.trans e⟩
theorem octets_any (w : World) (mean) (mg mb) (c : Int) (c0 : 0 ≤ c) (c1 : c ≤ 1114111) (t : Tok) :
    Con 1 w mean mg mb 113 [.int c t] [] (fun v _ => ∃ b t', v = .bytes b t' ∧ KBw.bInts b = enc c) := by
  w_top off
  k_with_none
  k_with "ktr_enter" => (refine' code_defG ?k1 ?k2 ?k3 ?k4 ?k5 ?kA ?kF ?kK ?k6 ?k7 ?k8 ?k9 ?kB ?_ ?c2 ?c3 ?c4 ?c5; (case kA => exact rfl); (case kF => exact rfl); (case kK => first | exact rfl | assumption); (case k1 => k_asm); (case k2 => k_asm); (case k3 => k_asm); (case k4 => k_asm); (case k5 => k_asm); (case k6 => k_is); (case k7 => k_is); (case k8 => ktr_room); (case k9 => first | exact BindsTo.of_eq rfl | exact binds_K (by k_in) rfl (by k_is) rfl rfl rfl); (case c5 => decide); (case kB => exact locs rfl); (case c2 => exact rfl); (case c3 => exact rfl); (case c4 => exact rfl); k_whole; intro g' L' h' FG' F' N' B' X' T' kG'; (try dsimp only); (try k_fold))
  k_with "execs cons" => ((try dsimp only); (with_reducible refine execs_gen ?_); intro tk9; (with_reducible refine wpAny_execs_cons ?_); (try dsimp only))
  k_with "call ref" => (k_dflt (refine wpAny_call ?_; ktr_enter))
  k_with "binaryOp RShift int int" => ((with_reducible show wpAny _ _ (binaryOp Operator.RShift (Value.int _ _) (Value.int 6 _)) _ _ _); k_dflt (refine shr6 ?_); (try dsimp only))
  k_with "binaryOp RShift int int" => ((with_reducible show wpAny _ _ (binaryOp Operator.RShift (Value.int _ _) (Value.int 12 _)) _ _ _); k_dflt (refine shr12 ?_); (try dsimp only))
  k_with "binaryOp RShift int int" => ((with_reducible show wpAny _ _ (binaryOp Operator.RShift (Value.int _ _) (Value.int 18 _)) _ _ _); k_dflt (refine shr18 ?_); (try dsimp only))
  k_with "binaryOp BitAnd int int" => (k_dflt (refine and63 ?_); (try dsimp only))
  k_with "binaryOp BitOr int int" => ((with_reducible show wpAny _ _ (binaryOp Operator.BitOr (Value.int 192 _) (Value.int _ _)) _ _ _); k_dflt (refine or192 (by omega) (by omega) ?_); (try dsimp only))
  k_with "binaryOp BitOr int int" => ((with_reducible show wpAny _ _ (binaryOp Operator.BitOr (Value.int 128 _) (Value.int _ _)) _ _ _); k_dflt (refine or128 (by omega) (by omega) ?_); (try dsimp only))
  k_with "binaryOp BitOr int int" => ((with_reducible show wpAny _ _ (binaryOp Operator.BitOr (Value.int 224 _) (Value.int _ _)) _ _ _); k_dflt (refine or224 (by omega) (by omega) ?_); (try dsimp only))
  k_with "binaryOp BitOr int int" => ((with_reducible show wpAny _ _ (binaryOp Operator.BitOr (Value.int 240 _) (Value.int _ _)) _ _ _); k_dflt (refine or240 (by omega) (by omega) ?_); (try dsimp only))
  k_with "call type:bytes" => ((with_reducible show wpAny _ _ (call (Value.type "bytes") [Value.ref _]) _ _ _); k_dflt (refine' bytes_lit ?kbaF ?kbaN ?kbah ?kbal ?kbai ?kbar ?kban ?_; (case kbaF => k_asm); (case kbaN => k_asm); (case kbah => rfl); (case kbal => kba_isList); (case kbai => kba_listInts); (case kbar => ((try simp only [List.cons_append, List.nil_append]); (show Oct _); (repeat (refine oct_cons (by first | exact t_oct | omega) ?_)); exact oct_nil)); (case kban => exact Nat.le_of_ble_eq_true rfl)); intro _ _ _ _ F' N' hbs; (try dsimp only))
  unfold Con
  k_fill
  intro dp un gd cn cs a ccd cl outer A₀ base h₀ L m s Q E B F X N T hk hd hu hret
  refine wpAny_call ?_
  k_dflt ktr_enter
  repeat' (first
    | (refine' oct_end hret (by assumption) (by assumption) (by assumption) (by assumption) (by assumption) ?hb ?e; (case hb => with_reducible assumption); (case e => first | (rw [enc_not (by omega)]; rfl) | (rw [enc_ok (by omega)]; unfold encV; (repeat (first | rw [if_pos (by omega)] | rw [if_neg (by omega)])); done) | (rw [enc_ok (by omega)]; unfold encV; (repeat (first | rw [if_pos (by omega)] | rw [if_neg (by omega)])); rfl)))
    | (k_unfold; (try dsimp only)) | walk1 | (dsimp only; walk1) | (leave1; walk_say "STEP leave1"; try dsimp only) | fail "no step")
end
/-! Comp -/
section
open PySem PySem.W PySem.Spec PySem.Calls PyProof.Rows PyProof.Rows.LCg PyProof.Rows.LCt
set_option maxRecDepth 100000
section
variable {prog : Program} {w : World} {A : Around} {E : Value → Shared → Prop} {s : Shared} {h₀ : Heap} {L : Addr} {m : Str → Option Value} {env : Env}

theorem compEnd_mono {I C D : Addr} {s₁ s₂ : Shared} {oI oC oD : Obj} {S : List (Addr × Obj) → Prop} {R R' : Value → List (Addr × Obj) → Prop} {y : Value}
    (h : CompEnd h₀ L m s₁ I oI C oC D oD S R y s₂) (hr : ∀ news', R y news' → R' y news') : CompEnd h₀ L m s₁ I oI C oC D oD S R' y s₂ := by
  obtain ⟨h', tk, news', e, F, N, off, hS, r⟩ := h
  exact ⟨h', tk, news', e, F, N, off, hS, hr _ r⟩

/-- the turns of a comprehension with one test, by what holds between them -/
theorem restT_ind {ct elt : Expr} {x : Str} {scope : Scope} {cl : List (Str × Addr)} {S : List (Addr × Obj) → Prop} {P : Nat → Value → Prop} {Fin : List Value → List (Addr × Obj) → Prop} {n : Nat} {news : List (Addr × Obj)}
    (J : Nat → List Value → List (Addr × Obj) → Prop) (h0 : J 0 [] news) (hfin : ∀ ys news, J n ys news → Fin ys news)
    (turn : ∀ i ys news, i < n → J i ys news → ∀ v I oI C oC D m₂ h tk (E' : Value → Shared → Prop), P i v → NsObj oC m₂ → m₂ x = some v → Fr h₀ L h m → News h₀ L h ((I, oI) :: (C, oC) :: (D, lst ys) :: news) → Off3 I C D news → ((@Ne Nat I C) ∧ (@Ne Nat I D) ∧ (@Ne Nat C D)) →
      wpAny (model prog w) A (isTrue ct (compEnvC scope cl C env) (eval ct (compEnvC scope cl C env))) (fun ok s' => if ok = true then
        wpAny (model prog w) A (eval elt (compEnvC scope cl C env)) (CompEnd h₀ L m { s with heap := h, toks := tk } I oI C oC D (lst ys) S (fun y news' => J (i + 1) (ys ++ [y]) news')) E' s'
        else CompEnd h₀ L m { s with heap := h, toks := tk } I oI C oC D (lst ys) S (fun _ news' => J (i + 1) ys news') Value.none s') E' { s with heap := h, toks := tk }) :
    CompRestT prog w A h₀ L m env ct elt x scope cl s S P Fin n 0 [] news := by
  have all : ∀ k i ys news, i + k = n → J i ys news → CompRestT prog w A h₀ L m env ct elt x scope cl s S P Fin k i ys news := by
    intro k
    induction k with
    | zero => intro i ys news hi hJ; exact CompRestT.zero (hfin _ _ (by rw [Nat.add_zero] at hi; exact hi ▸ hJ))
    | succ k ih =>
      intro i ys news hi hJ
      refine CompRestT.succ fun v I oI C oC D m₂ h tk E' hv hC hx F N off ne => ?_
      refine wpAny_mono (turn i ys news (by omega) hJ v I oI C oC D m₂ h tk E' hv hC hx F N off ne) (fun ok s' hs => ?_) fun _ _ e => e
      cases ok with
      | true =>
        simp only [if_true] at hs ⊢
        exact wpAny_mono hs (fun y s'' he => compEnd_mono he fun news' r => ih (i + 1) _ _ (by omega) r) fun _ _ e => e
      | false =>
        simp only [Bool.false_eq_true, if_false] at hs ⊢
        exact compEnd_mono hs fun news' r => ih (i + 1) _ _ (by omega) r
  exact all n 0 [] news (by omega) h0

theorem bytes_st {I : Addr} {b : Array UInt8} {t : Tok} : ∀ i (h h' : Heap) (o : Obj) (nw : List (Addr × Obj)), KBw.IsBytesIter h I b t i → h.get? I = some o → h'.get? I = some o → (∀ b o, h₀.get? b = some o → h'.get? b = some o) → News h₀ L h' nw → True → KBw.IsBytesIter h' I b t i :=
  fun i h h' o nw st e e' _ _ _ => by
    obtain ⟨o', q, r⟩ := st
    rw [e] at q; cases q
    exact ⟨o, e', r⟩

/-- where the source is bytes -/
noncomputable def SrcB (prog : Program) (w : World) (A : Around) (h₀ : Heap) (L : Addr) (m : Str → Option Value) (env : Env) (ct elt : Expr) (x : Str) (scope : Scope) (cl : List (Str × Addr)) (Fin : Shared → List Value → List (Addr × Obj) → Prop) (xv : Value) (s₁ : Shared) : Prop :=
  ∃ b t news, xv = .bytes b t ∧ A.handled = none ∧ Fr h₀ L s₁.heap m ∧ News h₀ L s₁.heap news ∧ b.size ≤ sizeLine ∧
    ∀ s₂ : Shared, (∃ h, s₂ = { s₁ with heap := h }) → CompRestT prog w A h₀ L m env ct elt x scope cl s₂ (fun _ => True) (fun i v => ∃ k u, (KBw.bInts b)[i]? = some k ∧ v = .int k u) (Fin s₂) b.size 0 [] news

theorem bwalks (hh : A.handled = none) (I : Addr) (b : Array UInt8) (t : Tok) :
    Walks prog w A I [I] [I] b.size (fun i v => ∃ k u, (KBw.bInts b)[i]? = some k ∧ v = .int k u) (fun i h => KBw.IsBytesIter h I b t i) :=
  let W := KBw.walks (prog := prog) (w := w) hh I b t
  { sub := W.sub, frame := W.frame, done := W.done, self := W.self,
    item := fun i s Q E hi st hQ => W.item i s Q E hi st fun v h' tk hP => hQ v h' tk (by obtain ⟨c, u, hc, rfl⟩ := hP; exact ⟨_, u, KBw.ints_get hc, rfl⟩) }

theorem ListComp_B {ct elt iter : Expr} {x : Str} {px : Pos} {scope : Scope} {cl : List (Str × Addr)} {pos : Pos} {Q : Value → Shared → Prop} (F₀ : Fr h₀ L s.heap m)
    (hclos : closureFor scope env = pure cl) (hcell : ∀ y ∈ scope.names, y.2 ≠ .cell) (hkind : scope.kind = .function)
    (hnames : ∀ y ∈ scope.names, y.2 = .local → scope.names.lookup y.1 = some .local) (hx : scope.names.lookup x = some .local)
    (h : wpAny (model prog w) A (eval iter env) (SrcB prog w A h₀ L m env ct elt x scope cl (fun s₂ => FinE h₀ L m s₂ Q)) E s)
    (hs : ∀ x, foldedSetIterable iter env x = pure x := by intro _; rfl) :
    wpAny (model prog w) A (eval (.ListComp elt [⟨.Name x px, iter, [ct], 0⟩] scope pos) env) Q E s := by
  rw [eval_ListComp]
  refine wpAny_comprehension_free (use := none) rfl hs hclos hkind hnames (wpAny_mono h (fun xv s₁ h₁ => ?_) fun _ _ e => e)
  obtain ⟨b, t, news, rfl, hh, F, N, hsz, R⟩ := h₁
  refine KBw.pyIter_bytes ?_
  have up : ∀ a o, s₁.heap.get? a = some o → (s₁.heap.push { cls := .type "bytes_iterator", data := .fields #[.bytes b t, .int 0 0] }).get? a = some o := fun _ _ e => Heap.get?_push_of_some _ e
  refine block_T (bwalks hh s₁.heap.objs.size b t) hsz (fun i h st => by obtain ⟨o, e, _⟩ := st; exact ⟨o, e⟩) bytes_st hcell hkind hx ⟨_, Heap.get?_push_size _ rfl, rfl, rfl⟩ (fun b' hb => ?_)
    (F.keeps up) (N.grown up) (Nat.ne_of_lt F.ns.lt) (next_is_new F) (fun p hp => Nat.ne_of_lt (Heap.lt_size (N p hp).1)) trivial (R _ ⟨_, rfl⟩) ?_
  · rw [List.mem_singleton.mp hb]
    show s₁.heap.objs.size < (s₁.heap.push _).objs.size
    rw [Heap.size_push]; exact Nat.lt_succ_self _
  · intro D C h tk m' ys news' F' N' o1 hn hC₀ hD₀ hCL hDL hCD offC fin
    refine ⟨m', hn, fun h'' hs'' => fin D h'' tk (F'.change hs'' hCL hC₀) (fun p hp => ?_) o1⟩
    refine ⟨hs''.extBut _ _ ?_ (N' p hp).1, (N' p hp).2⟩
    rcases List.mem_cons.mp hp with rfl | hp
    · exact Ne.symm hCD
    · exact offC p hp
end
end
/-! Join -/
section
open PySem PySem.W PyProof.Rows PySem.Builtin
set_option maxRecDepth 100000
theorem slot_join : Slot "bytes" "join" "bytes.join" :=
  .of (owner := "bytes") (n := "join") (by rw [typeLookup_type, builtinLookup_eq_fast]; kernel_rfl) (by decide +kernel) (by decide +kernel) (by decide +kernel)
    (by first | exact .inl (by decide +kernel) | exact .inr (by decide +kernel)) (by rw [isSubtype_type]; kernel_rfl)
theorem type_join : typeOf (.builtin "bytes.join") = pure (.type "method_descriptor") := by show builtinType _ = _; rw [builtinType_eq_fast]; kernel_rfl
theorem entry_join : entryFor table "bytes.join" = some Builtin.«bytes.join» := entryFor_of_tree (by kernel_rfl)
theorem args_join (a b : Value) : argsOk "bytes.join" ⟨[a, b], []⟩ := by
  unfold argsOk; rw [signature?_of (id := "bytes.join") (n := ['n', 'i', 'o', 'j']) (o := ['s', 'e', 't', 'y', 'b']) (by kernel_rfl) FB.owner_bytes]; kernel_rfl
noncomputable abbrev BT := Array UInt8 × Tok
noncomputable abbrev bval (p : BT) : Value := .bytes p.1 p.2
noncomputable def stOf (pre : List BT) : Array (Array UInt8) × List (Value × Option Value) := ((pre.map (·.1)).toArray, pre.map fun p => (bval p, none))
section
variable {b : Array UInt8} {t : Tok}
theorem take_eq {id : String} : Bytes.takeBufferQuiet? id (.bytes b t) 0 = pure (some (b, none)) := by
  have h : Bytes.takeBuffer? id (.bytes b t) 0 = pure (some (b, none)) := by
    have hf : ((0 : Int) == Bytes.fullReadOnly) = false := by decide
    unfold Bytes.takeBuffer?
    rw [KBy.special_eq KBy.look_buffer, KBy.own_buffer, hf, KBy.buffer_eq]
    kernel_rfl
  unfold Bytes.takeBufferQuiet?
  rw [h]
  rfl
end
theorem joined_nil (ps : List (Array UInt8)) : KBw.bInts (Bytes.joined #[] ps) = (ps.map KBw.bInts).flatten := by
  have h : ∀ (ps : List (Array UInt8)) (k : Nat) (a : Array UInt8), KBw.bInts ((ps.zipIdx k).foldl (fun out (x : Array UInt8 × Nat) => (if x.2 > 0 then out ++ #[] else out) ++ x.1) a) = KBw.bInts a ++ (ps.map KBw.bInts).flatten := by
    intro ps
    induction ps with
    | nil => intro k a; simp
    | cons p ps ih =>
      intro k a
      rw [List.zipIdx_cons, List.foldl_cons, ih]
      have e : (if k > 0 then a ++ #[] else a) = a := by split <;> simp
      show KBw.bInts ((if k > 0 then a ++ #[] else a) ++ p) ++ _ = _
      rw [e, KBw.ints_app rfl rfl, List.map_cons, List.flatten_cons, List.append_assoc]
  exact h ps 0 #[]
section
variable {M : Model} {A : Around} {E : Value → Shared → Prop} {s : Shared}
theorem for_parts {β : Type} {f : Nat → β → Sem (ForInStep β)} {Q : β → Shared → Prop} (xs : List BT) (st : List BT → β)
    (hf : ∀ (pre : List BT) (x : BT) (post : List BT) (Q : ForInStep β → Shared → Prop), xs = pre ++ x :: post → Q (.yield (st (pre ++ [x]))) s → wpAny M A (f pre.length (st pre)) Q E s)
    {n : Nat} (hn : n = xs.length) (h : Q (st xs) s) : wpAny M A (forIn [:n] (st []) f) Q E s := by
  subst hn
  rw [KPc.range_list]
  have all : ∀ (post pre : List BT), xs = pre ++ post → wpAny M A (forIn (List.range' pre.length post.length 1) (st pre) f) Q E s := by
    intro post
    induction post with
    | nil =>
      intro pre e
      rw [List.append_nil] at e
      subst e
      exact wpAny_pure h
    | cons x post ih =>
      intro pre e
      show wpAny M A (forIn (pre.length :: List.range' (pre.length + 1) post.length 1) (st pre) f) Q E s
      refine KPc.turn (hf pre x post _ e ?_)
      have := ih (pre ++ [x]) (by rw [e, List.append_assoc]; rfl)
      rw [List.length_append] at this
      exact this
  exact all xs [] rfl
theorem letGo_wp : ∀ (l k : List Value) {Q : Unit → Shared → Prop}, Q () s → wpAny M A (letGo l k) Q E s
  | [], _, _, h => wpAny_pure h
  | _ :: r, k, _, h => wpAny_bind (wpAny_holding (wpAny_point (letGo_wp r k h)))
theorem joinLetGo_wp : ∀ (l : List BT) (k : List Value) {Q : Unit → Shared → Prop}, Q () s → wpAny M A (Bytes.joinLetGo (l.map fun p => (bval p, none)) k) Q E s
  | [], _, _, h => wpAny_pure h
  | _ :: r, k, _, h => by
    show wpAny M A (letGo _ _ >>= fun _ => Bytes.joinLetGo (r.map fun p => (bval p, none)) k) _ _ s
    exact wpAny_bind (letGo_wp _ _ (joinLetGo_wp r k h))
theorem offHeap : ∀ (l : List BT), ((l.map fun p => ((bval p, none) : Value × Option Value)).any fun x => x.1.onHeap) = false
  | [] => rfl
  | _ :: r => offHeap r
theorem foldl_size : ∀ (l : List (Array UInt8)) (k : Nat), l.foldl (fun a x => a + x.size) k = k + ((l.map KBw.bInts).flatten).length
  | [], k => by simp
  | x :: r, k => by
    rw [List.foldl_cons, foldl_size r, List.map_cons, List.flatten_cons, List.length_append, KBw.ints_length]
    omega
theorem join_wp {D : Addr} {o : Obj} {n : Nat} {t : Tok} {xs : List BT} {Q : PySem.Fin → Shared → Prop} (hne : xs ≠ []) (ho : s.heap.get? D = some o) (hc : o.cls = .type "list") (hd : o.data = .seq (xs.map bval).toArray n)
    (hsz : ((xs.map fun p => KBw.bInts p.1).flatten).length ≤ 16777216)
    (h : ∀ b t' k, KBw.bInts b = (xs.map fun p => KBw.bInts p.1).flatten → Q (PySem.Fin.done (.ret (.bytes b t'))) { s with toks := k }) :
    wpAny M A (Builtin.«bytes.join» ⟨[.bytes #[] t, .ref D], []⟩) Q E s := by
  have hT : s.TypeIs (.ref D) "list" := ⟨o, ho, hc⟩
  show wpAny M A (Bytes.joinItems (.ref D) >>= fun seq => _) Q E s
  refine wpAny_bind ?_
  unfold Bytes.joinItems
  refine wpAny_bind (wpAny_typeOf hT ?_)
  show wpAny M A (pure (Value.ref D)) _ E s
  refine wpAny_pure ?_
  refine wpAny_bind (wpAny_seqItems ho hd ?_)
  cases xs with
  | nil => exact absurd rfl hne
  | cons x r =>
    cases r with
    | nil =>
      show wpAny M A (typeOf (bval x) >>= fun d => _) _ E s
      refine wpAny_bind (wpAny_typeOf (T := "bytes") rfl ?_)
      show wpAny M A (rule _ >>= fun _ => _) _ E s
      refine wpAny_bind (wpAny_rule ?_)
      exact wpAny_pure (h _ _ s.toks (by simp))
    | cons y r =>
      show wpAny M A (forIn [:((x :: y :: r).map bval).toArray.size] (stOf []) _ >>= fun z => _) _ E s
      generalize hxs : x :: y :: r = xs at *
      refine wpAny_bind (for_parts xs stOf ?_ (by simp) ?_)
      · intro pre z post Q9 e hq
        refine wpAny_bind (wpAny_seqItems ho hd ?_)
        have hx : Array.getD (xs.map bval).toArray pre.length Value.none = bval z := by
          rw [e]; simp
        have hany : (Bytes.Kind.bytes == Bytes.Kind.bytearray || List.any (stOf pre).2 fun x => Value.onHeap x.1) = false := by
          show (false || _) = false
          rw [Bool.false_or]
          exact offHeap pre
        have hst : ((stOf pre).1.push z.1, (stOf pre).2 ++ [(bval z, none)]) = stOf (pre ++ [z]) := by
          unfold stOf
          simp
        simp only [hx, hany, Bool.false_eq_true, if_false]
        refine wpAny_bind (wpAny_holding (wpAny_of_eq take_eq ?_))
        refine wpAny_bind (wpAny_seqItems ho hd ?_)
        simp only [bne_self_eq_false, Bool.false_eq_true, if_false]
        rw [hst]
        exact wpAny_pure hq
      · have e1 : (stOf xs).1 = (xs.map (·.1)).toArray := rfl
        have e2 : (stOf xs).2 = xs.map fun p => (bval p, none) := rfl
        show wpAny M A (pure #[] >>= fun sep => _) _ E s
        refine wpAny_bind (wpAny_pure ?_)
        have hs : Array.foldl (fun a (x : Array UInt8) => a + x.size) (Array.size (#[] : Array UInt8) * (Array.size (stOf xs).1 - 1)) (stOf xs).1 = ((xs.map fun p => KBw.bInts p.1).flatten).length := by
          rw [e1, List.foldl_toArray, foldl_size, List.map_map]
          simp
          rfl
        have hl : Bytes.tooLong (Array.foldl (fun a (x : Array UInt8) => a + x.size) (Array.size (#[] : Array UInt8) * (Array.size (stOf xs).1 - 1)) (stOf xs).1) = false := by
          rw [hs]
          exact KBy.tooLong_not hsz
        have hj : KBw.bInts (Bytes.joined #[] (stOf xs).1.toList) = (xs.map fun p => KBw.bInts p.1).flatten := by
          rw [joined_nil, e1, List.map_map]
          rfl
        have hz : (Bytes.joined #[] (stOf xs).1.toList).size ≤ sizeLine := by
          rw [← KBw.ints_length, hj, sizeLine_eq]
          exact hsz
        simp only [hl, Bool.false_eq_true, if_false]
        refine wpAny_bind (wpAny_mkBytes ?_ hz)
        refine wpAny_bind (wpAny_holding (wpAny_point ?_))
        refine wpAny_bind ?_
        rw [e2]
        refine joinLetGo_wp xs _ ?_
        exact wpAny_pure (h _ _ _ hj)
end
theorem meets_join {D : Addr} {t : Tok} {xs : List BT} (hne : xs ≠ []) (hsz : ((xs.map fun p => KBw.bInts p.1).flatten).length ≤ 16777216) :
    Meets (Builtin.«bytes.join» ⟨[.bytes #[] t, .ref D], []⟩) (fun _ R s => (∃ o n, s.heap.get? D = some o ∧ o.cls = .type "list" ∧ o.data = .seq (xs.map bval).toArray n) ∧ ∀ b t' k, KBw.bInts b = (xs.map fun p => KBw.bInts p.1).flatten → R (.ok (.ret (.bytes b t'))) { s with toks := k }) := by
  refine .of_wp fun prog w A R s hS => ?_
  obtain ⟨⟨o, n, ho, hc, hd⟩, h⟩ := hS
  exact join_wp hne ho hc hd hsz fun b t' k e => ⟨_, rfl, h b t' k e⟩
section
variable {prog : Program} {w : World} {A : Around} {E : Value → Shared → Prop} {s : Shared} {h₀ : Heap} {L : Addr} {news : List (Addr × Obj)}
theorem join_call {D : Addr} {o : Obj} {n : Nat} {t : Tok} {xs : List BT} {Q : Value → Shared → Prop} (N : News h₀ L s.heap news) (hm : (D, o) ∈ news) (hc : o.cls = .type "list") (hd : o.data = .seq (xs.map bval).toArray n) (hne : xs ≠ [])
    (hsz : ((xs.map fun p => KBw.bInts p.1).flatten).length ≤ 16777216)
    (h : ∀ b t' k, KBw.bInts b = (xs.map fun p => KBw.bInts p.1).flatten → Q (.bytes b t') { s with toks := k }) :
    wpAny (model prog w) A (call (.builtin "bytes.join") [.bytes #[] t, .ref D]) Q E s :=
  call_meets slot_join (typeIs_bytes _ _ _) entry_join (args_join _ _) (meets_join hne hsz) ⟨⟨o, n, (N _ hm).1, hc, hd⟩, h⟩
theorem join_method {M : Model} {b : Array UInt8} {t : Tok} {pl : Sem Bool} {Q : Value × List Value → Shared → Prop} (h : Q (.builtin "bytes.join", [.bytes b t]) s) : wpAny M A (getMethod (.bytes b t) "join" pl) Q E s := by
  with_reducible exact KBd.method_of (.bytes b t) (typeIs_bytes _ _ _) slot_join type_join KBd.noRef h
end
end
/-! CompU -/
section
open PySem PySem.W PySem.Spec PySem.Calls PyProof.Rows PyProof.Rows.LCg PyProof.Rows.LCt
set_option maxRecDepth 100000
section
variable {prog : Program} {w : World} {A : Around} {E : Value → Shared → Prop} {s : Shared} {h₀ : Heap} {L : Addr} {m : Str → Option Value} {env : Env}
/-- the turns of a comprehension without a test, by what holds between them -/
theorem restU_ind {elt : Expr} {x : Str} {scope : Scope} {cl : List (Str × Addr)} {S : List (Addr × Obj) → Prop} {P : Nat → Value → Prop} {Fin : List Value → List (Addr × Obj) → Prop} {n : Nat} {news : List (Addr × Obj)}
    (J : Nat → List Value → List (Addr × Obj) → Prop) (h0 : J 0 [] news) (hfin : ∀ ys news, J n ys news → Fin ys news)
    (turn : ∀ i ys news, i < n → J i ys news → ∀ v I oI C oC D m₂ h tk (E' : Value → Shared → Prop), P i v → NsObj oC m₂ → m₂ x = some v → Fr h₀ L h m → News h₀ L h ((I, oI) :: (C, oC) :: (D, lst ys) :: news) → Off3 I C D news → ((@Ne Nat I C) ∧ (@Ne Nat I D) ∧ (@Ne Nat C D)) →
      wpAny (model prog w) A (eval elt (compEnvC scope cl C env)) (CompEnd h₀ L m { s with heap := h, toks := tk } I oI C oC D (lst ys) S (fun y news' => J (i + 1) (ys ++ [y]) news')) E' { s with heap := h, toks := tk }) :
    CompRest prog w A h₀ L m env elt x scope cl s S P Fin n 0 [] news := by
  have all : ∀ k i ys news, i + k = n → J i ys news → CompRest prog w A h₀ L m env elt x scope cl s S P Fin k i ys news := by
    intro k
    induction k with
    | zero => intro i ys news hi hJ; exact CompRest.zero (hfin _ _ (by rw [Nat.add_zero] at hi; exact hi ▸ hJ))
    | succ k ih =>
      intro i ys news hi hJ
      refine CompRest.succ fun v I oI C oC D m₂ h tk E' hv hC hx F N off ne => ?_
      exact wpAny_mono (turn i ys news (by omega) hJ v I oI C oC D m₂ h tk E' hv hC hx F N off ne) (fun y s' he => compEnd_mono he fun news' r => ih (i + 1) _ _ (by omega) r) fun _ _ e => e
  exact all n 0 [] news (by omega) h0
/-- the codes written, one by one -/
theorem src_enc {elt : Expr} {x : Str} {scope : Scope} {cl : List (Str × Addr)} {Fin : Shared → List Value → List (Addr × Obj) → Prop} {s₁ : Shared} {ax : Addr} {vs : List Value} {cs : List Int} {k : Nat} {news : List (Addr × Obj)}
    (hi : IntsAre vs cs) (hcs : ∀ c ∈ cs, 0 ≤ c ∧ c ≤ 1114111) (hn : cs.length ≤ 36) (hh : A.handled = none) (F : Fr h₀ L s₁.heap m) (N : News h₀ L s₁.heap news) (hm : (ax, ({ cls := .type "list", data := .seq vs.toArray k } : Obj)) ∈ news)
    (fin : ∀ g (xs : List BT), xs.map (fun p => KBw.bInts p.1) = cs.map enc → Fin { s₁ with heap := g } (xs.map bval) news)
    (turn : ∀ (c : Int) (u : Tok) (ys : List Value), 0 ≤ c → c ≤ 1114111 → ∀ I oI C oC D m₂ h tk (E' : Value → Shared → Prop), NsObj oC m₂ → m₂ x = some (.int c u) → Fr h₀ L h m → News h₀ L h ((I, oI) :: (C, oC) :: (D, lst ys) :: news) → Off3 I C D news → ((@Ne Nat I C) ∧ (@Ne Nat I D) ∧ (@Ne Nat C D)) →
      wpAny (model prog w) A (eval elt (compEnvC scope cl C env)) (CompEnd h₀ L m { s₁ with heap := h, toks := tk } I oI C oC D (lst ys) (fun _ => True) (fun y news' => news' = news ∧ ∃ b t, y = .bytes b t ∧ KBw.bInts b = enc c)) E' { s₁ with heap := h, toks := tk }) :
    CompSrc prog w A h₀ L m env elt x scope cl Fin (.ref ax) s₁ := by
  have hl := hi.length
  refine CompSrc.ledger hh F N hm (by have h5 : (100 : Nat) ≤ sizeLine := Nat.le_of_ble_eq_true rfl
                                      rw [List.size_toArray]; omega) fun g => ?_
  refine restU_ind (fun i ys news' => news' = news ∧ ∃ xs : List BT, ys = xs.map bval ∧ xs.map (fun p => KBw.bInts p.1) = (cs.take i).map enc) ⟨rfl, [], rfl, by simp⟩ ?_ ?_
  · rintro ys _ ⟨rfl, xs, rfl, e⟩
    rw [List.size_toArray, hl, List.take_length] at e
    exact fin _ xs e
  · rintro i ys _ hi' ⟨rfl, xs, rfl, e⟩ v I oI C oC D m₂ h tk E' hv hC hx F' N' off ne
    have hi2 : i < cs.length := by rw [List.size_toArray] at hi'; omega
    have hc : cs[i]? = some cs[i] := List.getElem?_eq_getElem hi2
    obtain ⟨t, ht⟩ := hi.get i _ hc
    have hv' : v = .int cs[i] t := by
      have hv2 : vs.toArray[i]? = some v := hv
      rw [List.getElem?_toArray, ht] at hv2
      exact (Option.some.inj hv2).symm
    subst hv'
    have hb := hcs cs[i] (List.getElem_mem hi2)
    refine wpAny_mono (turn cs[i] t _ hb.1 hb.2 I oI C oC D m₂ h tk E' hC hx F' N' off ne) (fun y s' he => ?_) fun _ _ e => e
    obtain ⟨h', tk', news', e1, F9, N9, off9, _, hn9, b, t', rfl, eb⟩ := he
    subst hn9
    refine ⟨h', tk', _, e1, F9, N9, off9, .inr ⟨_, hm, rfl, _, rfl⟩, rfl, xs ++ [(b, t')], by simp, ?_⟩
    rw [List.map_append, e, List.take_add_one, hc, List.map_append]
    simp [eb]
end
end
/-! Utf8 -/
section
open PySem PySem.W PyProof.Rows
set_option maxRecDepth 100000
set_option maxHeartbeats 8000000
theorem utf8_end {d : Addr} {o : Obj} {ks : List Int} {h₀ g h' : Heap} {L L' : Addr} {s : Shared} {b : Array UInt8} {t : Tok} {m m' : Str → Option Value} {made' : List (Addr × Obj)} {tk' : Nat} {Q : Value → Shared → Prop}
    (hret : ∀ v made h' tk', Fr h₀ L h' m → News h₀ L h' made → (∀ b o', s.heap.get? b = some o' → b ∉ [(d, o)].map (·.1) → h'.get? b = some o') → (∀ p ∈ made, p.1 ∉ [(d, o)].map (·.1) → s.heap.get? p.1 = none) → (made = [(d, o)] ∧ ∃ b t', v = .bytes b t' ∧ KBw.bInts b = ks) → Q v { s with heap := h', toks := tk' })
    (G : GSub s.heap g ([(d, o)].map (·.1))) (F' : Fr g L' h' m') (N' : News g L' h' made') (F : Fr h₀ L h' m) (N : News h₀ L h' made')
    (n1 : (d, o) ∈ made') (hb : KBw.bInts b = ks) : Q (.bytes b t) { s with heap := h', toks := tk' } :=
  con_end hret G F' N' F N (made := [(d, o)]) (fun p hp => by rw [List.mem_singleton.mp hp]; exact n1) ⟨rfl, b, t, rfl, hb⟩
theorem xs_ne {xs : List BT} {cs : List Int} (e : xs.map (fun p => KBw.bInts p.1) = cs.map enc) (h : cs ≠ []) : xs ≠ [] := fun x => by
  subst x
  cases cs with
  | nil => exact h rfl
  | cons c r => cases e
theorem xs_size {xs : List BT} {cs : List Int} (e : xs.map (fun p => KBw.bInts p.1) = cs.map enc) (h : cs.length ≤ 36) : ((xs.map fun p => KBw.bInts p.1).flatten).length ≤ 16777216 := by
  rw [e]
  have := codes_len cs
  omega
theorem utf8_any (w : World) (mean) (mg mb) (d : Addr) (vs : List Value) (cs : List Int) (hi : IntsAre vs cs) (hcs : ∀ c ∈ cs, 0 ≤ c ∧ c ≤ 1114111) (hn : cs.length ≤ 36) (hn0 : cs ≠ []) :
    Con 2 w mean mg mb 118 [.ref d] [(d, LCg.lst vs)] (fun v made => made = [(d, LCg.lst vs)] ∧ ∃ b t', v = .bytes b t' ∧ KBw.bInts b = (cs.map enc).flatten) := by
  w_top off
  k_with_none
  k_with "ktr_enter" => (refine' code_defG ?k1 ?k2 ?k3 ?k4 ?k5 ?kA ?kF ?kK ?k6 ?k7 ?k8 ?k9 ?kB ?_ ?c2 ?c3 ?c4 ?c5; (case kA => exact rfl); (case kF => exact rfl); (case kK => first | exact rfl | assumption); (case k1 => k_asm); (case k2 => k_asm); (case k3 => k_asm); (case k4 => k_asm); (case k5 => k_asm); (case k6 => k_is); (case k7 => k_is); (case k8 => ktr_room); (case k9 => first | exact BindsTo.of_eq rfl | exact binds_K (by k_in) rfl (by k_is) rfl rfl rfl); (case c5 => decide); (case kB => exact locs rfl); (case c2 => exact rfl); (case c3 => exact rfl); (case c4 => exact rfl); k_whole; intro g' L' h' FG' F' N' B' X' T' kG'; (try dsimp only); (try k_fold))
  k_with "execs cons" => ((try dsimp only); (with_reducible refine execs_gen ?_); intro tk9; (with_reducible refine wpAny_execs_cons ?_); (try dsimp only))
  k_with "eval ListComp" => (k_dflt (refine LCg.ListComp_U (F₀ := by k_asm) (by rfl) (by decide) (by rfl) (by decide) (by rfl) ?_))
  k_with "CompSrc" => ((with_reducible rename Fr _ _ _ _ => F'); (with_reducible rename News _ _ _ _ => N'); k_dflt (refine' src_enc ?hi ?hcs ?hn ?hh F' N' ?hm ?_ ?_; (case hm => k_mem); (case hi => with_reducible assumption); (case hcs => with_reducible assumption); (case hn => with_reducible assumption); (case hh => exact rfl)); (intro g9 xs9 ex9); rotate_left; (intro c9 u9 ys9 c09 c19 I9 oI9 C9 oC9 D9 m9 h9 tk9 E9 hC9 hx9 F' N' off9 ne9); rotate_left)
  k_with "call ref" => ((with_reducible show wpAny _ _ (call (Value.ref 113) _) _ _ _); k_dflt (refine con_pure (octets_any _ _ _ _ _ (by with_reducible assumption) (by with_reducible assumption) _) (by k_asm) (by k_asm) (by k_asm) (by k_asm) (by k_asm) (by first | exact rfl | assumption) (by ktr_room) (by ktr_units) ?_); intro v9 h9 tk9 F9 N9 keep9 hR9; clear keep9; obtain ⟨b9, t9, z9, e9⟩ := hR9; subst z9; (try dsimp only))
  k_with "CompEnd" => ((with_reducible rename News _ _ _ _ => N'); k_dflt (exact ⟨_, _, _, rfl, by k_asm, N', by with_reducible assumption, True.intro, rfl, _, _, rfl, by with_reducible assumption⟩))
  k_with "getMethod bytes" => (k_dflt (refine join_method ?_))
  k_with "call builtin:bytes.join" => ((with_reducible rename News _ _ _ _ => N'); (with_reducible rename (List.map _ _ = List.map enc _) => ex9); k_dflt (refine join_call N' (List.mem_cons_self ..) rfl rfl (xs_ne ex9 (by with_reducible assumption)) (xs_size ex9 (by with_reducible assumption)) ?_); intro b9 t9 k9 eb9; (rw [ex9] at eb9); (try dsimp only))
  unfold Con
  k_fill
  intro dp un gd cn cs' a ccd cl outer A₀ base h₀ L m s Q E B F X N T hk hd hu hret
  refine wpAny_call ?_
  k_dflt ktr_enter
  repeat' (first
    | (refine' utf8_end hret (by assumption) (by assumption) (by assumption) (by assumption) (by assumption) ?n1 ?hb; (case n1 => k_mem); (case hb => with_reducible assumption))
    | (k_unfold; (try dsimp only)) | walk1 | (dsimp only; walk1) | (leave1; walk_say "STEP leave1"; try dsimp only) | fail "no step")
end
/-! Sign -/
section
open PySem PySem.W PyProof.Rows
set_option maxRecDepth 100000
set_option maxHeartbeats 4000000
theorem slice1 (k0 : Int) (r : List Int) : ((k0 :: r).drop ((some (1 : Int)).elim 0 (clipAt (k0 :: r).length))).take ((none : Option Int).elim (k0 :: r).length (clipAt (k0 :: r).length) - (some (1 : Int)).elim 0 (clipAt (k0 :: r).length)) = r := by
  have e : clipAt (k0 :: r).length 1 = 1 := clip_le (m := 1) (Nat.le_add_left 1 r.length)
  simp only [Option.elim, e, List.drop_succ_cons, List.drop_zero]
  exact List.take_of_length_le (Nat.le_refl r.length)
theorem nt_skip {ks : List Int} {ys : List Value} {i : Nat} {k : Int} (h : ks[i]? = some k) (e : k.fdiv 64 = 2) (hi : IntsAre ys (notTrail (ks.take i))) : IntsAre ys (notTrail (ks.take (i + 1))) := by
  rw [notTrail_snoc h, if_pos e]; exact hi
theorem nt_take {ks : List Int} {ys : List Value} {i : Nat} {k : Int} {t : Tok} (h : ks[i]? = some k) (e : k.fdiv 64 ≠ 2) (hi : IntsAre ys (notTrail (ks.take i))) : IntsAre (ys ++ [.int k t]) (notTrail (ks.take (i + 1))) := by
  rw [notTrail_snoc h, if_neg e]; exact hi.append (.cons _ _ .nil)
section
open PySem.Spec PySem.Calls PyProof.Rows.LCg PyProof.Rows.LCt
variable {prog : Program} {w : World} {A : Around} {h₀ : Heap} {L : Addr} {m : Str → Option Value} {env : Env}
theorem srcB_nt {ct elt : Expr} {x : Str} {scope : Scope} {cl : List (Str × Addr)} {Fin : Shared → List Value → List (Addr × Obj) → Prop} {s₁ : Shared} {b : Array UInt8} {t : Tok} {ks : List Int} {news : List (Addr × Obj)}
    (hh : A.handled = none) (F : Fr h₀ L s₁.heap m) (N : News h₀ L s₁.heap news) (hk : KBw.bInts b = ks) (hsz : ks.length ≤ sizeLine)
    (fin : ∀ g ys, IntsAre ys (notTrail ks) → Fin { s₁ with heap := g } ys news)
    (turn : ∀ (g : Heap) (i : Nat) (k : Int) (u : Tok) (ys : List Value), ks[i]? = some k → IntsAre ys (notTrail (ks.take i)) → ∀ I oI C oC D m₂ h tk (E' : Value → Shared → Prop), NsObj oC m₂ → m₂ x = some (.int k u) → Fr h₀ L h m → News h₀ L h ((I, oI) :: (C, oC) :: (D, lst ys) :: news) → Off3 I C D news → ((@Ne Nat I C) ∧ (@Ne Nat I D) ∧ (@Ne Nat C D)) →
      wpAny (model prog w) A (isTrue ct (compEnvC scope cl C env) (eval ct (compEnvC scope cl C env))) (fun ok s' => if ok = true then
        wpAny (model prog w) A (eval elt (compEnvC scope cl C env)) (CompEnd h₀ L m { s₁ with heap := h, toks := tk } I oI C oC D (lst ys) (fun _ => True) (fun y news' => news' = news ∧ IntsAre (ys ++ [y]) (notTrail (ks.take (i + 1))))) E' s'
        else CompEnd h₀ L m { s₁ with heap := h, toks := tk } I oI C oC D (lst ys) (fun _ => True) (fun _ news' => news' = news ∧ IntsAre ys (notTrail (ks.take (i + 1)))) Value.none s') E' { s₁ with heap := h, toks := tk }) :
    SrcB prog w A h₀ L m env ct elt x scope cl Fin (.bytes b t) s₁ := by
  subst hk
  refine ⟨b, t, news, rfl, hh, F, N, by rw [← KBw.ints_length]; exact hsz, ?_⟩
  rintro _ ⟨g, rfl⟩
  refine restT_ind (fun i ys news' => news' = news ∧ IntsAre ys (notTrail ((KBw.bInts b).take i))) ⟨rfl, .nil⟩ ?_ ?_
  · rintro ys _ ⟨rfl, hi⟩
    rw [← KBw.ints_length, List.take_length] at hi
    exact fin _ _ hi
  · rintro i ys _ hi ⟨rfl, hys⟩ v I oI C oC D m₂ h tk E' ⟨k, u, hk, rfl⟩ hC hx F N off ne
    exact turn g i k u ys hk hys I oI C oC D m₂ h tk E' hC hx F N off ne
end
theorem unrEnd_of {h₀ : Heap} {L I : Addr} {it : Obj} {rest : (Str → Option Value) → List (Addr × Obj) → Prop} {s₁ : Shared} {h' : Heap} {tk : Nat} {m' : Str → Option Value} {news' : List (Addr × Obj)}
    (F : Fr h₀ L h' m') (N : News h₀ L h' ((I, it) :: news')) (off : ∀ p ∈ news', p.1 < I) (r : rest m' news') : UnrEnd h₀ L s₁ I it rest { s₁ with heap := h', toks := tk } :=
  ⟨h', tk, m', news', rfl, F, N, fun p hp => Nat.ne_of_lt (off p hp), r⟩

theorem sign1 (w : World) (mean) (mg mb) (b : Array UInt8) (k0 : Int)
   (hb : KBw.bInts b = [k0]) (t : Tok) :
    Con 0 w mean mg mb 144 [.bytes b t] [] (fun v _ => OptInt (sgn [k0]) v) := by
  w_top off
  k_with_none
  k_with "ktr_enter" => (refine' code_defG ?k1 ?k2 ?k3 ?k4 ?k5 ?kA ?kF ?kK ?k6 ?k7 ?k8 ?k9 ?kB ?_ ?c2 ?c3 ?c4 ?c5; (case kA => exact rfl); (case kF => exact rfl); (case kK => assumption); (case k1 => k_asm); (case k2 => k_asm); (case k3 => k_asm); (case k4 => k_asm); (case k5 => k_asm); (case k6 => k_is); (case k7 => k_is); (case k8 => ktr_room); (case k9 => exact BindsTo.of_eq rfl); (case c5 => decide); (case kB => exact locs rfl); (case c2 => exact rfl); (case c3 => exact rfl); (case c4 => exact rfl); k_whole; intro g' L' h' FG' F' N' B' X' T' kG'; (try dsimp only); (try k_fold))
  k_with "call builtin:len" => ((with_reducible show wpAny _ _ (call (Value.builtin "len") [Value.bytes _ _]) _ _ _); k_dflt (first
  | (refine len_lit 2 (by with_reducible assumption) (by exact rfl) (by decide) ?_; intro _ _; try dsimp only)
  | (refine len_lit 1 (by with_reducible assumption) (by exact rfl) (by decide) ?_; intro _ _; try dsimp only)
  | (refine len_lit 3 (by with_reducible assumption) (by exact rfl) (by decide) ?_; intro _ _; try dsimp only)
  | (refine len_lit 4 (by with_reducible assumption) (by exact rfl) (by decide) ?_; intro _ _; try dsimp only)))
  k_with "subscriptTail" => ((with_reducible show wpAny _ _ (subscriptTail _ _ (Value.bytes _ _) (Value.int _ _)) _ _ _); k_dflt (refine item_lit (by with_reducible assumption) (by exact Nat.le_of_ble_eq_true rfl) (by decide) (by exact rfl) ?_); intro _ _; (try dsimp only))
  k_with "subscriptTail" => ((with_reducible show wpAny _ _ (subscriptTail _ (Expr.Slice _ _ none _) (Value.bytes _ _) (Value.ref _)) _ _ _); (with_reducible rename Fr _ _ _ _ => F'); (with_reducible rename News _ _ _ _ => N'); k_dflt (refine slice_lit (s := ⟨_, _, _, _, _⟩) F' N' (by with_reducible assumption) (by constructor) (by constructor) (by exact Nat.le_of_ble_eq_true rfl) (by exact slice1 _ _) ?_); intro _ _ _ _ F' N' hbs; (try dsimp only))
  k_with "eval ListComp" => (k_dflt (refine ListComp_B (F₀ := by k_asm) (by with_unfolding_all rfl) (by decide) (by rfl) (by decide) (by rfl) ?_))
  k_with "execs cons" => ((try dsimp only); (with_reducible refine execs_gen ?_); intro tk9; (with_reducible refine wpAny_execs_cons ?_); (try dsimp only))
  k_with "SrcB" => ((with_reducible rename News _ _ _ _ => N'); (with_reducible rename (KBw.bInts _ = _) => hbs); k_dflt (refine srcB_nt (by exact rfl) (by k_asm) N' hbs (by exact Nat.le_of_ble_eq_true rfl) ?_ ?_); (rotate_left; intro g9 i9 k9 u9 ys9 hk9 hys9 I9 oI9 C9 oC9 D9 m9 h9 tk9 E9 hC9 hx9 F9 N9 off9 ne9; rotate_left; intro g9 ys9 hys9))
  k_with "CompEnd" => (refine ⟨_, _, _, rfl, by k_asm, by with_reducible assumption, by assumption, True.intro, rfl, ?_⟩; first | exact nt_skip (by assumption) (by assumption) (by assumption) | exact nt_take (by assumption) (by assumption) (by assumption))
  k_with "compareOp NotEq ref ref" => (k_dflt (refine PySem.W.ke_ne_ints (News.isList (by k_asm) (by k_mem)) (News.isList (by k_asm) (by k_mem)) (by first | assumption | exact IntsAre.nil) (by first | assumption | exact IntsAre.nil) (by ktr_units) ?_); (try dsimp only))
  k_with "binaryOp Sub int int" => (refine sub_int ?_; simp only [Int.reduceSub])
  k_with "binaryOp Add int int" => (refine add_int ?_; simp only [Int.reduceAdd])
  k_with "exec For Name Subscript cons nil" => ((rename Fr _ _ _ _ => lF'); (with_unfolding_all refine' For_invVF lF' ?k1 ?k2 ?_; (case k1 => exact rfl); (case k2 => exact rfl); k_whole))
  k_with "pyIter bytes" => ((with_reducible rename News _ _ _ _ => N'); (rename Fr _ _ _ _ => lF'); (with_reducible rename (KBw.bInts _ = _) => hbs); (with_unfolding_all refine iter_bytesUnr (by rfl) lF' N' hbs ?_); intro i' l1)
  k_with "UnrEnd" => (k_dflt (refine unrEnd_of (by k_asm) (by k_asm) (by assumption) ?_))
  unfold Con
  k_fill
  intro dp un gd cn cs a ccd cl outer A₀ base h₀ L m s Q E B F X N T hk hd hu hret
  refine wpAny_call ?_
  k_dflt ktr_enter
  repeat' (first
    | (refine con_end (made := []) hret (by assumption) (by assumption) (by assumption) (by assumption) (by assumption) (fun p hp => nomatch hp) ?_; first | exact optI (if_pos (by assumption)) | exact optN (if_neg (by assumption)))
    | (k_unfold; (try dsimp only)) | walk1 | (dsimp only; walk1) | (leave1; walk_say "STEP leave1"; try dsimp only) | fail "no step")
theorem sign2 (w : World) (mean) (mg mb) (b : Array UInt8) (k0 k1 : Int)
   (hb : KBw.bInts b = [k0, k1]) (t : Tok) :
    Con 0 w mean mg mb 144 [.bytes b t] [] (fun v _ => OptInt (sgn [k0, k1]) v) := by
  w_top off
  k_with_none
  k_with "ktr_enter" => (refine' code_defG ?k1 ?k2 ?k3 ?k4 ?k5 ?kA ?kF ?kK ?k6 ?k7 ?k8 ?k9 ?kB ?_ ?c2 ?c3 ?c4 ?c5; (case kA => exact rfl); (case kF => exact rfl); (case kK => assumption); (case k1 => k_asm); (case k2 => k_asm); (case k3 => k_asm); (case k4 => k_asm); (case k5 => k_asm); (case k6 => k_is); (case k7 => k_is); (case k8 => ktr_room); (case k9 => exact BindsTo.of_eq rfl); (case c5 => decide); (case kB => exact locs rfl); (case c2 => exact rfl); (case c3 => exact rfl); (case c4 => exact rfl); k_whole; intro g' L' h' FG' F' N' B' X' T' kG'; (try dsimp only); (try k_fold))
  k_with "call builtin:len" => ((with_reducible show wpAny _ _ (call (Value.builtin "len") [Value.bytes _ _]) _ _ _); k_dflt (first
  | (refine len_lit 2 (by with_reducible assumption) (by exact rfl) (by decide) ?_; intro _ _; try dsimp only)
  | (refine len_lit 1 (by with_reducible assumption) (by exact rfl) (by decide) ?_; intro _ _; try dsimp only)
  | (refine len_lit 3 (by with_reducible assumption) (by exact rfl) (by decide) ?_; intro _ _; try dsimp only)
  | (refine len_lit 4 (by with_reducible assumption) (by exact rfl) (by decide) ?_; intro _ _; try dsimp only)))
  k_with "subscriptTail" => ((with_reducible show wpAny _ _ (subscriptTail _ _ (Value.bytes _ _) (Value.int _ _)) _ _ _); k_dflt (refine item_lit (by with_reducible assumption) (by exact Nat.le_of_ble_eq_true rfl) (by decide) (by exact rfl) ?_); intro _ _; (try dsimp only))
  k_with "subscriptTail" => ((with_reducible show wpAny _ _ (subscriptTail _ (Expr.Slice _ _ none _) (Value.bytes _ _) (Value.ref _)) _ _ _); (with_reducible rename Fr _ _ _ _ => F'); (with_reducible rename News _ _ _ _ => N'); k_dflt (refine slice_lit (s := ⟨_, _, _, _, _⟩) F' N' (by with_reducible assumption) (by constructor) (by constructor) (by exact Nat.le_of_ble_eq_true rfl) (by exact slice1 _ _) ?_); intro _ _ _ _ F' N' hbs; (try dsimp only))
  k_with "eval ListComp" => (k_dflt (refine ListComp_B (F₀ := by k_asm) (by with_unfolding_all rfl) (by decide) (by rfl) (by decide) (by rfl) ?_))
  k_with "execs cons" => ((try dsimp only); (with_reducible refine execs_gen ?_); intro tk9; (with_reducible refine wpAny_execs_cons ?_); (try dsimp only))
  k_with "SrcB" => ((with_reducible rename News _ _ _ _ => N'); (with_reducible rename (KBw.bInts _ = _) => hbs); k_dflt (refine srcB_nt (by exact rfl) (by k_asm) N' hbs (by exact Nat.le_of_ble_eq_true rfl) ?_ ?_); (rotate_left; intro g9 i9 k9 u9 ys9 hk9 hys9 I9 oI9 C9 oC9 D9 m9 h9 tk9 E9 hC9 hx9 F9 N9 off9 ne9; rotate_left; intro g9 ys9 hys9))
  k_with "CompEnd" => (refine ⟨_, _, _, rfl, by k_asm, by with_reducible assumption, by assumption, True.intro, rfl, ?_⟩; first | exact nt_skip (by assumption) (by assumption) (by assumption) | exact nt_take (by assumption) (by assumption) (by assumption))
  k_with "compareOp NotEq ref ref" => (k_dflt (refine PySem.W.ke_ne_ints (News.isList (by k_asm) (by k_mem)) (News.isList (by k_asm) (by k_mem)) (by first | assumption | exact IntsAre.nil) (by first | assumption | exact IntsAre.nil) (by ktr_units) ?_); (try dsimp only))
  k_with "binaryOp Sub int int" => (refine sub_int ?_; simp only [Int.reduceSub])
  k_with "binaryOp Add int int" => (refine add_int ?_; simp only [Int.reduceAdd])
  k_with "exec For Name Subscript cons nil" => ((rename Fr _ _ _ _ => lF'); (with_unfolding_all refine' For_invVF lF' ?k1 ?k2 ?_; (case k1 => exact rfl); (case k2 => exact rfl); k_whole))
  k_with "pyIter bytes" => ((with_reducible rename News _ _ _ _ => N'); (rename Fr _ _ _ _ => lF'); (with_reducible rename (KBw.bInts _ = _) => hbs); (with_unfolding_all refine iter_bytesUnr (by rfl) lF' N' hbs ?_); intro i' l1)
  k_with "UnrEnd" => (k_dflt (refine unrEnd_of (by k_asm) (by k_asm) (by assumption) ?_))
  unfold Con
  k_fill
  intro dp un gd cn cs a ccd cl outer A₀ base h₀ L m s Q E B F X N T hk hd hu hret
  refine wpAny_call ?_
  k_dflt ktr_enter
  repeat' (first
    | (refine con_end (made := []) hret (by assumption) (by assumption) (by assumption) (by assumption) (by assumption) (fun p hp => nomatch hp) ?_; first | exact optN (s2_n1 (by assumption)) | exact optN (s2_n2 (by assumption)) | exact optN (s2_n3 (by assumption)) | exact optN (s2_n4 (by assumption)) | exact optI (s2_y (by assumption) (by assumption) (by assumption)) | exact optI (s2_y (by assumption) (by assumption) (by assumption)) | exact optN (s2_n5 (by assumption)))
    | (k_unfold; (try dsimp only)) | walk1 | (dsimp only; walk1) | (leave1; walk_say "STEP leave1"; try dsimp only) | fail "no step")
theorem sign3 (w : World) (mean) (mg mb) (b : Array UInt8) (k0 k1 k2 : Int)
   (hb : KBw.bInts b = [k0, k1, k2]) (t : Tok) :
    Con 0 w mean mg mb 144 [.bytes b t] [] (fun v _ => OptInt (sgn [k0, k1, k2]) v) := by
  w_top off
  k_with_none
  k_with "ktr_enter" => (refine' code_defG ?k1 ?k2 ?k3 ?k4 ?k5 ?kA ?kF ?kK ?k6 ?k7 ?k8 ?k9 ?kB ?_ ?c2 ?c3 ?c4 ?c5; (case kA => exact rfl); (case kF => exact rfl); (case kK => assumption); (case k1 => k_asm); (case k2 => k_asm); (case k3 => k_asm); (case k4 => k_asm); (case k5 => k_asm); (case k6 => k_is); (case k7 => k_is); (case k8 => ktr_room); (case k9 => exact BindsTo.of_eq rfl); (case c5 => decide); (case kB => exact locs rfl); (case c2 => exact rfl); (case c3 => exact rfl); (case c4 => exact rfl); k_whole; intro g' L' h' FG' F' N' B' X' T' kG'; (try dsimp only); (try k_fold))
  k_with "call builtin:len" => ((with_reducible show wpAny _ _ (call (Value.builtin "len") [Value.bytes _ _]) _ _ _); k_dflt (first
  | (refine len_lit 2 (by with_reducible assumption) (by exact rfl) (by decide) ?_; intro _ _; try dsimp only)
  | (refine len_lit 1 (by with_reducible assumption) (by exact rfl) (by decide) ?_; intro _ _; try dsimp only)
  | (refine len_lit 3 (by with_reducible assumption) (by exact rfl) (by decide) ?_; intro _ _; try dsimp only)
  | (refine len_lit 4 (by with_reducible assumption) (by exact rfl) (by decide) ?_; intro _ _; try dsimp only)))
  k_with "subscriptTail" => ((with_reducible show wpAny _ _ (subscriptTail _ _ (Value.bytes _ _) (Value.int _ _)) _ _ _); k_dflt (refine item_lit (by with_reducible assumption) (by exact Nat.le_of_ble_eq_true rfl) (by decide) (by exact rfl) ?_); intro _ _; (try dsimp only))
  k_with "subscriptTail" => ((with_reducible show wpAny _ _ (subscriptTail _ (Expr.Slice _ _ none _) (Value.bytes _ _) (Value.ref _)) _ _ _); (with_reducible rename Fr _ _ _ _ => F'); (with_reducible rename News _ _ _ _ => N'); k_dflt (refine slice_lit (s := ⟨_, _, _, _, _⟩) F' N' (by with_reducible assumption) (by constructor) (by constructor) (by exact Nat.le_of_ble_eq_true rfl) (by exact slice1 _ _) ?_); intro _ _ _ _ F' N' hbs; (try dsimp only))
  k_with "eval ListComp" => (k_dflt (refine ListComp_B (F₀ := by k_asm) (by with_unfolding_all rfl) (by decide) (by rfl) (by decide) (by rfl) ?_))
  k_with "execs cons" => ((try dsimp only); (with_reducible refine execs_gen ?_); intro tk9; (with_reducible refine wpAny_execs_cons ?_); (try dsimp only))
  k_with "SrcB" => ((with_reducible rename News _ _ _ _ => N'); (with_reducible rename (KBw.bInts _ = _) => hbs); k_dflt (refine srcB_nt (by exact rfl) (by k_asm) N' hbs (by exact Nat.le_of_ble_eq_true rfl) ?_ ?_); (rotate_left; intro g9 i9 k9 u9 ys9 hk9 hys9 I9 oI9 C9 oC9 D9 m9 h9 tk9 E9 hC9 hx9 F9 N9 off9 ne9; rotate_left; intro g9 ys9 hys9))
  k_with "CompEnd" => (refine ⟨_, _, _, rfl, by k_asm, by with_reducible assumption, by assumption, True.intro, rfl, ?_⟩; first | exact nt_skip (by assumption) (by assumption) (by assumption) | exact nt_take (by assumption) (by assumption) (by assumption))
  k_with "compareOp NotEq ref ref" => (k_dflt (refine PySem.W.ke_ne_ints (News.isList (by k_asm) (by k_mem)) (News.isList (by k_asm) (by k_mem)) (by first | assumption | exact IntsAre.nil) (by first | assumption | exact IntsAre.nil) (by ktr_units) ?_); (try dsimp only))
  k_with "binaryOp Sub int int" => (refine sub_int ?_; simp only [Int.reduceSub])
  k_with "binaryOp Add int int" => (refine add_int ?_; simp only [Int.reduceAdd])
  k_with "exec For Name Subscript cons nil" => ((rename Fr _ _ _ _ => lF'); (with_unfolding_all refine' For_invVF lF' ?k1 ?k2 ?_; (case k1 => exact rfl); (case k2 => exact rfl); k_whole))
  k_with "pyIter bytes" => ((with_reducible rename News _ _ _ _ => N'); (rename Fr _ _ _ _ => lF'); (with_reducible rename (KBw.bInts _ = _) => hbs); (with_unfolding_all refine iter_bytesUnr (by rfl) lF' N' hbs ?_); intro i' l1)
  k_with "UnrEnd" => (k_dflt (refine unrEnd_of (by k_asm) (by k_asm) (by assumption) ?_))
  unfold Con
  k_fill
  intro dp un gd cn cs a ccd cl outer A₀ base h₀ L m s Q E B F X N T hk hd hu hret
  refine wpAny_call ?_
  k_dflt ktr_enter
  repeat' (first
    | (refine con_end (made := []) hret (by assumption) (by assumption) (by assumption) (by assumption) (by assumption) (fun p hp => nomatch hp) ?_; first | exact optN (s3_n1 (by assumption)) | exact optN (s3_n2 (by assumption)) | exact optN (s3_n3 (by assumption)) | exact optN (s3_n4 (by assumption)) | exact optI (s3_y (by assumption) (by assumption) (by assumption) (fun x => absurd x.2 (by assumption))) | exact optI (s3_y (by assumption) (by assumption) (by assumption) (fun x => absurd x.1 (by assumption))) | exact optN (s3_n5 (by assumption) (by assumption)))
    | (k_unfold; (try dsimp only)) | walk1 | (dsimp only; walk1) | (leave1; walk_say "STEP leave1"; try dsimp only) | fail "no step")
theorem sign4 (w : World) (mean) (mg mb) (b : Array UInt8) (k0 k1 k2 k3 : Int)
   (hb : KBw.bInts b = [k0, k1, k2, k3]) (t : Tok) :
    Con 0 w mean mg mb 144 [.bytes b t] [] (fun v _ => OptInt (sgn [k0, k1, k2, k3]) v) := by
  w_top off
  k_with_none
  k_with "ktr_enter" => (refine' code_defG ?k1 ?k2 ?k3 ?k4 ?k5 ?kA ?kF ?kK ?k6 ?k7 ?k8 ?k9 ?kB ?_ ?c2 ?c3 ?c4 ?c5; (case kA => exact rfl); (case kF => exact rfl); (case kK => assumption); (case k1 => k_asm); (case k2 => k_asm); (case k3 => k_asm); (case k4 => k_asm); (case k5 => k_asm); (case k6 => k_is); (case k7 => k_is); (case k8 => ktr_room); (case k9 => exact BindsTo.of_eq rfl); (case c5 => decide); (case kB => exact locs rfl); (case c2 => exact rfl); (case c3 => exact rfl); (case c4 => exact rfl); k_whole; intro g' L' h' FG' F' N' B' X' T' kG'; (try dsimp only); (try k_fold))
  k_with "call builtin:len" => ((with_reducible show wpAny _ _ (call (Value.builtin "len") [Value.bytes _ _]) _ _ _); k_dflt (first
  | (refine len_lit 2 (by with_reducible assumption) (by exact rfl) (by decide) ?_; intro _ _; try dsimp only)
  | (refine len_lit 1 (by with_reducible assumption) (by exact rfl) (by decide) ?_; intro _ _; try dsimp only)
  | (refine len_lit 3 (by with_reducible assumption) (by exact rfl) (by decide) ?_; intro _ _; try dsimp only)
  | (refine len_lit 4 (by with_reducible assumption) (by exact rfl) (by decide) ?_; intro _ _; try dsimp only)))
  k_with "subscriptTail" => ((with_reducible show wpAny _ _ (subscriptTail _ _ (Value.bytes _ _) (Value.int _ _)) _ _ _); k_dflt (refine item_lit (by with_reducible assumption) (by exact Nat.le_of_ble_eq_true rfl) (by decide) (by exact rfl) ?_); intro _ _; (try dsimp only))
  k_with "subscriptTail" => ((with_reducible show wpAny _ _ (subscriptTail _ (Expr.Slice _ _ none _) (Value.bytes _ _) (Value.ref _)) _ _ _); (with_reducible rename Fr _ _ _ _ => F'); (with_reducible rename News _ _ _ _ => N'); k_dflt (refine slice_lit (s := ⟨_, _, _, _, _⟩) F' N' (by with_reducible assumption) (by constructor) (by constructor) (by exact Nat.le_of_ble_eq_true rfl) (by exact slice1 _ _) ?_); intro _ _ _ _ F' N' hbs; (try dsimp only))
  k_with "eval ListComp" => (k_dflt (refine ListComp_B (F₀ := by k_asm) (by with_unfolding_all rfl) (by decide) (by rfl) (by decide) (by rfl) ?_))
  k_with "execs cons" => ((try dsimp only); (with_reducible refine execs_gen ?_); intro tk9; (with_reducible refine wpAny_execs_cons ?_); (try dsimp only))
  k_with "SrcB" => ((with_reducible rename News _ _ _ _ => N'); (with_reducible rename (KBw.bInts _ = _) => hbs); k_dflt (refine srcB_nt (by exact rfl) (by k_asm) N' hbs (by exact Nat.le_of_ble_eq_true rfl) ?_ ?_); (rotate_left; intro g9 i9 k9 u9 ys9 hk9 hys9 I9 oI9 C9 oC9 D9 m9 h9 tk9 E9 hC9 hx9 F9 N9 off9 ne9; rotate_left; intro g9 ys9 hys9))
  k_with "CompEnd" => (refine ⟨_, _, _, rfl, by k_asm, by with_reducible assumption, by assumption, True.intro, rfl, ?_⟩; first | exact nt_skip (by assumption) (by assumption) (by assumption) | exact nt_take (by assumption) (by assumption) (by assumption))
  k_with "compareOp NotEq ref ref" => (k_dflt (refine PySem.W.ke_ne_ints (News.isList (by k_asm) (by k_mem)) (News.isList (by k_asm) (by k_mem)) (by first | assumption | exact IntsAre.nil) (by first | assumption | exact IntsAre.nil) (by ktr_units) ?_); (try dsimp only))
  k_with "binaryOp Sub int int" => (refine sub_int ?_; simp only [Int.reduceSub])
  k_with "binaryOp Add int int" => (refine add_int ?_; simp only [Int.reduceAdd])
  k_with "exec For Name Subscript cons nil" => ((rename Fr _ _ _ _ => lF'); (with_unfolding_all refine' For_invVF lF' ?k1 ?k2 ?_; (case k1 => exact rfl); (case k2 => exact rfl); k_whole))
  k_with "pyIter bytes" => ((with_reducible rename News _ _ _ _ => N'); (rename Fr _ _ _ _ => lF'); (with_reducible rename (KBw.bInts _ = _) => hbs); (with_unfolding_all refine iter_bytesUnr (by rfl) lF' N' hbs ?_); intro i' l1)
  k_with "UnrEnd" => (k_dflt (refine unrEnd_of (by k_asm) (by k_asm) (by assumption) ?_))
  unfold Con
  k_fill
  intro dp un gd cn cs a ccd cl outer A₀ base h₀ L m s Q E B F X N T hk hd hu hret
  refine wpAny_call ?_
  k_dflt ktr_enter
  repeat' (first
    | (refine con_end (made := []) hret (by assumption) (by assumption) (by assumption) (by assumption) (by assumption) (fun p hp => nomatch hp) ?_; first | exact optN (s4_n1 (by assumption)) | exact optN (s4_n2 (by assumption)) | exact optN (s4_n3 (by assumption)) | exact optN (s4_n4 (by assumption)) | exact optI (s4_y (by assumption) (by assumption) (by assumption) (by assumption)) | exact optI (s4_y (by assumption) (by assumption) (by assumption) (by assumption)) | exact optN (s4_n5 (by assumption) (by assumption)))
    | (k_unfold; (try dsimp only)) | walk1 | (dsimp only; walk1) | (leave1; walk_say "STEP leave1"; try dsimp only) | fail "no step")
theorem sign_any (w : World) (mean) (mg mb) (b : Array UInt8) (t : Tok) : ∀ ks : List Int, 1 ≤ ks.length → ks.length ≤ 4 → KBw.bInts b = ks → Con 0 w mean mg mb 144 [.bytes b t] [] (fun v _ => OptInt (sgn ks) v)
  | [_], _, _, hb => sign1 w mean mg mb b _ hb t
  | [_, _], _, _, hb => sign2 w mean mg mb b _ _ hb t
  | [_, _, _], _, _, hb => sign3 w mean mg mb b _ _ _ hb t
  | [_, _, _, _], _, _, hb => sign4 w mean mg mb b _ _ _ _ hb t
  | [], h, _, _ => absurd h (by decide)
  | _ :: _ :: _ :: _ :: _ :: _, _, h, _ => absurd h (by simp only [List.length_cons]; omega)
end
/-! CanA -/
section
open PySem PySem.W PyProof.Rows
set_option maxRecDepth 100000
set_option maxHeartbeats 8000000
noncomputable def third : List Stmt → Option Stmt
  | [] => none
  | [_] => none
  | [_, _] => none
  | [a, _, _] => some a
  | _ :: a :: b :: c :: r => third (a :: b :: c :: r)
noncomputable def fbody : Option Stmt → List Stmt
  | some (.FunctionDef _ _ b _ _ _ _ _ _ _) => b
  | some (.For _ _ b _ _) => b
  | some (.If _ b _ _) => b
  | _ => []
noncomputable def fscope : Option Stmt → Scope
  | some (.FunctionDef _ _ _ _ _ _ s _ _ _) => s
  | _ => default
noncomputable def canScope : Scope := fscope (third PySem.Challenge.pw_np0270_01.main.body)
noncomputable def canBody : List Stmt := fbody (third PySem.Challenge.pw_np0270_01.main.body)
noncomputable def canFor : List Stmt := fbody (fbody canBody.head?).head?
noncomputable def canIn : List Stmt := fbody canFor.head?
noncomputable abbrev canEnv (L fa : Addr) (cd : Value) : Env := envOf (Str.ofString "_law_can_go_on") canScope L fa cd
theorem can_len : canIn.length = 2 ∧ canFor.length = 1 := by decide
/-- the octets with what could follow -/
noncomputable def wholeL (ks : List Int) (z : Int) : List Int := if ks.length = 1 then ks ++ [z] ++ [128, 128, 128] else ks ++ [128, 128, 128]
section
variable {ks : List Int} {z n x : Int}
theorem wh_some1 (h : ks.length = 1) (e : sgn ((ks ++ [z] ++ [128, 128, 128]).take n.toNat) = some x) : sgn ((wholeL ks z).take n.toNat) = some x := by unfold wholeL; rw [if_pos h]; exact e
theorem wh_some2 (h : ¬ ks.length = 1) (e : sgn ((ks ++ [128, 128, 128]).take n.toNat) = some x) : sgn ((wholeL ks z).take n.toNat) = some x := by unfold wholeL; rw [if_neg h]; exact e
theorem wh_none1 (h : ks.length = 1) (e : sgn ((ks ++ [z] ++ [128, 128, 128]).take n.toNat) = none) : sgn ((wholeL ks z).take n.toNat) = none := by unfold wholeL; rw [if_pos h]; exact e
theorem wh_none2 (h : ¬ ks.length = 1) (e : sgn ((ks ++ [128, 128, 128]).take n.toNat) = none) : sgn ((wholeL ks z).take n.toNat) = none := by unfold wholeL; rw [if_neg h]; exact e
theorem upto_n {ks : List Int} {low : Int} (h0 : 0 ≤ low) (h1 : low ≤ (ks.length : Int)) : (ks.drop ((none : Option Int).elim 0 (clipAt ks.length))).take ((some low).elim ks.length (clipAt ks.length) - (none : Option Int).elim 0 (clipAt ks.length)) = ks.take low.toNat := by
  obtain ⟨n, rfl⟩ := Int.eq_ofNat_of_zero_le h0
  have := slice_to n ks (by omega)
  rw [Int.toNat_natCast]
  exact this
theorem n_drop1 {h₀ h : Heap} {L : Addr} {a : Addr × Obj} {r : List (Addr × Obj)} (N : News h₀ L h (a :: r)) : News h₀ L h r := fun p hp => N p (.tail _ hp)
theorem n_drop2 {h₀ h : Heap} {L : Addr} {a b : Addr × Obj} {r : List (Addr × Obj)} (N : News h₀ L h (a :: b :: r)) : News h₀ L h r := fun p hp => N p (.tail _ (.tail _ hp))
theorem n_drop3 {h₀ h : Heap} {L : Addr} {a b c : Addr × Obj} {r : List (Addr × Obj)} (N : News h₀ L h (a :: b :: c :: r)) : News h₀ L h r := fun p hp => N p (.tail _ (.tail _ (.tail _ hp)))
theorem fr_kst9 {h₀ h : Heap} {L : Addr} {m : Str → Option Value} {ps : List (Str × Value)} (hk : ∀ p ∈ ps, m p.1 = some p.2) (F : Fr h₀ L h m) : Fr h₀ L h (kstB m ps) := by
  have e : kstB m ps = m := by
    funext y
    exact kstB_eq hk fun _ => rfl
  rw [e]; exact F
end
section
variable {ks : List Int} {n : Int}
theorem none3 (h1 : sgn ((wholeL ks 128).take n.toNat) = none) (h2 : sgn ((wholeL ks 144).take n.toNat) = none) (h3 : sgn ((wholeL ks 160).take n.toNat) = none) : ∀ z, (z = 128 ∨ z = 144 ∨ z = 160) → sgn ((wholeL ks z).take n.toNat) = none := by
  rintro z (rfl | rfl | rfl)
  · exact h1
  · exact h2
  · exact h3
end
section
variable {h₀ : Heap} {L : Addr} {s₁ : Shared} {its : List (Addr × Obj)} {keep : List (Addr × Obj)} {rest : (Str → Option Value) → List (Addr × Obj) → Prop} {h' : Heap} {tk : Nat} {m' : Str → Option Value}
theorem endW_tl {p0 : Addr × Obj} {news' : List (Addr × Obj)} {L9 : Addr} (e : L9 = L) (N : News h₀ L9 h' (p0 :: news')) (F : Fr h₀ L9 h' m') (hI : SubL its (p0 :: news')) (sub : SubL news' (p0 :: news')) (off : OffW its news') (hk : SubL keep news') (r : rest m' news') : UnrEndW h₀ L s₁ its (fun m' n' => SubL keep n' ∧ rest m' n') { s₁ with heap := h', toks := tk } :=
  by subst e; exact UnrEndW.intro F N news' hI sub off ⟨hk, r⟩
end
theorem can_yes : ∀ {ks : List Int} {n z x : Int}, 1 ≤ ks.length → ks.length ≤ 3 → (n = 2 ∨ n = 3 ∨ n = 4) → (ks.length : Int) < n → (z = 128 ∨ z = 144 ∨ z = 160) → sgn ((wholeL ks z).take n.toNat) = some x → canb ks = true
  | [_], _, _, _, _, _, hn, _, hz, e => by
    rcases hn with rfl | rfl | rfl
    · exact can1_t2 e hz
    · exact can1_t3 e hz
    · exact can1_t4 e hz
  | [_, _], _, _, _, _, _, hn, hl, _, e => by
    rcases hn with rfl | rfl | rfl
    · exact absurd hl (by simp)
    · exact can2_t3 e
    · exact can2_t4 e
  | [_, _, _], _, _, _, _, _, hn, hl, _, e => by
    rcases hn with rfl | rfl | rfl
    · exact absurd hl (by simp)
    · exact absurd hl (by simp)
    · exact can3_t e
  | [], _, _, _, h, _, _, _, _, _ => absurd h (by decide)
  | _ :: _ :: _ :: _ :: _, _, _, _, _, h, _, _, _, _ => absurd h (by simp only [List.length_cons]; omega)
noncomputable abbrev NoneAt (ks : List Int) (n : Int) : Prop := ∀ z, (z = 128 ∨ z = 144 ∨ z = 160) → sgn ((wholeL ks z).take n.toNat) = none
theorem can_no : ∀ {ks : List Int}, 1 ≤ ks.length → ks.length ≤ 3 → (ks.length < 2 → NoneAt ks 2) → (ks.length < 3 → NoneAt ks 3) → NoneAt ks 4 → canb ks = false
  | [_], _, _, h2, h3, h4 => can1_f (h2 (by simp) 128 (.inl rfl)) (h3 (by simp) 128 (.inl rfl)) (h3 (by simp) 160 (.inr (.inr rfl))) (h4 128 (.inl rfl)) (h4 144 (.inr (.inl rfl)))
  | [_, _], _, _, _, h3, h4 => can2_f (h3 (by simp) 128 (.inl rfl)) (h4 128 (.inl rfl))
  | [_, _, _], _, _, _, _, h4 => can3_f (h4 128 (.inl rfl))
  | [], h, _, _, _, _ => absurd h (by decide)
  | _ :: _ :: _ :: _ :: _, _, h, _, _, _ => absurd h (by simp only [List.length_cons]; omega)
end
/-! CanI -/
section
open PySem PySem.W PyProof.Rows
set_option maxRecDepth 100000
set_option maxHeartbeats 8000000
theorem can_in {w : World} {mean : ExcName → Option Value} {mg mb : Str → Option Value} {dp un : Nat} {gd : Option (List Code)} {L fa : Addr} {cd : Value} {outer : List Env} {A₀ : Around} {base h₀ : Heap} {s : Shared} {Q : Flow → Shared → Prop} {E : Value → Shared → Prop}
    {u : Str → Option Value} {b : Array UInt8} {t t1 t2 : Tok} {ks : List Int} {n z : Int} {news : List (Addr × Obj)}
    (hb : KBw.bInts b = ks) (l1 : 1 ≤ ks.length) (l3 : ks.length ≤ 3) (n2 : 2 ≤ n) (n4 : n ≤ 4) (z0 : 0 ≤ z) (z1 : z < 256)
    (B : Below A₀ base outer h₀) (F : Fr h₀ L s.heap (kstB u [(Str.ofString "second", .int z t2), (Str.ofString "size", .int n t1), (Str.ofString "part", .bytes b t)])) (X : (hd.heap_39 w.params).In h₀)
    (N : News h₀ L s.heap news) (T : Top hd.view_39 (looseW hd.view_39 [Str.ofString "_law_menu", Str.ofString "_law_codes"]) mean mg mb h₀) (hd : dp + 4 < recursionLimit) (hu : un + 100 < cLine)
    (yes : ∀ (u' : Str → Option Value) h' tk' x, Fr h₀ L h' u' → News h₀ L h' news → sgn ((wholeL ks z).take n.toNat) = some x → Q (.ret (.bool true)) { s with heap := h', toks := tk' })
    (no : ∀ (u' : Str → Option Value) h' tk', Fr h₀ L h' (kstB u' [(Str.ofString "size", .int n t1), (Str.ofString "part", .bytes b t)]) → News h₀ L h' news → sgn ((wholeL ks z).take n.toNat) = none → Q .next { s with heap := h', toks := tk' }) :
    wpAny (model PySem.Challenge.rw_np0270_01.row.prog w) (ktrTop dp un gd (Str.ofString "_law_can_go_on") canScope L fa cd [] outer) (execs canIn (canEnv L fa cd)) Q E s := by
  w_top off
  k_with_none
  k_with "execs cons" => ((try dsimp only); (with_reducible refine execs_gen ?_); intro tk9; (with_reducible refine wpAny_execs_cons ?_); (try dsimp only))
  k_with "call builtin:len" => ((with_reducible show wpAny _ _ (call (Value.builtin "len") [Value.bytes _ _]) _ _ _); k_dflt (refine len_lit _ (by with_reducible assumption) rfl (by omega) ?_); (intro _ _); (try dsimp only))
  k_with "subscriptTail" => ((with_reducible show wpAny _ _ (subscriptTail _ (Expr.Slice _ _ none _) (Value.bytes _ _) (Value.ref _)) _ _ _); (with_reducible rename Fr _ _ _ _ => F'); (with_reducible rename News _ _ _ _ => N'); k_dflt (refine slice_lit (s := ⟨_, _, _, _, _⟩) F' N' (by with_reducible assumption) IsPart.none (IsPart.int _ _) (by (simp only [List.length_append, List.length_cons, List.length_nil]; omega)) (upto_n (by omega) (by (simp only [List.length_append, List.length_cons, List.length_nil]; omega))) ?_); (intro _ _ _ _ F' N' hbs); (try dsimp only))
  k_with "call type:bytes" => ((with_reducible show wpAny _ _ (call (Value.type "bytes") [Value.ref _]) _ _ _); k_dflt (refine' bytes_lit ?kbaF ?kbaN ?kbah ?kbal ?kbai ?kbar ?kban ?_; (case kbaF => k_asm); (case kbaN => k_asm); (case kbah => rfl); (case kbal => kba_isList); (case kbai => kba_listInts); (case kbar => first | (unfold KBa.In; decide) | (intro k9 hk9; rw [List.mem_singleton.mp hk9]; omega)); (case kban => exact Nat.le_of_ble_eq_true rfl)); (intro _ _ _ _ F' N' hbs); (try (replace hbs : KBw.bInts _ = [128, 128, 128] := hbs)); (try dsimp only))
  k_with "binaryOp Add bytes bytes" => ((with_reducible show wpAny _ _ (binaryOp Operator.Add (Value.bytes _ _) (Value.bytes _ _)) _ _ _); k_dflt (refine' add_lit ?b ?c ?z rfl ?_; (case b => with_reducible assumption); (case c => with_reducible assumption); (case z => (simp only [List.length_append, List.length_cons, List.length_nil]; omega))); (intro _ _ _ hbs); (try dsimp only))
  k_with "call ref" => ((with_reducible show wpAny _ _ (call (Value.ref 144) _) _ _ _); k_dflt (refine' con_pure (sign_any _ _ _ _ _ _ _ ?h1 ?h4 ?hb) ?B ?F ?X ?N ?T ?hk ?hd ?hu ?_; (case hb => with_reducible assumption); (case h1 => (simp only [List.length_take, List.length_append, List.length_cons, List.length_nil]; omega)); (case h4 => (simp only [List.length_take, List.length_append, List.length_cons, List.length_nil]; omega)); (case B => k_asm); (case F => k_asm); (case X => k_asm); (case N => k_asm); (case T => k_asm); (case hk => first | exact rfl | assumption); (case hd => omega); (case hu => omega)); intro v9 h9 tk9 F9 N9 keep9 hR9; clear keep9; rcases optInt_cases hR9 with ⟨e9, z9⟩ | ⟨c9, t9, e9, z9⟩ <;> subst z9 <;> clear hR9 <;> (try dsimp only))
  revert X
  k_fill
  intro X
  dsimp only [kstB] at F
  dsimp only [canEnv, canScope, canIn, canFor, canBody, fscope, fbody, third, List.head?, PySem.Challenge.pw_np0270_01]
  repeat' (first
      | (k_unfold; (try dsimp only)) | walk1 | (dsimp only; walk1) | (leave1; walk_say "STEP leave1"; try dsimp only)
      | ((with_reducible rename Fr _ _ _ _ => F9); (with_reducible rename News _ _ _ _ => N9); (with_reducible rename (sgn _ = _) => e8); first
        | exact yes _ _ _ _ F9 (n_drop3 N9) (wh_some1 (by omega) e8)
        | exact yes _ _ _ _ F9 (n_drop2 N9) (wh_some2 (by omega) e8)
        | exact no _ _ _ (fr_kst9 (by kst_all) F9) (n_drop3 N9) (wh_none1 (by omega) e8)
        | exact no _ _ _ (fr_kst9 (by kst_all) F9) (n_drop2 N9) (wh_none2 (by omega) e8))
      | fail "no step")
theorem can_in2 {w : World} {mean : ExcName → Option Value} {mg mb : Str → Option Value} {dp un : Nat} {gd : Option (List Code)} {L fa : Addr} {cd : Value} {outer : List Env} {A₀ : Around} {base h₀ : Heap} {s : Shared} {Q : Flow → Shared → Prop} {E : Value → Shared → Prop}
    {u : Str → Option Value} {b : Array UInt8} {t t1 t2 : Tok} {ks : List Int} {n z : Int} {news : List (Addr × Obj)}
    (hb : KBw.bInts b = ks) (l1 : 1 ≤ ks.length) (l3 : ks.length ≤ 3) (n2 : 2 ≤ n) (n4 : n ≤ 4) (z0 : 0 ≤ z) (z1 : z < 256)
    (B : Below A₀ base outer h₀) (F : Fr h₀ L s.heap u) (e1 : u (Str.ofString "second") = some (.int z t2)) (e2 : u (Str.ofString "size") = some (.int n t1)) (e3 : u (Str.ofString "part") = some (.bytes b t)) (X : (hd.heap_39 w.params).In h₀)
    (N : News h₀ L s.heap news) (T : Top hd.view_39 (looseW hd.view_39 [Str.ofString "_law_menu", Str.ofString "_law_codes"]) mean mg mb h₀) (hd : dp + 4 < recursionLimit) (hu : un + 100 < cLine)
    (yes : ∀ (u' : Str → Option Value) h' tk' x, Fr h₀ L h' u' → News h₀ L h' news → sgn ((wholeL ks z).take n.toNat) = some x → Q (.ret (.bool true)) { s with heap := h', toks := tk' })
    (no : ∀ (u' : Str → Option Value) h' tk', Fr h₀ L h' (kstB u' [(Str.ofString "size", .int n t1), (Str.ofString "part", .bytes b t)]) → News h₀ L h' news → sgn ((wholeL ks z).take n.toNat) = none → Q .next { s with heap := h', toks := tk' }) :
    wpAny (model PySem.Challenge.rw_np0270_01.row.prog w) (ktrTop dp un gd (Str.ofString "_law_can_go_on") canScope L fa cd [] outer) (execs canIn (canEnv L fa cd)) Q E s :=
  can_in hb l1 l3 n2 n4 z0 z1 B (fr_kst9 (List.forall_mem_cons.mpr ⟨e1, List.forall_mem_cons.mpr ⟨e2, List.forall_mem_cons.mpr ⟨e3, List.forall_mem_nil _⟩⟩⟩) F) X N T hd hu yes no
end
/-! CanF -/
section
open PySem PySem.W PyProof.Rows
set_option maxRecDepth 100000
set_option maxHeartbeats 8000000
theorem can_for {w : World} {mean : ExcName → Option Value} {mg mb : Str → Option Value} {dp un : Nat} {gd : Option (List Code)} {L fa : Addr} {cd : Value} {outer : List Env} {A₀ : Around} {base h₀ : Heap} {s : Shared} {Q : Flow → Shared → Prop}
    {u : Str → Option Value} {b : Array UInt8} {t t1 : Tok} {ks : List Int} {n : Int} {q0 q1 : Addr × Obj}
    (hb : KBw.bInts b = ks) (l1 : 1 ≤ ks.length) (l3 : ks.length ≤ 3) (n2 : 2 ≤ n) (n4 : n ≤ 4)
    (B : Below A₀ base outer h₀) (F : Fr h₀ L s.heap (kstB u [(Str.ofString "size", .int n t1), (Str.ofString "part", .bytes b t)])) (X : (hd.heap_39 w.params).In h₀)
    (N : News h₀ L s.heap [q0, q1]) (T : Top hd.view_39 (looseW hd.view_39 [Str.ofString "_law_menu", Str.ofString "_law_codes"]) mean mg mb h₀) (hd : dp + 4 < recursionLimit) (hu : un + 100 < cLine)
    (yes : ∀ (u' : Str → Option Value) h' tk' z x, Fr h₀ L h' u' → News h₀ L h' [q0, q1] → (z = 128 ∨ z = 144 ∨ z = 160) → sgn ((wholeL ks z).take n.toNat) = some x → Q (.ret (.bool true)) { s with heap := h', toks := tk' })
    (no : ∀ (u' : Str → Option Value) h' tk', Fr h₀ L h' (kstB u' [(Str.ofString "part", .bytes b t)]) → News h₀ L h' [q0, q1] → (∀ z, (z = 128 ∨ z = 144 ∨ z = 160) → sgn ((wholeL ks z).take n.toNat) = none) → Q .next { s with heap := h', toks := tk' }) :
    wpAny (model PySem.Challenge.rw_np0270_01.row.prog w) (ktrTop dp un gd (Str.ofString "_law_can_go_on") canScope L fa cd [] outer) (execs canFor (canEnv L fa cd)) Q (fun _ _ => False) s := by
  w_top off
  k_with_none
  k_with "execs cons" => ((try dsimp only); (with_reducible refine execs_gen ?_); intro tk9; (with_reducible refine wpAny_execs_cons ?_); (try dsimp only))
  k_with "UnrEndW" => ((with_reducible rename News _ _ _ _ => N'); k_dflt ((with_reducible refine' endW_tl ?we N' ?wF ?wa ?wb ?wc ?wd ?_); (case we => exact rfl); (case wF => with_reducible assumption); (case wa => k_subL); (case wb => k_subL); (case wc => ktu_offL); (case wd => k_subL)))
  revert X
  k_fill
  intro X
  dsimp only [kstB] at F
  dsimp only [canEnv, canScope, canFor, canBody, fscope, fbody, third, List.head?, PySem.Challenge.pw_np0270_01]
  repeat' (first
      | ((with_reducible show wpAny _ _ (execs (Stmt.Assign _ (Expr.IfExp _ _ _ _) _ :: _) _) _ _ _); (with_reducible rename Fr _ _ _ _ => F9); (with_reducible rename News _ _ _ _ => N9); (with_unfolding_all refine' can_in2 hb l1 l3 n2 n4 (by omega) (by omega) B F9 rfl rfl rfl X N9 T hd hu ?_ ?_); (intro u8 h8 tk8 x8 F8 N8 e8); rotate_left; (intro u8 h8 tk8 F8 N8 e8; dsimp only [kstB] at F8); rotate_left)
      | (k_unfold; (try dsimp only)) | walk1 | (dsimp only; walk1) | (leave1; walk_say "STEP leave1"; try dsimp only)
      | ((with_reducible rename Fr _ _ _ _ => F9); (with_reducible rename News _ _ _ _ => N9); (with_reducible rename (sgn _ = _) => e9); first
        | exact yes _ _ _ 128 _ F9 (n_drop2 N9) (.inl rfl) e9
        | exact yes _ _ _ 144 _ F9 (n_drop2 N9) (.inr (.inl rfl)) e9
        | exact yes _ _ _ 160 _ F9 (n_drop2 N9) (.inr (.inr rfl)) e9
        | exact no _ _ _ (fr_kst9 (by kst_all) F9) (n_drop1 N9) (none3 (by with_reducible assumption) (by with_reducible assumption) e9)
        | exact no _ _ _ (fr_kst9 (by kst_all) F9) (n_drop2 N9) (none3 (by with_reducible assumption) (by with_reducible assumption) e9))
      | fail "no step")
theorem can_for2 {w : World} {mean : ExcName → Option Value} {mg mb : Str → Option Value} {dp un : Nat} {gd : Option (List Code)} {L fa : Addr} {cd : Value} {outer : List Env} {A₀ : Around} {base h₀ : Heap} {s : Shared} {Q : Flow → Shared → Prop} {E : Value → Shared → Prop}
    {u : Str → Option Value} {b : Array UInt8} {t t1 : Tok} {ks : List Int} {n : Int} {q0 q1 : Addr × Obj}
    (hb : KBw.bInts b = ks) (l1 : 1 ≤ ks.length) (l3 : ks.length ≤ 3) (n2 : 2 ≤ n) (n4 : n ≤ 4)
    (B : Below A₀ base outer h₀) (F : Fr h₀ L s.heap u) (e2 : u (Str.ofString "size") = some (.int n t1)) (e3 : u (Str.ofString "part") = some (.bytes b t)) (X : (hd.heap_39 w.params).In h₀)
    (N : News h₀ L s.heap [q0, q1]) (T : Top hd.view_39 (looseW hd.view_39 [Str.ofString "_law_menu", Str.ofString "_law_codes"]) mean mg mb h₀) (hd : dp + 4 < recursionLimit) (hu : un + 100 < cLine)
    (yes : ∀ (u' : Str → Option Value) h' tk' z x, Fr h₀ L h' u' → News h₀ L h' [q0, q1] → (z = 128 ∨ z = 144 ∨ z = 160) → sgn ((wholeL ks z).take n.toNat) = some x → Q (.ret (.bool true)) { s with heap := h', toks := tk' })
    (no : ∀ (u' : Str → Option Value) h' tk', Fr h₀ L h' (kstB u' [(Str.ofString "part", .bytes b t)]) → News h₀ L h' [q0, q1] → NoneAt ks n → Q .next { s with heap := h', toks := tk' }) :
    wpAny (model PySem.Challenge.rw_np0270_01.row.prog w) (ktrTop dp un gd (Str.ofString "_law_can_go_on") canScope L fa cd [] outer) (execs canFor (canEnv L fa cd)) Q E s :=
  wpAny_mono (can_for hb l1 l3 n2 n4 B (fr_kst9 (List.forall_mem_cons.mpr ⟨e2, List.forall_mem_cons.mpr ⟨e3, List.forall_mem_nil _⟩⟩) F) X N T hd hu yes no) (fun _ _ x => x) fun _ _ x => x.elim
end
/-! CanC -/
section
open PySem PySem.W PyProof.Rows
set_option maxRecDepth 100000
set_option maxHeartbeats 8000000
theorem can_any (w : World) (mean) (mg mb) (b : Array UInt8) (t : Tok) (ks : List Int) (l1 : 1 ≤ ks.length) (l3 : ks.length ≤ 3)
   (hb : KBw.bInts b = ks) :
    Con 1 w mean mg mb 151 [.bytes b t] [] (fun v _ => v = .bool (canb ks)) := by
  w_top off
  k_with_none
  k_with "ktr_enter" => (refine' code_defG ?k1 ?k2 ?k3 ?k4 ?k5 ?kA ?kF ?kK ?k6 ?k7 ?k8 ?k9 ?kB ?_ ?c2 ?c3 ?c4 ?c5; (case kA => exact rfl); (case kF => exact rfl); (case kK => first | exact rfl | assumption); (case k1 => k_asm); (case k2 => k_asm); (case k3 => k_asm); (case k4 => k_asm); (case k5 => k_asm); (case k6 => k_is); (case k7 => k_is); (case k8 => ktr_room); (case k9 => first | exact BindsTo.of_eq rfl | exact binds_K (by k_in) rfl (by k_is) rfl rfl rfl); (case c5 => decide); (case kB => exact locs rfl); (case c2 => exact rfl); (case c3 => exact rfl); (case c4 => exact rfl); k_whole; intro g' L' h' FG' F' N' B' X' T' kG'; (try dsimp only); (try k_fold))
  k_with "execs cons" => ((try dsimp only); (with_reducible refine execs_gen ?_); intro tk9; (with_reducible refine wpAny_execs_cons ?_); (try dsimp only))
  k_with "call builtin:len" => ((with_reducible show wpAny _ _ (call (Value.builtin "len") [Value.bytes _ _]) _ _ _); k_dflt (refine len_lit _ (by with_reducible assumption) rfl (by omega) ?_); (intro _ _); (try dsimp only))
  k_with "UnrEndW" => ((with_reducible rename News _ _ _ _ => N'); k_dflt ((with_reducible refine' endW_tl ?we N' ?wF ?wa ?wb ?wc ?wd ?_); (case we => exact rfl); (case wF => with_reducible assumption); (case wa => k_subL); (case wb => k_subL); (case wc => ktu_offL); (case wd => k_subL)))
  unfold Con
  k_fill
  intro dp un gd cn cs a ccd cl outer A₀ base h₀ L m s Q E B F X N T hk hd hu hret
  refine wpAny_call ?_
  k_dflt ktr_enter
  repeat' (first
    | (refine con_end (made := []) hret (by assumption) (by assumption) (by assumption) (by assumption) (by assumption) (fun p hp => nomatch hp) ?_; first
      | exact congrArg Value.bool (can_yes l1 l3 (.inl rfl) (by omega) (by with_reducible assumption) (by with_reducible assumption)).symm
      | exact congrArg Value.bool (can_yes l1 l3 (.inr (.inl rfl)) (by omega) (by with_reducible assumption) (by with_reducible assumption)).symm
      | exact congrArg Value.bool (can_yes l1 l3 (.inr (.inr rfl)) (by omega) (by with_reducible assumption) (by with_reducible assumption)).symm
      | exact congrArg Value.bool (can_no l1 l3 (fun _ => by with_reducible assumption) (fun _ => by with_reducible assumption) (by with_reducible assumption)).symm
      | exact congrArg Value.bool (can_no l1 l3 (fun h => absurd h (by omega)) (fun _ => by with_reducible assumption) (by with_reducible assumption)).symm
      | exact congrArg Value.bool (can_no l1 l3 (fun h => absurd h (by omega)) (fun h => absurd h (by omega)) (by with_reducible assumption)).symm)
    | ((with_reducible show wpAny _ _ (execs (Stmt.For (Expr.Name (Str.ofString "second") _) _ _ _ _ :: _) _) _ _ _); (with_reducible rename Fr _ _ _ _ => F9); (with_reducible rename News _ _ _ _ => N9); (with_reducible rename Below _ _ _ _ => B9); (with_reducible rename Frag.In _ _ => X9); (with_reducible rename Top _ _ _ _ _ _ => T9); (with_unfolding_all refine' can_for2 hb l1 l3 (by omega) (by omega) B9 F9 rfl rfl X9 N9 T9 (by first | omega | ktr_room) (by first | omega | ktr_units) ?_ ?_); (intro u8 h8 tk8 z8 x8 F8 N8 d8 e8); rotate_left; (intro u8 h8 tk8 F8 N8 e8; dsimp only [kstB] at F8); rotate_left)
    | (k_unfold; (try dsimp only)) | walk1 | (dsimp only; walk1) | (leave1; walk_say "STEP leave1"; try dsimp only) | fail "no step")
end
/-! CompT -/
section
open PySem PySem.W PySem.Spec PySem.Calls PyProof.Rows PyProof.Rows.LCg PyProof.Rows.LCt
set_option maxRecDepth 100000
section
variable {prog : Program} {w : World} {A : Around} {E : Value → Shared → Prop} {s : Shared} {h₀ : Heap} {L : Addr} {m : Str → Option Value} {env : Env}
/-- where the source is a tuple of the ledger -/
noncomputable def SrcTup (prog : Program) (w : World) (A : Around) (h₀ : Heap) (L : Addr) (m : Str → Option Value) (env : Env) (ct elt : Expr) (x : Str) (scope : Scope) (cl : List (Str × Addr)) (Fin : Shared → List Value → List (Addr × Obj) → Prop) (xv : Value) (s₁ : Shared) : Prop :=
  ∃ ax o its news, xv = .ref ax ∧ A.handled = none ∧ Fr h₀ L s₁.heap m ∧ News h₀ L s₁.heap news ∧ (ax, o) ∈ news ∧ o.cls = .type "tuple" ∧ (∃ n, o.data = .seq its n) ∧ its.size ≤ sizeLine ∧
    ∀ s₂ : Shared, (∃ h, s₂ = { s₁ with heap := h }) → CompRestT prog w A h₀ L m env ct elt x scope cl s₂ (fun nw => (ax, o) ∈ nw) (fun i v => its[i]? = some v) (Fin s₂) its.size 0 [] news

theorem tup_st {ax I : Addr} {ob : Obj} {its : Array Value} (hc : ob.cls = .type "tuple") (hd : ∃ n, ob.data = .seq its n) : ∀ i (h h' : Heap) (o : Obj) (nw : List (Addr × Obj)), (h.IsTupleIter I ax i ∧ h.IsTuple ax its) → h.get? I = some o → h'.get? I = some o → (∀ b o, h₀.get? b = some o → h'.get? b = some o) → News h₀ L h' nw → (ax, ob) ∈ nw → (h'.IsTupleIter I ax i ∧ h'.IsTuple ax its) :=
  fun i h h' o nw st e e' k N S => ⟨by obtain ⟨o', q, r⟩ := st.1; rw [e] at q; cases q; exact ⟨o, e', r⟩, ⟨ob, (N _ S).1, hc, hd⟩⟩

theorem Assign_ListComp_Tup {ct elt iter : Expr} {x y : Str} {px py : Pos} {scope : Scope} {cl : List (Str × Addr)} {pos spos : Pos} {Q : Flow → Shared → Prop} (F₀ : Fr h₀ L s.heap m) (hLe : env.locals = L)
    (hsw : swapsWith (.ListComp elt [⟨.Name x px, iter, [ct], 0⟩] scope pos) (some (.Name y py)) spos.line env = pure true)
    (hclos : closureFor scope env = pure cl) (hcell : ∀ z ∈ scope.names, z.2 ≠ .cell) (hkind : scope.kind = .function)
    (hnames : ∀ z ∈ scope.names, z.2 = .local → scope.names.lookup z.1 = some .local) (hx : scope.names.lookup x = some .local)
    (hy : env.kindOf y = some .local) (hp : (env.scope.kind == .class || (env.scope.kind == .module && env.locals != env.globals)) = false)
    (h : wpAny (model prog w) A (eval iter env) (SrcTup prog w A h₀ L m env ct elt x scope cl (fun s₂ => FinA h₀ L m s₂ y Q)) E s)
    (hs : ∀ x, foldedSetIterable iter env x = pure x := by intro _; rfl) :
    wpAny (model prog w) A (exec (.Assign [.Name y py] (.ListComp elt [⟨.Name x px, iter, [ct], 0⟩] scope pos) spos) env) Q E s := by
  subst hLe
  rw [exec_Assign_Name_used _ _ _ _ hsw]
  refine wpAny_bind (wpAny_standAt (wpAny_bind ?_))
  show wpAny _ A (do let _ ← comprehension (.ListComp elt [⟨.Name x px, iter, [ct], 0⟩] scope pos) scope env _ (newList []) false (eval iter env) (some (assign (.Name y py) env))) _ _ s
  refine wpAny_bind (wpAny_mono (wpAny_comprehension_free (use := some (assign (.Name y py) env)) (Q := fun _ s' => Q .next s') rfl hs hclos hkind hnames
    (wpAny_mono h (fun xv s₁ h₁ => ?_) fun _ _ e => e)) (fun _ s' hq => wpAny_pure (wpAny_pure hq)) fun _ _ e => e)
  obtain ⟨ax, o, its, news, rfl, hh, F, N, S, hc, hd, hsz, R⟩ := h₁
  have hl : s₁.heap.IsTuple ax its := ⟨o, (N _ S).1, hc, hd⟩
  have hlt : ax < s₁.heap.objs.size := Heap.lt_size (N _ S).1
  have hne : ax ≠ s₁.heap.objs.size := Nat.ne_of_lt hlt
  refine wpAny_pyIter_tuple hl ?_
  have up : ∀ b o, s₁.heap.get? b = some o → (s₁.heap.push { cls := .type "tuple_iterator", data := .fields #[.ref ax, .int 0 0] }).get? b = some o := fun b o e => Heap.get?_push_of_some _ e
  refine block_T (Walks.tuple hh s₁.heap.objs.size ax hne its) hsz (fun i h st => by obtain ⟨o, e, _⟩ := st.1; exact ⟨o, e⟩) (tup_st hc hd) hcell hkind hx ⟨⟨_, Heap.get?_push_size _ rfl, rfl, rfl⟩, hl.at fun o e => Heap.get?_push_of_some _ e⟩ (fun b hb => ?_)
    (F.keeps up) (N.grown up) (Nat.ne_of_lt F.ns.lt) (next_is_new F) (fun p hp => Nat.ne_of_lt (Heap.lt_size (N p hp).1)) S (R _ ⟨_, rfl⟩) ?_
  · show b < (s₁.heap.push _).objs.size
    rw [Heap.size_push]
    rcases List.mem_cons.mp hb with rfl | hb
    · exact Nat.lt_succ_self _
    · rw [List.mem_singleton.mp hb]; exact Nat.lt_succ_of_lt hlt
  · intro D C h' tk m' ys news' F' N' o1 hn hC₀ hD₀ hCL hDL hCD offC fin
    show wpAny _ A (assign (.Name y py) env (.ref D)) _ _ _
    refine wpAny_assign_Name (wpAny_storeName_local hy F'.ns (fun h₂ hn₂ hs₂ => ?_) hp)
    have hL₀ : h₀.get? env.locals = none := Heap.get?_none_of_le F'.above
    have F₂ : Fr h₀ env.locals h₂ (fun z => if z = y then some (.ref D) else m z) := ⟨hn₂, fun b o e => hs₂.extBut b o (fun q => by rw [q, hL₀] at e; cases e) (F'.keep b o e), F'.above⟩
    refine ⟨m', hn.sameBut hs₂ hCL, fun h'' hs'' => fin D h'' _ (F₂.change hs'' hCL hC₀) (fun p hp => ?_) o1⟩
    have z : h₂.get? p.1 = some p.2 := hs₂.extBut _ _ (N' p hp).2.1 (N' p hp).1
    refine ⟨hs''.extBut _ _ ?_ z, (N' p hp).2⟩
    rcases List.mem_cons.mp hp with rfl | hp
    · exact Ne.symm hCD
    · exact offC p hp

theorem srcTup_hits {ct elt : Expr} {x : Str} {scope : Scope} {cl : List (Str × Addr)} {Fin : Shared → List Value → List (Addr × Obj) → Prop} {s₁ : Shared} {ax : Addr} {o : Obj} {t1 t2 t3 t4 : Tok} {nn : Nat} {news : List (Addr × Obj)} (p : Int → Bool)
    (hh : A.handled = none) (F : Fr h₀ L s₁.heap m) (N : News h₀ L s₁.heap news) (hm : (ax, o) ∈ news) (hc : o.cls = .type "tuple") (hd : o.data = .seq #[.int 1 t1, .int 2 t2, .int 3 t3, .int 4 t4] nn)
    (fin : ∀ g ys, IntsAre ys ([1, 2, 3, 4].filter p) → Fin { s₁ with heap := g } ys news)
    (turn : ∀ (g : Heap) (k : Int) (u : Tok) (ys : List Value), 1 ≤ k → k ≤ 4 → ∀ I oI C oC D m₂ h tk (E' : Value → Shared → Prop), NsObj oC m₂ → m₂ x = some (.int k u) → Fr h₀ L h m → News h₀ L h ((I, oI) :: (C, oC) :: (D, lst ys) :: news) → Off3 I C D news → ((@Ne Nat I C) ∧ (@Ne Nat I D) ∧ (@Ne Nat C D)) →
      wpAny (model prog w) A (isTrue ct (compEnvC scope cl C env) (eval ct (compEnvC scope cl C env))) (fun ok s' => if ok = true then
        wpAny (model prog w) A (eval elt (compEnvC scope cl C env)) (CompEnd h₀ L m { s₁ with heap := h, toks := tk } I oI C oC D (lst ys) (fun nw => (ax, o) ∈ nw) (fun y news' => news' = news ∧ (∃ t, y = .int k t) ∧ p k = true)) E' s'
        else CompEnd h₀ L m { s₁ with heap := h, toks := tk } I oI C oC D (lst ys) (fun nw => (ax, o) ∈ nw) (fun _ news' => news' = news ∧ p k = false) Value.none s') E' { s₁ with heap := h, toks := tk }) :
    SrcTup prog w A h₀ L m env ct elt x scope cl Fin (.ref ax) s₁ := by
  refine ⟨ax, o, #[.int 1 t1, .int 2 t2, .int 3 t3, .int 4 t4], news, rfl, hh, F, N, hm, hc, ⟨nn, hd⟩, Nat.le_of_ble_eq_true rfl, ?_⟩
  rintro _ ⟨g, rfl⟩
  have key : ∀ (i : Nat) (v : Value), (#[Value.int 1 t1, .int 2 t2, .int 3 t3, .int 4 t4] : Array Value)[i]? = some v → ∃ k u, v = .int k u ∧ 1 ≤ k ∧ k ≤ 4 ∧ ([1, 2, 3, 4] : List Int)[i]? = some k := by
    intro i v h
    match i, h with
    | 0, h => cases h; exact ⟨1, _, rfl, by decide, by decide, rfl⟩
    | 1, h => cases h; exact ⟨2, _, rfl, by decide, by decide, rfl⟩
    | 2, h => cases h; exact ⟨3, _, rfl, by decide, by decide, rfl⟩
    | 3, h => cases h; exact ⟨4, _, rfl, by decide, by decide, rfl⟩
    | i + 4, h => cases h
  have snoc : ∀ (i : Nat) (k : Int), ([1, 2, 3, 4] : List Int)[i]? = some k → (([1, 2, 3, 4] : List Int).take (i + 1)).filter p = (([1, 2, 3, 4] : List Int).take i).filter p ++ (if p k = true then [k] else []) := by
    intro i k h
    rw [List.take_add_one, h, List.filter_append]
    by_cases hp : p k = true <;> simp [hp]
  refine restT_ind (fun i ys news' => news' = news ∧ IntsAre ys ((([1, 2, 3, 4] : List Int).take i).filter p)) ⟨rfl, .nil⟩ ?_ ?_
  · rintro ys _ ⟨rfl, hi⟩
    exact fin _ _ hi
  · rintro i ys _ hi ⟨rfl, hys⟩ v I oI C oC D m₂ h tk E' hv hC hx F N off ne
    obtain ⟨k, u, rfl, h1, h4, hk⟩ := key i v hv
    refine wpAny_mono (turn g k u ys h1 h4 I oI C oC D m₂ h tk E' hC hx F N off ne) (fun ok s' hs => ?_) fun _ _ e => e
    cases ok with
    | true =>
      simp only [if_true] at hs ⊢
      refine wpAny_mono hs (fun y s'' he => compEnd_mono he ?_) fun _ _ e => e
      rintro news' ⟨rfl, ⟨t, rfl⟩, hp⟩
      refine ⟨rfl, ?_⟩
      rw [snoc i k hk, if_pos hp]
      exact hys.append (.cons _ _ .nil)
    | false =>
      simp only [Bool.false_eq_true, if_false] at hs ⊢
      refine compEnd_mono hs ?_
      rintro news' ⟨rfl, hp⟩
      refine ⟨rfl, ?_⟩
      rw [snoc i k hk, if_neg (by rw [hp]; exact Bool.false_ne_true), List.append_nil]
      exact hys

theorem srcTup_read {ct elt : Expr} {x : Str} {scope : Scope} {cl : List (Str × Addr)} {Fin : Shared → List Value → List (Addr × Obj) → Prop} {s₁ : Shared} {ax : Addr} {o : Obj} {t1 t2 t3 t4 : Tok} {nn : Nat} {news : List (Addr × Obj)} {ks fs : List Int} {a : Int} (_ : ReadInv ks a fs)
    (hh : A.handled = none) (F : Fr h₀ L s₁.heap m) (N : News h₀ L s₁.heap news) (hm : (ax, o) ∈ news) (hc : o.cls = .type "tuple") (hd : o.data = .seq #[.int 1 t1, .int 2 t2, .int 3 t3, .int 4 t4] nn)
    (fin : ∀ g ys, IntsAre ys (hits (ks.drop a.toNat)) → Fin { s₁ with heap := g } ys news)
    (turn : ∀ (k : Int) (u : Tok) (ys : List Value), 1 ≤ k → k ≤ 4 → ∀ I oI C oC D m₂ h tk (E' : Value → Shared → Prop), NsObj oC m₂ → m₂ x = some (.int k u) → Fr h₀ L h m → News h₀ L h ((I, oI) :: (C, oC) :: (D, lst ys) :: news) → Off3 I C D news → ((@Ne Nat I C) ∧ (@Ne Nat I D) ∧ (@Ne Nat C D)) →
      wpAny (model prog w) A (isTrue ct (compEnvC scope cl C env) (eval ct (compEnvC scope cl C env))) (fun ok s' => if ok = true then
        wpAny (model prog w) A (eval elt (compEnvC scope cl C env)) (CompEnd h₀ L m { s₁ with heap := h, toks := tk } I oI C oC D (lst ys) (fun nw => (ax, o) ∈ nw) (fun y news' => news' = news ∧ (∃ t, y = .int k t) ∧ hitb (ks.drop a.toNat) k = true)) E' s'
        else CompEnd h₀ L m { s₁ with heap := h, toks := tk } I oI C oC D (lst ys) (fun nw => (ax, o) ∈ nw) (fun _ news' => news' = news ∧ hitb (ks.drop a.toNat) k = false) Value.none s') E' { s₁ with heap := h, toks := tk }) :
    SrcTup prog w A h₀ L m env ct elt x scope cl Fin (.ref ax) s₁ :=
  srcTup_hits (hitb (ks.drop a.toNat)) hh F N hm hc hd fin fun _ => turn
end
end
/-! Cells -/
section
open PySem PySem.W PySem.Spec PySem.Calls PyProof.Rows
set_option maxRecDepth 100000
section
variable {prog : Program} {w : World} {A₀ A : Around} {s : Shared} {base h₀ : Heap} {outer : List Env} {L : Addr} {m : Str → Option Value} {news : List (Addr × Obj)} {K : Frag} {p : Program} {loose : List Str} {mean : ExcName → Option Value} {mg mb : Str → Option Value}
/-- a def with cells is entered; what was there and is not led stands in the ground -/
theorem enter_cells {env : Env} {outer : List Env} {R : Result → Shared → Prop} {name qual : Str} {params : Arguments} {body : List Stmt} {scope : Scope} {dV kV doc pm cdv ct oc : Value} {an od : Option Addr} {osl : Array (Option Value)} {f : Addr} {args : Args} {binds : List (Str × Value)}
    (B : Below A₀ base outer h₀) (F : Fr h₀ L s.heap m) (X₀ : K.In h₀) (N : News h₀ L s.heap news) (T : Top p loose mean mg mb h₀) (hA : A.frames = some (env :: outer)) (hf : env.frame = some L) (hke : env.scope.kind = .function)
    (ho : K.lookup f = some ⟨oc, od, .func (fnOf name qual params body scope dV kV doc pm an cdv ct), osl⟩) (hcd : codeIn K cdv qual = true) (hroom : A.depth < recursionLimit)
    (hbind : BindsTo s (fnOf name qual params body scope dV kV doc pm an cdv ct) args binds) (hkind : (binds.all fun y => scope.names.lookup y.1 == some .local || scope.names.lookup y.1 == some .cell) = true)
    (hnd : ((cellsFrom 0 scope.names []).map (·.1)).Nodup)
    (h : ∀ g L' h₁ tk cells, Fr h₀ L g m → Fr g L' h₁ (bindL (envOfC qual scope L' f cdv).kindOf binds fun _ => none) → News g L' h₁ (cells ++ news) →
      CellsAre (bindC (envOfC qual scope L' f cdv).kindOf binds fun _ => none) (cellsFrom (L' + 1) scope.names []) cells → Below A base (env :: outer) g → K.In g → Top p loose mean mg mb g → GSub s.heap g (news.map (·.1)) →
      wpAny (model prog w) (A.deeper (envOfC qual scope L' f cdv)) (execs body (envOfC qual scope L' f cdv))
        (fun fl s' => LeaveK h₀ L m g R (match fl with | .ret v => v | _ => .none) s')
        (fun e s' => wpAny (model prog w) (A.deeper (envOfC qual scope L' f cdv)) (leaving (envOfC qual scope L' f cdv) e) (fun _ s'' => R (.error e) s'') (fun e' s'' => R (.error e') s'') s')
        { s with heap := h₁, toks := tk })
    (hco : scope.isCoroutine = false) (hgen : scope.isGenerator = false) (hk : scope.kind = .function) : codeAny (model prog w) A (.call (.ref f) args) R s := by
  have gr := groundX (R := R) B F N hA hf hke
  have bw : ∀ b o, (hideAll s.heap (news.map (·.1))).get? b = some o → s.heap.get? b = some o := fun b o e => of_hideAll _ e
  refine codeAny_call_function hroom ((X₀.keeps F.keep) _ _ ho) rfl hco hgen rfl (codeRec_of (X₀.keeps F.keep) hcd) (hbind _ _ _ _ (wpAny_newFunctionEnv_cells hk (kindsX hkind _) ?_))
  intro e9 he s' x
  subst he
  refine ⟨(T.nolimit.keeps F.keep).keeps x.toInCall.keep, codeAny_func ?_⟩
  obtain ⟨h₁, tk, rfl, _⟩ := x.done
  have up := x.toInCall.keep
  obtain ⟨cells, NC, Y⟩ := Cl.news (h₀ := s.heap) (Nat.le_refl _) fun n c hm => ⟨x.cell n c (lookup_of_mem_nodup (cellsFrom_names scope.names 0 (s.heap.objs.size + 1) [] [] rfl ▸ hnd) hm), x.above n c hm⟩
  have N₁ : News (hideAll s.heap (news.map (·.1))) s.heap.objs.size h₁ (cells ++ news) := by
    intro q hq
    rcases List.mem_append.mp hq with hc | hn
    · have z := NC q hc
      refine ⟨z.1, z.2.1, ?_⟩
      cases e : (hideAll s.heap (news.map (·.1))).get? q.1 with
      | none => rfl
      | some ob => have y := bw _ _ e; rw [z.2.2] at y; cases y
    · exact ⟨up _ _ (N q hn).1, Nat.ne_of_lt (Heap.lt_size (N q hn).1), hideAll_none _ (List.mem_map_of_mem hn)⟩
  have F₁ : Fr (hideAll s.heap (news.map (·.1))) s.heap.objs.size h₁ (bindL (envOfC qual scope s.heap.objs.size f cdv).kindOf binds fun _ => none) :=
    ⟨x.toInCall.ns, fun b o e => up b o (bw b o e), Nat.le_of_eq (hideAll_size _ _)⟩
  exact wpAny_mono (h _ _ h₁ tk cells gr.1 F₁ N₁ Y gr.2.1 (X₀.keeps gr.2.2.1) (T.keeps gr.2.2.1) (fun b o e n => hideAll_get _ e n)) (fun fl s' hl => gr.2.2.2 _ _ hl) fun _ _ y => y
end
end
/-! ReadW -/
section
open PySem PySem.W PySem.Spec PySem.Calls PyProof.Rows
set_option maxRecDepth 100000
section
variable {prog : Program} {w : World} {A : Around} {E : Value → Shared → Prop} {Q : Flow → Shared → Prop} {s : Shared} {env : Env} {h₀ : Heap} {L : Addr}
theorem map_found {D : Addr} {m : Str → Option Value} {x : Str} (h : m x = some (.ref D)) : (fun y => if y = x then some (.ref D) else m y) = m := by
  funext y
  by_cases e : y = x
  · rw [if_pos e, e, h]
  · rw [if_neg e]
/-- the end of a turn of the reading's loop -/
noncomputable def RdEnd (ks : List Int) (h₀ : Heap) (L : Addr) (s : Shared) (D ca co : Addr) (o1 : Obj) (a : Int) (s₃ : Shared) : Prop :=
  ∃ (fs : List Int) (vs : List Value) (n : Nat) (a' : Int) (t : Tok) (o2 : Obj) (m' : Str → Option Value) (h' : Heap) (tk' : Nat), s₃ = { s with heap := h', toks := tk' } ∧ Fr h₀ L h' m' ∧ m' (Str.ofString "found") = some (.ref D) ∧
    News h₀ L h' [(D, listOf vs.toArray n), (ca, o2), (co, o1)] ∧ o2.data = .cell (some (.int a' t)) ∧ IntsAre vs fs ∧ ReadInv ks a' fs ∧ a < a'
noncomputable def RdPost (ks : List Int) (h₀ : Heap) (L : Addr) (s : Shared) (D ca co : Addr) (o1 : Obj) (a : Int) (Q : Flow → Shared → Prop) (f : Flow) (s₃ : Shared) : Prop := match f with
  | .ret v => Q (.ret v) s₃
  | .brk => Q .next s₃
  | _ => RdEnd ks h₀ L s D ca co o1 a s₃
theorem rdEnd_of {ks : List Int} {D ca co : Addr} {o1 o2 : Obj} {a a' : Int} {t : Tok} {fs : List Int} {vs : List Value} {n : Nat} {x : Value} {m' : Str → Option Value} {h' : Heap} {tk' : Nat} {nw : List (Addr × Obj)}
    (F : Fr h₀ L h' m') (hm : m' (Str.ofString "found") = some (.ref D)) (N : News h₀ L h' nw) (n1 : (D, listOf (vs.toArray.push x) n) ∈ nw) (n2 : (ca, o2) ∈ nw) (n3 : (co, o1) ∈ nw) (hd : o2.data = .cell (some (.int a' t))) (hi : IntsAre (vs ++ [x]) fs) (I : ReadInv ks a' fs) (ha : a < a') :
    RdEnd ks h₀ L s D ca co o1 a { s with heap := h', toks := tk' } :=
  by
  have e : vs.toArray.push x = (vs ++ [x]).toArray := by simp
  rw [e] at n1
  exact ⟨fs, vs ++ [x], n, a', t, o2, m', h', tk', rfl, F, hm, all3 (N _ n1) (N _ n2) (N _ n3), hd, hi, I, ha⟩
theorem read_while {test : Expr} {body : List Stmt} {pos : Pos} {m₀ : Str → Option Value} {ks : List Int} {D ca co : Addr} {o1 o2 : Obj} {t : Tok} {nw : List (Addr × Obj)} {b : Array UInt8} {tb : Tok} (hl : ks.length ≤ 36) (_hd1 : o1.data = .cell (some (.bytes b tb)))
    (F : Fr h₀ L s.heap m₀) (hm : m₀ (Str.ofString "found") = some (.ref D)) (N : News h₀ L s.heap nw) (n1 : (D, listOf #[] 0) ∈ nw) (n2 : (ca, o2) ∈ nw) (n3 : (co, o1) ∈ nw) (hd : o2.data = .cell (some (.int 0 t)))
    (turn : ∀ (fs : List Int) (vs : List Value) (n : Nat) (a : Int) (t : Tok) (o2 : Obj) (u : Str → Option Value) (h : Heap) (tk : Nat), vs.toArray.size ≤ sizeLine → IntsAre vs fs → ReadInv ks a fs → o2.data = .cell (some (.int a t)) →
      Fr h₀ L h (fun y => if y = Str.ofString "found" then some (.ref D) else u y) → News h₀ L h [(D, listOf vs.toArray n), (ca, o2), (co, o1)] →
      wpAny (model prog w) A (isTrue test env (eval test env)) (fun b s₂ => if b = true then wpAny (model prog w) A (execs body env) (RdPost ks h₀ L s D ca co o1 a Q) E s₂ else Q .next s₂) E { s with heap := h, toks := tk })
    (hE : PassesOwn (model prog w) A env E := by passes_own) :
    wpAny (model prog w) A (exec (.While test body [] pos) env) Q E s := by
  refine While_inv2 (fun n m nx => ∃ (fs : List Int) (vs : List Value) (c : Nat) (a : Int) (t : Tok) (o2 : Obj), n = ((ks.length : Int) - a).toNat ∧ m (Str.ofString "found") = some (.ref D) ∧ nx = [(D, listOf vs.toArray c), (ca, o2), (co, o1)] ∧ o2.data = .cell (some (.int a t)) ∧ IntsAre vs fs ∧ ReadInv ks a fs)
    F (news := [(D, listOf #[] 0), (ca, o2), (co, o1)]) ?_ ⟨[], [], 0, 0, t, o2, rfl, hm, rfl, hd, .nil, inv_start⟩ ?_ hE
  · exact all3 (N _ n1) (N _ n2) (N _ n3)
  · rintro n m₁ nx h₁ tk₁ F₁ N₁ ⟨fs, vs, c, a, t, o2, rfl, hm₁, rfl, hd₁, hi, I⟩
    refine wpAny_mono (turn fs vs c a t o2 m₁ h₁ tk₁ ?_ hi I hd₁ (by rw [map_found hm₁]; exact F₁) N₁) (fun b s₂ p => ?_) fun _ _ x => x
    · have h1 := hi.length
      have h2 := I.2.2.2.2
      have h3 := I.2.1
      have h4 : (36 : Nat) ≤ sizeLine := Nat.le_of_ble_eq_true rfl
      rw [List.size_toArray]
      omega
    cases b with
    | false => simpa using p
    | true =>
      simp only [if_true] at p ⊢
      refine wpAny_mono p (fun f s₃ q => ?_) fun _ _ x => x
      have go : RdEnd ks h₀ L s D ca co o1 a s₃ → ∃ h' tk m₂ news₂ n', s₃ = { s with heap := h', toks := tk } ∧ Fr h₀ L h' m₂ ∧ News h₀ L h' news₂ ∧ n' < ((ks.length : Int) - a).toNat ∧ ∃ (fs : List Int) (vs : List Value) (c : Nat) (a : Int) (t : Tok) (o2 : Obj), n' = ((ks.length : Int) - a).toNat ∧ m₂ (Str.ofString "found") = some (.ref D) ∧ news₂ = [(D, listOf vs.toArray c), (ca, o2), (co, o1)] ∧ o2.data = .cell (some (.int a t)) ∧ IntsAre vs fs ∧ ReadInv ks a fs := by
        rintro ⟨fs', vs', c', a', t', o2', m', h', tk', e, F', hm', N', hd', hi', I', ha⟩
        refine ⟨h', tk', m', _, _, e, F', N', ?_, fs', vs', c', a', t', o2', rfl, hm', rfl, hd', hi', I'⟩
        have := I'.2.1
        omega
      cases f with
      | ret v => exact q
      | brk => exact q
      | next => exact go q
      | cont => exact go q
theorem slice_mid (ks : List Int) {a k hi : Int} (h0 : 0 ≤ a) (h1 : a ≤ (ks.length : Int)) (h2 : 0 ≤ k) (e : hi = a + k) :
    (ks.drop ((some a).elim 0 (clipAt ks.length))).take ((some hi).elim ks.length (clipAt ks.length) - (some a).elim 0 (clipAt ks.length)) = (ks.drop a.toNat).take k.toNat := by
  subst e
  obtain ⟨n, rfl⟩ := Int.eq_ofNat_of_zero_le h0
  obtain ⟨j, rfl⟩ := Int.eq_ofNat_of_zero_le h2
  have e1 : clipAt ks.length (n : Int) = n := clip_le (Int.ofNat_le.mp h1)
  have e2 : clipAt ks.length ((n : Int) + (j : Int)) = min (n + j) ks.length := clip_nat ks.length (n + j)
  simp only [Option.elim, e1, e2, Int.toNat_natCast]
  rw [← Nat.sub_min_sub_right, Nat.add_sub_cancel_left, List.take_eq_take_iff, List.length_drop, Nat.min_assoc, Nat.min_self]
theorem slice_from (ks : List Int) {a : Int} (h0 : 0 ≤ a) (h1 : a ≤ (ks.length : Int)) :
    (ks.drop ((some a).elim 0 (clipAt ks.length))).take ((none : Option Int).elim ks.length (clipAt ks.length) - (some a).elim 0 (clipAt ks.length)) = ks.drop a.toNat := by
  obtain ⟨n, rfl⟩ := Int.eq_ofNat_of_zero_le h0
  have e1 : clipAt ks.length (n : Int) = n := clip_le (Int.ofNat_le.mp h1)
  simp only [Option.elim, e1, Int.toNat_natCast]
  exact List.take_of_length_le (Nat.le_of_eq List.length_drop)
end
end
/-! Read -/
section
open PySem PySem.W PyProof.Rows
set_option maxRecDepth 100000
set_option maxHeartbeats 4000000
theorem hits_len {r : List Int} (h : decide (hits r = []) = false) : (0 : Int) < (hits r).length := by
  obtain ⟨k, rest, e, _⟩ := head_hit h
  rw [e]; simp only [List.length_cons]; omega
section
variable {prog : Program} {w : World} {A : Around} {E : Value → Shared → Prop} {s : Shared}
theorem item_head {value slice : PySem.Expr} {l : Addr} {vs : List Value} {r : List Int} {u : Tok} {Q : Value → Shared → Prop} (hl : s.heap.IsList l vs.toArray) (hi : IntsAre vs (hits r)) (hne : decide (hits r = []) = false)
    (h : ∀ t, Q (.int ((hits r).getD 0 0) t) s)
    (hs : subscripted slice false (.ref l) (.int 0 u) = operate [.ref l, .int 0 u] (getItem (.ref l) (.int 0 u)) := by with_unfolding_all rfl) :
    wpAny (model prog w) A (subscriptTail value slice (.ref l) (.int 0 u)) Q E s :=
  item_anyK hl hi (by decide) (hits_len hne) (by decide) h hs
end


theorem len_two {ks : List Int} {a : Int} (h0 : 0 ≤ a) (h : a + 1 < (ks.length : Int)) : 1 ≤ ((ks.drop a.toNat).take (Int.toNat 2)).length ∧ ((ks.drop a.toNat).take (Int.toNat 2)).length ≤ 3 := by
  rw [List.length_take, Nat.min_eq_left (le_drop (k := 2) h0 (by omega))]; exact ⟨by decide, by decide⟩
theorem len_three {ks : List Int} {a : Int} (h0 : 0 ≤ a) (h : a + 2 < (ks.length : Int)) : 1 ≤ ((ks.drop a.toNat).take (Int.toNat 3)).length ∧ ((ks.drop a.toNat).take (Int.toNat 3)).length ≤ 3 := by
  rw [List.length_take, Nat.min_eq_left (le_drop (k := 3) h0 (by omega))]; exact ⟨by decide, by decide⟩
theorem len_rest {ks : List Int} {a : Int} (h0 : 0 ≤ a) (h : a < (ks.length : Int)) (h3 : (ks.length : Int) ≤ a + 3) : 1 ≤ (ks.drop a.toNat).length ∧ (ks.drop a.toNat).length ≤ 3 := by
  rw [List.length_drop]; omega
/-- what the reading gives back: a new list and a new pair -/
noncomputable def RdOut (ks : List Int) (v : Value) (made : List (Addr × Obj)) : Prop :=
  ∃ D vs n T w, v = .ref T ∧ made = [(D, listOf vs.toArray n), (T, { cls := .type "tuple", data := .seq #[.ref D, .bool w] })] ∧ IntsAre vs (readL ks).1 ∧ w = (readL ks).2
theorem rd_end {ks fs : List Int} {h₀ g h' : Heap} {L L' D T : Addr} {w : Bool} {n : Nat} {vs : List Value} {m m' : Str → Option Value} {s : Shared} {Q : Value → Shared → Prop} {made' : List (Addr × Obj)} {tk' : Nat}
    (hret : ∀ v made h' tk', Fr h₀ L h' m → News h₀ L h' made → (∀ b o, s.heap.get? b = some o → b ∉ ([] : List (Addr × Obj)).map (·.1) → h'.get? b = some o) → (∀ p ∈ made, p.1 ∉ ([] : List (Addr × Obj)).map (·.1) → s.heap.get? p.1 = none) → RdOut ks v made → Q v { s with heap := h', toks := tk' })
    (G : GSub s.heap g (([] : List (Addr × Obj)).map (·.1))) (F' : Fr g L' h' m') (N' : News g L' h' made') (F : Fr h₀ L h' m) (N : News h₀ L h' made')
    (n1 : (T, { cls := .type "tuple", data := .seq #[.ref D, .bool w] }) ∈ made') (n2 : (D, listOf vs.toArray n) ∈ made') (hi : IntsAre vs fs) (e : (fs, w) = readL ks) : Q (.ref T) { s with heap := h', toks := tk' } :=
  con_end hret G F' N' F N (made := [(D, listOf vs.toArray n), (T, { cls := .type "tuple", data := .seq #[.ref D, .bool w] })]) (all2 n2 n1) ⟨D, vs, n, T, w, rfl, rfl, by rw [← e]; exact hi, by rw [← e]⟩

theorem read_any (w : World) (mean) (mg mb) (b : Array UInt8) (ks : List Int) (hl : ks.length ≤ 36)
   (hb : KBw.bInts b = ks) (t : Tok) :
    Con 2 w mean mg mb 156 [.bytes b t] [] (fun v made => RdOut ks v made) := by
  w_top off
  k_with_none
  k_with "ktr_enter" => (refine' enter_cells ?k1 ?k2 ?k3 ?k4 ?k5 ?kA ?kF ?kK ?k6 ?k7 ?k8 ?k9 ?kB ?kD ?_ ?c2 ?c3 ?c4; (case kA => exact rfl); (case kF => exact rfl); (case kK => assumption); (case k1 => k_asm); (case k2 => k_asm); (case k3 => k_asm); (case k4 => k_asm); (case k5 => k_asm); (case k6 => k_is); (case k7 => k_is); (case k8 => ktr_room); (case k9 => exact BindsTo.of_eq rfl); (case kB => exact rfl); (case kD => decide +kernel); (case c2 => exact rfl); (case c3 => exact rfl); (case c4 => exact rfl); k_whole; intro g' L' h' tk' cells' FG' F' N' Y' B' X' T' kG'; k_cells Y'; (try simp only [List.cons_append, List.nil_append] at N'); (try dsimp only); (try k_fold))
  k_with "execs cons" => ((try dsimp only); (with_reducible refine execs_gen ?_); intro tk9; (with_reducible refine wpAny_execs_cons ?_); (try dsimp only))
  k_with "exec While Compare cons nil" => ((with_reducible rename Fr _ _ _ _ => F'); (with_reducible rename News _ _ _ _ => N'); k_dflt (refine' read_while ?hl ?hd1 F' ?hm N' ?n1 ?n2 ?n3 ?hd ?_; (case hl => with_reducible assumption); (case hm => with_unfolding_all rfl); (case hd1 => with_reducible assumption); (case hd => with_reducible assumption); (case n1 => k_mem); (case n2 => k_mem); (case n3 => k_mem)); clear F' N'; intro fs9 vs9 n9 a9 t9 o9 u9 h9 tk9 hsz9 hi9 I9 hd9 F' N'; have p9 := I9.1; have q9 := I9.2.1; (try k_fold))
  k_with "RdPost" => (dsimp only [RdPost])
  k_with "exec Assign cons ListComp" => (k_dflt (refine Assign_ListComp_Tup (F₀ := by k_asm) (by rfl) (by with_unfolding_all rfl) (by with_unfolding_all rfl) (by decide) (by rfl) (by decide) (by rfl) (by rfl) (by rfl) ?_))
  k_with "SrcTup" => ((with_reducible rename News _ _ _ _ => N'); (with_reducible rename ReadInv _ _ _ => I9); k_dflt (refine srcTup_read I9 (by exact rfl) (by k_asm) N' (by k_mem) (by exact rfl) (by exact rfl) ?_ ?_); (rotate_left; intro k9 u9 ys9 hk1 hk4 I9' oI9 C9 oC9 D9 m9 h9 tk9 E9 hC9 hx9 F9 N9 off9 ne9; rotate_left; intro g9 ys9 hys9))
  k_with "exec While BoolOp cons nil" => (k_dflt (refine whl_start 3 ?_))
  k_with "compareOp NotEq ref ref" => (k_dflt (refine PySem.W.ke_ne_ints (News.isList (by k_asm) (by k_mem)) (News.isList (by k_asm) (by k_mem)) (by first | assumption | exact IntsAre.nil) (by first | assumption | exact IntsAre.nil) (by ktr_units) ?_); (try dsimp only))
  k_with "subscriptTail" => ((with_reducible show wpAny _ _ (subscriptTail _ (Expr.Slice _ _ none _) (Value.bytes _ _) (Value.ref _)) _ _ _); (with_reducible rename Fr _ _ _ _ => F'); (with_reducible rename News _ _ _ _ => N'); (with_reducible rename ReadInv _ _ _ => I9); k_dflt (first
  | (refine slice_lit (s := ⟨_, _, _, _, _⟩) F' N' (by with_reducible assumption) (IsPart.int _ _) IsPart.none (by omega) (slice_from _ I9.1 I9.2.1) ?_)
  | (refine slice_lit (s := ⟨_, _, _, _, _⟩) F' N' (by with_reducible assumption) (IsPart.int _ _) (IsPart.int _ _) (by omega) (slice_mid _ (k := 2) I9.1 I9.2.1 (by decide) (by omega)) ?_)
  | (refine slice_lit (s := ⟨_, _, _, _, _⟩) F' N' (by with_reducible assumption) (IsPart.int _ _) (IsPart.int _ _) (by omega) (slice_mid _ (k := 3) I9.1 I9.2.1 (by decide) (by omega)) ?_)
  | (refine slice_lit (s := ⟨_, _, _, _, _⟩) F' N' (by with_reducible assumption) (IsPart.int _ _) (IsPart.int _ _) (by omega) (slice_mid _ I9.1 I9.2.1 (by first | omega | exact Int.le_trans (by decide) (head_pos (by with_reducible assumption)).1) rfl) ?_)); intro _ _ _ _ F' N' hbs; (try dsimp only))
  k_with "subscriptTail" => ((with_reducible show wpAny _ _ (subscriptTail _ _ (Value.ref _) (Value.int _ _)) _ _ _); k_dflt (refine item_head (News.isList (by k_asm) (by k_mem)) (by with_reducible assumption) (by with_reducible assumption) ?_); intro _; (try dsimp only))
  k_with "call ref" => ((with_reducible show wpAny _ _ (call (Value.ref 151) _) _ _ _); (with_reducible rename ReadInv _ _ _ => I9); k_dflt (first
  | (have ln := len_two I9.1 (by with_reducible assumption); refine con_pure (can_any _ _ _ _ _ _ _ ln.1 ln.2 (by with_reducible assumption)) (by k_asm) (by k_asm) (by k_asm) (by k_asm) (by k_asm) (by first | exact rfl | assumption) (by ktr_room) (by ktr_units) ?_)
  | (have ln := len_three I9.1 (by omega); refine con_pure (can_any _ _ _ _ _ _ _ ln.1 ln.2 (by with_reducible assumption)) (by k_asm) (by k_asm) (by k_asm) (by k_asm) (by k_asm) (by first | exact rfl | assumption) (by ktr_room) (by ktr_units) ?_)
  | (have ln := len_rest I9.1 (by omega) (by omega); refine con_pure (can_any _ _ _ _ _ _ _ ln.1 ln.2 (by with_reducible assumption)) (by k_asm) (by k_asm) (by k_asm) (by k_asm) (by k_asm) (by first | exact rfl | assumption) (by ktr_room) (by ktr_units) ?_)); intro v9 h9 tk9 F9 N9 keep9 hR9; clear keep9; subst hR9; (try dsimp only))
  k_with "call ref" => ((with_reducible show wpAny _ _ (call (Value.ref 144) _) _ _ _); (with_reducible rename ReadInv _ _ _ => I9); k_dflt (first
  | (have ln := len_head (by with_reducible assumption); refine con_pure (sign_any _ _ _ _ _ _ _ ln.1 ln.2 (by with_reducible assumption)) (by k_asm) (by k_asm) (by k_asm) (by k_asm) (by k_asm) (by first | exact rfl | assumption) (by ktr_room) (by ktr_units) ?_; intro v9 h9 tk9 F9 N9 keep9 hR9; clear keep9; rcases optInt_cases hR9 with ⟨e9, z9⟩ | ⟨c9, t9, e9, z9⟩; (exact absurd e9 (sgn_head (by with_reducible assumption))); subst z9; clear hR9; (try dsimp only))
  | (have ln := len_mid I9.1 (by with_reducible assumption) (by with_reducible assumption) (by with_reducible assumption); refine con_pure (sign_any _ _ _ _ _ _ _ ln.1 ln.2 (by with_reducible assumption)) (by k_asm) (by k_asm) (by k_asm) (by k_asm) (by k_asm) (by first | exact rfl | assumption) (by ktr_room) (by ktr_units) ?_; intro v9 h9 tk9 F9 N9 keep9 hR9; clear keep9; rcases optInt_cases hR9 with ⟨e9, z9⟩ | ⟨c9, t9, e9, z9⟩ <;> subst z9 <;> clear hR9 <;> (try dsimp only))))
  k_with "binaryOp Add int int" => (refine add_int ?_; simp only [Int.reduceAdd])
  k_with "CompEnd" => ((with_reducible rename ReadInv _ _ _ => I9); (with_reducible rename News _ _ _ _ => N'); refine ⟨_, _, _, rfl, by k_asm, N', by with_reducible assumption, by k_mem, rfl, ?_⟩; k_dflt (first | exact ⟨⟨_, rfl⟩, hb_t I9.1 (by with_reducible assumption) (by with_reducible assumption)⟩ | exact hb_f2 (by with_reducible assumption) | exact hb_f1 I9.1 (by with_reducible assumption) (by with_reducible assumption)))
  k_with "bl_any" => first
  | exact bl3 (by with_reducible assumption) (by omega) (by assumption) (by assumption)
  | exact bl2' (by with_reducible assumption) (by omega) (by assumption) (by assumption)
  | exact bl2 (by with_reducible assumption) (by omega) (by assumption) (by omega)
  | exact bl1' (by assumption)
  | exact bl1 (by omega)
  k_with "ill_any" => first | exact .inr (by assumption) | exact .inl (by omega)
  k_with "RdEnd" => ((with_reducible rename ReadInv _ _ _ => I9); (with_reducible rename Fr _ _ _ _ => F'); (with_reducible rename News _ _ _ _ => N'); k_dflt (refine' rdEnd_of F' ?hm N' ?n1 ?n2 ?n3 ?hd ?hi ?I ?ha; (case hm => with_unfolding_all rfl); (case hd => with_reducible assumption); (case n1 => k_mem); (case n2 => k_mem); (case n3 => k_mem); (case hi => exact IntsAre.append (by with_reducible assumption) (.cons _ _ .nil)); (case I => first | exact inv_head I9 (by with_reducible assumption) (by with_reducible assumption) (by with_reducible assumption) | exact inv_ill (k := 1) I9 (by with_reducible assumption) (no_hit (by with_reducible assumption)) (by walk_at "bl_any") (by omega) (by walk_at "ill_any") | exact inv_ill (k := 2) I9 (by with_reducible assumption) (no_hit (by with_reducible assumption)) (by walk_at "bl_any") (by omega) (by walk_at "ill_any") | exact inv_ill (k := 3) I9 (by with_reducible assumption) (no_hit (by with_reducible assumption)) (by walk_at "bl_any") (by omega) (by walk_at "ill_any")); (case ha => first | omega | (have hp9 := head_pos (by with_reducible assumption); omega))))
  unfold Con
  k_fill
  intro dp un gd cn cs a ccd cl outer A₀ base h₀ L m s Q E B F X N T hk hd hu hret
  refine wpAny_call ?_
  k_dflt ktr_enter
  rename (Obj.data _ = Data.cell (bindC _ _ _ (Str.ofString "octets"))) => d2
  replace d2 : _ = Data.cell (some (Value.bytes b t)) := d2
  repeat' (first
    | (refine' rd_end hret (by assumption) (by assumption) (by assumption) (by assumption) (by assumption) ?n1 ?n2 ?hi ?e; (case n1 => k_mem); (case n2 => k_mem); (case hi => with_reducible assumption); (case e => first | (exfalso; omega) | exact inv_wait (by with_reducible assumption) (by with_reducible assumption) (no_hit (by with_reducible assumption)) (by walk_at "bl_any") (by omega) (by assumption) | exact inv_end (by with_reducible assumption) (by with_reducible assumption)))
    | (k_unfold; (try dsimp only)) | walk1 | (dsimp only; walk1) | (leave1; walk_say "STEP leave1"; try dsimp only) | fail "no step")
end
/-! ListB -/
section
open PySem PySem.W PyProof.Rows
set_option maxRecDepth 100000
section
variable {prog : Program} {w : World} {A : Around} {E : Value → Shared → Prop} {s : Shared} {b : Array UInt8} {t : Tok}
noncomputable abbrev OctAt (b : Array UInt8) : Nat → Value → Prop := fun i v => ∃ c u, b[i]? = some c ∧ v = .int (c.toNat : Int) u
theorem extend_bytes {R : Result → Shared → Prop} (hh : A.handled = none) (S : Addr) (res : Value) (c₀ : Nat) (hS : s.heap.get? S = some { cls := .type "list", data := .seq #[] c₀ })
    (hR : ∀ h' tk acc' c', (∀ a o, a ≠ S → s.heap.get? a = some o → h'.get? a = some o) → h'.get? S = some { cls := .type "list", dict := none, data := .seq acc' c', slots := #[] } →
      ItemsOf (OctAt b) acc' b.size → R (.ok (.ret res)) { s with heap := h', toks := tk }) (hn : b.size ≤ sizeLine) :
    wpAny (model prog w) A.in1 (Builtin.List.listExtendWith (.ref S) (.bytes b t) res)
      (fun fin s' => match fin with | .done f => R (.ok f) s' | .again c' => c'.quiet = true ∧ codeAny (model prog w) A c' R s') (fun e s' => R (.error e) s') s := by
  have hSI : S ≠ s.heap.objs.size := Nat.ne_of_lt (Heap.lt_size hS)
  have hSf : S ∉ [s.heap.objs.size] := fun hm => hSI (List.mem_singleton.mp hm)
  unfold Builtin.List.listExtendWith
  refine wpAny_bind (wpAny_typeOf (T := "bytes") (v := .bytes b t) rfl ?_)
  have h1 : Builtin.List.listSameRef (.ref S) (.bytes b t) = false := rfl
  have h2 : (Value.type "bytes" == Value.type "list") = false := by decide
  have h3 : (Value.type "bytes" == Value.type "tuple") = false := by decide
  simp only [h1, h2, h3, Bool.or_false, Bool.false_eq_true, if_false]
  refine wpAny_bind (KBw.pyIter_bytes ?_)
  refine wpAny_bind (wpAny_holding ?_)
  unfold Builtin.List.listLengthHint
  refine wpAny_bind (wpAny_specialOf (T := "bytes") (v := .bytes b t) rfl FB.slot_bytes_len.lookup ?_)
  wp_delta
  refine wpAny_bind (wpAny_isInstance (T := "bytes") (v := .bytes b t) (b := true) rfl F.sub_bytes_bytes ?_)
  show wpAny _ _ (typeOf (Value.bytes b t) >>= _) _ _ _
  refine wpAny_bind (wpAny_typeOf (T := "bytes") (v := .bytes b t) rfl ?_)
  refine wpAny_pure ?_
  rw [if_neg (by decide)]
  have W := KBw.walks (prog := prog) (w := w) (A := A.in1) hh s.heap.objs.size b t
  refine wpAny_pure ⟨plainId_quiet F.plain_extend_loop _, codeAny_extend_loopS W.toS hn _ hSf _ b.size 0 _ _ _ rfl (Nat.zero_le _) ⟨_, Heap.get?_push_size _ rfl, rfl, rfl⟩ (Heap.get?_push_of_some _ hS) (ItemsOf.nil _) fun s' acc' c' hm hS' hacc => ?_⟩
  rw [Moved.eq_with hm]
  refine hR s'.heap s'.toks acc' c' (fun b ob hb e => hm.heap b ob (fun hmem => ?_) (Heap.get?_push_of_some _ e)) hS' hacc
  rcases List.mem_cons.mp hmem with e' | hmem
  · exact hb e'
  · exact absurd (Heap.lt_size e) (by rw [List.mem_singleton.mp hmem]; exact Nat.lt_irrefl _)
theorem init_bytes {R : Result → Shared → Prop} (hh : A.handled = none) (S : Addr) (hS : s.heap.get? S = some { cls := .type "list", data := .seq #[] })
    (hR : ∀ h' tk acc' c', (∀ a o, a ≠ S → s.heap.get? a = some o → h'.get? a = some o) → h'.get? S = some { cls := .type "list", dict := none, data := .seq acc' c', slots := #[] } →
      ItemsOf (OctAt b) acc' b.size → R (.ok (.ret .none)) { s with heap := h', toks := tk }) (hn : b.size ≤ sizeLine) :
    wpAny (model prog w) A.in1 (Builtin.«list.__init__» ⟨[.ref S, .bytes b t], []⟩)
      (fun fin s' => match fin with | .done f => R (.ok f) s' | .again c' => c'.quiet = true ∧ codeAny (model prog w) A c' R s') (fun e s' => R (.error e) s') s := by
  show wpAny _ _ (do let old ← Builtin.List.listItems (.ref S); Builtin.List.listUpdate (.ref S) (fun _ => #[]); letGo old.toList.reverse; Builtin.List.listExtendWith (.ref S) (.bytes b t) .none) _ _ s
  refine wpAny_bind ?_
  unfold Builtin.List.listItems
  refine wpAny_bind (wpAny_seqItems hS rfl (wpAny_pure ?_))
  show wpAny _ _ (updateSeq S (fun _ => #[]) >>= fun _ => letGo (#[] : Array Value).toList.reverse >>= fun _ => Builtin.List.listExtendWith (.ref S) (.bytes b t) .none) _ _ s
  refine wpAny_bind (wpAny_updateSeq hS rfl ?_)
  have hS₂ := Heap.get?_update_self (Obj.mapSeq (fun _ => (#[] : Array Value))) hS rfl
  have oth : ∀ a o, a ≠ S → s.heap.get? a = some o → (s.heap.update S (Obj.mapSeq (fun _ => (#[] : Array Value)))).get? a = some o :=
    fun a o ha e => (Heap.get?_update_other _ _ (Ne.symm ha)).trans e
  refine wpAny_bind (wpAny_letGo ?_)
  refine extend_bytes hh S .none _ hS₂ (fun h' tk acc' c' hk hS' hacc => ?_) hn
  exact hR h' tk acc' c' (fun a o ha e => hk a o ha (oth a o ha e)) hS' hacc
theorem call_list_bytes {Q : Value → Shared → Prop} (hh : A.handled = none)
    (hQ : ∀ h' tk acc' c', (∀ a o, s.heap.get? a = some o → h'.get? a = some o) →
      h'.get? s.heap.objs.size = some { cls := .type "list", dict := none, data := .seq acc' c', slots := #[] } → ItemsOf (OctAt b) acc' b.size → Q (.ref s.heap.objs.size) { s with heap := h', toks := tk }) (hn : b.size ≤ sizeLine) :
    wpAny (model prog w) A (call (.type "list") [.bytes b t]) Q E s := by
  refine callType_codes (Q₁ := fun obj s₁ => obj = .ref s.heap.objs.size ∧ s₁ = { s with heap := s.heap.push { cls := .type "list", data := .seq #[] } }) F.called_list (F.typeCall_list_1 _) F.entry_list_init
    (code_list_new _ ⟨rfl, rfl⟩) fun obj s₁ h₁ => ?_
  obtain ⟨rfl, rfl⟩ := h₁
  have hS : (s.heap.push { cls := .type "list", data := .seq #[] }).get? s.heap.objs.size = some { cls := .type "list", data := .seq #[] } := Heap.get?_push_size _ rfl
  refine ⟨⟨_, hS, rfl⟩, F.args_list_init_2 _ _, init_bytes (A := A.in1) hh _ hS (fun h' tk acc' c' hk hS' hacc => ?_) hn⟩
  exact ⟨rfl, hQ h' tk acc' c' (fun a o e => hk a o (Nat.ne_of_lt (Heap.lt_size e)) (Heap.get?_push_of_some _ e)) hS' hacc⟩
theorem ints_by : ∀ (vs : List Value) (ks : List Int), vs.length = ks.length → (∀ (j : Nat) (v : Value), vs[j]? = some v → ∃ (k : Int) (t : Tok), ks[j]? = some k ∧ v = Value.int k t) → IntsAre vs ks
  | [], [], _, _ => .nil
  | [], _ :: _, h, _ => by cases h
  | _ :: _, [], h, _ => by cases h
  | v :: vs, k :: ks, hl, h => by
    obtain ⟨k', t, e, rfl⟩ := h 0 v rfl
    cases e
    exact .cons _ _ (ints_by vs ks (by simpa using hl) fun j v hv => h (j + 1) v hv)
theorem list_bytes_K {ks : List Int} {h₀ : Heap} {L : Addr} {m : Str → Option Value} {news : List (Addr × Obj)} {Q : Value → Shared → Prop} (hb : KBw.bInts b = ks) (hn : ks.length ≤ 16777216) (hh : A.handled = none) (F : Fr h₀ L s.heap m) (N : News h₀ L s.heap news)
    (h : ∀ (D : Addr) (vs : List Value) (n : Nat) (h' : Heap) (tk' : Nat), Fr h₀ L h' m → News h₀ L h' ((D, listOf vs.toArray n) :: news) → LCg.Off1 D news → IntsAre vs ks → Q (.ref D) { s with heap := h', toks := tk' }) :
    wpAny (model prog w) A (call (.type "list") [.bytes b t]) Q E s := by
  refine call_list_bytes hh (fun h' tk acc' c' hk hS hacc => ?_) (by rw [← KBw.ints_length, hb, sizeLine_eq]; exact hn)
  have F' := F.keeps hk
  have N' : News h₀ L h' news := fun p hp => ⟨hk _ _ (N p hp).1, (N p hp).2⟩
  have new : h₀.get? s.heap.objs.size = none := next_is_new F
  refine h _ acc'.toList c' h' tk F' ?_ ?_ ?_
  · exact News.more F' N' hS (fun es n e => by cases e) new
  · have go : ∀ l : List (Addr × Obj), (∀ p ∈ l, p.1 < s.heap.objs.size) → LCg.Off1 s.heap.objs.size l := by
      intro l
      induction l with
      | nil => intro _; exact trivial
      | cons p l ih => intro hl; exact ⟨Nat.ne_of_lt (hl p (List.mem_cons_self ..)), ih fun q hq => hl q (List.mem_cons_of_mem _ hq)⟩
    exact go news fun p hp => Heap.lt_size (N p hp).1
  · refine ints_by _ _ (by rw [Array.length_toList, hacc.1, ← KBw.ints_length, hb]) fun j v hv => ?_
    obtain ⟨c, u, hc, rfl⟩ := hacc.2 j v (by simpa using hv)
    exact ⟨_, u, by rw [← hb]; exact KBw.ints_get hc, rfl⟩
end
end
/-! LawU -/
section
open PySem PySem.W PyProof.Rows
set_option maxRecDepth 100000
set_option maxHeartbeats 8000000
section
variable {w : World} {mean : ExcName → Option Value} {mg mb : Str → Option Value} {dp un : Nat} {gd : Option (List Code)} {cn : Str} {cs : Scope} {a : Addr} {ccd : Value} {cl : List (Str × Addr)} {outer : List Env} {A₀ : Around} {base h₀ : Heap} {L : Addr} {m : Str → Option Value} {s : Shared} {Q E : Value → Shared → Prop}
theorem draw_use {d C : Addr} {o : Obj} {ys : List Value} {ns : List Int} {k below : Int} {t tb : Tok} (pre post : List (Addr × Obj))
    (N : News h₀ L s.heap (pre ++ (d, o) :: (C, LCg.lst ys) :: post)) (hD : deckIs w o C k t) (hI : IntsAre ys ns) (hns : ns.length ≤ 100) (hdC : @Ne Nat C d) (hlo : (d == sysModules) = false) (k0 : 0 ≤ k) (k1 : k ≤ 100) (b0 : 0 < below) (b1 : below ≤ 100)
    (od : LCg.Off1 d (pre ++ post)) (oC : LCg.Off1 C (pre ++ post))
    (B : Below A₀ base outer h₀) (F : Fr h₀ L s.heap m) (X : (hd.heap_39 w.params).In h₀)
    (T : Top hd.view_39 (looseW hd.view_39 [Str.ofString "_law_menu", Str.ofString "_law_codes"]) mean mg mb h₀) (hk : cs.kind = .function) (hd : dp + 4 * (0 + 1) < recursionLimit) (hu : un + 100 * (0 + 1) < cLine)
    (hs : ∀ (r : Int) (t' : Tok) (o' : Obj) (t'' : Tok) (h' : Heap) (tk' : Nat), 0 ≤ r → r < below → Fr h₀ L h' m → News h₀ L h' (pre ++ (d, o') :: (C, LCg.lst ys) :: post) → deckIs w o' C (k + 1) t'' → Q (.int r t') { s with heap := h', toks := tk' }) :
    wpAny (model PySem.Challenge.rw_np0270_01.row.prog w) (ktrTop dp un gd cn cs L a ccd cl outer) (call (.ref 139) [.ref d, .int below tb]) Q E s := by
  have sub2 : ∀ p ∈ pre ++ post, p ∈ pre ++ (d, o) :: (C, LCg.lst ys) :: post := fun p hp => by
    rcases List.mem_append.mp hp with hp | hp
    · exact List.mem_append_left _ hp
    · exact List.mem_append_right _ (List.mem_cons_of_mem _ (List.mem_cons_of_mem _ hp))
  refine con_use (draw_any w mean mg mb d C hdC hlo o ys ns k t hD hI k0 k1 hns below b0 b1 tb) B F X N T hk hd hu (all2 (List.mem_append_right _ (List.mem_cons_self ..)) (List.mem_append_right _ (List.mem_cons_of_mem _ (List.mem_cons_self ..)))) (pre ++ post) (fun p hp => ⟨sub2 p hp, fun q => ?_⟩) fun v made h' tk' F' N' off O => ?_
  · have : p.1 = d ∨ p.1 = C := by simpa using q
    rcases this with e | e
    · exact off1_mem od p hp e
    · exact off1_mem oC p hp e
  · obtain ⟨r, t', o', t'', rfl, r0, r1, rfl, hD'⟩ := O
    refine hs r t' o' t'' h' tk' r0 r1 F' (fun p hp => N' p ?_) hD'
    exact (List.mem_append.mp hp).elim (fun hp => List.mem_append_right _ (List.mem_append_left _ hp)) (List.forall_mem_cons.mpr ⟨List.mem_append_left _ (List.mem_cons_self ..), List.forall_mem_cons.mpr ⟨List.mem_append_left _ (List.mem_cons_of_mem _ (List.mem_cons_self ..)), fun q hq => List.mem_append_right _ (List.mem_append_right _ hq)⟩⟩ p)
theorem deck_use {D : Addr} {n : Nat} {ws : List Value} {ns : List Int} (post : List (Addr × Obj))
    (N : News h₀ L s.heap ((D, listOf ws.toArray n) :: post)) (hI : IntsAre ws ns) (hns : ns.length ≤ 63) (oD : LCg.Off1 D post)
    (B : Below A₀ base outer h₀) (F : Fr h₀ L s.heap m) (X : (hd.heap_39 w.params).In h₀)
    (T : Top hd.view_39 (looseW hd.view_39 [Str.ofString "_law_menu", Str.ofString "_law_codes"]) mean mg mb h₀) (hk : cs.kind = .function) (hd : dp + 4 * (0 + 1) < recursionLimit) (hu : un + 100 * (0 + 1) < cLine)
    (hs : ∀ (d C : Addr) (o : Obj) (ys : List Value) (ks : List Int) (t : Tok) (h' : Heap) (tk' : Nat), Fr h₀ L h' m → News h₀ L h' ((d, o) :: (C, LCg.lst ys) :: post) → deckIs w o C 0 t → IntsAre ys ks → ks.length ≤ 100 → (d == sysModules) = false → @Ne Nat C d → LCg.Off1 d post → LCg.Off1 C post → Q (.ref d) { s with heap := h', toks := tk' }) :
    wpAny (model PySem.Challenge.rw_np0270_01.row.prog w) (ktrTop dp un gd cn cs L a ccd cl outer) (call (.ref 132) [.ref D]) Q E s := by
  refine con_use (deck_any w mean mg mb D n ws ns hI hns) B F X N T hk hd hu (fun p hp => ?_) post (fun p hp => ⟨List.mem_cons_of_mem _ hp, fun q => ?_⟩) fun v made h' tk' F' N' off O => ?_
  · rw [List.mem_singleton.mp hp]; exact List.mem_cons_self ..
  · have : p.1 = D := by simpa using q
    exact off1_mem oD p hp this
  · obtain ⟨d, o, C, ys, ks, t, rfl, rfl, hD, hI', hl, hlo, hne⟩ := O
    have nd : ∀ q ∈ [(d, o), (C, LCg.lst ys)], q.1 ≠ D → ∀ p ∈ post, p.1 ≠ q.1 := fun q hq hn p hp => off q hq (by simpa using hn) p (List.mem_cons_of_mem _ hp)
    have clD : ∀ q ∈ [(d, o), (C, LCg.lst ys)], ∀ p ∈ post, p.1 ≠ q.1 := fun q hq p hp => by
      by_cases e : q.1 = D
      · rw [e]; exact off1_mem oD p hp
      · exact nd q hq e p hp
    exact hs d C o ys ks t h' tk' F' N' hD hI' hl hlo hne (off1_of fun p hp => clD (d, o) (List.mem_cons_self ..) p hp) (off1_of fun p hp => clD (C, LCg.lst ys) (List.mem_cons_of_mem _ (List.mem_cons_self ..)) p hp)
theorem read_use {b : Array UInt8} {ks : List Int} {t : Tok} {news : List (Addr × Obj)} (hb : KBw.bInts b = ks) (hl : ks.length ≤ 36) (N : News h₀ L s.heap news)
    (B : Below A₀ base outer h₀) (F : Fr h₀ L s.heap m) (X : (hd.heap_39 w.params).In h₀)
    (T : Top hd.view_39 (looseW hd.view_39 [Str.ofString "_law_menu", Str.ofString "_law_codes"]) mean mg mb h₀) (hk : cs.kind = .function) (hd : dp + 4 * (2 + 1) < recursionLimit) (hu : un + 100 * (2 + 1) < cLine)
    (hs : ∀ (D TT : Addr) (vs : List Value) (n : Nat) (w9 : Bool) (h' : Heap) (tk' : Nat), (readL ks).2 = w9 → Fr h₀ L h' m → News h₀ L h' ((TT, { cls := .type "tuple", data := .seq #[.ref D, .bool w9] }) :: (D, listOf vs.toArray n) :: news) → IntsAre vs (readL ks).1 → @Ne Nat D TT → LCg.Off1 TT news → LCg.Off1 D news → Q (.ref TT) { s with heap := h', toks := tk' }) :
    wpAny (model PySem.Challenge.rw_np0270_01.row.prog w) (ktrTop dp un gd cn cs L a ccd cl outer) (call (.ref 156) [.bytes b t]) Q E s := by
  refine con_use (read_any w mean mg mb b ks hl hb t) B F X N T hk hd hu (fun p hp => nomatch hp) news (fun p hp => ⟨hp, fun q => nomatch q⟩) fun v made h' tk' F' N' off O => ?_
  obtain ⟨D, vs, n, TT, ww, rfl, rfl, hi, rfl⟩ := O
  have hne : D ≠ TT := fun e => by
    have h1 := (N' (D, listOf vs.toArray n) (List.mem_append_left _ (List.mem_cons_self ..))).1
    have h2 := (N' (TT, { cls := .type "tuple", data := .seq #[.ref D, .bool (readL ks).2] }) (List.mem_append_left _ (List.mem_cons_of_mem _ (List.mem_cons_self ..)))).1
    rw [e] at h1
    have h3 := congrArg Obj.cls (Option.some.inj (h1.symm.trans h2))
    exact absurd (Value.type.inj h3) (by decide)
  refine hs D TT vs n _ h' tk' rfl F' (fun p hp => N' p ?_) hi hne (off1_of fun q hq => off (TT, _) (List.mem_cons_of_mem _ (List.mem_cons_self ..)) (fun z => nomatch z) q hq) (off1_of fun q hq => off (D, _) (List.mem_cons_self ..) (fun z => nomatch z) q hq)
  exact List.forall_mem_cons.mpr ⟨List.mem_append_left _ (List.mem_cons_of_mem _ (List.mem_cons_self ..)), List.forall_mem_cons.mpr ⟨List.mem_append_left _ (List.mem_cons_self ..), fun q hq => List.mem_append_right _ hq⟩⟩ p hp
theorem codes_use {b : Array UInt8} {ks : List Int} {t : Tok} {news : List (Addr × Obj)} (hb : KBw.bInts b = ks) (hl : ks.length ≤ 36) (N : News h₀ L s.heap news)
    (B : Below A₀ base outer h₀) (F : Fr h₀ L s.heap m) (X : (hd.heap_39 w.params).In h₀)
    (T : Top hd.view_39 (looseW hd.view_39 [Str.ofString "_law_menu", Str.ofString "_law_codes"]) mean mg mb h₀) (hk : cs.kind = .function) (hd : dp + 4 * (4 + 1) < recursionLimit) (hu : un + 100 * (4 + 1) < cLine)
    (hs : ∀ (D : Addr) (vs : List Value) (n : Nat) (h' : Heap) (tk' : Nat), Fr h₀ L h' m → News h₀ L h' ((D, listOf vs.toArray n) :: news) → IntsAre vs (codesOut ks) → LCg.Off1 D news → Q (.ref D) { s with heap := h', toks := tk' }) :
    wpAny (model PySem.Challenge.rw_np0270_01.row.prog w) (ktrTop dp un gd cn cs L a ccd cl outer) (call (.ref 125) [.bytes b t]) Q E s := by
  refine con_use (codes_any w mean mg mb b ks hl hb t) B F X N T hk hd hu (fun p hp => nomatch hp) news (fun p hp => ⟨hp, fun q => nomatch q⟩) fun v made h' tk' F' N' off O => ?_
  obtain ⟨D, vs, n, rfl, rfl, hi⟩ := O
  exact hs D vs n h' tk' F' N' hi (off1_of fun q hq => off (D, _) (List.mem_cons_self ..) (fun z => nomatch z) q hq)
theorem utf8_use {D : Addr} {vs : List Value} {ks : List Int} {news : List (Addr × Obj)} (hm : (D, LCg.lst vs) ∈ news) (hi : IntsAre vs ks) (hks : ∀ c ∈ ks, 0 ≤ c ∧ c ≤ 1114111) (hn : ks.length ≤ 36) (hn0 : ks ≠ []) (N : News h₀ L s.heap news)
    (B : Below A₀ base outer h₀) (F : Fr h₀ L s.heap m) (X : (hd.heap_39 w.params).In h₀)
    (T : Top hd.view_39 (looseW hd.view_39 [Str.ofString "_law_menu", Str.ofString "_law_codes"]) mean mg mb h₀) (hk : cs.kind = .function) (hd : dp + 4 * (2 + 1) < recursionLimit) (hu : un + 100 * (2 + 1) < cLine)
    (hs : ∀ (b : Array UInt8) (t : Tok) (h' : Heap) (tk' : Nat), Fr h₀ L h' m → News h₀ L h' news → KBw.bInts b = (ks.map enc).flatten → Q (.bytes b t) { s with heap := h', toks := tk' }) :
    wpAny (model PySem.Challenge.rw_np0270_01.row.prog w) (ktrTop dp un gd cn cs L a ccd cl outer) (call (.ref 118) [.ref D]) Q E s := by
  refine utf8_any w mean mg mb D vs ks hi hks hn hn0 dp un gd cn cs a ccd cl outer A₀ base h₀ L m s Q E B F X (fun p hp => by rw [List.mem_singleton.mp hp]; exact N _ hm) T hk hd hu fun v made h' tk' F' N' keep fresh o => ?_
  obtain ⟨rfl, b, t, rfl, e⟩ := o
  refine hs b t h' tk' F' (fun p hp => ?_) e
  by_cases e1 : p.1 = D
  · have h1 := (N p hp).1
    have h2 := (N _ hm).1
    rw [e1] at h1
    have h3 : p.2 = LCg.lst vs := Option.some.inj (h1.symm.trans h2)
    have h4 : p = (D, LCg.lst vs) := Prod.ext e1 h3
    rw [h4]
    exact N' _ (List.mem_singleton.mpr rfl)
  · exact ⟨keep _ _ (N p hp).1 (by simpa using e1), (N p hp).2⟩
end
end
/-! CompD -/
section
open PySem PySem.W PySem.Spec PySem.Calls PyProof.Rows PyProof.Rows.LCg PyProof.Rows.LCt
set_option maxRecDepth 100000
section
variable {prog : Program} {w : World} {A : Around} {E : Value → Shared → Prop} {s : Shared} {h₀ : Heap} {L : Addr} {m : Str → Option Value} {env : Env}
/-- draws, one a turn -/
theorem src_deck {ww : World} {elt : Expr} {x : Str} {scope : Scope} {cl : List (Str × Addr)} {Fin : Shared → List Value → List (Addr × Obj) → Prop} {s₁ : Shared} {r : Addr} {b : Int} {t₁ u₁ v₁ : Tok} {d C : Addr} {o : Obj} {ys : List Value} {k0 : Int} {t : Tok} {news rest : List (Addr × Obj)} (P : Int → Prop)
    (hr : IsRange s₁.heap r 0 b 1 t₁ u₁ v₁) (hb0 : 0 ≤ b) (hb1 : b ≤ 60) (hD : deckIs ww o C k0 t) (hh : A.handled = none) (F : Fr h₀ L s₁.heap m) (N : News h₀ L s₁.heap news) (sub : ∀ p ∈ (d, o) :: (C, lst ys) :: rest, p ∈ news)
    (fin : ∀ g (ys' : List Value) (ms : List Int) (o' : Obj) (t' : Tok), deckIs ww o' C (k0 + b) t' → IntsAre ys' ms → (ms.length : Int) = b → (∀ k ∈ ms, P k) → Fin { s₁ with heap := g } ys' ((d, o') :: (C, lst ys) :: rest))
    (turn : ∀ (k : Int) (o' : Obj) (t' : Tok) (ys' : List Value), k0 ≤ k → k < k0 + b → deckIs ww o' C k t' → ∀ I oI C' oC D m₂ h tk (E' : Value → Shared → Prop), NsObj oC m₂ → Fr h₀ L h m → News h₀ L h ((I, oI) :: (C', oC) :: (D, lst ys') :: (d, o') :: (C, lst ys) :: rest) → Off3 I C' D ((d, o') :: (C, lst ys) :: rest) → ((@Ne Nat I C') ∧ (@Ne Nat I D) ∧ (@Ne Nat C' D)) →
      wpAny (model prog w) A (eval elt (compEnvC scope cl C' env)) (CompEnd h₀ L m { s₁ with heap := h, toks := tk } I oI C' oC D (lst ys') (fun _ => True) (fun y news' => ∃ q t o'' t'', y = .int q t ∧ P q ∧ news' = (d, o'') :: (C, lst ys) :: rest ∧ deckIs ww o'' C (k + 1) t'')) E' { s₁ with heap := h, toks := tk }) :
    CompSrc prog w A h₀ L m env elt x scope cl Fin (.ref r) s₁ := by
  have hn : Builtin.Range.rangeSize 0 b 1 = ((b.toNat : Nat) : Int) := by rw [rangeSize_nat, Int.sub_zero]
  have hsz : b.toNat ≤ sizeLine := by
    have h5 : (100 : Nat) ≤ sizeLine := Nat.le_of_ble_eq_true rfl
    omega
  refine CompSrc.range hh F (fun p hp => N p (sub p hp)) hr (small_one (by omega) (by omega) (by omega) (by omega)) hn hsz fun g => ?_
  refine restU_ind (fun i ys' news' => ∃ ms o' t', news' = (d, o') :: (C, lst ys) :: rest ∧ deckIs ww o' C (k0 + i) t' ∧ IntsAre ys' ms ∧ ms.length = i ∧ ∀ k ∈ ms, P k) ⟨[], o, t, rfl, by simpa using hD, .nil, rfl, fun _ h => nomatch h⟩ ?_ ?_
  · rintro ys' _ ⟨ms, o', t', rfl, hD', hi, hl, hP⟩
    exact fin g ys' ms o' t' (by have e : ((b.toNat : Nat) : Int) = b := by omega
                                 rw [e] at hD'; exact hD') hi (by omega) hP
  · rintro i ys' _ hi' ⟨ms, o', t', rfl, hD', hi, hl, hP⟩ v I oI C' oC D m₂ h tk E' _ hC _ F' N' off ne
    refine wpAny_mono (turn (k0 + i) o' t' ys' (by omega) (by omega) hD' I oI C' oC D m₂ h tk E' hC F' N' off ne) (fun y s' he => ?_) fun _ _ e => e
    refine compEnd_mono he ?_
    rintro news' ⟨q, t9, o'', t'', rfl, hq, rfl, hD''⟩
    refine ⟨ms ++ [q], o'', t'', rfl, ?_, hi.append (.cons _ _ .nil), by simp [hl], fun k hk => ?_⟩
    · have e : k0 + ((i + 1 : Nat) : Int) = k0 + i + 1 := by omega
      rw [e]; exact hD''
    · rcases List.mem_append.mp hk with hk | hk
      · exact hP k hk
      · rw [List.mem_singleton.mp hk]; exact hq
end
end
/-! Seg0 -/
section
open PySem PySem.W PyProof.Rows
set_option maxRecDepth 100000
set_option maxHeartbeats 8000000
noncomputable def lastS : List Stmt → Option Stmt
  | [] => none
  | [x] => some x
  | _ :: y :: r => lastS (y :: r)
noncomputable def bodyOf : Option Stmt → List Stmt
  | some (.FunctionDef _ _ b _ _ _ _ _ _ _) => b
  | _ => []
noncomputable def scopeOf : Option Stmt → Scope
  | some (.FunctionDef _ _ _ _ _ _ s _ _ _) => s
  | _ => default
noncomputable def lawBody : List Stmt := bodyOf (lastS PySem.Challenge.pw_np0270_01.main.body)
noncomputable def lawScope : Scope := scopeOf (lastS PySem.Challenge.pw_np0270_01.main.body)
theorem law_len : lawBody.length = 15 := by rfl
theorem law_kind : lawScope.kind = .function := by rfl
noncomputable abbrev lawEnv (L fa : Addr) (cd : Value) : Env := envOfC (Str.ofString "law") lawScope L fa cd
end
/-! CompF -/
section
open PySem PySem.W PySem.Spec PySem.Calls PyProof.Rows PyProof.Rows.LCg PyProof.Rows.LCt
set_option maxRecDepth 100000
section
variable {prog : Program} {w : World} {A : Around} {E : Value → Shared → Prop} {s : Shared} {h₀ : Heap} {L : Addr} {m : Str → Option Value} {env : Env}
/-- a list of ints, turned one by one -/
theorem src_map {elt : Expr} {x : Str} {scope : Scope} {cl : List (Str × Addr)} {Fin : Shared → List Value → List (Addr × Obj) → Prop} {s₁ : Shared} {ax : Addr} {vs : List Value} {cs : List Int} {k : Nat} {news : List (Addr × Obj)} (f : Int → Int)
    (hi : IntsAre vs cs) (hcs : ∀ c ∈ cs, 0 ≤ c ∧ c ≤ 1114111) (hn : cs.length ≤ 36) (hh : A.handled = none) (F : Fr h₀ L s₁.heap m) (N : News h₀ L s₁.heap news) (hm : (ax, ({ cls := .type "list", data := .seq vs.toArray k } : Obj)) ∈ news)
    (fin : ∀ g (ys : List Value), IntsAre ys (cs.map f) → Fin { s₁ with heap := g } ys news)
    (turn : ∀ (c : Int) (u : Tok) (ys : List Value), 0 ≤ c → c ≤ 1114111 → ∀ I oI C oC D m₂ h tk (E' : Value → Shared → Prop), NsObj oC m₂ → m₂ x = some (.int c u) → Fr h₀ L h m → News h₀ L h ((I, oI) :: (C, oC) :: (D, lst ys) :: news) → Off3 I C D news → ((@Ne Nat I C) ∧ (@Ne Nat I D) ∧ (@Ne Nat C D)) →
      wpAny (model prog w) A (eval elt (compEnvC scope cl C env)) (CompEnd h₀ L m { s₁ with heap := h, toks := tk } I oI C oC D (lst ys) (fun _ => True) (fun y news' => news' = news ∧ ∃ t, y = .int (f c) t)) E' { s₁ with heap := h, toks := tk }) :
    CompSrc prog w A h₀ L m env elt x scope cl Fin (.ref ax) s₁ := by
  have hl := hi.length
  refine CompSrc.ledger hh F N hm (by have h5 : (100 : Nat) ≤ sizeLine := Nat.le_of_ble_eq_true rfl
                                      rw [List.size_toArray]; omega) fun g => ?_
  refine restU_ind (fun i ys news' => news' = news ∧ IntsAre ys ((cs.take i).map f)) ⟨rfl, by simpa using IntsAre.nil⟩ ?_ ?_
  · rintro ys _ ⟨rfl, e⟩
    rw [List.size_toArray, hl, List.take_length] at e
    exact fin _ ys e
  · rintro i ys _ hi' ⟨rfl, e⟩ v I oI C oC D m₂ h tk E' hv hC hx F' N' off ne
    have hi2 : i < cs.length := by rw [List.size_toArray] at hi'; omega
    have hc : cs[i]? = some cs[i] := List.getElem?_eq_getElem hi2
    obtain ⟨t, ht⟩ := hi.get i _ hc
    have hv' : v = .int cs[i] t := by
      have hv2 : vs.toArray[i]? = some v := hv
      rw [List.getElem?_toArray, ht] at hv2
      exact (Option.some.inj hv2).symm
    subst hv'
    have hb := hcs cs[i] (List.getElem_mem hi2)
    refine wpAny_mono (turn cs[i] t _ hb.1 hb.2 I oI C oC D m₂ h tk E' hC hx F' N' off ne) (fun y s' he => ?_) fun _ _ e => e
    obtain ⟨h', tk', news', e1, F9, N9, off9, _, hn9, t', rfl⟩ := he
    subst hn9
    refine ⟨h', tk', _, e1, F9, N9, off9, .inr ⟨_, hm, rfl, _, rfl⟩, rfl, ?_⟩
    rw [List.take_add_one, hc, List.map_append]
    exact e.append (.cons _ _ .nil)
/-- two tuples of a list of ints and a bool -/
theorem eq_tup {a b D D' : Addr} {xs ys : List Value} {ns ms : List Int} {w9 : Bool} {Q : Value → Shared → Prop}
    (ha : s.heap.get? a = some { cls := .type "tuple", data := .seq #[.ref D, .bool w9] }) (hb : s.heap.get? b = some { cls := .type "tuple", data := .seq #[.ref D', .bool w9] })
    (hD : s.heap.IsList D xs.toArray) (hD' : s.heap.IsList D' ys.toArray) (hi : IntsAre xs ns) (hj : IntsAre ys ms) (hu : A.units + 64 < cLine) (e : ns = ms) (h : Q (.bool true) s) :
    wpAny (model prog w) A (compareOp .Eq (.ref a) (.ref b)) Q E s := by
  subst e
  refine eq_dataH (reads_tuple_at ha rfl rfl (.cons (reads_newData hD (ke_carried hi)) (.cons (Reads.bool _) .nil))) (reads_tuple_at hb rfl rfl (.cons (reads_newData hD' (ke_carried hj)) (.cons (Reads.bool _) .nil))) ?_ ?_ hu ?_
  · simp [SeqAt.shaped, PyData.canLay0, PyData.canLayAll0, PyData.depth, PyData.depthAll, ke_canLayAll0, ke_depthAll]
  · simp [SeqAt.shaped, PyData.canLay0, PyData.canLayAll0, PyData.depth, PyData.depthAll, ke_canLayAll0, ke_depthAll]
  · have e : PyData.eqv (.tuple [.list (ns.map .int), .bool w9]) (.tuple [.list (ns.map .int), .bool w9]) = true := by
      cases w9 <;> simp [PyData.eqv, PyData.eqvAll, ked_eqvAll]
    rw [e]; exact h
end
end
/-! LawV -/
section
open PySem PySem.W PyProof.Rows
set_option maxRecDepth 100000
set_option maxHeartbeats 8000000
section
variable {w : World} {mean : ExcName → Option Value} {mg mb : Str → Option Value} {dp un : Nat} {gd : Option (List Code)} {cn : Str} {cs : Scope} {a : Addr} {ccd : Value} {cl : List (Str × Addr)} {outer : List Env} {A₀ : Around} {base h₀ : Heap} {L : Addr} {m : Str → Option Value} {s : Shared} {Q E : Value → Shared → Prop}
theorem codes36 {ms : List Int} (h : ms.length ≤ 9) : ((ms.map enc).flatten).length ≤ 36 := by have := codes_len ms; omega
theorem ne_nil {ms : List Int} {b : Int} (h : (ms.length : Int) = b) (hb : 0 < b) : ms ≠ [] := fun e => by subst e; simp at h; omega
theorem read_written {f : Int → Int} (hf : f = fixC) {b : Array UInt8} {ms : List Int} {t : Tok} {news : List (Addr × Obj)} (hb : KBw.bInts b = (ms.map enc).flatten) (hP : ∀ c ∈ ms, 0 ≤ c ∧ c ≤ 1114111) (hl : ms.length ≤ 9) (N : News h₀ L s.heap news)
    (B : Below A₀ base outer h₀) (F : Fr h₀ L s.heap m) (X : (hd.heap_39 w.params).In h₀)
    (T : Top hd.view_39 (looseW hd.view_39 [Str.ofString "_law_menu", Str.ofString "_law_codes"]) mean mg mb h₀) (hk : cs.kind = .function) (hd : dp + 4 * (2 + 1) < recursionLimit) (hu : un + 100 * (2 + 1) < cLine)
    (hs : ∀ (D TT : Addr) (vs : List Value) (n : Nat) (h' : Heap) (tk' : Nat), Fr h₀ L h' m → News h₀ L h' ((TT, { cls := .type "tuple", data := .seq #[.ref D, .bool false] }) :: (D, listOf vs.toArray n) :: news) → IntsAre vs (ms.map f) → @Ne Nat D TT → LCg.Off1 TT news → LCg.Off1 D news → Q (.ref TT) { s with heap := h', toks := tk' }) :
    wpAny (model PySem.Challenge.rw_np0270_01.row.prog w) (ktrTop dp un gd cn cs L a ccd cl outer) (call (.ref 156) [.bytes b t]) Q E s := by
  refine read_use hb (codes36 hl) N B F X T hk hd hu fun D TT vs n w9 h' tk' hw F' N' IA ne oT oD => ?_
  rw [(read_codes ms hP).2] at hw IA
  subst hw hf
  exact hs D TT vs n h' tk' F' N' IA ne oT oD
end
end
/-! SegL -/
section
open PySem PySem.W PyProof.Rows
set_option maxRecDepth 100000
set_option maxHeartbeats 8000000
section
variable {prog : Program} {w : World} {A : Around} {E : Value → Shared → Prop} {s : Shared} {xs ys : List Value} {ns ms : List Int} {a b : Addr} {Q : Value → Shared → Prop}
theorem ne_same (ha : s.heap.IsList a xs.toArray) (hb : s.heap.IsList b ys.toArray) (hi : IntsAre xs ns) (hj : IntsAre ys ms) (hu : A.units + 64 < cLine) (e : ns = ms) (h : Q (.bool false) s) :
    wpAny (model prog w) A (compareOp .NotEq (.ref a) (.ref b)) Q E s :=
  PySem.W.ke_ne_ints ha hb hi hj hu (by rw [decide_eq_true e]; exact h)
end
section
variable {ks : List Int} {low r : Int}
theorem slice_upto (h0 : 0 ≤ low) (h1 : low ≤ (ks.length : Int)) : (ks.drop ((none : Option Int).elim 0 (clipAt ks.length))).take ((some low).elim ks.length (clipAt ks.length) - (none : Option Int).elim 0 (clipAt ks.length)) = ks.take low.toNat := by
  obtain ⟨n, rfl⟩ := Int.eq_ofNat_of_zero_le h0
  have := slice_to n ks (by omega)
  rw [Int.toNat_natCast]
  exact this
theorem cut3 (h0 : 0 ≤ low) (hr : 0 ≤ r) : ks = ks.take low.toNat ++ (ks.drop low.toNat).take r.toNat ++ ks.drop (low + r).toNat := by
  have e : (low + r).toNat = low.toNat + r.toNat := Int.toNat_add h0 hr
  rw [e, ← List.drop_drop, List.append_assoc, List.take_append_drop, List.take_append_drop]
theorem codes_t (h : (readL ks).2 = true) : codesOut ks = (readL ks).1 ++ [65533] := by unfold codesOut; rw [if_pos h]
theorem codes_f (h : (readL ks).2 = false) : codesOut ks = (readL ks).1 ++ [] := by unfold codesOut; rw [if_neg (by rw [h]; exact Bool.false_ne_true)]
theorem told_l {l : Int} {w : Bool} (h : decide (0 < l) = w) (h' : w = true) : 0 < l := of_decide_eq_true (h.trans h')
theorem told_n {l : Int} {w : Bool} (h : decide (0 < l) = w) (h' : w = false) : ¬ 0 < l := of_decide_eq_false (h.trans h')
end
section
variable {prog : Program} {w : World} {A : Around} {E : Value → Shared → Prop} {s : Shared} {a b : Bool} {Q : Value → Shared → Prop} {l c : Int}
theorem eqb_false (e : (a == b) = false) (h : Q (.bool false) s) : wpAny (model prog w) A (compareOp .Eq (.bool a) (.bool b)) Q E s := eq_bool (by rw [e]; exact h)
theorem eqb_t (h : 0 < l) : ((l == 0) == true) = false := by
  have : (l == 0) = false := by simp; omega
  rw [this]; rfl
theorem eqb_n (h : ¬ 0 < l) (ok : OkSt l c) : ((l == 0) == false) = false := by
  have h0 := ok.1
  have : (l == 0) = true := by simp; omega
  rw [this]; rfl
theorem eqb_w {w : Bool} (h : decide (0 < l) = w) (ok : OkSt l c) : ((l == 0) == w) = false := by
  cases w
  · exact eqb_n (of_decide_eq_false h) ok
  · exact eqb_t (of_decide_eq_true h)
end
/-- the turn of a written code, kept folded -/
noncomputable def IsFix (f : Int → Int) : Prop := f = fixC
theorem isFix : IsFix fixC := rfl
theorem fix_y {f : Int → Int} (hf : IsFix f) {c : Int} {t : Tok} (h : 55296 ≤ c ∧ c < 57344) : Value.int 65533 t = .int (f c) t := by rw [hf]; unfold fixC; rw [if_pos h]
theorem fix_n {f : Int → Int} (hf : IsFix f) {c : Int} {t : Tok} (h : ¬ (55296 ≤ c ∧ c < 57344)) : Value.int c t = .int (f c) t := by rw [hf]; unfold fixC; rw [if_neg h]
section
open PyProof.Rows.LCg
variable {prog : Program} {w : World} {A : Around} {E : Value → Shared → Prop} {s : Shared} {h₀ : Heap} {L : Addr} {m : Str → Option Value} {env : Env}
theorem src_fix {f : Int → Int} (_ : IsFix f) {elt : Expr} {x : Str} {scope : Scope} {cl : List (Str × Addr)} {Fin : Shared → List Value → List (Addr × Obj) → Prop} {s₁ : Shared} {ax : Addr} {vs : List Value} {cs : List Int} {k : Nat} {news : List (Addr × Obj)}
    (hi : IntsAre vs cs) (hcs : ∀ c ∈ cs, 0 ≤ c ∧ c ≤ 1114111) (hn : cs.length ≤ 36) (hh : A.handled = none) (F : Fr h₀ L s₁.heap m) (N : News h₀ L s₁.heap news) (hm : (ax, ({ cls := .type "list", data := .seq vs.toArray k } : Obj)) ∈ news)
    (fin : ∀ g (ys : List Value), IntsAre ys (cs.map f) → Fin { s₁ with heap := g } ys news)
    (turn : ∀ (c : Int) (u : Tok) (ys : List Value), 0 ≤ c → c ≤ 1114111 → ∀ I oI C oC D m₂ h tk (E' : Value → Shared → Prop), NsObj oC m₂ → m₂ x = some (.int c u) → Fr h₀ L h m → News h₀ L h ((I, oI) :: (C, oC) :: (D, lst ys) :: news) → Off3 I C D news → ((@Ne Nat I C) ∧ (@Ne Nat I D) ∧ (@Ne Nat C D)) →
      wpAny (model prog w) A (eval elt (compEnvC scope cl C env)) (CompEnd h₀ L m { s₁ with heap := h, toks := tk } I oI C oC D (lst ys) (fun _ => True) (fun y news' => news' = news ∧ ∃ t, y = .int (f c) t)) E' { s₁ with heap := h, toks := tk }) :
    CompSrc prog w A h₀ L m env elt x scope cl Fin (.ref ax) s₁ := src_map f hi hcs hn hh F N hm fin turn
end
theorem fr_kst {h₀ h : Heap} {L : Addr} {m : Str → Option Value} {ps : List (Str × Value)} (hk : ∀ p ∈ ps, m p.1 = some p.2) (F : Fr h₀ L h m) : Fr h₀ L h (kstB m ps) := by
  have e : kstB m ps = m := by
    funext y
    exact kstB_eq hk fun _ => rfl
  rw [e]; exact F
end
/-! Item -/
section
open PySem PySem.W PyProof.Rows
set_option maxRecDepth 100000
set_option maxHeartbeats 8000000
theorem codes_at {w : World} : ∃ a c d l, (hd.heap_39 w.params).lookup 127 = some ⟨.type "list", a, .seq (l : List Value).toArray c, d⟩ ∧ IntsAre l [65, 233, 2047, 2048, 8364, 55295, 55296, 57343, 57344, 65533, 65535, 65536, 128512, 1114111] :=
  ⟨_, _, _, [_, _, _, _, _, _, _, _, _, _, _, _, _, _], rfl, .cons _ _ (.cons _ _ (.cons _ _ (.cons _ _ (.cons _ _ (.cons _ _ (.cons _ _ (.cons _ _ (.cons _ _ (.cons _ _ (.cons _ _ (.cons _ _ (.cons _ _ (.cons _ _ .nil)))))))))))))⟩
theorem menu_at {w : World} : ∃ a c d l, (hd.heap_39 w.params).lookup 126 = some ⟨.type "list", a, .seq (l : List Value).toArray c, d⟩ ∧ IntsAre l [65, 195, 169, 226, 130, 172, 27, 240, 159, 152, 128, 237, 160, 224, 192, 245, 244, 144, 255, 191, 143] :=
  ⟨_, _, _, [_, _, _, _, _, _, _, _, _, _, _, _, _, _, _, _, _, _, _, _, _], rfl, .cons _ _ (.cons _ _ (.cons _ _ (.cons _ _ (.cons _ _ (.cons _ _ (.cons _ _ (.cons _ _ (.cons _ _ (.cons _ _ (.cons _ _ (.cons _ _ (.cons _ _ (.cons _ _ (.cons _ _ (.cons _ _ (.cons _ _ (.cons _ _ (.cons _ _ (.cons _ _ (.cons _ _ .nil))))))))))))))))))))⟩
section
variable {prog : Program} {w : World} {A : Around} {E : Value → Shared → Prop} {s : Shared}
theorem top_item {value slice : PySem.Expr} {K : Frag} {h₀ : Heap} {L a : Addr} {m : Str → Option Value} {n : Nat} {l : List Value} {ns : List Int} {dd : Option Addr} {sl : Array (Option Value)} {k : Int} {u : Tok} {Q : Value → Shared → Prop} (F : Fr h₀ L s.heap m) (X₀ : K.In h₀)
    (hl : K.lookup a = some ⟨.type "list", dd, .seq l.toArray n, sl⟩) (hi : IntsAre l ns) (h0 : 0 ≤ k) (h1 : k < ns.length) (hfit : k < 2 ^ 63) (h : ∀ x t, x ∈ ns → Q (.int x t) s)
    (hs : subscripted slice false (.ref a) (.int k u) = operate [.ref a, .int k u] (getItem (.ref a) (.int k u)) := by with_unfolding_all rfl) :
    wpAny (model prog w) A (subscriptTail value slice (.ref a) (.int k u)) Q E s := by
  have hI : s.heap.IsList a l.toArray := ⟨_, (X₀.keeps F.keep) _ _ hl, rfl, _, rfl⟩
  have hlt : k.toNat < ns.length := by omega
  obtain ⟨t, hx⟩ := hi.get k.toNat _ (List.getElem?_eq_getElem hlt)
  exact tail_any hI.typeIs slot_list_getitem.lookup (wpAny_getItem_list hI h0 hfit (by simpa using hx) (h _ t (List.getElem_mem hlt))) hs
theorem codes_item {value slice : PySem.Expr} {h₀ : Heap} {L : Addr} {m : Str → Option Value} {k : Int} {u : Tok} {Q : Value → Shared → Prop} (F : Fr h₀ L s.heap m) (X₀ : (hd.heap_39 w.params).In h₀)
    (h0 : 0 ≤ k) (h1 : k < 14) (h : ∀ x t, 0 ≤ x → x ≤ 1114111 → Q (.int x t) s)
    (hs : subscripted slice false (.ref 127) (.int k u) = operate [.ref 127, .int k u] (getItem (.ref 127) (.int k u)) := by with_unfolding_all rfl) :
    wpAny (model prog w) A (subscriptTail value slice (.ref 127) (.int k u)) Q E s := by
  obtain ⟨a, c, d, l, hl, hi⟩ := codes_at (w := w)
  refine top_item F X₀ hl hi h0 (by simpa using h1) (by omega) (fun x t hx => ?_) hs
  have hb : ∀ x ∈ ([65, 233, 2047, 2048, 8364, 55295, 55296, 57343, 57344, 65533, 65535, 65536, 128512, 1114111] : List Int), 0 ≤ x ∧ x ≤ 1114111 := by decide
  exact h x t (hb x hx).1 (hb x hx).2
theorem menu_item {value slice : PySem.Expr} {h₀ : Heap} {L : Addr} {m : Str → Option Value} {k : Int} {u : Tok} {Q : Value → Shared → Prop} (F : Fr h₀ L s.heap m) (X₀ : (hd.heap_39 w.params).In h₀)
    (h0 : 0 ≤ k) (h1 : k < 21) (h : ∀ x t, 0 ≤ x → x < 256 → Q (.int x t) s)
    (hs : subscripted slice false (.ref 126) (.int k u) = operate [.ref 126, .int k u] (getItem (.ref 126) (.int k u)) := by with_unfolding_all rfl) :
    wpAny (model prog w) A (subscriptTail value slice (.ref 126) (.int k u)) Q E s := by
  obtain ⟨a, c, d, l, hl, hi⟩ := menu_at (w := w)
  refine top_item F X₀ hl hi h0 (by simpa using h1) (by omega) (fun x t hx => ?_) hs
  have hb : ∀ x ∈ ([65, 195, 169, 226, 130, 172, 27, 240, 159, 152, 128, 237, 160, 224, 192, 245, 244, 144, 255, 191, 143] : List Int), 0 ≤ x ∧ x < 256 := by decide
  exact h x t (hb x hx).1 (hb x hx).2
end
end
/-! Seg5 -/
section
open PySem PySem.W PyProof.Rows
set_option maxRecDepth 100000
set_option maxHeartbeats 8000000
theorem end5 {h₀ h : Heap} {L : Addr} {q1 q2 q3 q4 q5 e1 e2 : Addr × Obj} {rest : List (Addr × Obj)} (N : News h₀ L h (q1 :: q2 :: e1 :: e2 :: q3 :: q4 :: q5 :: rest)) : News h₀ L h (e1 :: e2 :: rest) := fun p hp => N p (by
  simp only [List.mem_cons] at hp ⊢
  rcases hp with h | h | h <;> simp [h])
theorem seg5 {w : World} {mean : ExcName → Option Value} {mg mb : Str → Option Value} {dp un : Nat} {gd : Option (List Code)} {L fa : Addr} {cd : Value} {outer : List Env} {A₀ : Around} {base h₀ : Heap} {s : Shared} {Q : Flow → Shared → Prop} {E : Value → Shared → Prop}
    {u : Str → Option Value} {b : Array UInt8} {t t1 t2 : Tok} {ks : List Int} {low r : Int} {D9 : Addr} {vs : List Value} {n9 : Nat} {w9 : Bool} {p1 p2 p3 : Addr × Obj}
    (hb : KBw.bInts b = ks) (hl : ks.length ≤ 9) (l0 : 0 ≤ low) (l1 : low ≤ (ks.length : Int)) (r0 : 0 ≤ r) (r1 : low + r ≤ (ks.length : Int)) (hw9 : (readL ks).2 = w9) (IA : IntsAre vs (readL ks).1) (hrl : (readL ks).1.length ≤ 72)
    (B : Below A₀ base outer h₀) (F : Fr h₀ L s.heap (kstB u [(Str.ofString "octets", .bytes b t), (Str.ofString "low", .int low t1), (Str.ofString "high", .int (low + r) t2), (Str.ofString "due", .ref D9), (Str.ofString "is_waiting", .bool w9)])) (X : (hd.heap_39 w.params).In h₀)
    (N : News h₀ L s.heap [(D9, listOf vs.toArray n9), p1, p2, p3]) (T : Top hd.view_39 (looseW hd.view_39 [Str.ofString "_law_menu", Str.ofString "_law_codes"]) mean mg mb h₀) (hd : dp + 40 < recursionLimit) (hu : un + 1000 < cLine)
    (next : ∀ (u' : Str → Option Value) (x d : Addr) (K1 K2 K3 K4 K5 : Tok) (l c lo hi : Int) (t1' t2' t3' t4' : Tok) (h' : Heap) (tk' : Nat), OkSt l c → decide (0 < l) = w9 → @LT.lt Nat _ d x → LCg.Off1 x [(D9, listOf vs.toArray n9), p1, p2, p3] → LCg.Off1 d [(D9, listOf vs.toArray n9), p1, p2, p3] →
      Fr h₀ L h' (kstB u' [(Str.ofString "octets", .bytes b t), (Str.ofString "low", .int low t1), (Str.ofString "due", .ref D9), (Str.ofString "is_waiting", .bool w9), (Str.ofString "reader", .ref x)]) →
      News h₀ L h' [(x, instObj 95 d), (d, rdDict w K1 K2 K3 K4 K5 true l c lo hi t1' t2' t3' t4'), (D9, listOf vs.toArray n9), p1, p2, p3] →
      wpAny (model PySem.Challenge.rw_np0270_01.row.prog w) (ktrTop dp un gd (Str.ofString "law") lawScope L fa cd (cellsFrom (L + 1) lawScope.names []) outer) (execs (lawBody.drop 8) (lawEnv L fa cd)) Q E { s with heap := h', toks := tk' }) :
    wpAny (model PySem.Challenge.rw_np0270_01.row.prog w) (ktrTop dp un gd (Str.ofString "law") lawScope L fa cd (cellsFrom (L + 1) lawScope.names []) outer) (execs (lawBody.drop 5) (lawEnv L fa cd)) Q E s := by
  w_top off
  k_with_none
  k_with "ktr_enter" => (refine' code_defG ?k1 ?k2 ?k3 ?k4 ?k5 ?kA ?kF ?kK ?k6 ?k7 ?k8 ?k9 ?kB ?_ ?c2 ?c3 ?c4 ?c5; (case kA => exact rfl); (case kF => exact rfl); (case kK => first | exact rfl | assumption); (case k1 => k_asm); (case k2 => k_asm); (case k3 => k_asm); (case k4 => k_asm); (case k5 => k_asm); (case k6 => k_is); (case k7 => k_is); (case k8 => ktr_room); (case k9 => first | exact BindsTo.of_eq rfl | exact binds_K (by k_in) rfl (by k_is) rfl rfl rfl); (case c5 => decide); (case kB => exact locs rfl); (case c2 => exact rfl); (case c3 => exact rfl); (case c4 => exact rfl); k_whole; intro g' L' h' FG' F' N' B' X' T' kG'; (try dsimp only); (try k_fold))
  k_with "execs cons" => ((try dsimp only); (with_reducible refine execs_gen ?_); intro tk9; (with_reducible refine wpAny_execs_cons ?_); (try dsimp only))
  k_with "call ref" => ((try dsimp only [List.cons_append, List.nil_append, List.append_nil]); (with_reducible show wpAny _ _ (call (Value.ref _) (Value.ref _ :: _)) _ _ _); k_dflt (refine wpAny_call ?_; ktr_enter))
  k_with "call ref" => ((with_reducible show wpAny _ _ (call (Value.ref 95) _) _ _ _); k_dflt (refine' call_cls ?k1 ?k2 ?k3 ?k4 ?k5 ?k6 ?_; (case k1 => k_asm); (case k2 => k_asm); (case k3 => k_asm); (case k4 => k_is); (case k5 => k_is); (case k6 => k_is); k_whole; intro x' d' h' F' N' l1 l2; (try k_lt l1); (try k_lt2 l2); (try k_sweep); ktr_enter))
  k_with "offs" => ((try simp only [List.nil_append, List.cons_append]); (repeat' (first | exact trivial | (refine And.intro ?_ ?_))) <;> first | ((try dsimp only); first | (simp only [*, ne_eq, not_false_eq_true]; done) | (refine Ne.symm ?_; simp only [*, ne_eq, not_false_eq_true]; done)) | (refine neN ?_; (try dsimp only); omega))
  k_with "fin50" => ((intro D9 vs9 n9 S9 t19 t29 t39 t49 h9 tk9 F' N' off9 IA9 FS9 ok9 ln9); (obtain ⟨⟨l9, c9, lo9, hi9⟩, fs9⟩ := S9); (try dsimp only at N' off9 IA9 FS9 ok9 ln9); (try simp only [List.nil_append, List.cons_append] at N' off9); (try simp only [LCg.Off1, and_true] at off9); (try dsimp only))
  k_with "call ref" => ((with_reducible show wpAny _ _ (call (Value.ref 50) _) _ _ _); (with_reducible rename News _ _ _ _ => N'); k_dflt (first
  | (refine' feed_use [] _ ?hb ?hl N' ?hxd ?hok ?ox ?od ?B ?F ?X ?T ?hk ?hd ?hu ?_; (case hb => first | with_reducible assumption | exact (show KBw.bInts _ = [97] from rfl)))
  | (refine' feed_use [_] _ ?hb ?hl N' ?hxd ?hok ?ox ?od ?B ?F ?X ?T ?hk ?hd ?hu ?_; (case hb => first | with_reducible assumption | exact (show KBw.bInts _ = [97] from rfl)))
  | (refine' feed_use [_, _] _ ?hb ?hl N' ?hxd ?hok ?ox ?od ?B ?F ?X ?T ?hk ?hd ?hu ?_; (case hb => first | with_reducible assumption | exact (show KBw.bInts _ = [97] from rfl)))
  | (refine' feed_use [_, _, _] _ ?hb ?hl N' ?hxd ?hok ?ox ?od ?B ?F ?X ?T ?hk ?hd ?hu ?_; (case hb => first | with_reducible assumption | exact (show KBw.bInts _ = [97] from rfl)))
  | (refine' feed_use [_, _, _, _] _ ?hb ?hl N' ?hxd ?hok ?ox ?od ?B ?F ?X ?T ?hk ?hd ?hu ?_; (case hb => first | with_reducible assumption | exact (show KBw.bInts _ = [97] from rfl)))); k_dflt ((case hl => ((try simp only [List.length_take, List.length_drop, List.length_cons, List.length_nil]); omega)); (case hxd => (refine ltN ?_; omega)); (case hok => first | with_reducible assumption | exact ok_zero (by with_reducible assumption) | (unfold OkSt; omega)); (case ox => walk_at "offs"); (case od => walk_at "offs"); (case B => k_asm); (case F => k_asm); (case X => k_asm); (case T => k_asm); (case hk => first | exact rfl | assumption); (case hd => ktr_room); (case hu => ktr_units)); walk_at "fin50")
  k_with "room" => first | ktr_room | exact Nat.le_of_ble_eq_true rfl | decide
  k_with "units" => first | ktr_units | exact Nat.le_of_ble_eq_true rfl | decide
  k_with "subscriptTail" => ((with_reducible show wpAny _ _ (subscriptTail _ (Expr.Slice _ _ none _) (Value.bytes _ _) (Value.ref _)) _ _ _); (with_reducible rename Fr _ _ _ _ => F'); (with_reducible rename News _ _ _ _ => N'); k_dflt (first
  | (refine slice_lit (s := ⟨_, _, _, _, _⟩) F' N' (by with_reducible assumption) (IsPart.int _ _) IsPart.none (by omega) (slice_from _ (by omega) (by omega)) ?_)
  | (refine slice_lit (s := ⟨_, _, _, _, _⟩) F' N' (by with_reducible assumption) IsPart.none (IsPart.int _ _) (by omega) (slice_upto (by omega) (by omega)) ?_)
  | (refine slice_lit (s := ⟨_, _, _, _, _⟩) F' N' (by with_reducible assumption) (IsPart.int _ _) (IsPart.int _ _) (by omega) (slice_mid _ (by omega) (by omega) (by omega) rfl) ?_)); intro _ _ _ _ F' N' hbs; (try dsimp only))
  k_with "neSame" => ((case ha => exact News.isList (by k_asm) (by k_mem)); (case hb => exact News.isList (by k_asm) (by k_mem)); (case hi => with_reducible assumption); (case hj => first | with_reducible assumption | exact IntsAre.cons _ _ IntsAre.nil | exact IntsAre.nil); (case hu => walk_at "units"))
  k_with "compareOp NotEq ref ref" => ((with_reducible rename (feedF _ (List.drop _ _) = _) => FS3); (with_reducible rename (feedF _ (List.take _ (List.drop _ _)) = _) => FS2); (with_reducible rename (feedF (0, 0, _, _) _ = _) => FS1); (with_reducible rename (Prod.snd (readL _) = _) => hw9); k_dflt (have tw := law_told (oct_of (by with_reducible assumption)) (cut3 (by omega) (by omega)) FS1 FS2 FS3; refine' ne_same ?ha ?hb ?hi ?hj ?hu tw.1 ?_; walk_at "neSame"; have tl := tw.2.trans hw9; clear tw; (try dsimp only at tl)); (try dsimp only))
  k_with "compareOp Eq bool bool" => (k_dflt (refine eqb_false (eqb_w (by with_reducible assumption) (by with_reducible assumption)) ?_); (try dsimp only))
  revert X
  k_fill
  intro X
  dsimp only [kstB] at F
  dsimp only [lawEnv, lawScope, scopeOf, lastS, PySem.Challenge.pw_np0270_01]
  all_goals repeat' (first
      | ((with_reducible show wpAny _ _ (execs (Stmt.If (Expr.BoolOp _ (Expr.Compare (Expr.Call (Expr.Attribute _ _ _) _ _ _) _ _ _ :: _) _) _ _ _ :: _) _) _ _ _); first | ((with_reducible rename News _ _ _ _ => N9); (with_reducible rename Fr _ _ _ _ => F9); (with_reducible rename OkSt _ _ => ok8); (with_reducible rename (decide _ = _) => tl9); (with_unfolding_all refine' next _ _ _ _ _ _ _ _ _ _ _ _ _ _ _ _ _ _ ok8 tl9 ?nx ?nox ?nod (fr_kst ?nF F9) (end5 N9)); (case nx => (refine ltN ?_; omega)); (case nox => walk_at "offs"); (case nod => walk_at "offs"); (case nF => kst_all)))
      | (k_unfold; (try dsimp only)) | walk1 | (dsimp only; walk1) | (leave1; walk_say "STEP leave1"; try dsimp only) | fail "no step")
end
/-! Seg8 -/
section
open PySem PySem.W PyProof.Rows
set_option maxRecDepth 100000
set_option maxHeartbeats 8000000
theorem seg8 {w : World} {mean : ExcName → Option Value} {mg mb : Str → Option Value} {dp un : Nat} {gd : Option (List Code)} {L fa : Addr} {cd : Value} {outer : List Env} {A₀ : Around} {base h₀ : Heap} {s : Shared} {Q : Flow → Shared → Prop} {E : Value → Shared → Prop}
    {u : Str → Option Value} {K1 K2 K3 K4 K5 t1 t2 t3 t4 : Tok} {l c lo hi : Int} {x d : Addr} {w9 : Bool} {q p1 p2 p3 : Addr × Obj}
    (ok : OkSt l c) (hw : decide (0 < l) = w9) (hxd : @LT.lt Nat _ d x) (ox : LCg.Off1 x [q, p1, p2, p3]) (od : LCg.Off1 d [q, p1, p2, p3])
    (B : Below A₀ base outer h₀) (F : Fr h₀ L s.heap (kstB u [(Str.ofString "reader", .ref x), (Str.ofString "is_waiting", .bool w9)])) (X : (hd.heap_39 w.params).In h₀)
    (N : News h₀ L s.heap [(x, instObj 95 d), (d, rdDict w K1 K2 K3 K4 K5 true l c lo hi t1 t2 t3 t4), q, p1, p2, p3]) (T : Top hd.view_39 (looseW hd.view_39 [Str.ofString "_law_menu", Str.ofString "_law_codes"]) mean mg mb h₀) (hd : dp + 40 < recursionLimit) (hu : un + 1000 < cLine)
    (next : ∀ h' tk', Fr h₀ L h' (kstB u [(Str.ofString "reader", .ref x), (Str.ofString "is_waiting", .bool w9)]) → News h₀ L h' [q, p1, p2, p3] →
      wpAny (model PySem.Challenge.rw_np0270_01.row.prog w) (ktrTop dp un gd (Str.ofString "law") lawScope L fa cd (cellsFrom (L + 1) lawScope.names []) outer) (execs (lawBody.drop 9) (lawEnv L fa cd)) Q E { s with heap := h', toks := tk' }) :
    wpAny (model PySem.Challenge.rw_np0270_01.row.prog w) (ktrTop dp un gd (Str.ofString "law") lawScope L fa cd (cellsFrom (L + 1) lawScope.names []) outer) (execs (lawBody.drop 8) (lawEnv L fa cd)) Q E s := by
  w_top off
  k_with_none
  k_with "ktr_enter" => (refine' code_defG ?k1 ?k2 ?k3 ?k4 ?k5 ?kA ?kF ?kK ?k6 ?k7 ?k8 ?k9 ?kB ?_ ?c2 ?c3 ?c4 ?c5; (case kA => exact rfl); (case kF => exact rfl); (case kK => first | exact rfl | assumption); (case k1 => k_asm); (case k2 => k_asm); (case k3 => k_asm); (case k4 => k_asm); (case k5 => k_asm); (case k6 => k_is); (case k7 => k_is); (case k8 => ktr_room); (case k9 => first | exact BindsTo.of_eq rfl | exact binds_K (by k_in) rfl (by k_is) rfl rfl rfl); (case c5 => decide); (case kB => exact locs rfl); (case c2 => exact rfl); (case c3 => exact rfl); (case c4 => exact rfl); k_whole; intro g' L' h' FG' F' N' B' X' T' kG'; (try dsimp only); (try k_fold))
  k_with "execs cons" => ((try dsimp only); (with_reducible refine execs_gen ?_); intro tk9; (with_reducible refine wpAny_execs_cons ?_); (try dsimp only))
  k_with "call ref" => ((try dsimp only [List.cons_append, List.nil_append, List.append_nil]); (with_reducible show wpAny _ _ (call (Value.ref _) (Value.ref _ :: _)) _ _ _); k_dflt (refine wpAny_call ?_; ktr_enter))
  k_with "offs" => ((try simp only [List.nil_append, List.cons_append]); (repeat' (first | exact trivial | (refine And.intro ?_ ?_))) <;> first | ((try dsimp only); first | (simp only [*, ne_eq, not_false_eq_true]; done) | (refine Ne.symm ?_; simp only [*, ne_eq, not_false_eq_true]; done)) | (refine neN ?_; (try dsimp only); omega))
  k_with "fin50" => ((intro D9 vs9 n9 S9 t19 t29 t39 t49 h9 tk9 F' N' off9 IA9 FS9 ok9 ln9); (obtain ⟨⟨l9, c9, lo9, hi9⟩, fs9⟩ := S9); (try dsimp only at N' off9 IA9 FS9 ok9 ln9); (try simp only [List.nil_append, List.cons_append] at N' off9); (try simp only [LCg.Off1, and_true] at off9); (try dsimp only))
  k_with "call ref" => ((with_reducible show wpAny _ _ (call (Value.ref 50) _) _ _ _); (with_reducible rename News _ _ _ _ => N'); k_dflt (first
  | (refine' feed_use [] _ ?hb ?hl N' ?hxd ?hok ?ox ?od ?B ?F ?X ?T ?hk ?hd ?hu ?_; (case hb => first | with_reducible assumption | exact (show KBw.bInts _ = [97] from rfl)))
  | (refine' feed_use [_] _ ?hb ?hl N' ?hxd ?hok ?ox ?od ?B ?F ?X ?T ?hk ?hd ?hu ?_; (case hb => first | with_reducible assumption | exact (show KBw.bInts _ = [97] from rfl)))
  | (refine' feed_use [_, _] _ ?hb ?hl N' ?hxd ?hok ?ox ?od ?B ?F ?X ?T ?hk ?hd ?hu ?_; (case hb => first | with_reducible assumption | exact (show KBw.bInts _ = [97] from rfl)))
  | (refine' feed_use [_, _, _] _ ?hb ?hl N' ?hxd ?hok ?ox ?od ?B ?F ?X ?T ?hk ?hd ?hu ?_; (case hb => first | with_reducible assumption | exact (show KBw.bInts _ = [97] from rfl)))
  | (refine' feed_use [_, _, _, _] _ ?hb ?hl N' ?hxd ?hok ?ox ?od ?B ?F ?X ?T ?hk ?hd ?hu ?_; (case hb => first | with_reducible assumption | exact (show KBw.bInts _ = [97] from rfl)))); k_dflt ((case hl => ((try simp only [List.length_take, List.length_drop, List.length_cons, List.length_nil]); omega)); (case hxd => (refine ltN ?_; omega)); (case hok => first | with_reducible assumption | exact ok_zero (by with_reducible assumption) | (unfold OkSt; omega)); (case ox => walk_at "offs"); (case od => walk_at "offs"); (case B => k_asm); (case F => k_asm); (case X => k_asm); (case T => k_asm); (case hk => first | exact rfl | assumption); (case hd => ktr_room); (case hu => ktr_units)); walk_at "fin50")
  k_with "room" => first | ktr_room | exact Nat.le_of_ble_eq_true rfl | decide
  k_with "units" => first | ktr_units | exact Nat.le_of_ble_eq_true rfl | decide
  k_with "neSame" => ((case ha => exact News.isList (by k_asm) (by k_mem)); (case hb => exact News.isList (by k_asm) (by k_mem)); (case hi => with_reducible assumption); (case hj => first | with_reducible assumption | exact IntsAre.cons _ _ IntsAre.nil | exact IntsAre.nil); (case hu => walk_at "units"))
  k_with "compareOp NotEq ref ref" => ((with_reducible rename (feedF (0, _, _, _) [97] = _) => FSa); k_dflt (refine' ne_same ?ha ?hb ?hi ?hj ?hu (law_a FSa) ?_; walk_at "neSame"); (try dsimp only))
  revert X
  k_fill
  intro X
  dsimp only [kstB] at F
  dsimp only [rdDict] at N
  simp only [LCg.Off1, and_true] at ox od
  dsimp only [lawEnv, lawScope, scopeOf, lastS, PySem.Challenge.pw_np0270_01]
  cases w9
  · have tl : ¬ 0 < l := of_decide_eq_false hw
    repeat' (first
      | ((with_reducible show wpAny _ _ (execs (Stmt.If (Expr.Compare (Expr.Call (Expr.Name (Str.ofString "codes_of_utf8") _) _ _ _) _ _ _) _ _ _ :: _) _) _ _ _); first | (with_unfolding_all refine' next _ _ ?nF ?nN; (case nF => (dsimp only [kstB]; k_asm)); (case nN => (with_reducible rename News _ _ _ _ => N'; exact KStb.news_of N' (by kst_in)))))
      | (k_unfold; (try dsimp only)) | walk1 | (dsimp only; walk1) | (leave1; walk_say "STEP leave1"; try dsimp only) | fail "no step")
  · have tl : 0 < l := of_decide_eq_true hw
    repeat' (first
      | ((with_reducible show wpAny _ _ (execs (Stmt.If (Expr.Compare (Expr.Call (Expr.Name (Str.ofString "codes_of_utf8") _) _ _ _) _ _ _) _ _ _ :: _) _) _ _ _); first | (with_unfolding_all refine' next _ _ ?nF ?nN; (case nF => (dsimp only [kstB]; k_asm)); (case nN => (with_reducible rename News _ _ _ _ => N'; exact KStb.news_of N' (by kst_in)))))
      | (k_unfold; (try dsimp only)) | walk1 | (dsimp only; walk1) | (leave1; walk_say "STEP leave1"; try dsimp only) | fail "no step")
end
/-! Seg9 -/
section
open PySem PySem.W PyProof.Rows
set_option maxRecDepth 100000
set_option maxHeartbeats 8000000
theorem seg9 {w : World} {mean : ExcName → Option Value} {mg mb : Str → Option Value} {dp un : Nat} {gd : Option (List Code)} {L fa : Addr} {cd : Value} {outer : List Env} {A₀ : Around} {base h₀ : Heap} {s : Shared} {Q : Flow → Shared → Prop} {E : Value → Shared → Prop}
    {u : Str → Option Value} {b : Array UInt8} {t : Tok} {ks : List Int} {D9 : Addr} {vs : List Value} {n9 : Nat} {w9 : Bool} {p1 p2 p3 : Addr × Obj}
    (hb : KBw.bInts b = ks) (hl : ks.length ≤ 9) (hw9 : (readL ks).2 = w9) (IA : IntsAre vs (readL ks).1) (hrl : (readL ks).1.length ≤ 72)
    (B : Below A₀ base outer h₀) (F : Fr h₀ L s.heap (kstB u [(Str.ofString "octets", .bytes b t), (Str.ofString "due", .ref D9), (Str.ofString "is_waiting", .bool w9)])) (X : (hd.heap_39 w.params).In h₀)
    (N : News h₀ L s.heap [(D9, listOf vs.toArray n9), p1, p2, p3]) (T : Top hd.view_39 (looseW hd.view_39 [Str.ofString "_law_menu", Str.ofString "_law_codes"]) mean mg mb h₀) (hd : dp + 40 < recursionLimit) (hu : un + 1000 < cLine)
    (next : ∀ h' tk', Fr h₀ L h' (kstB u [(Str.ofString "octets", .bytes b t), (Str.ofString "due", .ref D9), (Str.ofString "is_waiting", .bool w9)]) → News h₀ L h' [p1, p2, p3] →
      wpAny (model PySem.Challenge.rw_np0270_01.row.prog w) (ktrTop dp un gd (Str.ofString "law") lawScope L fa cd (cellsFrom (L + 1) lawScope.names []) outer) (execs (lawBody.drop 10) (lawEnv L fa cd)) Q E { s with heap := h', toks := tk' }) :
    wpAny (model PySem.Challenge.rw_np0270_01.row.prog w) (ktrTop dp un gd (Str.ofString "law") lawScope L fa cd (cellsFrom (L + 1) lawScope.names []) outer) (execs (lawBody.drop 9) (lawEnv L fa cd)) Q E s := by
  w_top off
  k_with_none
  k_with "ktr_enter" => (refine' code_defG ?k1 ?k2 ?k3 ?k4 ?k5 ?kA ?kF ?kK ?k6 ?k7 ?k8 ?k9 ?kB ?_ ?c2 ?c3 ?c4 ?c5; (case kA => exact rfl); (case kF => exact rfl); (case kK => first | exact rfl | assumption); (case k1 => k_asm); (case k2 => k_asm); (case k3 => k_asm); (case k4 => k_asm); (case k5 => k_asm); (case k6 => k_is); (case k7 => k_is); (case k8 => ktr_room); (case k9 => first | exact BindsTo.of_eq rfl | exact binds_K (by k_in) rfl (by k_is) rfl rfl rfl); (case c5 => decide); (case kB => exact locs rfl); (case c2 => exact rfl); (case c3 => exact rfl); (case c4 => exact rfl); k_whole; intro g' L' h' FG' F' N' B' X' T' kG'; (try dsimp only); (try k_fold))
  k_with "execs cons" => ((try dsimp only); (with_reducible refine execs_gen ?_); intro tk9; (with_reducible refine wpAny_execs_cons ?_); (try dsimp only))
  k_with "call ref" => ((try dsimp only [List.cons_append, List.nil_append, List.append_nil]); (with_reducible show wpAny _ _ (call (Value.ref _) (Value.ref _ :: _)) _ _ _); k_dflt (refine wpAny_call ?_; ktr_enter))
  k_with "offs" => ((try simp only [List.nil_append, List.cons_append]); (repeat' (first | exact trivial | (refine And.intro ?_ ?_))) <;> first | ((try dsimp only); first | (simp only [*, ne_eq, not_false_eq_true]; done) | (refine Ne.symm ?_; simp only [*, ne_eq, not_false_eq_true]; done)) | (refine neN ?_; (try dsimp only); omega))
  k_with "room" => first | ktr_room | exact Nat.le_of_ble_eq_true rfl | decide
  k_with "units" => first | ktr_units | exact Nat.le_of_ble_eq_true rfl | decide
  k_with "neSame" => ((case ha => exact News.isList (by k_asm) (by k_mem)); (case hb => exact News.isList (by k_asm) (by k_mem)); (case hi => with_reducible assumption); (case hj => first | with_reducible assumption | exact IntsAre.cons _ _ IntsAre.nil | exact IntsAre.nil); (case hu => walk_at "units"))
  k_with "call ref" => ((with_reducible show wpAny _ _ (call (Value.ref 125) _) _ _ _); (with_reducible rename News _ _ _ _ => N'); k_dflt (refine' codes_use ?hb ?hl N' ?B ?F ?X ?T ?hk ?hd ?hu ?_; (case hb => with_reducible assumption); (case hl => omega); (case B => k_asm); (case F => k_asm); (case X => k_asm); (case T => k_asm); (case hk => first | exact rfl | assumption); (case hd => walk_at "room"); (case hu => walk_at "units")); (intro D9 vs9 n9 h9 tk9 F' N' IA9 oD9); (try simp only [LCg.Off1, and_true] at oD9); (try dsimp only))
  k_with "compareOp NotEq ref ref" => (k_dflt (refine' ne_same ?ha ?hb ?hi ?hj ?hu ?e ?_; walk_at "neSame"; (case e => first | exact codes_t (by with_reducible assumption) | exact codes_f (by with_reducible assumption))); (try dsimp only))
  revert X
  k_fill
  intro X
  dsimp only [kstB] at F
  dsimp only [lawEnv, lawScope, scopeOf, lastS, PySem.Challenge.pw_np0270_01]
  cases w9
  all_goals repeat' (first
      | ((with_reducible show wpAny _ _ (execs (Stmt.Assign _ (Expr.Call (Expr.Name (Str.ofString "SignReader") _) _ _ _) _ :: _) _) _ _ _); first | (with_unfolding_all refine' next _ _ ?nF ?nN; (case nF => (dsimp only [kstB]; k_asm)); (case nN => (with_reducible rename News _ _ _ _ => N'; exact KStb.news_of N' (by kst_in)))))
      | (k_unfold; (try dsimp only)) | walk1 | (dsimp only; walk1) | (leave1; walk_say "STEP leave1"; try dsimp only) | fail "no step")
end
/-! Seg10 -/
section
open PySem PySem.W PyProof.Rows
set_option maxRecDepth 100000
set_option maxHeartbeats 8000000
theorem seg10 {w : World} {mean : ExcName → Option Value} {mg mb : Str → Option Value} {dp un : Nat} {gd : Option (List Code)} {L fa : Addr} {cd : Value} {outer : List Env} {A₀ : Around} {base h₀ : Heap} {s : Shared} {Q : Flow → Shared → Prop} {E : Value → Shared → Prop}
    {u : Str → Option Value} {b : Array UInt8} {t t1 : Tok} {ks : List Int} {low : Int} {p1 p2 p3 : Addr × Obj}
    (hb : KBw.bInts b = ks) (hl : ks.length ≤ 9) (l0 : 0 ≤ low) (l1 : low ≤ (ks.length : Int))
    (B : Below A₀ base outer h₀) (F : Fr h₀ L s.heap (kstB u [(Str.ofString "octets", .bytes b t), (Str.ofString "low", .int low t1)])) (X : (hd.heap_39 w.params).In h₀)
    (N : News h₀ L s.heap [p1, p2, p3]) (T : Top hd.view_39 (looseW hd.view_39 [Str.ofString "_law_menu", Str.ofString "_law_codes"]) mean mg mb h₀) (hd : dp + 40 < recursionLimit) (hu : un + 1000 < cLine)
    (next : ∀ (u' : Str → Option Value) h' tk', Fr h₀ L h' u' → News h₀ L h' [p1, p2, p3] →
      wpAny (model PySem.Challenge.rw_np0270_01.row.prog w) (ktrTop dp un gd (Str.ofString "law") lawScope L fa cd (cellsFrom (L + 1) lawScope.names []) outer) (execs (lawBody.drop 12) (lawEnv L fa cd)) Q E { s with heap := h', toks := tk' }) :
    wpAny (model PySem.Challenge.rw_np0270_01.row.prog w) (ktrTop dp un gd (Str.ofString "law") lawScope L fa cd (cellsFrom (L + 1) lawScope.names []) outer) (execs (lawBody.drop 10) (lawEnv L fa cd)) Q E s := by
  w_top off
  k_with_none
  k_with "ktr_enter" => (refine' code_defG ?k1 ?k2 ?k3 ?k4 ?k5 ?kA ?kF ?kK ?k6 ?k7 ?k8 ?k9 ?kB ?_ ?c2 ?c3 ?c4 ?c5; (case kA => exact rfl); (case kF => exact rfl); (case kK => first | exact rfl | assumption); (case k1 => k_asm); (case k2 => k_asm); (case k3 => k_asm); (case k4 => k_asm); (case k5 => k_asm); (case k6 => k_is); (case k7 => k_is); (case k8 => ktr_room); (case k9 => first | exact BindsTo.of_eq rfl | exact binds_K (by k_in) rfl (by k_is) rfl rfl rfl); (case c5 => decide); (case kB => exact locs rfl); (case c2 => exact rfl); (case c3 => exact rfl); (case c4 => exact rfl); k_whole; intro g' L' h' FG' F' N' B' X' T' kG'; (try dsimp only); (try k_fold))
  k_with "execs cons" => ((try dsimp only); (with_reducible refine execs_gen ?_); intro tk9; (with_reducible refine wpAny_execs_cons ?_); (try dsimp only))
  k_with "call ref" => ((try dsimp only [List.cons_append, List.nil_append, List.append_nil]); (with_reducible show wpAny _ _ (call (Value.ref _) (Value.ref _ :: _)) _ _ _); k_dflt (refine wpAny_call ?_; ktr_enter))
  k_with "call ref" => ((with_reducible show wpAny _ _ (call (Value.ref 95) _) _ _ _); k_dflt (refine' call_cls ?k1 ?k2 ?k3 ?k4 ?k5 ?k6 ?_; (case k1 => k_asm); (case k2 => k_asm); (case k3 => k_asm); (case k4 => k_is); (case k5 => k_is); (case k6 => k_is); k_whole; intro x' d' h' F' N' l1 l2; (try k_lt l1); (try k_lt2 l2); (try k_sweep); ktr_enter))
  k_with "offs" => ((try simp only [List.nil_append, List.cons_append]); (repeat' (first | exact trivial | (refine And.intro ?_ ?_))) <;> first | ((try dsimp only); first | (simp only [*, ne_eq, not_false_eq_true]; done) | (refine Ne.symm ?_; simp only [*, ne_eq, not_false_eq_true]; done)) | (refine neN ?_; (try dsimp only); omega))
  k_with "room" => first | ktr_room | exact Nat.le_of_ble_eq_true rfl | decide
  k_with "units" => first | ktr_units | exact Nat.le_of_ble_eq_true rfl | decide
  k_with "subscriptTail" => ((with_reducible show wpAny _ _ (subscriptTail _ (Expr.Slice _ _ none _) (Value.bytes _ _) (Value.ref _)) _ _ _); (with_reducible rename Fr _ _ _ _ => F'); (with_reducible rename News _ _ _ _ => N'); k_dflt (first
  | (refine slice_lit (s := ⟨_, _, _, _, _⟩) F' N' (by with_reducible assumption) (IsPart.int _ _) IsPart.none (by omega) (slice_from _ (by omega) (by omega)) ?_)
  | (refine slice_lit (s := ⟨_, _, _, _, _⟩) F' N' (by with_reducible assumption) IsPart.none (IsPart.int _ _) (by omega) (slice_upto (by omega) (by omega)) ?_)
  | (refine slice_lit (s := ⟨_, _, _, _, _⟩) F' N' (by with_reducible assumption) (IsPart.int _ _) (IsPart.int _ _) (by omega) (slice_mid _ (by omega) (by omega) (by omega) rfl) ?_)); intro _ _ _ _ F' N' hbs; (try dsimp only))
  k_with "neSame" => ((case ha => exact News.isList (by k_asm) (by k_mem)); (case hb => exact News.isList (by k_asm) (by k_mem)); (case hi => with_reducible assumption); (case hj => first | with_reducible assumption | exact IntsAre.cons _ _ IntsAre.nil | exact IntsAre.nil); (case hu => walk_at "units"))
  k_with "call type:list" => ((with_reducible show wpAny _ _ (call (Value.type "list") [Value.bytes _ _]) _ _ _); (with_reducible rename Fr _ _ _ _ => F'); (with_reducible rename News _ _ _ _ => N'); k_dflt (refine' list_bytes_K ?hb ?hn ?hh F' N' ?_; (case hb => with_reducible assumption); (case hn => ((try simp only [List.length_take, List.length_drop]); omega)); (case hh => exact rfl)); (intro D9 vs9 n9 h9 tk9 F' N' oD9 IA9); (try simp only [LCg.Off1, and_true] at oD9); (try dsimp only))
  k_with "compareOp NotEq ref ref" => (k_dflt (refine' ne_same ?ha ?hb ?hi ?hj ?hu ?e ?_; walk_at "neSame"; (case e => exact List.take_append_drop _ _)); (try dsimp only))
  revert X
  k_fill
  intro X
  dsimp only [kstB] at F
  dsimp only [lawEnv, lawScope, scopeOf, lastS, PySem.Challenge.pw_np0270_01]
  repeat' (first
      | ((with_reducible show wpAny _ _ (execs (Stmt.Assign _ (Expr.ListComp _ _ _ _) _ :: _) _) _ _ _); first | (with_unfolding_all refine' next _ _ _ ?nF ?nN; (case nF => k_asm); (case nN => (with_reducible rename News _ _ _ _ => N'; exact KStb.news_of N' (by kst_in)))))
      | (k_unfold; (try dsimp only)) | walk1 | (dsimp only; walk1) | (leave1; walk_say "STEP leave1"; try dsimp only) | fail "no step")
end
/-! Seg12 -/
section
open PySem PySem.W PyProof.Rows
set_option maxRecDepth 100000
set_option maxHeartbeats 8000000
theorem seg12 {w : World} {mean : ExcName → Option Value} {mg mb : Str → Option Value} {dp un : Nat} {gd : Option (List Code)} {L fa : Addr} {cd : Value} {outer : List Env} {A₀ : Around} {base h₀ : Heap} {s : Shared} {Q : Flow → Shared → Prop} {E : Value → Shared → Prop}
    {u : Str → Option Value} {dk C : Addr} {o oc : Obj} {ys : List Value} {ns : List Int} {k : Int} {t : Tok}
    {f : Int → Int} (hf : IsFix f) (hD : deckIs w o C k t) (hI : IntsAre ys ns) (hns : ns.length ≤ 100) (hdC : @Ne Nat C dk) (hlo : (dk == sysModules) = false) (k0 : 0 ≤ k) (k1 : k ≤ 20)
    (hoc : oc.data = .cell (some (.ref dk))) (hcl : LCg.Off1 (L + 1) [(dk, o), (C, LCg.lst ys)])
    (B : Below A₀ base outer h₀) (F : Fr h₀ L s.heap u) (X : (hd.heap_39 w.params).In h₀)
    (N : News h₀ L s.heap [(dk, o), (C, LCg.lst ys), (L + 1, oc)]) (T : Top hd.view_39 (looseW hd.view_39 [Str.ofString "_law_menu", Str.ofString "_law_codes"]) mean mg mb h₀) (hd : dp + 40 < recursionLimit) (hu : un + 1000 < cLine)
    (next : ∀ (u' : Str → Option Value) h' tk', Fr h₀ L h' u' → Q (.ret (.bool true)) { s with heap := h', toks := tk' }) :
    wpAny (model PySem.Challenge.rw_np0270_01.row.prog w) (ktrTop dp un gd (Str.ofString "law") lawScope L fa cd (cellsFrom (L + 1) lawScope.names []) outer) (execs (lawBody.drop 12) (lawEnv L fa cd)) Q E s := by
  w_top off
  k_with_none
  k_with "ktr_enter" => (refine' code_defG ?k1 ?k2 ?k3 ?k4 ?k5 ?kA ?kF ?kK ?k6 ?k7 ?k8 ?k9 ?kB ?_ ?c2 ?c3 ?c4 ?c5; (case kA => exact rfl); (case kF => exact rfl); (case kK => first | exact rfl | assumption); (case k1 => k_asm); (case k2 => k_asm); (case k3 => k_asm); (case k4 => k_asm); (case k5 => k_asm); (case k6 => k_is); (case k7 => k_is); (case k8 => ktr_room); (case k9 => first | exact BindsTo.of_eq rfl | exact binds_K (by k_in) rfl (by k_is) rfl rfl rfl); (case c5 => decide); (case kB => exact locs rfl); (case c2 => exact rfl); (case c3 => exact rfl); (case c4 => exact rfl); k_whole; intro g' L' h' FG' F' N' B' X' T' kG'; (try dsimp only); (try k_fold))
  k_with "execs cons" => ((try dsimp only); (with_reducible refine execs_gen ?_); intro tk9; (with_reducible refine wpAny_execs_cons ?_); (try dsimp only))
  k_with "call ref" => ((try dsimp only [List.cons_append, List.nil_append, List.append_nil]); (with_reducible show wpAny _ _ (call (Value.ref _) (Value.ref _ :: _)) _ _ _); k_dflt (refine wpAny_call ?_; ktr_enter))
  k_with "offs" => ((try simp only [List.nil_append, List.cons_append]); (repeat' (first | exact trivial | (refine And.intro ?_ ?_))) <;> first | ((try dsimp only); first | (simp only [*, ne_eq, not_false_eq_true]; done) | (refine Ne.symm ?_; simp only [*, ne_eq, not_false_eq_true]; done)) | (refine neN ?_; (try dsimp only); omega))
  k_with "room" => first | ktr_room | exact Nat.le_of_ble_eq_true rfl | decide
  k_with "units" => first | ktr_units | exact Nat.le_of_ble_eq_true rfl | decide
  k_with "fin139" => ((intro r9 t9 o9 t99 h9 tk9 r09 r19 F' N' hD9); (try simp only [List.nil_append, List.cons_append] at N'); (try dsimp only))
  k_with "call ref" => ((with_reducible show wpAny _ _ (call (Value.ref 139) _) _ _ _); (with_reducible rename News _ _ _ _ => N'); k_dflt (first
  | (refine' draw_use [] _ N' ?hD ?hI ?hns ?hdC ?hlo ?k0 ?k1 ?b0 ?b1 ?od ?oC ?B ?F ?X ?T ?hk ?hd ?hu ?_; (case hlo => with_reducible assumption))
  | (refine' draw_use [_] _ N' ?hD ?hI ?hns ?hdC ?hlo ?k0 ?k1 ?b0 ?b1 ?od ?oC ?B ?F ?X ?T ?hk ?hd ?hu ?_; (case hlo => with_reducible assumption))
  | (refine' draw_use [_, _] _ N' ?hD ?hI ?hns ?hdC ?hlo ?k0 ?k1 ?b0 ?b1 ?od ?oC ?B ?F ?X ?T ?hk ?hd ?hu ?_; (case hlo => with_reducible assumption))
  | (refine' draw_use [_, _, _] _ N' ?hD ?hI ?hns ?hdC ?hlo ?k0 ?k1 ?b0 ?b1 ?od ?oC ?B ?F ?X ?T ?hk ?hd ?hu ?_; (case hlo => with_reducible assumption))); k_dflt ((case hD => with_reducible assumption); (case hI => with_reducible assumption); (case hns => with_reducible assumption); (case hdC => walk_at "offs"); (case k0 => omega); (case k1 => omega); (case b0 => omega); (case b1 => omega); (case od => walk_at "offs"); (case oC => walk_at "offs"); (case B => k_asm); (case F => k_asm); (case X => k_asm); (case T => k_asm); (case hk => first | exact rfl | assumption); (case hd => walk_at "room"); (case hu => walk_at "units")); walk_at "fin139")
  k_with "srcDeck" => ((case hr => assumption); (case hD => with_reducible assumption); (case hb0 => omega); (case hb1 => omega); (case hh => exact rfl); (intro g9 ys9 ms9 o9 t9 hD9 hI9 hl9 hP9); rotate_left; (intro k9 o9 t9 ys9 k09 k19 hD9 I9 oI9 C9 oC9 D9 m9 h9 tk9 E9 hC9 F' N' off9 ne9; (try simp only [LCg.Off3, and_true] at off9)); rotate_left)
  k_with "CompSrc" => ((with_reducible show LCg.CompSrc _ _ _ _ _ _ _ (Expr.Subscript (Expr.Name (Str.ofString "_law_codes") _) _ _) _ _ _ _ _ _); (with_reducible rename Fr _ _ _ _ => F'); (with_reducible rename News _ _ _ _ => N'); k_dflt (refine' src_deck (fun k => 0 ≤ k ∧ k ≤ 1114111) ?hr ?hb0 ?hb1 ?hD ?hh F' N' (fun p hp => hp) ?_ ?_; walk_at "srcDeck"))
  k_with "CompEnd" => ((try dsimp only); (with_reducible rename deckIs _ _ _ _ _ => hD8); (with_reducible rename News _ _ _ _ => N'); k_dflt (refine' ⟨_, _, _, rfl, ?cF, N', ?coff, True.intro, ?cR⟩; (case cF => k_asm); (case coff => ((try simp only [LCg.Off3, and_true]); with_reducible assumption)); (case cR => exact ⟨_, _, _, _, rfl, ⟨by omega, by omega⟩, rfl, hD8⟩)))
  k_with "CompSrc" => ((with_reducible show LCg.CompSrc _ _ _ _ _ _ _ (Expr.IfExp _ _ _ _) _ _ _ _ _ _); (with_reducible rename Fr _ _ _ _ => F'); (with_reducible rename News _ _ _ _ => N'); (with_reducible rename IsFix _ => hf9); k_dflt (refine' src_fix hf9 ?hi ?hcs ?hn ?hh F' N' ?hm ?_ ?_; (case hm => k_mem); (case hi => with_reducible assumption); (case hcs => with_reducible assumption); (case hn => omega); (case hh => exact rfl)); (intro g9 ys9 IA9); rotate_left; (intro c9 u9 ys9 c09 c19 I9 oI9 C9 oC9 D9 m9 h9 tk9 E9 hC9 hx9 F' N' off9 ne9; (try simp only [LCg.Off3, and_true] at off9)); rotate_left)
  k_with "CompEnd" => ((with_reducible rename (_ = some (Value.int _ _)) => hx8); (try dsimp only); (with_reducible rename News _ _ _ _ => N'); (with_reducible rename IsFix _ => hf9); k_dflt (refine' ⟨_, _, _, rfl, ?cF, N', ?coff, True.intro, ?cR⟩; (case cF => k_asm); (case coff => ((try simp only [LCg.Off3, and_true]); with_reducible assumption)); (case cR => first | exact ⟨rfl, _, fix_y hf9 (by omega)⟩ | exact ⟨rfl, _, fix_n hf9 (by omega)⟩)))
  k_with "call ref" => ((with_reducible show wpAny _ _ (call (Value.ref 118) _) _ _ _); (with_reducible rename News _ _ _ _ => N'); k_dflt (refine' utf8_use ?hm ?hi ?hks ?hn ?hn0 N' ?B ?F ?X ?T ?hk ?hd ?hu ?_; (case hm => k_mem); (case hi => with_reducible assumption); (case hks => with_reducible assumption); (case hn => omega); (case hn0 => exact ne_nil (by with_reducible assumption) (by omega)); (case B => k_asm); (case F => k_asm); (case X => k_asm); (case T => k_asm); (case hk => first | exact rfl | assumption); (case hd => walk_at "room"); (case hu => walk_at "units")); (intro b9 t9 h9 tk9 F' N' hb9); (try dsimp only))
  k_with "call ref" => ((with_reducible show wpAny _ _ (call (Value.ref 156) _) _ _ _); (with_reducible rename News _ _ _ _ => N'); (with_reducible rename IsFix _ => hf9); k_dflt (refine' read_written hf9 ?hb ?hP ?hl N' ?B ?F ?X ?T ?hk ?hd ?hu ?_; (case hb => with_reducible assumption); (case hP => with_reducible assumption); (case hl => omega); (case B => k_asm); (case F => k_asm); (case X => k_asm); (case T => k_asm); (case hk => first | exact rfl | assumption); (case hd => walk_at "room"); (case hu => walk_at "units")); (intro D9 TT9 vs9 n9 h9 tk9 F' N' IA9 hne9 oT9 oD9); (try simp only [LCg.Off1, and_true] at oT9 oD9); (try dsimp only))
  k_with "compareOp Eq ref ref" => (k_dflt (refine' eq_tup ?ta ?tb ?tD ?tD' ?ti ?tj ?tu rfl ?_; (case ta => exact News.get (by k_asm) (by k_mem)); (case tb => exact News.get (by k_asm) (by k_mem)); (case tD => exact News.isList (by k_asm) (by k_mem)); (case tD' => exact News.isList (by k_asm) (by k_mem)); (case ti => with_reducible assumption); (case tj => with_reducible assumption); (case tu => walk_at "units")); (try dsimp only))
  k_with "subscriptTail" => ((with_reducible show wpAny _ _ (subscriptTail _ _ (Value.ref _) (Value.int _ _)) _ _ _); k_dflt ((first | refine' codes_item ?F ?X ?h0 ?h1 ?_ | refine' menu_item ?F ?X ?h0 ?h1 ?_); (case F => k_asm); (case X => k_asm); (case h0 => omega); (case h1 => omega)); (intro x9 t9 x09 x19); (try dsimp only))
  revert X
  k_fill
  intro X
  simp only [LCg.Off1, and_true] at hcl
  dsimp only [lawEnv, lawScope, scopeOf, lastS, PySem.Challenge.pw_np0270_01]
  repeat' (first
      | ((with_reducible rename Fr _ _ _ _ => F9); (with_reducible exact next _ _ _ F9))
      | (k_unfold; (try dsimp only)) | walk1 | (dsimp only; walk1) | (leave1; walk_say "STEP leave1"; try dsimp only) | fail "no step")
end
/-! Tail -/
section
open PySem PySem.W PyProof.Rows
set_option maxRecDepth 100000
set_option maxHeartbeats 8000000
theorem read_len {ks : List Int} (O : Oct ks) : (readL ks).1.length ≤ 2 * ks.length := by
  have h := law_one (ks := ks) (c := 0) (lo := 128) (hi := 191) O rfl
  rw [← h.1]
  exact feed_len (l := 0) (c := 0) (by unfold OkSt; omega)
theorem law_tail {w : World} {mean : ExcName → Option Value} {mg mb : Str → Option Value} {dp un : Nat} {gd : Option (List Code)} {L fa : Addr} {cd : Value} {outer : List Env} {A₀ : Around} {base h₀ : Heap} {s : Shared} {Q : Flow → Shared → Prop} {E : Value → Shared → Prop}
    {u : Str → Option Value} {b : Array UInt8} {t t1 t2 : Tok} {ks : List Int} {low r : Int} {D9 : Addr} {vs : List Value} {n9 : Nat} {w9 : Bool} {dk C : Addr} {o oc : Obj} {ys : List Value} {ns : List Int} {k : Int} {t9 : Tok}
    (hb : KBw.bInts b = ks) (hl : ks.length ≤ 9) (l0 : 0 ≤ low) (l1 : low ≤ (ks.length : Int)) (r0 : 0 ≤ r) (r1 : low + r ≤ (ks.length : Int)) (hw9 : (readL ks).2 = w9) (IA : IntsAre vs (readL ks).1)
    (hD : deckIs w o C k t9) (hI : IntsAre ys ns) (hns : ns.length ≤ 100) (hdC : @Ne Nat C dk) (hlo : (dk == sysModules) = false) (k0 : 0 ≤ k) (k1 : k ≤ 20)
    (hoc : oc.data = .cell (some (.ref dk))) (hcl : LCg.Off1 (L + 1) [(dk, o), (C, LCg.lst ys)])
    (B : Below A₀ base outer h₀) (F : Fr h₀ L s.heap (kstB u [(Str.ofString "octets", .bytes b t), (Str.ofString "low", .int low t1), (Str.ofString "high", .int (low + r) t2), (Str.ofString "due", .ref D9), (Str.ofString "is_waiting", .bool w9)])) (X : (hd.heap_39 w.params).In h₀)
    (N : News h₀ L s.heap [(D9, listOf vs.toArray n9), (dk, o), (C, LCg.lst ys), (L + 1, oc)]) (T : Top hd.view_39 (looseW hd.view_39 [Str.ofString "_law_menu", Str.ofString "_law_codes"]) mean mg mb h₀) (hd : dp + 40 < recursionLimit) (hu : un + 1000 < cLine)
    (next : ∀ (u' : Str → Option Value) h' tk', Fr h₀ L h' u' → Q (.ret (.bool true)) { s with heap := h', toks := tk' }) :
    wpAny (model PySem.Challenge.rw_np0270_01.row.prog w) (ktrTop dp un gd (Str.ofString "law") lawScope L fa cd (cellsFrom (L + 1) lawScope.names []) outer) (execs (lawBody.drop 5) (lawEnv L fa cd)) Q E s := by
  have hrl : (readL ks).1.length ≤ 72 := by have := read_len (oct_of hb); omega
  refine seg5 hb hl l0 l1 r0 r1 hw9 IA hrl B F X N T hd hu fun u' x d K1 K2 K3 K4 K5 l c lo hi t1' t2' t3' t4' h' tk' ok tl hxd ox od F' N' => ?_
  refine seg8 ok tl hxd ox od B (fr_kst (by kst_all) F') X N' T hd hu fun h2 tk2 F2 N2 => ?_
  refine seg9 hb hl hw9 IA hrl B (fr_kst (by kst_all) F2) X N2 T hd hu fun h3 tk3 F3 N3 => ?_
  refine seg10 hb hl l0 l1 B (fr_kst (by kst_all) F3) X N3 T hd hu fun u4 h4 tk4 F4 N4 => ?_
  exact seg12 isFix hD hI hns hdC hlo k0 k1 hoc hcl B F4 X N4 T hd hu fun u5 h5 tk5 F5 => next u5 h5 tk5 F5
theorem law_tail2 {w : World} {mean : ExcName → Option Value} {mg mb : Str → Option Value} {dp un : Nat} {gd : Option (List Code)} {L fa : Addr} {cd : Value} {outer : List Env} {A₀ : Around} {base h₀ : Heap} {s : Shared} {Q : Flow → Shared → Prop} {E : Value → Shared → Prop}
    {u : Str → Option Value} {b : Array UInt8} {t t1 t2 : Tok} {ks : List Int} {low r : Int} {D9 : Addr} {vs : List Value} {n9 : Nat} {w9 : Bool} {dk C : Addr} {o oc : Obj} {ys : List Value} {ns : List Int} {k : Int} {t9 : Tok}
    (hb : KBw.bInts b = ks) (hl : ks.length ≤ 9) (l0 : 0 ≤ low) (l1 : low ≤ (ks.length : Int)) (r0 : 0 ≤ r) (r1 : low + r ≤ (ks.length : Int)) (hw9 : (readL ks).2 = w9) (IA : IntsAre vs (readL ks).1)
    (hD : deckIs w o C k t9) (hI : IntsAre ys ns) (hns : ns.length ≤ 100) (hdC : @Ne Nat C dk) (hlo : (dk == sysModules) = false) (k0 : 0 ≤ k) (k1 : k ≤ 20)
    (hoc : oc.data = .cell (some (.ref dk))) (hcl : LCg.Off1 (L + 1) [(dk, o), (C, LCg.lst ys)])
    (B : Below A₀ base outer h₀) (F : Fr h₀ L s.heap u) (e1 : u (Str.ofString "octets") = some (.bytes b t)) (e2 : u (Str.ofString "low") = some (.int low t1)) (e3 : u (Str.ofString "high") = some (.int (low + r) t2)) (e4 : u (Str.ofString "due") = some (.ref D9)) (e5 : u (Str.ofString "is_waiting") = some (.bool w9)) (X : (hd.heap_39 w.params).In h₀)
    (N : News h₀ L s.heap [(D9, listOf vs.toArray n9), (dk, o), (C, LCg.lst ys), (L + 1, oc)]) (T : Top hd.view_39 (looseW hd.view_39 [Str.ofString "_law_menu", Str.ofString "_law_codes"]) mean mg mb h₀) (hd : dp + 40 < recursionLimit) (hu : un + 1000 < cLine)
    (next : ∀ (u' : Str → Option Value) h' tk', Fr h₀ L h' u' → Q (.ret (.bool true)) { s with heap := h', toks := tk' }) :
    wpAny (model PySem.Challenge.rw_np0270_01.row.prog w) (ktrTop dp un gd (Str.ofString "law") lawScope L fa cd (cellsFrom (L + 1) lawScope.names []) outer) (execs (lawBody.drop 5) (lawEnv L fa cd)) Q E s :=
  law_tail hb hl l0 l1 r0 r1 hw9 IA hD hI hns hdC hlo k0 k1 hoc hcl B (fr_kst (List.forall_mem_cons.mpr ⟨e1, List.forall_mem_cons.mpr ⟨e2, List.forall_mem_cons.mpr ⟨e3, List.forall_mem_cons.mpr ⟨e4, List.forall_mem_cons.mpr ⟨e5, List.forall_mem_nil _⟩⟩⟩⟩⟩) F) X N T hd hu next
end
/-! SegH -/
section
open PySem PySem.W PyProof.Rows
set_option maxRecDepth 100000
set_option maxHeartbeats 8000000
theorem endH {h₀ h : Heap} {L : Addr} {q1 q2 e1 e2 e3 e4 : Addr × Obj} (N : News h₀ L h [q1, e1, q2, e2, e3, e4]) : News h₀ L h [e1, e2, e3, e4] := fun p hp => N p (by
  simp only [List.mem_cons] at hp ⊢
  rcases hp with h | h | h | h | h <;> simp [h] at *)
theorem law_walk {w : World} {mean : ExcName → Option Value} {mg mb : Str → Option Value} {dp un : Nat} {gd : Option (List Code)} {L fa : Addr} {cd : Value} {outer : List Env} {A₀ : Around} {base h₀ : Heap} {s : Shared} {Q : Flow → Shared → Prop} {E : Value → Shared → Prop}
    {u : Str → Option Value} {D : Addr} {ws : List Value} {vs : List Int} {oc : Obj}
    (hL : h₀.IsList D ws.toArray) (hIs : IntsAre ws vs) (hlen : vs.length ≤ 63) (hoc : oc.data = .cell none)
    (B : Below A₀ base outer h₀) (F : Fr h₀ L s.heap (kstB u [(Str.ofString "script", .ref D)])) (X : (hd.heap_39 w.params).In h₀)
    (N : News h₀ L s.heap [(L + 1, oc)]) (T : Top hd.view_39 (looseW hd.view_39 [Str.ofString "_law_menu", Str.ofString "_law_codes"]) mean mg mb h₀) (hd : dp + 40 < recursionLimit) (hu : un + 1000 < cLine)
    (next : ∀ (u' : Str → Option Value) h' tk', Fr h₀ L h' u' → Q (.ret (.bool true)) { s with heap := h', toks := tk' }) :
    wpAny (model PySem.Challenge.rw_np0270_01.row.prog w) (ktrTop dp un gd (Str.ofString "law") lawScope L fa cd (cellsFrom (L + 1) lawScope.names []) outer) (execs lawBody (lawEnv L fa cd)) Q E s := by
  w_top off
  k_with_none
  k_with "ktr_enter" => (refine' code_defG ?k1 ?k2 ?k3 ?k4 ?k5 ?kA ?kF ?kK ?k6 ?k7 ?k8 ?k9 ?kB ?_ ?c2 ?c3 ?c4 ?c5; (case kA => exact rfl); (case kF => exact rfl); (case kK => first | exact rfl | assumption); (case k1 => k_asm); (case k2 => k_asm); (case k3 => k_asm); (case k4 => k_asm); (case k5 => k_asm); (case k6 => k_is); (case k7 => k_is); (case k8 => ktr_room); (case k9 => first | exact BindsTo.of_eq rfl | exact binds_K (by k_in) rfl (by k_is) rfl rfl rfl); (case c5 => decide); (case kB => exact locs rfl); (case c2 => exact rfl); (case c3 => exact rfl); (case c4 => exact rfl); k_whole; intro g' L' h' FG' F' N' B' X' T' kG'; (try dsimp only); (try k_fold))
  k_with "execs cons" => ((try dsimp only); (with_reducible refine execs_gen ?_); intro tk9; (with_reducible refine wpAny_execs_cons ?_); (try dsimp only))
  k_with "call ref" => ((try dsimp only [List.cons_append, List.nil_append, List.append_nil]); (with_reducible show wpAny _ _ (call (Value.ref _) (Value.ref _ :: _)) _ _ _); k_dflt (refine wpAny_call ?_; ktr_enter))
  k_with "offs" => ((try simp only [List.nil_append, List.cons_append]); (repeat' (first | exact trivial | (refine And.intro ?_ ?_))) <;> first | ((try dsimp only); first | (simp only [*, ne_eq, not_false_eq_true]; done) | (refine Ne.symm ?_; simp only [*, ne_eq, not_false_eq_true]; done)) | (refine neN ?_; (try dsimp only); omega))
  k_with "room" => first | ktr_room | exact Nat.le_of_ble_eq_true rfl | decide
  k_with "units" => first | ktr_units | exact Nat.le_of_ble_eq_true rfl | decide
  k_with "call ref" => ((with_reducible show wpAny _ _ (call (Value.ref 132) _) _ _ _); (with_reducible rename News _ _ _ _ => N'); k_dflt (refine' deck_use _ N' ?hI ?hns ?oD ?B ?F ?X ?T ?hk ?hd ?hu ?_; (case hI => with_reducible assumption); (case hns => ((try simp only [List.length_take]); omega)); (case oD => walk_at "offs"); (case B => k_asm); (case F => k_asm); (case X => k_asm); (case T => k_asm); (case hk => first | exact rfl | assumption); (case hd => walk_at "room"); (case hu => walk_at "units")); (intro d9 C9 o9 ys9 ks9 t9 h9 tk9 F' N' hD9 hI9 hl9 hlo9 hne9 od9 oC9); (try simp only [LCg.Off1, and_true] at od9 oC9); (try dsimp only))
  k_with "fin139" => ((intro r9 t9 o9 t99 h9 tk9 r09 r19 F' N' hD9); (try simp only [List.nil_append, List.cons_append] at N'); (try dsimp only))
  k_with "call ref" => ((with_reducible show wpAny _ _ (call (Value.ref 139) _) _ _ _); (with_reducible rename News _ _ _ _ => N'); k_dflt (first
  | (refine' draw_use [] _ N' ?hD ?hI ?hns ?hdC ?hlo ?k0 ?k1 ?b0 ?b1 ?od ?oC ?B ?F ?X ?T ?hk ?hd ?hu ?_; (case hlo => with_reducible assumption))
  | (refine' draw_use [_] _ N' ?hD ?hI ?hns ?hdC ?hlo ?k0 ?k1 ?b0 ?b1 ?od ?oC ?B ?F ?X ?T ?hk ?hd ?hu ?_; (case hlo => with_reducible assumption))
  | (refine' draw_use [_, _] _ N' ?hD ?hI ?hns ?hdC ?hlo ?k0 ?k1 ?b0 ?b1 ?od ?oC ?B ?F ?X ?T ?hk ?hd ?hu ?_; (case hlo => with_reducible assumption))
  | (refine' draw_use [_, _, _] _ N' ?hD ?hI ?hns ?hdC ?hlo ?k0 ?k1 ?b0 ?b1 ?od ?oC ?B ?F ?X ?T ?hk ?hd ?hu ?_; (case hlo => with_reducible assumption))); k_dflt ((case hD => with_reducible assumption); (case hI => with_reducible assumption); (case hns => with_reducible assumption); (case hdC => walk_at "offs"); (case k0 => omega); (case k1 => omega); (case b0 => omega); (case b1 => omega); (case od => walk_at "offs"); (case oC => walk_at "offs"); (case B => k_asm); (case F => k_asm); (case X => k_asm); (case T => k_asm); (case hk => first | exact rfl | assumption); (case hd => walk_at "room"); (case hu => walk_at "units")); walk_at "fin139")
  k_with "srcDeck" => ((case hr => assumption); (case hD => with_reducible assumption); (case hb0 => omega); (case hb1 => omega); (case hh => exact rfl); (intro g9 ys9 ms9 o9 t9 hD9 hI9 hl9 hP9); rotate_left; (intro k9 o9 t9 ys9 k09 k19 hD9 I9 oI9 C9 oC9 D9 m9 h9 tk9 E9 hC9 F' N' off9 ne9; (try simp only [LCg.Off3, and_true] at off9)); rotate_left)
  k_with "CompSrc" => ((with_reducible show LCg.CompSrc _ _ _ _ _ _ _ (Expr.Subscript (Expr.Name (Str.ofString "_law_menu") _) _ _) _ _ _ _ _ _); (with_reducible rename Fr _ _ _ _ => F'); (with_reducible rename News _ _ _ _ => N'); k_dflt (refine' src_deck (fun k => 0 ≤ k ∧ k < 256) ?hr ?hb0 ?hb1 ?hD ?hh F' N' (fun p hp => hp) ?_ ?_; walk_at "srcDeck"))
  k_with "CompEnd" => ((try dsimp only); (with_reducible rename deckIs _ _ _ _ _ => hD8); (with_reducible rename News _ _ _ _ => N'); k_dflt (refine' ⟨_, _, _, rfl, ?cF, N', ?coff, True.intro, ?cR⟩; (case cF => k_asm); (case coff => ((try simp only [LCg.Off3, and_true]); with_reducible assumption)); (case cR => exact ⟨_, _, _, _, rfl, ⟨by omega, by omega⟩, rfl, hD8⟩)))
  k_with "subscriptTail" => ((with_reducible show wpAny _ _ (subscriptTail _ _ (Value.ref _) (Value.int _ _)) _ _ _); k_dflt ((first | refine' codes_item ?F ?X ?h0 ?h1 ?_ | refine' menu_item ?F ?X ?h0 ?h1 ?_); (case F => k_asm); (case X => k_asm); (case h0 => omega); (case h1 => omega)); (intro x9 t9 x09 x19); (try dsimp only))
  k_with "call type:bytes" => ((with_reducible show wpAny _ _ (call (Value.type "bytes") [Value.ref _]) _ _ _); k_dflt (refine' bytes_lit ?kbaF ?kbaN ?kbah ?kbal ?kbai ?kbar ?kban ?_; (case kbaF => k_asm); (case kbaN => k_asm); (case kbah => rfl); (case kbal => exact News.isList (by k_asm) (by k_mem)); (case kbai => with_reducible assumption); (case kbar => assumption); (case kban => omega)); intro _ _ _ _ F' N' hbs; (try dsimp only))
  k_with "call ref" => ((with_reducible show wpAny _ _ (call (Value.ref 156) _) _ _ _); (with_reducible rename News _ _ _ _ => N'); k_dflt (refine' read_use ?hb ?hl N' ?B ?F ?X ?T ?hk ?hd ?hu ?_; (case hb => with_reducible assumption); (case hl => omega); (case B => k_asm); (case F => k_asm); (case X => k_asm); (case T => k_asm); (case hk => first | exact rfl | assumption); (case hd => walk_at "room"); (case hu => walk_at "units")); (intro D9 TT9 vs9 n9 w9 h9 tk9 hw9 F' N' IA9 hne9 oT9 oD9); (try simp only [LCg.Off1, and_true] at oT9 oD9); (try dsimp only))
  revert X
  k_fill
  intro X
  dsimp only [kstB] at F
  have hlw := hIs.length
  dsimp only [lawEnv, lawScope, scopeOf, lastS, PySem.Challenge.pw_np0270_01]
  repeat' (first
      | ((with_reducible show wpAny _ _ (execs (Stmt.Assign _ (Expr.Call (Expr.Name (Str.ofString "SignReader") _) _ _ _) _ :: _) _) _ _ _); first | ((with_reducible rename News _ _ _ _ => N9); (with_reducible rename Fr _ _ _ _ => F9); (with_reducible rename deckIs _ _ _ _ _ => hD9); (with_reducible rename (Prod.snd (readL _) = _) => hw9); (with_reducible rename IntsAre _ (Prod.fst (readL _)) => IA9); (with_reducible rename (_ = Data.cell (some (Value.ref _))) => hoc9); (with_reducible rename (List.length _ ≤ 100) => hns9); (with_reducible rename (KBw.bInts _ = _) => hb9); (with_unfolding_all refine' law_tail2 hb9 ?hl ?l0 ?l1 ?r0 ?r1 hw9 IA9 hD9 ?hI hns9 ?hdC ?hlo ?k0 ?k1 hoc9 ?hcl ?B F9 rfl rfl rfl rfl rfl ?X (endH N9) ?T hd hu ?nx); (case hl => omega); (case l0 => omega); (case l1 => omega); (case r0 => omega); (case r1 => omega); (case hI => with_reducible assumption); (case hdC => walk_at "offs"); (case hlo => with_reducible assumption); (case k0 => omega); (case k1 => omega); (case hcl => walk_at "offs"); (case B => k_asm); (case X => k_asm); (case T => k_asm); (case nx => exact fun u' h' tk' F' => next u' h' tk' F')))
      | (k_unfold; (try dsimp only)) | walk1 | (dsimp only; walk1) | (leave1; walk_say "STEP leave1"; try dsimp only) | fail "no step")
theorem law_walk2 {w : World} {mean : ExcName → Option Value} {mg mb : Str → Option Value} {dp un : Nat} {gd : Option (List Code)} {L fa : Addr} {cd : Value} {outer : List Env} {A₀ : Around} {base h₀ : Heap} {s : Shared} {Q : Flow → Shared → Prop} {E : Value → Shared → Prop}
    {u : Str → Option Value} {D : Addr} {ws : List Value} {vs : List Int} {oc : Obj}
    (hL : h₀.IsList D ws.toArray) (hIs : IntsAre ws vs) (hlen : vs.length ≤ 63) (hoc : oc.data = .cell none)
    (B : Below A₀ base outer h₀) (F : Fr h₀ L s.heap u) (e1 : u (Str.ofString "script") = some (.ref D)) (X : (hd.heap_39 w.params).In h₀)
    (N : News h₀ L s.heap [(L + 1, oc)]) (T : Top hd.view_39 (looseW hd.view_39 [Str.ofString "_law_menu", Str.ofString "_law_codes"]) mean mg mb h₀) (hd : dp + 40 < recursionLimit) (hu : un + 1000 < cLine)
    (next : ∀ (u' : Str → Option Value) h' tk', Fr h₀ L h' u' → Q (.ret (.bool true)) { s with heap := h', toks := tk' }) :
    wpAny (model PySem.Challenge.rw_np0270_01.row.prog w) (ktrTop dp un gd (Str.ofString "law") lawScope L fa cd (cellsFrom (L + 1) lawScope.names []) outer) (execs lawBody (lawEnv L fa cd)) Q E s :=
  law_walk hL hIs hlen hoc B (fr_kst (List.forall_mem_cons.mpr ⟨e1, List.forall_mem_nil _⟩) F) X N T hd hu next
end
/-! Law -/
section
open PySem PySem.W PyProof.Rows
set_option maxRecDepth 100000
set_option maxHeartbeats 8000000
theorem top_ : PySem.Challenge.rw_np0270_01.Holds := hd (by
  w_top off
  k_go0
  all_goals try k_fold
  with_reducible rename Fr _ _ _ _ => F9
  with_reducible rename News _ _ _ _ => N9
  with_reducible rename Heap.IsList _ _ _ => hL9
  with_reducible rename IntsAre _ _ => hI9
  with_reducible rename Below _ _ _ _ => B9
  with_reducible rename Frag.In _ _ => X9
  with_reducible rename Top _ _ _ _ _ _ => T9
  with_reducible rename (Obj.data _ = Data.cell _) => hoc9
  with_unfolding_all refine' law_walk2 hL9 hI9 ?hlen hoc9 B9 F9 ?e1 X9 N9 T9 ?hd ?hu ?nx
  case hlen => omega
  case e1 => with_unfolding_all rfl
  case hd => exact Nat.le_of_ble_eq_true rfl
  case hu => exact Nat.le_of_ble_eq_true rfl
  case nx =>
    intro u' h' tk' F'
    repeat' (first | (k_unfold; (try dsimp only)) | (k_end; wrow_close) | walk1 | (dsimp only; walk1) | (leave1; walk_say "STEP leave1"; try dsimp only) | fail "no step"))
end
end Mine
set_option maxRecDepth 100000 in
set_option maxHeartbeats 8000000 in
theorem PySem.Challenge.cw_np0270_01_holds : PySem.Challenge.rw_np0270_01.Holds :=
  Mine.top_
