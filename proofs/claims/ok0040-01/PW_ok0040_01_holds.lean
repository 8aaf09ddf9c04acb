import PyProof.Rows.All
import Wide.All
import OpenK.AllK
import Wide.FinOn
import PySem.Challenge.RW_ok0040_01
open PySem PySem.W PyProof.Rows PySem.Calls
set_option Elab.async false
namespace Mine
open_top hd for PySem.Challenge.rw_ok0040_01
section
local macro_rules | `(tactic| k_all) => `(tactic| assumption)
local macro_rules | `(tactic| k_room) => `(tactic| ktr_room)
local macro_rules | `(tactic| walk_at "call builtin:len") => `(tactic| (k_here; (with_reducible show wpAny _ _ (call (Value.builtin "len") [Value.ref _]) _ _ _); k_dflt (refine' kst_len ?k1 ?k2 rfl ?k4 ?_; (case k1 => k_asm); (case k2 => k_mem); (case k4 => ((try simp only [List.size_toArray, List.length_append, List.length_cons, List.length_nil]); omega))); k_whole))
local macro_rules | `(tactic| walk_at "call builtin:list.append") => `(tactic| (k_here; (with_reducible show wpAny _ _ (call (Value.builtin _) [Value.ref _, _]) _ _ _); k_dflt (refine' append_K ?k1 ?k2 ?k3 ?_ ?z; (case k1 => k_asm); (case k2 => k_asm); (case k3 => k_upd); (case z => (rw [sizeLine_eq]; simp only [List.size_toArray]; omega)); k_whole); intro h' F' N'; (try simp only [List.push_toArray] at N'); (try k_sweep)))
variable {w : World} {mean : ExcName → Option Value} {mg mb : Str → Option Value} {dp un : Nat} {gd : Option (List Code)} {cn : Str} {cs : Scope} {a : Addr} {ccd : Value} {cl : List (Str × Addr)} {outer : List Env} {A₀ : Around} {base h₀ : Heap} {L : Addr} {m : Str → Option Value} {s : Shared} {Q E : Value → Shared → Prop}
abbrev symD (w : World) (t1 t2 t3 t4 : Tok) (i : Int) (nm : Str) : Obj := dictOf [⟨PyData.keyHash w.params (Str.ofString "number"), .str (Str.ofString "number") t1, .int i t2⟩, ⟨PyData.keyHash w.params (Str.ofString "name"), .str (Str.ofString "name") t3, .str nm t4⟩] 2
abbrev tabD (w : World) (t1 t2 : Tok) (ra na : Addr) : Obj := dictOf [⟨PyData.keyHash w.params (Str.ofString "rows"), .str (Str.ofString "rows") t1, .ref ra⟩, ⟨PyData.keyHash w.params (Str.ofString "names"), .str (Str.ofString "names") t2, .ref na⟩] 2
theorem news_sub {h₀ h : Heap} {L : Addr} {l l' : List (Addr × Obj)} (N : News h₀ L h l) (hs : ∀ p ∈ l', p ∈ l) : News h₀ L h l' := fun p hp => N p (hs p hp)
theorem news_tl {h₀ h : Heap} {L : Addr} {a : Addr × Obj} {l : List (Addr × Obj)} (N : News h₀ L h (a :: l)) : News h₀ L h l := fun p hp => N p (List.mem_cons_of_mem _ hp)
theorem allLt_mem {d : Addr} : ∀ {l : List (Addr × Obj)}, AllLt d l → ∀ p ∈ l, p.1 < d
  | [], _, _, hp => nomatch hp
  | _ :: _, h, _, hp => by
    rcases List.mem_cons.mp hp with rfl | hp
    · exact h.1
    · exact allLt_mem h.2 _ hp
theorem news_rot {h₀ h : Heap} {L : Addr} {a b c d e : Addr × Obj} {l : List (Addr × Obj)} (N : News h₀ L h (a :: b :: c :: d :: e :: l)) : News h₀ L h (c :: d :: e :: a :: b :: l) :=
  news_sub N fun p hp => by
    simp only [List.mem_cons] at hp ⊢
    rcases hp with h | h | h | h | h | h
    · exact .inr (.inr (.inl h))
    · exact .inr (.inr (.inr (.inl h)))
    · exact .inr (.inr (.inr (.inr (.inl h))))
    · exact .inl h
    · exact .inr (.inl h)
    · exact .inr (.inr (.inr (.inr (.inr h))))
theorem news_rot2 {h₀ h : Heap} {L : Addr} {a b c d e f : Addr × Obj} {l : List (Addr × Obj)} (N : News h₀ L h (a :: b :: c :: d :: e :: f :: l)) : News h₀ L h (c :: d :: e :: f :: a :: b :: l) :=
  news_sub N fun p hp => by
    simp only [List.mem_cons] at hp ⊢
    rcases hp with h | h | h | h | h | h | h
    · exact .inr (.inr (.inl h))
    · exact .inr (.inr (.inr (.inl h)))
    · exact .inr (.inr (.inr (.inr (.inl h))))
    · exact .inr (.inr (.inr (.inr (.inr (.inl h)))))
    · exact .inl h
    · exact .inr (.inl h)
    · exact .inr (.inr (.inr (.inr (.inr (.inr h)))))
abbrev SK (w : World) := PySem.strKind PySem.Challenge.rw_ok0040_01.row.prog w
def Hold (P : Prop) : Prop := P
theorem Hold.out {P : Prop} (h : Hold P) : P := h
end
section
local macro_rules | `(tactic| k_all) => `(tactic| assumption)
local macro_rules | `(tactic| k_room) => `(tactic| ktr_room)
local macro_rules | `(tactic| walk_at "call builtin:len") => `(tactic| (k_here; (with_reducible show wpAny _ _ (call (Value.builtin "len") [Value.ref _]) _ _ _); k_dflt (refine' kst_len ?k1 ?k2 rfl ?k4 ?_; (case k1 => k_asm); (case k2 => k_mem); (case k4 => ((try simp only [List.size_toArray, List.length_append, List.length_cons, List.length_nil]); omega))); k_whole))
local macro_rules | `(tactic| walk_at "call builtin:list.append") => `(tactic| (k_here; (with_reducible show wpAny _ _ (call (Value.builtin _) [Value.ref _, _]) _ _ _); k_dflt (refine' append_K ?k1 ?k2 ?k3 ?_ ?z; (case k1 => k_asm); (case k2 => k_asm); (case k3 => k_upd); (case z => (rw [sizeLine_eq]; simp only [List.size_toArray]; omega)); k_whole); intro h' F' N'; (try simp only [List.push_toArray] at N'); (try k_sweep)))
variable {w : World} {mean : ExcName → Option Value} {mg mb : Str → Option Value} {dp un : Nat} {gd : Option (List Code)} {cn : Str} {cs : Scope} {a : Addr} {ccd : Value} {cl : List (Str × Addr)} {outer : List Env} {A₀ : Around} {base h₀ : Heap} {L : Addr} {m : Str → Option Value} {s : Shared} {Q E : Value → Shared → Prop}
theorem my_item {prog w A E s} {value slice : PySem.Expr} {l : Addr} {vs : List Value} {k : Int} {u : Tok} {v : Value} {Q : Value → Shared → Prop}
    (hl : s.heap.IsList l vs.toArray) (h0 : 0 ≤ k) (hhi : k < 2 ^ 63) (hx : vs[k.toNat]? = some v) (h : Q v s)
    (hs : subscripted slice false (.ref l) (.int k u) = operate [.ref l, .int k u] (getItem (.ref l) (.int k u)) := by with_unfolding_all rfl) :
    wpAny (model prog w) A (subscriptTail value slice (.ref l) (.int k u)) Q E s :=
  tail_any hl.typeIs slot_list_getitem.lookup (wpAny_getItem_list hl h0 hhi (by simpa using hx) h) hs
end
section
local macro_rules | `(tactic| k_all) => `(tactic| assumption)
local macro_rules | `(tactic| k_room) => `(tactic| ktr_room)
local macro_rules | `(tactic| walk_at "call builtin:len") => `(tactic| (k_here; (with_reducible show wpAny _ _ (call (Value.builtin "len") [Value.ref _]) _ _ _); k_dflt (refine' kst_len ?k1 ?k2 rfl ?k4 ?_; (case k1 => k_asm); (case k2 => k_mem); (case k4 => ((try simp only [List.size_toArray, List.length_append, List.length_cons, List.length_nil]); omega))); k_whole))
local macro_rules | `(tactic| walk_at "call builtin:list.append") => `(tactic| (k_here; (with_reducible show wpAny _ _ (call (Value.builtin _) [Value.ref _, _]) _ _ _); k_dflt (refine' append_K ?k1 ?k2 ?k3 ?_ ?z; (case k1 => k_asm); (case k2 => k_asm); (case k3 => k_upd); (case z => (rw [sizeLine_eq]; simp only [List.size_toArray]; omega)); k_whole); intro h' F' N'; (try simp only [List.push_toArray] at N'); (try k_sweep)))
variable {w : World} {mean : ExcName → Option Value} {mg mb : Str → Option Value} {dp un : Nat} {gd : Option (List Code)} {cn : Str} {cs : Scope} {a : Addr} {ccd : Value} {cl : List (Str × Addr)} {outer : List Env} {A₀ : Around} {base h₀ : Heap} {L : Addr} {m : Str → Option Value} {s : Shared} {Q E : Value → Shared → Prop}
set_option maxRecDepth 100000 in
set_option maxHeartbeats 4000000 in
theorem draw_ok {dk il : Addr} {k many : Int} {t tm : Tok} {c : Nat} {ys : List Value} {ns : List Int} {rest : List (Addr × Obj)}
    (B : Below A₀ base outer h₀) (F : Fr h₀ L s.heap m) (X : (hd.heap_39 w.params).In h₀) (N : News h₀ L s.heap ((dk, W.listOf #[.ref il, .int k t] c) :: (il, LCg.lst ys) :: rest))
    (T : Top hd.view_39 (looseW hd.view_39 [Str.ofString "NIL", Str.ofString "T"]) mean mg mb h₀) (hk : cs.kind = .function) (hdp : dp + 10 < recursionLimit) (hun : un + 80 < cLine)
    (hi : IntsAre ys ns) (hlen : ns.length ≤ 40) (h0 : 0 ≤ k) (h1 : k ≤ 100) (hm : 0 < many) (hm2 : many ≤ 100) (hne : il ≠ dk) (hoff : ∀ p ∈ rest, p.1 ≠ dk)
    (hret : ∀ h' tk' v t' t'', Fr h₀ L h' m → News h₀ L h' ((dk, W.listOf #[.ref il, .int (k + 1) t'] c) :: (il, LCg.lst ys) :: rest) → 0 ≤ v → v < many → Q (.int v t'') { s with heap := h', toks := tk' }) :
    wpAny (model PySem.Challenge.rw_ok0040_01.row.prog w) (ktrTop dp un gd cn cs L a ccd cl outer) (call (.ref 123) [.ref dk, .int many tm]) Q E s := by
  w_top off
  revert X; k_fill; intro X
  have hMk : KstMark := kstMark
  refine wpAny_call ?_
  k_dflt ktr_enter
  k_steps
  all_goals exact hret _ _ _ _ _ (by assumption) (by assumption) (Int.fmod_nonneg_of_pos _ hm) (Int.fmod_lt_of_pos _ hm)

theorem draw_use {dk il : Addr} {k many : Int} {t tm : Tok} {c : Nat} {ys : List Value} {ns : List Int} {news : List (Addr × Obj)} {g : Obj → List (Addr × Obj)}
    (B : Below A₀ base outer h₀) (F : Fr h₀ L s.heap m) (X : (hd.heap_39 w.params).In h₀) (N : News h₀ L s.heap news)
    (T : Top hd.view_39 (looseW hd.view_39 [Str.ofString "NIL", Str.ofString "T"]) mean mg mb h₀) (hk : cs.kind = .function) (hdp : dp + 10 < recursionLimit) (hun : un + 80 < cLine)
    (U : UpdF dk (W.listOf #[.ref il, .int k t] c) news g) (hm : (il, LCg.lst ys) ∈ news) (hne : il ≠ dk)
    (hi : IntsAre ys ns) (hlen : ns.length ≤ 40) (h0 : 0 ≤ k) (h1 : k ≤ 100) (hm0 : 0 < many) (hm2 : many ≤ 100)
    (hret : ∀ h' tk' v t' t'', Fr h₀ L h' m → News h₀ L h' (g (W.listOf #[.ref il, .int (k + 1) t'] c)) → 0 ≤ v → v < many → Q (.int v t'') { s with heap := h', toks := tk' }) :
    wpAny (model PySem.Challenge.rw_ok0040_01.row.prog w) (ktrTop dp un gd cn cs L a ccd cl outer) (call (.ref 123) [.ref dk, .int many tm]) Q E s := by
  obtain ⟨pre, post, rfl, hg, ha, hb⟩ := U.split
  have hm' : (il, LCg.lst ys) ∈ pre ++ post := by
    rcases List.mem_append.mp hm with h | h
    · exact List.mem_append_left _ h
    · rcases List.mem_cons.mp h with h | h
      · exact absurd (congrArg Prod.fst h) hne
      · exact List.mem_append_right _ h
  refine draw_ok (t := t) (c := c) (rest := pre ++ post) B F X (fun p hp => ?_) T hk hdp hun hi hlen h0 h1 hm0 hm2 hne (fun p hp => ?_) (fun h' tk' v t' t'' F' N' h2 h3 => hret h' tk' v t' t'' F' (fun p hp => ?_) h2 h3)
  · rcases List.mem_cons.mp hp with rfl | hp
    · exact N _ (List.mem_append_right _ (List.mem_cons_self ..))
    · rcases List.mem_cons.mp hp with rfl | hp
      · exact N _ hm
      · rcases List.mem_append.mp hp with h | h
        · exact N _ (List.mem_append_left _ h)
        · exact N _ (List.mem_append_right _ (List.mem_cons_of_mem _ h))
  · rcases List.mem_append.mp hp with h | h
    · exact ha p h
    · exact hb p h
  · rw [hg] at hp
    rcases List.mem_append.mp hp with h | h
    · exact N' _ (List.mem_cons_of_mem _ (List.mem_cons_of_mem _ (List.mem_append_left _ h)))
    · rcases List.mem_cons.mp h with rfl | h
      · exact N' _ (List.mem_cons_self ..)
      · exact N' _ (List.mem_cons_of_mem _ (List.mem_cons_of_mem _ (List.mem_append_right _ h)))
end
section
local macro_rules | `(tactic| k_all) => `(tactic| assumption)
local macro_rules | `(tactic| k_room) => `(tactic| ktr_room)
local macro_rules | `(tactic| walk_at "call builtin:len") => `(tactic| (k_here; (with_reducible show wpAny _ _ (call (Value.builtin "len") [Value.ref _]) _ _ _); k_dflt (refine' kst_len ?k1 ?k2 rfl ?k4 ?_; (case k1 => k_asm); (case k2 => k_mem); (case k4 => ((try simp only [List.size_toArray, List.length_append, List.length_cons, List.length_nil]); omega))); k_whole))
local macro_rules | `(tactic| walk_at "call builtin:list.append") => `(tactic| (k_here; (with_reducible show wpAny _ _ (call (Value.builtin _) [Value.ref _, _]) _ _ _); k_dflt (refine' append_K ?k1 ?k2 ?k3 ?_ ?z; (case k1 => k_asm); (case k2 => k_asm); (case k3 => k_upd); (case z => (rw [sizeLine_eq]; simp only [List.size_toArray]; omega)); k_whole); intro h' F' N'; (try simp only [List.push_toArray] at N'); (try k_sweep)))
local macro_rules | `(tactic| walk_at "no goal 0") => `(tactic| fail)
variable {w : World} {mean : ExcName → Option Value} {mg mb : Str → Option Value} {dp un : Nat} {gd : Option (List Code)} {cn : Str} {cs : Scope} {a : Addr} {ccd : Value} {cl : List (Str × Addr)} {outer : List Env} {A₀ : Around} {base h₀ : Heap} {L : Addr} {m : Str → Option Value} {s : Shared} {Q E : Value → Shared → Prop}
set_option maxRecDepth 100000 in
set_option maxHeartbeats 4000000 in
theorem fresh_ok {tb td ra na : Addr} {t1 t2 tn : Tok} {rc : Nat} {rv : List Value} {nm : Str} {rest : List (Addr × Obj)}
    (B : Below A₀ base outer h₀) (F : Fr h₀ L s.heap m) (X : (hd.heap_39 w.params).In h₀) (N : News h₀ L s.heap ((ra, W.listOf rv.toArray rc) :: (tb, instObj 112 td) :: (td, tabD w t1 t2 ra na) :: rest))
    (T : Top hd.view_39 (looseW hd.view_39 [Str.ofString "NIL", Str.ofString "T"]) mean mg mb h₀) (hk : cs.kind = .function) (hdp : dp + 10 < recursionLimit)
    (hlen : rv.length ≤ 100) (hne1 : @Ne Nat tb ra) (hne2 : @Ne Nat td ra) (hne3 : @Ne Nat tb td) (hoff : ∀ p ∈ rest, p.1 ≠ ra)
    (hret : ∀ h' tk' S D t1' t2' t3', Fr h₀ L h' m → News h₀ L h' ((ra, W.listOf (rv ++ [Value.ref S]).toArray (rc + 1)) :: (tb, instObj 112 td) :: (td, tabD w t1 t2 ra na) :: (S, instObj 31 D) :: (D, symD w t1' t2' t3' tn rv.length nm) :: rest) →
      (ra < D ∧ tb < D ∧ td < D ∧ AllLt D rest) → D < S → Q (.ref S) { s with heap := h', toks := tk' }) :
    wpAny (model PySem.Challenge.rw_ok0040_01.row.prog w) (ktrTop dp un gd cn cs L a ccd cl outer) (call (.ref 76) [.ref tb, .str nm tn]) Q E s := by
  w_top off
  revert X; k_fill; intro X
  have hMk : KstMark := kstMark
  refine wpAny_call ?_
  k_dflt ktr_enter
  k_steps
  all_goals exact hret _ _ _ _ _ _ _ (by assumption) (news_rot (by assumption)) (by assumption) (by assumption)
end
section
local macro_rules | `(tactic| k_all) => `(tactic| assumption)
local macro_rules | `(tactic| k_room) => `(tactic| ktr_room)
local macro_rules | `(tactic| walk_at "call builtin:len") => `(tactic| (k_here; (with_reducible show wpAny _ _ (call (Value.builtin "len") [Value.ref _]) _ _ _); k_dflt (refine' kst_len ?k1 ?k2 rfl ?k4 ?_; (case k1 => k_asm); (case k2 => k_mem); (case k4 => ((try simp only [List.size_toArray, List.length_append, List.length_cons, List.length_nil]); omega))); k_whole))
local macro_rules | `(tactic| walk_at "call builtin:list.append") => `(tactic| (k_here; (with_reducible show wpAny _ _ (call (Value.builtin _) [Value.ref _, _]) _ _ _); k_dflt (refine' append_K ?k1 ?k2 ?k3 ?_ ?z; (case k1 => k_asm); (case k2 => k_asm); (case k3 => k_upd); (case z => (rw [sizeLine_eq]; simp only [List.size_toArray]; omega)); k_whole); intro h' F' N'; (try simp only [List.push_toArray] at N'); (try k_sweep)))
variable {w : World} {mean : ExcName → Option Value} {mg mb : Str → Option Value} {dp un : Nat} {gd : Option (List Code)} {cn : Str} {cs : Scope} {a : Addr} {ccd : Value} {cl : List (Str × Addr)} {outer : List Env} {A₀ : Around} {base h₀ : Heap} {L : Addr} {m : Str → Option Value} {s : Shared} {Q E : Value → Shared → Prop}
local macro_rules | `(tactic| walk_at "getMethod ref") => `(tactic| (k_here; (with_reducible show wpAny _ _ (getMethod (Value.ref _) (Str.ofString "get") _) _ _ _); k_dflt (refine kdg_method (knd := PySem.strKind _ _) (by k_asm) (by k_mem) (by k_asm) ?_)))
local macro_rules | `(tactic| walk_at "call builtin:dict.get") => `(tactic| (k_here; (with_reducible show wpAny _ _ (call (Value.builtin _) [Value.ref _, Value.str _ _, _]) _ _ _); k_dflt (refine kdg_get2 (knd := PySem.strKind _ _) (by k_asm) (by k_mem) (by k_asm) (by k_asm) (strKind_is _ _ _ _) _ (by assumption) ?_)))
local macro_rules | `(tactic| walk_at "subscriptTail") => `(tactic| (k_here; (with_reducible show wpAny _ _ (subscriptTail _ _ (Value.ref _) (Value.int _ _)) _ _ _); (with_unfolding_all refine' my_item ?k1 ?k2 ?k3 ?k4 ?_ ?k6; (case k1 => exact News.isList (by k_asm) (by k_mem)); (case k2 => assumption); (case k3 => omega); (case k4 => assumption); (case k6 => with_unfolding_all rfl); k_whole)))
set_option maxRecDepth 100000 in
set_option maxHeartbeats 4000000 in
theorem size_ok {tb td ra na : Addr} {t1 t2 : Tok} {rc : Nat} {rv : List Value} {news : List (Addr × Obj)}
    (B : Below A₀ base outer h₀) (F : Fr h₀ L s.heap m) (X : (hd.heap_39 w.params).In h₀) (N : News h₀ L s.heap news)
    (T : Top hd.view_39 (looseW hd.view_39 [Str.ofString "NIL", Str.ofString "T"]) mean mg mb h₀) (hk : cs.kind = .function) (hdp : dp + 10 < recursionLimit)
    (h1 : (tb, instObj 112 td) ∈ news) (h2 : (td, tabD w t1 t2 ra na) ∈ news) (h3 : (ra, W.listOf rv.toArray rc) ∈ news) (hlen : rv.length ≤ 100)
    (hret : ∀ h' tk' t', Fr h₀ L h' m → News h₀ L h' news → Q (.int rv.length t') { s with heap := h', toks := tk' }) :
    wpAny (model PySem.Challenge.rw_ok0040_01.row.prog w) (ktrTop dp un gd cn cs L a ccd cl outer) (call (.ref 109) [.ref tb]) Q E s := by
  w_top off
  revert X; k_fill; intro X
  have hMk : KstMark := kstMark
  refine wpAny_call ?_
  k_dflt ktr_enter
  k_steps
  all_goals exact hret _ _ _ (by assumption) (by assumption)

set_option maxRecDepth 100000 in
set_option maxHeartbeats 4000000 in
theorem soft_ok {tb td ra na : Addr} {t1 t2 tn : Tok} {nm : Str} {oN : Obj} {kvs : List (Str × Value)} {news : List (Addr × Obj)}
    (B : Below A₀ base outer h₀) (F : Fr h₀ L s.heap m) (X : (hd.heap_39 w.params).In h₀) (N : News h₀ L s.heap news)
    (T : Top hd.view_39 (looseW hd.view_39 [Str.ofString "NIL", Str.ofString "T"]) mean mg mb h₀) (hk : cs.kind = .function) (hdp : dp + 10 < recursionLimit)
    (h1 : (tb, instObj 112 td) ∈ news) (h2 : (td, tabD w t1 t2 ra na) ∈ news) (h3 : (na, oN) ∈ news) (hN : oN.IsDictOf (SK w) kvs) (lo : (na == sysModules) = false) (x : Option Value) (hx : valueAt kvs nm = x)
    (hret : ∀ h' tk', Fr h₀ L h' m → News h₀ L h' news → Q (x.getD .none) { s with heap := h', toks := tk' }) :
    wpAny (model PySem.Challenge.rw_ok0040_01.row.prog w) (ktrTop dp un gd cn cs L a ccd cl outer) (call (.ref 69) [.ref tb, .str nm tn]) Q E s := by
  w_top off
  revert X; k_fill; intro X
  have hMk : KstMark := kstMark
  refine wpAny_call ?_
  k_dflt ktr_enter
  k_steps
  all_goals exact hret _ _ (by assumption) (by assumption)

set_option maxRecDepth 100000 in
set_option maxHeartbeats 4000000 in
theorem num_ok {tb td ra na : Addr} {t1 t2 ti : Tok} {rc : Nat} {i : Int} {rv : List Value} {v : Value} {news : List (Addr × Obj)}
    (B : Below A₀ base outer h₀) (F : Fr h₀ L s.heap m) (X : (hd.heap_39 w.params).In h₀) (N : News h₀ L s.heap news)
    (T : Top hd.view_39 (looseW hd.view_39 [Str.ofString "NIL", Str.ofString "T"]) mean mg mb h₀) (hk : cs.kind = .function) (hdp : dp + 10 < recursionLimit)
    (h1 : (tb, instObj 112 td) ∈ news) (h2 : (td, tabD w t1 t2 ra na) ∈ news) (h3 : (ra, W.listOf rv.toArray rc) ∈ news) (hi0 : 0 ≤ i) (hi1 : i < 100) (hv : rv[i.toNat]? = some v)
    (hret : ∀ h' tk', Fr h₀ L h' m → News h₀ L h' news → Q v { s with heap := h', toks := tk' }) :
    wpAny (model PySem.Challenge.rw_ok0040_01.row.prog w) (ktrTop dp un gd cn cs L a ccd cl outer) (call (.ref 83) [.ref tb, .int i ti]) Q E s := by
  w_top off
  revert X; k_fill; intro X
  have hMk : KstMark := kstMark
  refine wpAny_call ?_
  k_dflt ktr_enter
  k_steps
  all_goals exact hret _ _ (by assumption) (by assumption)
end
section
local macro_rules | `(tactic| k_all) => `(tactic| assumption)
local macro_rules | `(tactic| k_room) => `(tactic| ktr_room)
local macro_rules | `(tactic| walk_at "call builtin:len") => `(tactic| (k_here; (with_reducible show wpAny _ _ (call (Value.builtin "len") [Value.ref _]) _ _ _); k_dflt (refine' kst_len ?k1 ?k2 rfl ?k4 ?_; (case k1 => k_asm); (case k2 => k_mem); (case k4 => ((try simp only [List.size_toArray, List.length_append, List.length_cons, List.length_nil]); omega))); k_whole))
local macro_rules | `(tactic| walk_at "call builtin:list.append") => `(tactic| (k_here; (with_reducible show wpAny _ _ (call (Value.builtin _) [Value.ref _, _]) _ _ _); k_dflt (refine' append_K ?k1 ?k2 ?k3 ?_ ?z; (case k1 => k_asm); (case k2 => k_asm); (case k3 => k_upd); (case z => (rw [sizeLine_eq]; simp only [List.size_toArray]; omega)); k_whole); intro h' F' N'; (try simp only [List.push_toArray] at N'); (try k_sweep)))
local macro_rules | `(tactic| walk_at "no goal 0") => `(tactic| fail)
variable {w : World} {mean : ExcName → Option Value} {mg mb : Str → Option Value} {dp un : Nat} {gd : Option (List Code)} {cn : Str} {cs : Scope} {a : Addr} {ccd : Value} {cl : List (Str × Addr)} {outer : List Env} {A₀ : Around} {base h₀ : Heap} {L : Addr} {m : Str → Option Value} {s : Shared} {Q E : Value → Shared → Prop}
local macro_rules | `(tactic| walk_at "getMethod ref") => `(tactic| (k_here; (with_reducible show wpAny _ _ (getMethod (Value.ref _) (Str.ofString "get") _) _ _ _); k_dflt (refine kdg_method (knd := PySem.strKind _ _) (by k_asm) (by k_mem) (by k_asm) ?_)))
local macro_rules | `(tactic| walk_at "call builtin:dict.get") => `(tactic| (k_here; (with_reducible show wpAny _ _ (call (Value.builtin _) [Value.ref _, Value.str _ _, _]) _ _ _); k_dflt (refine kdg_get2 (knd := PySem.strKind _ _) (by k_asm) (by k_mem) (by k_asm) (by k_asm) (strKind_is _ _ _ _) _ (by assumption) ?_); (try dsimp only [Option.getD])))
local macro_rules | `(tactic| walk_at "setItem ref str") => `(tactic| (k_here; k_dflt (refine' kda_set (knd := PySem.strKind _ _) ?F ?N ?U ?d (strKind_is _ _ _ _) ?z ?_; (case F => k_asm); (case N => k_asm); (case U => k_updF); (case d => k_asm); (case z => rw [sizeLine_eq]; omega)); intro h' o' F' N' hd'; (try dsimp only at N')))
set_option maxRecDepth 100000 in
set_option maxHeartbeats 4000000 in
theorem intern_old {tb td ra na : Addr} {t1 t2 tn : Tok} {nm : Str} {oN : Obj} {v : Addr} {kvs : List (Str × Value)} {news : List (Addr × Obj)}
    (B : Below A₀ base outer h₀) (F : Fr h₀ L s.heap m) (X : (hd.heap_39 w.params).In h₀) (N : News h₀ L s.heap news)
    (T : Top hd.view_39 (looseW hd.view_39 [Str.ofString "NIL", Str.ofString "T"]) mean mg mb h₀) (hk : cs.kind = .function) (hdp : dp + 10 < recursionLimit)
    (h1 : (tb, instObj 112 td) ∈ news) (h2 : (td, tabD w t1 t2 ra na) ∈ news) (h3 : (na, oN) ∈ news) (hN : oN.IsDictOf (SK w) kvs) (lo : (na == sysModules) = false) (hv : valueAt kvs nm = some (.ref v))
    (hret : ∀ h' tk', Fr h₀ L h' m → News h₀ L h' news → Q (.ref v) { s with heap := h', toks := tk' }) :
    wpAny (model PySem.Challenge.rw_ok0040_01.row.prog w) (ktrTop dp un gd cn cs L a ccd cl outer) (call (.ref 62) [.ref tb, .str nm tn]) Q E s := by
  w_top off
  revert X; k_fill; intro X
  have hMk : KstMark := kstMark
  refine wpAny_call ?_
  k_dflt ktr_enter
  k_steps
  all_goals exact hret _ _ (by assumption) (by assumption)

set_option maxRecDepth 100000 in
set_option maxHeartbeats 4000000 in
theorem intern_new {tb td ra na : Addr} {t1 t2 tn : Tok} {rc : Nat} {rv : List Value} {nm : Str} {oN : Obj} {kvs : List (Str × Value)} {rest : List (Addr × Obj)}
    (B : Below A₀ base outer h₀) (F : Fr h₀ L s.heap m) (X : (hd.heap_39 w.params).In h₀) (N : News h₀ L s.heap ((na, oN) :: (ra, W.listOf rv.toArray rc) :: (tb, instObj 112 td) :: (td, tabD w t1 t2 ra na) :: rest))
    (T : Top hd.view_39 (looseW hd.view_39 [Str.ofString "NIL", Str.ofString "T"]) mean mg mb h₀) (hk : cs.kind = .function) (hdp : dp + 10 < recursionLimit)
    (hN : oN.IsDictOf (SK w) kvs) (lo : (na == sysModules) = false) (hv : valueAt kvs nm = none) (hkl : kvs.length ≤ 100)
    (hlen : rv.length ≤ 100) (hne1 : @Ne Nat tb ra) (hne2 : @Ne Nat td ra) (hne3 : @Ne Nat tb td) (hne4 : @Ne Nat na ra) (hne5 : @Ne Nat na tb) (hne6 : @Ne Nat na td) (hoff : ∀ p ∈ rest, p.1 ≠ ra) (hoff2 : ∀ p ∈ rest, p.1 ≠ na)
    (hret : ∀ h' tk' S D o' t1' t2' t3', Fr h₀ L h' m → News h₀ L h' ((na, o') :: (ra, W.listOf (rv ++ [Value.ref S]).toArray (rc + 1)) :: (tb, instObj 112 td) :: (td, tabD w t1 t2 ra na) :: (S, instObj 31 D) :: (D, symD w t1' t2' t3' tn rv.length nm) :: rest) →
      o'.IsDictOf (SK w) (stored kvs nm (Value.ref S)) → (ra < D ∧ na < D ∧ tb < D ∧ td < D ∧ AllLt D rest) → D < S → Q (.ref S) { s with heap := h', toks := tk' }) :
    wpAny (model PySem.Challenge.rw_ok0040_01.row.prog w) (ktrTop dp un gd cn cs L a ccd cl outer) (call (.ref 62) [.ref tb, .str nm tn]) Q E s := by
  w_top off
  revert X; k_fill; intro X
  have hMk : KstMark := kstMark
  refine wpAny_call ?_
  k_dflt ktr_enter
  k_steps
  all_goals exact hret _ _ _ _ _ _ _ _ (by assumption) (news_rot2 (by assumption)) (by assumption) (by rcases (by assumption : _ ∧ _ ∧ _ ∧ _ ∧ AllLt _ rest) with ⟨a1, a2, a3, a4, a5⟩; exact ⟨a2, a1, a3, a4, a5⟩) (by assumption)
end
section
local macro_rules | `(tactic| k_all) => `(tactic| assumption)
local macro_rules | `(tactic| k_room) => `(tactic| ktr_room)
local macro_rules | `(tactic| walk_at "call builtin:len") => `(tactic| (k_here; (with_reducible show wpAny _ _ (call (Value.builtin "len") [Value.ref _]) _ _ _); k_dflt (refine' kst_len ?k1 ?k2 rfl ?k4 ?_; (case k1 => k_asm); (case k2 => k_mem); (case k4 => ((try simp only [List.size_toArray, List.length_append, List.length_cons, List.length_nil]); omega))); k_whole))
local macro_rules | `(tactic| walk_at "call builtin:list.append") => `(tactic| (k_here; (with_reducible show wpAny _ _ (call (Value.builtin _) [Value.ref _, _]) _ _ _); k_dflt (refine' append_K ?k1 ?k2 ?k3 ?_ ?z; (case k1 => k_asm); (case k2 => k_asm); (case k3 => k_upd); (case z => (rw [sizeLine_eq]; simp only [List.size_toArray]; omega)); k_whole); intro h' F' N'; (try simp only [List.push_toArray] at N'); (try k_sweep)))
variable {w : World} {mean : ExcName → Option Value} {mg mb : Str → Option Value} {dp un : Nat} {gd : Option (List Code)} {cn : Str} {cs : Scope} {a : Addr} {ccd : Value} {cl : List (Str × Addr)} {outer : List Env} {A₀ : Around} {base h₀ : Heap} {L : Addr} {m : Str → Option Value} {s : Shared} {Q E : Value → Shared → Prop}
def SymIn (w : World) (news : List (Addr × Obj)) (b : Addr) (i : Int) (nm : Str) : Prop :=
  (∃ D t1 t2 t3 t4, (b, instObj 31 D) ∈ news ∧ (D, symD w t1 t2 t3 t4 i nm) ∈ news) ∨ (b = 37 ∧ i = 0 ∧ nm = Str.ofString "nil") ∨ (b = 40 ∧ i = 1 ∧ nm = Str.ofString "t")
theorem SymIn.mono {news news' : List (Addr × Obj)} {b : Addr} {i : Int} {nm : Str} (h : SymIn w news b i nm) (hs : ∀ p ∈ news, p ∈ news') : SymIn w news' b i nm := by
  rcases h with ⟨D, t1, t2, t3, t4, h1, h2⟩ | h
  · exact .inl ⟨D, t1, t2, t3, t4, hs _ h1, hs _ h2⟩
  · exact .inr h
set_option maxRecDepth 100000 in
set_option maxHeartbeats 4000000 in
theorem sym_number {A : Around} {news : List (Addr × Obj)} {b : Addr} {i : Int} {nm : Str} {expr : Bool} (F : Fr h₀ L s.heap m) (X : (hd.heap_39 w.params).In h₀) (N : News h₀ L s.heap news) (S : SymIn w news b i nm)
    (h : ∀ t tk, Q (.int i t) { s with toks := tk }) : wpAny (model PySem.Challenge.rw_ok0040_01.row.prog w) A (getAttr (.ref b) (Str.ofString "number") expr) Q E s := by
  revert X; k_fill; intro X
  rcases S with ⟨D, t1, t2, t3, t4, h1, h2⟩ | ⟨rfl, rfl, rfl⟩ | ⟨rfl, rfl, rfl⟩
  all_goals (walk_at "getAttr ref")
  all_goals exact h _ _
set_option maxRecDepth 100000 in
set_option maxHeartbeats 4000000 in
theorem sym_name {A : Around} {news : List (Addr × Obj)} {b : Addr} {i : Int} {nm : Str} {expr : Bool} (F : Fr h₀ L s.heap m) (X : (hd.heap_39 w.params).In h₀) (N : News h₀ L s.heap news) (S : SymIn w news b i nm)
    (h : ∀ t tk, Q (.str nm t) { s with toks := tk }) : wpAny (model PySem.Challenge.rw_ok0040_01.row.prog w) A (getAttr (.ref b) (Str.ofString "name") expr) Q E s := by
  revert X; k_fill; intro X
  rcases S with ⟨D, t1, t2, t3, t4, h1, h2⟩ | ⟨rfl, rfl, rfl⟩ | ⟨rfl, rfl, rfl⟩
  all_goals (walk_at "getAttr ref")
  all_goals exact h _ _
set_option maxRecDepth 100000 in
set_option maxHeartbeats 4000000 in
theorem sym_at {news : List (Addr × Obj)} {b : Addr} {i : Int} {nm : Str} {h : Heap} (F : Fr h₀ L h m) (X : (hd.heap_39 w.params).In h₀) (N : News h₀ L h news) (S : SymIn w news b i nm) : ∃ o, h.get? b = some o ∧ o.cls = .ref 31 := by
  have X' := X.keeps F.keep
  revert X'; k_fill; intro X'
  rcases S with ⟨D, t1, t2, t3, t4, h1, h2⟩ | ⟨rfl, rfl, rfl⟩ | ⟨rfl, rfl, rfl⟩
  · exact ⟨_, (N _ h1).1, rfl⟩
  · exact ⟨_, X' 37 ⟨.ref 31, some 36, .plain, #[]⟩ (by k_is), rfl⟩
  · exact ⟨_, X' 40 ⟨.ref 31, some 39, .plain, #[]⟩ (by k_is), rfl⟩
theorem sym_is {M : Model} {A : Around} {news : List (Addr × Obj)} {b c : Addr} {i j : Int} {nm nm' : Str} (F : Fr h₀ L s.heap m) (X : (hd.heap_39 w.params).In h₀) (N : News h₀ L s.heap news) (S : SymIn w news c j nm') (S' : SymIn w news b i nm)
    (h : Q (.bool (decide (c = b))) s) : wpAny M A (compareOp .Is (.ref c) (.ref b)) Q E s := by
  by_cases e : c = b
  · subst e; refine wpAny_is_ref_self ?_; simpa using h
  · obtain ⟨o1, h1, c1⟩ := sym_at F X N S
    obtain ⟨o2, h2, c2⟩ := sym_at F X N S'
    exact wpAny_is_ref_other e h1 h2 (by rw [c1]; exact fun z => nomatch z) (by simpa [e] using h)
theorem sym_isnot {M : Model} {A : Around} {news : List (Addr × Obj)} {b c : Addr} {i j : Int} {nm nm' : Str} (F : Fr h₀ L s.heap m) (X : (hd.heap_39 w.params).In h₀) (N : News h₀ L s.heap news) (S : SymIn w news c j nm') (S' : SymIn w news b i nm)
    (h : Q (.bool (!decide (c = b))) s) : wpAny M A (compareOp .IsNot (.ref c) (.ref b)) Q E s := by
  by_cases e : c = b
  · subst e; refine wpAny_isNot_ref_self ?_; simpa using h
  · obtain ⟨o1, h1, c1⟩ := sym_at F X N S
    obtain ⟨o2, h2, c2⟩ := sym_at F X N S'
    exact wpAny_isNot_ref_other e h1 h2 (by rw [c1]; exact fun z => nomatch z) (by simpa [e] using h)
theorem sym_base {rest : List (Addr × Obj)} {b : Addr} {i : Int} {nm : Str} (X : (hd.heap_39 w.params).In h₀) (S : SymIn w rest b i nm) : (∃ o, (b, o) ∈ rest) ∨ ∃ o, h₀.get? b = some o := by
  revert X; k_fill; intro X'
  rcases S with ⟨D, t1, t2, t3, t4, h1, h2⟩ | ⟨rfl, rfl, rfl⟩ | ⟨rfl, rfl, rfl⟩
  · exact .inl ⟨_, h1⟩
  · exact .inr ⟨_, X' 37 ⟨.ref 31, some 36, .plain, #[]⟩ (by k_is)⟩
  · exact .inr ⟨_, X' 40 ⟨.ref 31, some 39, .plain, #[]⟩ (by k_is)⟩
end
section
local macro_rules | `(tactic| k_all) => `(tactic| assumption)
local macro_rules | `(tactic| k_room) => `(tactic| ktr_room)
local macro_rules | `(tactic| walk_at "call builtin:len") => `(tactic| (k_here; (with_reducible show wpAny _ _ (call (Value.builtin "len") [Value.ref _]) _ _ _); k_dflt (refine' kst_len ?k1 ?k2 rfl ?k4 ?_; (case k1 => k_asm); (case k2 => k_mem); (case k4 => ((try simp only [List.size_toArray, List.length_append, List.length_cons, List.length_nil]); omega))); k_whole))
local macro_rules | `(tactic| walk_at "call builtin:list.append") => `(tactic| (k_here; (with_reducible show wpAny _ _ (call (Value.builtin _) [Value.ref _, _]) _ _ _); k_dflt (refine' append_K ?k1 ?k2 ?k3 ?_ ?z; (case k1 => k_asm); (case k2 => k_asm); (case k3 => k_upd); (case z => (rw [sizeLine_eq]; simp only [List.size_toArray]; omega)); k_whole); intro h' F' N'; (try simp only [List.push_toArray] at N'); (try k_sweep)))
local macro_rules | `(tactic| walk_at "no goal 0") => `(tactic| fail)
variable {w : World} {mean : ExcName → Option Value} {mg mb : Str → Option Value} {dp un : Nat} {gd : Option (List Code)} {cn : Str} {cs : Scope} {a : Addr} {ccd : Value} {cl : List (Str × Addr)} {outer : List Env} {A₀ : Around} {base h₀ : Heap} {L : Addr} {m : Str → Option Value} {s : Shared} {Q E : Value → Shared → Prop}
local macro_rules | `(tactic| walk_at "getMethod ref") => `(tactic| (k_here; (with_reducible show wpAny _ _ (getMethod (Value.ref _) (Str.ofString "get") _) _ _ _); k_dflt (refine kdg_method (knd := PySem.strKind _ _) (by k_asm) (by k_mem) (by k_asm) ?_)))
local macro_rules | `(tactic| walk_at "call builtin:dict.get") => `(tactic| (k_here; (with_reducible show wpAny _ _ (call (Value.builtin _) [Value.ref _, Value.str _ _, _]) _ _ _); k_dflt (refine kdg_get2 (knd := PySem.strKind _ _) (by k_asm) (by k_mem) (by k_asm) (by k_asm) (strKind_is _ _ _ _) _ (by assumption) ?_); (try dsimp only [Option.getD])))
local macro_rules | `(tactic| walk_at "getAttr ref") => `(tactic| (k_here; (with_reducible show wpAny _ _ (getAttr (Value.ref _) (Str.ofString "name") _) _ _ _); k_dflt (refine' sym_name ?F ?X ?N ?S ?_; (case F => k_asm); (case X => k_asm); (case N => k_asm); (case S => k_asm)); intro t' tk'))
local macro_rules | `(tactic| walk_at "compareOp Is ref ref") => `(tactic| (k_here; k_dflt (refine' sym_is ?F ?X ?N ?S ?S' ?_; (case F => k_asm); (case X => k_asm); (case N => k_asm); (case S => assumption); (case S' => assumption))))
set_option maxRecDepth 100000 in
set_option maxHeartbeats 4000000 in
theorem isint_none {tb td ra na b : Addr} {t1 t2 : Tok} {i : Int} {nm : Str} {oN : Obj} {kvs : List (Str × Value)} {news : List (Addr × Obj)}
    (B : Below A₀ base outer h₀) (F : Fr h₀ L s.heap m) (X : (hd.heap_39 w.params).In h₀) (N : News h₀ L s.heap news)
    (T : Top hd.view_39 (looseW hd.view_39 [Str.ofString "NIL", Str.ofString "T"]) mean mg mb h₀) (hk : cs.kind = .function) (hdp : dp + 10 < recursionLimit)
    (h1 : (tb, instObj 112 td) ∈ news) (h2 : (td, tabD w t1 t2 ra na) ∈ news) (h3 : (na, oN) ∈ news) (hN : oN.IsDictOf (SK w) kvs) (lo : (na == sysModules) = false) (S : SymIn w news b i nm) (hv : valueAt kvs nm = none)
    (hret : ∀ h' tk', Fr h₀ L h' m → News h₀ L h' news → Q (.bool false) { s with heap := h', toks := tk' }) :
    wpAny (model PySem.Challenge.rw_ok0040_01.row.prog w) (ktrTop dp un gd cn cs L a ccd cl outer) (call (.ref 90) [.ref tb, .ref b]) Q E s := by
  w_top off
  revert X; k_fill; intro X
  have hMk : KstMark := kstMark
  refine wpAny_call ?_
  k_dflt ktr_enter
  k_steps
  all_goals exact hret _ _ (by assumption) (by assumption)
set_option maxRecDepth 100000 in
set_option maxHeartbeats 4000000 in
theorem isint_some {tb td ra na b c : Addr} {t1 t2 : Tok} {i : Int} {nm : Str} {oN : Obj} {kvs : List (Str × Value)} {news : List (Addr × Obj)}
    (B : Below A₀ base outer h₀) (F : Fr h₀ L s.heap m) (X : (hd.heap_39 w.params).In h₀) (N : News h₀ L s.heap news)
    (T : Top hd.view_39 (looseW hd.view_39 [Str.ofString "NIL", Str.ofString "T"]) mean mg mb h₀) (hk : cs.kind = .function) (hdp : dp + 10 < recursionLimit)
    (h1 : (tb, instObj 112 td) ∈ news) (h2 : (td, tabD w t1 t2 ra na) ∈ news) (h3 : (na, oN) ∈ news) (hN : oN.IsDictOf (SK w) kvs) (lo : (na == sysModules) = false) (S : SymIn w news b i nm) {j : Int} {nm' : Str} (S' : SymIn w news c j nm') (hv : valueAt kvs nm = some (.ref c))
    (hret : ∀ h' tk', Fr h₀ L h' m → News h₀ L h' news → Q (.bool (decide (c = b))) { s with heap := h', toks := tk' }) :
    wpAny (model PySem.Challenge.rw_ok0040_01.row.prog w) (ktrTop dp un gd cn cs L a ccd cl outer) (call (.ref 90) [.ref tb, .ref b]) Q E s := by
  w_top off
  revert X; k_fill; intro X
  have hMk : KstMark := kstMark
  refine wpAny_call ?_
  k_dflt ktr_enter
  k_steps
  all_goals exact hret _ _ (by assumption) (by assumption)
end
section
local macro_rules | `(tactic| k_all) => `(tactic| assumption)
local macro_rules | `(tactic| k_room) => `(tactic| ktr_room)
local macro_rules | `(tactic| walk_at "call builtin:len") => `(tactic| (k_here; (with_reducible show wpAny _ _ (call (Value.builtin "len") [Value.ref _]) _ _ _); k_dflt (refine' kst_len ?k1 ?k2 rfl ?k4 ?_; (case k1 => k_asm); (case k2 => k_mem); (case k4 => ((try simp only [List.size_toArray, List.length_append, List.length_cons, List.length_nil]); omega))); k_whole))
local macro_rules | `(tactic| walk_at "call builtin:list.append") => `(tactic| (k_here; (with_reducible show wpAny _ _ (call (Value.builtin _) [Value.ref _, _]) _ _ _); k_dflt (refine' append_K ?k1 ?k2 ?k3 ?_ ?z; (case k1 => k_asm); (case k2 => k_asm); (case k3 => k_upd); (case z => (rw [sizeLine_eq]; simp only [List.size_toArray]; omega)); k_whole); intro h' F' N'; (try simp only [List.push_toArray] at N'); (try k_sweep)))
local macro_rules | `(tactic| walk_at "no goal 0") => `(tactic| fail)
variable {w : World} {mean : ExcName → Option Value} {mg mb : Str → Option Value} {dp un : Nat} {gd : Option (List Code)} {cn : Str} {cs : Scope} {a : Addr} {ccd : Value} {cl : List (Str × Addr)} {outer : List Env} {A₀ : Around} {base h₀ : Heap} {L : Addr} {m : Str → Option Value} {s : Shared} {Q E : Value → Shared → Prop}
theorem rising_pw : ∀ (l : List Str) (p : Str), risingS p l = true → (∀ x ∈ l, p.cps.toList ≤ x.cps.toList) ∧ l.Pairwise (fun a b => a.cps.toList ≤ b.cps.toList)
  | [], _, _ => ⟨fun _ h => (nomatch h), .nil⟩
  | x :: r, p, h => by
    have h' : (!PySem.Spec.ltCps x.cps.toList p.cps.toList && risingS x r) = true := h
    rw [Bool.and_eq_true] at h'
    obtain ⟨h1, h2⟩ := rising_pw r x h'.2
    have h3 : p.cps.toList ≤ x.cps.toList := by
      have z := h'.1
      rw [ltCps_eq] at z
      simp only [Bool.not_eq_true', decide_eq_false_iff_not] at z
      exact List.not_lt.mp z
    refine ⟨fun y hy => ?_, List.pairwise_cons.mpr ⟨h1, h2⟩⟩
    rcases List.mem_cons.mp hy with rfl | hy
    · exact h3
    · exact List.le_trans h3 (h1 y hy)
theorem sortedS_pw : ∀ (l : List Str), sortedS l = true → l.Pairwise (fun a b => a.cps.toList ≤ b.cps.toList)
  | [], _ => .nil
  | x :: r, h => by
    obtain ⟨h1, h2⟩ := rising_pw r x h
    exact List.pairwise_cons.mpr ⟨h1, h2⟩
theorem sorted_uniq {a b : List Str} (hp : a.Perm b) (ha : sortedS a = true) (hb : sortedS b = true) : a = b :=
  List.Perm.eq_of_pairwise (le := fun a b : Str => a.cps.toList ≤ b.cps.toList) (fun x y _ _ h1 h2 => Str.ext' (Array.toList_inj.mp (List.le_antisymm h1 h2))) (sortedS_pw a ha) (sortedS_pw b hb) hp
theorem strs_of_keys {w : World} {prog : Program} : ∀ {kvs : List (Str × Value)} {vs : List Value}, vs.length = kvs.length → (∀ (j : Nat) (v : Value), vs[j]? = some v → ∃ k x, kvs[j]? = some (k, x) ∧ (PySem.strKind prog w).is k v = true) → StrsAre vs (kvs.map (·.1))
  | [], [], _, _ => .nil
  | (k, x) :: r, v :: vs, hl, h => by
    obtain ⟨k', x', e, hk⟩ := h 0 v rfl
    simp only [List.getElem?_cons_zero, Option.some.injEq, Prod.mk.injEq] at e
    obtain ⟨rfl, rfl⟩ := e
    obtain ⟨t, rfl⟩ := Value.isStrOf_shape hk
    exact .cons _ t (strs_of_keys (by simpa using hl) fun j u hu => by simpa using h (j + 1) u (by simpa using hu))
  | [], _ :: _, hl, _ => by simp at hl
  | _ :: _, [], hl, _ => by simp at hl
theorem my_sorted {prog : Program} {A : Around} {news : List (Addr × Obj)} {d : Addr} {o : Obj} {kvs : List (Str × Value)} (hh : A.handled = none) (F : Fr h₀ L s.heap m) (N : News h₀ L s.heap news) (hp : (d, o) ∈ news) (hN : o.IsDictOf (PySem.strKind prog w) kvs) (lo : (d == sysModules) = false) (hn : kvs.length < 64)
    (h : ∀ (D : Addr) c h' tk vs ss, Fr h₀ L h' m → News h₀ L h' ((D, W.listOf (List.toArray vs) c) :: news) → (∀ q ∈ news, q.1 < D) → StrsAre vs ss → ss.Perm (kvs.map (·.1)) → sortedS ss = true → Q (.ref D) { s with heap := h', toks := tk }) :
    wpAny (model prog w) A (call (.builtin "sorted") [.ref d]) Q E s := by
  have hD := kda_dict N hp hN
  obtain ⟨ep, hat⟩ := hD.dictAt
  refine kdu_sorted (kdl_dict (knd := PySem.strKind prog w) (kvs := kvs) (ep := ep) lo) hh F N hat (by rw [sizeLine_eq]; omega) fun D h' tk vs F' N' l1 hl hv => ?_
  have hS := strs_of_keys hl hv
  have hz := N' _ (List.mem_cons_self ..)
  have ho : h'.get? D = some (seqObj "list" vs.toArray 0) := hz.1
  refine wpAny_call_entry PyProof.Rows.slot_list_sort ⟨_, ho, rfl⟩ PyProof.Rows.entry_list_sort (list_sort_treeK strKind_oneLt ho hS.keysOf (fun v₁ v₂ rest e => keyKind_strs (by rw [← e]; exact hS)) (by rw [hl]; exact hn) fun st' hp' hs' => ⟨.none, rfl, ?_⟩) (PyProof.Rows.args_list_sort _)
  obtain ⟨ss', a1, a2, a3⟩ := sorted_out_str hS hp' hs'
  obtain ⟨e, he⟩ := sortedHeap_at (vs := vs) (out := (arrOf st').map (·.2)) ho
  have keep : ∀ b o, b ≠ D → h'.get? b = some o → (sortedHeap h' D vs ((arrOf st').map (·.2))).get? b = some o := fun b o hb e => (sortedHeap_old hb (Heap.lt_size e)).trans e
  refine h D e _ _ ((arrOf st').map (·.2)).toList ss' ⟨F'.ns.at' fun o e => keep _ _ (Ne.symm hz.2.1) e, fun b o e => keep b o (fun q => by rw [q, hz.2.2] at e; cases e) (F'.keep b o e), F'.above⟩ (fun p hp => ?_) l1 a1 a2 a3
  rcases List.mem_cons.mp hp with rfl | hp
  · refine ⟨?_, hz.2⟩
    rw [Array.toArray_toList]
    exact he
  · exact ⟨keep _ _ (Nat.ne_of_lt (l1 p hp)) (N' p (List.mem_cons_of_mem _ hp)).1, (N' p (List.mem_cons_of_mem _ hp)).2⟩

local macro_rules | `(tactic| walk_at "call builtin:sorted") => `(tactic| (k_here; (with_reducible show wpAny _ _ (call (Value.builtin _) [Value.ref _]) _ _ _); k_dflt (refine my_sorted (by rfl) (by k_asm) (by k_asm) (by k_mem) (by k_asm) (by k_asm) (by omega) ?_); intro D' c' h' tk' vs' ss' F' N' l1 hS' hP' hZ'))
set_option maxRecDepth 100000 in
set_option maxHeartbeats 4000000 in
theorem names_ok {tb td ra na : Addr} {t1 t2 : Tok} {oN : Obj} {kvs : List (Str × Value)} {news : List (Addr × Obj)}
    (B : Below A₀ base outer h₀) (F : Fr h₀ L s.heap m) (X : (hd.heap_39 w.params).In h₀) (N : News h₀ L s.heap news)
    (T : Top hd.view_39 (looseW hd.view_39 [Str.ofString "NIL", Str.ofString "T"]) mean mg mb h₀) (hk : cs.kind = .function) (hdp : dp + 10 < recursionLimit)
    (h1 : (tb, instObj 112 td) ∈ news) (h2 : (td, tabD w t1 t2 ra na) ∈ news) (h3 : (na, oN) ∈ news) (hN : oN.IsDictOf (SK w) kvs) (lo : (na == sysModules) = false) (hn : kvs.length < 64)
    (hret : ∀ (D : Addr) c h' tk vs ss, Fr h₀ L h' m → News h₀ L h' ((D, W.listOf (List.toArray vs) c) :: news) → (∀ q ∈ news, q.1 < D) → StrsAre vs ss → ss.Perm (kvs.map (·.1)) → sortedS ss = true → Q (.ref D) { s with heap := h', toks := tk }) :
    wpAny (model PySem.Challenge.rw_ok0040_01.row.prog w) (ktrTop dp un gd cn cs L a ccd cl outer) (call (.ref 102) [.ref tb]) Q E s := by
  w_top off
  revert X; k_fill; intro X
  have hMk : KstMark := kstMark
  refine wpAny_call ?_
  k_dflt ktr_enter
  k_steps
  all_goals exact hret _ _ _ _ _ _ (by assumption) (by assumption) (by assumption) (by assumption) (by assumption) (by assumption)
end
section
local macro_rules | `(tactic| k_all) => `(tactic| assumption)
local macro_rules | `(tactic| k_room) => `(tactic| ktr_room)
local macro_rules | `(tactic| walk_at "call builtin:len") => `(tactic| (k_here; (with_reducible show wpAny _ _ (call (Value.builtin "len") [Value.ref _]) _ _ _); k_dflt (refine' kst_len ?k1 ?k2 rfl ?k4 ?_; (case k1 => k_asm); (case k2 => k_mem); (case k4 => ((try simp only [List.size_toArray, List.length_append, List.length_cons, List.length_nil]); omega))); k_whole))
local macro_rules | `(tactic| walk_at "call builtin:list.append") => `(tactic| (k_here; (with_reducible show wpAny _ _ (call (Value.builtin _) [Value.ref _, _]) _ _ _); k_dflt (refine' append_K ?k1 ?k2 ?k3 ?_ ?z; (case k1 => k_asm); (case k2 => k_asm); (case k3 => k_upd); (case z => (rw [sizeLine_eq]; simp only [List.size_toArray]; omega)); k_whole); intro h' F' N'; (try simp only [List.push_toArray] at N'); (try k_sweep)))
variable {w : World} {mean : ExcName → Option Value} {mg mb : Str → Option Value} {dp un : Nat} {gd : Option (List Code)} {cn : Str} {cs : Scope} {a : Addr} {ccd : Value} {cl : List (Str × Addr)} {outer : List Env} {A₀ : Around} {base h₀ : Heap} {L : Addr} {m : Str → Option Value} {s : Shared} {Q E : Value → Shared → Prop}
set_option maxRecDepth 100000
abbrev tupO (k : Str) (t : Tok) (v : Value) : Obj := { cls := .type "tuple", data := .seq #[.str k t, v] }
theorem entry_dul : entryFor table "dict.update.loop" = some Builtin.«dict.update.loop» := entryFor_of_tree (by kernel_rfl)
theorem plain_dul : plainId "dict.update.loop" = true := by decide +kernel
theorem keys_miss : typeLookup (.type "list") (Str.ofString "keys") = pure none := am_miss_of_fast (by kernel_rfl)
open Sem (wp) in
theorem getAttr_keys {prog : Program} {A : Around} {E : Value → Shared → Prop} {s : Shared} {l : Addr} {o : Obj} {xs : Array Value} {k : Nat} {Q : Option Value → Shared → Prop}
    (hx : s.heap.get? l = some o) (hc : o.cls = .type "list") (hdat : o.data = .seq xs k) (hd : o.dict = none) (hA : A.handled = none)
    (h : ∀ h' tk, (∀ b o, s.heap.get? b = some o → h'.get? b = some o) → Q none { s with heap := h', toks := tk }) :
    wpAny (model prog w) A (getAttr? (.ref l) (Str.ofString "keys")) Q E s := by
  obtain ⟨c, dct, dat, sl⟩ := o
  simp only at hc hdat hd
  subst hc hdat hd
  obtain ⟨hp, g, d, tk, os⟩ := s
  have hT : ∀ tk', (⟨hp, g, d, tk', os⟩ : Shared).TypeIs (.ref l) "list" := fun _ => ⟨_, hx, rfl⟩
  have f1 := sub_AttributeError
  have f3 := PySem.F.slot_list_getattribute.lookup
  have f4 := PySem.F.slot_list_getattribute.bind (.ref l)
  have f5 := am_list_getattr_none
  unfold getAttr? getAttrBy? getAttrBy
  repeat (any_goals (first | assumption | exact hT _ | ((with_reducible show wpAny _ _ (call (Value.builtin "list.__getattribute__") _ _) _ _ _); refine call_meets PySem.F.slot_list_getattribute (hT _) am_entry_list_getattribute (PySem.F.args_list_getattribute_2 _ _) (meets_getattribute_miss_list l xs k sl (Str.ofString "keys") _ keys_miss (by decide +kernel)) ⟨hx, hA, fun h' tk' e hx' => ?_⟩) | wp_step))
  obtain ⟨t', u', he⟩ := hx'.there
  show wpAny _ _ (getattributeRaised _ _ _ _ _ _ _) _ _ _
  unfold getattributeRaised
  repeat (any_goals (first | assumption | wp_step))
  exact h _ _ hx'.keeps

theorem dp_loop {prog : Program} {A : Around} {R : Result → Shared → Prop} {d l I : Addr} {ys : List Value} {all : List (Str × Value)} {h0 : Heap} (hh : A.handled = none)
    (hT : ∀ (j : Nat) (k : Str) (v : Value), all[j]? = some (k, v) → ∃ T t o n, ys[j]? = some (.ref T) ∧ h0.get? T = some o ∧ o.cls = .type "tuple" ∧ o.data = .seq #[.str k t, v] n)
    (hl0 : h0.IsList l ys.toArray) (hlen : ys.length = all.length) (hz : all.length ≤ sizeLine) (hdn : h0.get? d = none) (hIn : h0.get? I = none) (hdI : d ≠ I) :
    ∀ (n i : Nat) (s : Shared), all.length - i = n → i ≤ all.length → (∀ b o, h0.get? b = some o → s.heap.get? b = some o) → s.heap.IsListIter I l i → s.heap.DictOf (PySem.strKind prog w) d (merged [] (all.take i)) →
      (∀ h' tk, (∀ b o, h0.get? b = some o → h'.get? b = some o) → h'.DictOf (PySem.strKind prog w) d (merged [] all) → R (.ok (.ret .none)) { s with heap := h', toks := tk }) →
      codeAny (model prog w) A (.builtin "dict.update.loop" ⟨[.ref d, .ref I, .int (i : Int) 0, .none], []⟩) R s := by
  have hlist : ∀ h' : Heap, (∀ b o, h0.get? b = some o → h'.get? b = some o) → h'.IsList l ys.toArray := fun h' hk => let ⟨o, ho, r⟩ := hl0; ⟨o, hk _ _ ho, r⟩
  intro n
  induction n with
  | zero =>
    intro i s hn hi hk hit hD hR
    have e : i = all.length := by omega
    subst e
    refine codeAny_builtin entry_dul ?_
    rw [Around.under_plainId plain_dul _]
    show wpAny _ A.in1 (pyNext (.ref I) >>= _) _ _ s
    refine wpAny_bind (wpAny_pyNext_list_end hh hit (hlist _ hk) (by simp [hlen]) fun h' hs' => ?_)
    show wpAny _ A.in1 (Builtin.Dict.addKeywords d [] >>= _) _ _ _
    refine wpAny_bind (wpAny_pure ?_)
    refine wpAny_pure ?_
    refine hR h' _ (fun b o e => hs' b o (fun q => by rw [q, hIn] at e; cases e) (hk b o e)) ?_
    have := hD.extBut hs' hdI
    rwa [List.take_length] at this
  | succ n ih =>
    intro i s hn hi hk hit hD hR
    have hlt : i < all.length := by omega
    obtain ⟨⟨k, v⟩, hkv⟩ : ∃ p, all[i] = p := ⟨_, rfl⟩
    have hx : all[i]? = some (k, v) := by rw [List.getElem?_eq_getElem hlt, hkv]
    obtain ⟨T, t, o, nn, hy, hTo, hTc, hTd⟩ := hT i k v hx
    refine codeAny_builtin entry_dul ?_
    rw [Around.under_plainId plain_dul _]
    show wpAny _ A.in1 (pyNext (.ref I) >>= _) _ _ s
    refine wpAny_bind (wpAny_pyNext_list_item hit (hlist _ hk) (x := .ref T) (by simpa using hy) fun h' hit' hs' => ?_)
    have hk' : ∀ b o, h0.get? b = some o → h'.get? b = some o := fun b o e => hs'.extBut b o (fun q => by rw [q, hIn] at e; cases e) (hk b o e)
    have hTT : Shared.TypeIs { s with heap := h' } (.ref T) "tuple" := ⟨_, hk' _ _ hTo, hTc⟩
    show wpAny _ A.in1 (holding [Value.ref T] _ >>= _) _ _ _
    refine wpAny_bind (wpAny_holding ?_)
    refine wpAny_bind (wpAny_tryCatch ?_)
    unfold Builtin.Dict.pairItems
    refine wpAny_bind (wpAny_typeOf hTT ?_)
    rw [if_pos (by decide)]
    refine wpAny_bind (wpAny_seqItems (hk' _ _ hTo) hTd ?_)
    refine wpAny_pure ?_
    show wpAny _ A.in1 (holding [Value.str k t, v] (dictSet d (Value.str k t) v)) _ _ _
    refine wpAny_holding ?_
    refine wpAny_dictSet_pairs (strKind_is _ _ _ _) (hD.extBut hs'.extBut hdI) (fun h'' hD'' hs'' => ?_) (Nat.le_trans (merged_length_le _ _) (by simp; omega))
    refine wpAny_pure ⟨plainId_quiet plain_dul _, ?_⟩
    have hk'' : ∀ b o, h0.get? b = some o → h''.get? b = some o := fun b o e => hs''.extBut b o (fun q => by rw [q, hdn] at e; cases e) (hk' b o e)
    have hit'' : h''.IsListIter I l (i + 1) := let ⟨oi, hoi, r⟩ := hit'; ⟨oi, hs''.extBut I oi (Ne.symm hdI) hoi, r⟩
    have := ih (i + 1) { s with heap := h'', toks := s.toks + 1 } (by omega) (by omega) hk'' hit'' (by rw [merged_take_succ [] all i (k, v) hx]; exact hD'') (fun h3 tk h4 h5 => hR h3 tk h4 h5)
    simpa [rawInt] using this
theorem my_dict_pairs {prog : Program} {A : Around} {news : List (Addr × Obj)} {l : Addr} {ys : List Value} {c : Nat} {kvs : List (Str × Value)} (hh : A.handled = none) (F : Fr h₀ L s.heap m) (N : News h₀ L s.heap news) (hbig : sysModules < h₀.objs.size) (hl : (l, W.listOf ys.toArray c) ∈ news)
    (hlen : ys.length = kvs.length) (hT : ∀ (j : Nat) (k : Str) (v : Value), kvs[j]? = some (k, v) → ∃ T t, ys[j]? = some (.ref T) ∧ (T, tupO k t v) ∈ news) (hnd : (kvs.map (·.1)).Nodup) (hz : kvs.length ≤ 1000)
    (h : ∀ (D : Addr) oD h' tk, Fr h₀ L h' m → News h₀ L h' ((D, oD) :: news) → (∀ q ∈ news, q.1 < D) → oD.IsDictOf (PySem.strKind prog w) kvs → (D == sysModules) = false → Q (.ref D) { s with heap := h', toks := tk }) :
    wpAny (model prog w) A (call (.type "dict") [.ref l]) Q E s := by
  refine callType_codes (Q₁ := fun obj s₁ => obj = .ref s.heap.objs.size ∧ s₁ = { s with heap := s.heap.push { cls := .type "dict", data := .dict #[] } }) PySem.F.kt_called_dict (PySem.F.kt_typeCall_dict_1 _) PySem.F.entry_dict_init (kt_code_dict_new _ ⟨rfl, rfl⟩) ?_
  rintro obj s₁ ⟨rfl, rfl⟩
  have hnew : (s.heap.push { cls := .type "dict", data := .dict #[] }).DictOf (PySem.strKind prog w) s.heap.objs.size [] := Heap.DictOf.new s.heap
  have up : ∀ b o, s.heap.get? b = some o → (s.heap.push { cls := .type "dict", data := .dict #[] }).get? b = some o := fun b o e => Heap.get?_push_of_some _ e
  have hlo := (N _ hl).1
  refine ⟨hnew.typeIs, PySem.F.args_dict_init_2 _ _, ?_⟩
  unfold Builtin.«dict.__init__»
  refine wpAny_bind ?_
  unfold Builtin.Dict.selfAndRest
  refine wpAny_bind (wpAny_notOrdered_dict hnew.typeIs ?_)
  show wpAny _ _ (pure (s.heap.objs.size, [Value.ref l])) _ _ _
  refine wpAny_pure ?_
  show wpAny _ _ (Builtin.Dict.updateFrom "dict.__init__" s.heap.objs.size (.ref l) [] .none) _ _ _
  unfold Builtin.Dict.updateFrom
  have hTl : Shared.TypeIs { s with heap := s.heap.push { cls := .type "dict", data := .dict #[] } } (.ref l) "list" := ⟨_, up _ _ hlo, rfl⟩
  refine wpAny_bind (wpAny_typeOf hTl ?_)
  rw [if_pos (by decide)]
  refine wpAny_bind (getAttr_keys (up _ _ hlo) rfl rfl rfl hh fun h1 tk1 hk1 => ?_)
  rw [if_pos (by rfl)]
  refine wpAny_bind (wpAny_rule ?_)
  have hl1 : h1.IsList l ys.toArray := ⟨_, hk1 _ _ (up _ _ hlo), rfl, _, rfl⟩
  refine wpAny_bind (wpAny_pyIter_list hl1 ?_)
  have hd1 : h1.get? s.heap.objs.size ≠ none := by
    obtain ⟨o, es, ep, ho, r⟩ := hnew
    rw [hk1 _ _ ho]; exact fun z => nomatch z
  have hlt1 : s.heap.objs.size < h1.objs.size := by
    cases e : h1.get? s.heap.objs.size with
    | none => exact absurd e hd1
    | some o => exact Heap.lt_size e
  have hD1 : h1.DictOf (PySem.strKind prog w) s.heap.objs.size [] := let ⟨o, es, ep, ho, r⟩ := hnew; ⟨o, es, ep, hk1 _ _ ho, r⟩
  refine wpAny_pure ⟨plainId_quiet plain_dul _, ?_⟩
  have fresh : ∀ x, s.heap.objs.size ≤ x → s.heap.get? x = none := fun x hx => by
    cases e : s.heap.get? x with
    | none => rfl
    | some o' => exact absurd (Heap.lt_size e) (Nat.not_lt.mpr hx)
  refine dp_loop (h0 := s.heap) (l := l) (ys := ys) (all := kvs) (A := A.in1) hh (fun j k v e => ?_) ⟨_, hlo, rfl, _, rfl⟩ hlen (by rw [sizeLine_eq]; omega) (fresh _ (Nat.le_refl _)) (fresh _ (Nat.le_of_lt hlt1)) (Nat.ne_of_lt hlt1) _ 0 _ rfl (Nat.zero_le _)
    (fun b o e => Heap.get?_push_of_some _ (hk1 b o (up b o e))) ⟨_, Heap.get?_push_size _ rfl, rfl, rfl⟩ (by simpa [merged] using hD1.push _) (fun h' tk hk' hD' => ?_)
  · obtain ⟨T, t, e1, e2⟩ := hT j k v e
    exact ⟨T, t, _, _, e1, (N _ e2).1, rfl, rfl⟩
  · rw [merged_nil_of_nodup kvs hnd] at hD'
    obtain ⟨o', ho', hd'⟩ := Heap.dictOf_iff.mp hD'
    have lo : (s.heap.objs.size == sysModules) = false := F.notModules hbig
    refine ⟨rfl, h _ o' h' tk (F.keeps hk') (fun p hp => ?_) (fun q hq => Heap.lt_size (N q hq).1) hd' lo⟩
    rcases List.mem_cons.mp hp with rfl | hp
    · exact ⟨ho', Nat.ne_of_gt F.ns.lt, by
        cases e : h₀.get? s.heap.objs.size with
        | none => rfl
        | some o => exact absurd (Heap.lt_size (F.keep _ _ e)) (Nat.lt_irrefl _)⟩
    · exact ⟨hk' _ _ (N p hp).1, (N p hp).2⟩
end
section
local macro_rules | `(tactic| k_all) => `(tactic| assumption)
local macro_rules | `(tactic| k_room) => `(tactic| ktr_room)
local macro_rules | `(tactic| walk_at "call builtin:len") => `(tactic| (k_here; (with_reducible show wpAny _ _ (call (Value.builtin "len") [Value.ref _]) _ _ _); k_dflt (refine' kst_len ?k1 ?k2 rfl ?k4 ?_; (case k1 => k_asm); (case k2 => k_mem); (case k4 => ((try simp only [List.size_toArray, List.length_append, List.length_cons, List.length_nil]); omega))); k_whole))
local macro_rules | `(tactic| walk_at "call builtin:list.append") => `(tactic| (k_here; (with_reducible show wpAny _ _ (call (Value.builtin _) [Value.ref _, _]) _ _ _); k_dflt (refine' append_K ?k1 ?k2 ?k3 ?_ ?z; (case k1 => k_asm); (case k2 => k_asm); (case k3 => k_upd); (case z => (rw [sizeLine_eq]; simp only [List.size_toArray]; omega)); k_whole); intro h' F' N'; (try simp only [List.push_toArray] at N'); (try k_sweep)))
variable {w : World} {mean : ExcName → Option Value} {mg mb : Str → Option Value} {dp un : Nat} {gd : Option (List Code)} {cn : Str} {cs : Scope} {a : Addr} {ccd : Value} {cl : List (Str × Addr)} {outer : List Env} {A₀ : Around} {base h₀ : Heap} {L : Addr} {m : Str → Option Value} {s : Shared} {Q E : Value → Shared → Prop}
section
open PyProof.Rows.LCg
theorem compEnd_mono {h₀ : Heap} {L : Addr} {m : Str → Option Value} {s₁ s₂ : Shared} {I : Addr} {oI : Obj} {C : Addr} {oC : Obj} {D : Addr} {oD : Obj} {S : List (Addr × Obj) → Prop} {r r' : Value → List (Addr × Obj) → Prop} {y : Value} (h : CompEnd h₀ L m s₁ I oI C oC D oD S r y s₂) (hr : ∀ y n, r y n → r' y n) :
    CompEnd h₀ L m s₁ I oI C oC D oD S r' y s₂ := let ⟨h', tk, n, e, F, N, o, hS, x⟩ := h; ⟨h', tk, n, e, F, N, o, hS, hr _ _ x⟩
theorem kct_ind {prog : Program} {A : Around} {env : Env} {c elt : PySem.Expr} {x y : Str} {scope : Scope} {S : List (Addr × Obj) → Prop} {Fin : List Value → List (Addr × Obj) → Prop} (R : List ((Tok → Value) × Value) → List Value → List (Addr × Obj) → Prop)
    (step : ∀ p r ys news, R (p :: r) ys news → ∀ (t : Tok) I oI C oC D m₂ h tk (E' : Value → Shared → Prop), NsObj oC m₂ → m₂ x = some (p.1 t) → m₂ y = some p.2 → Fr h₀ L h m → News h₀ L h ((I, oI) :: (C, oC) :: (D, lst ys) :: news) → Off3 I C D news → ((@Ne Nat I C) ∧ (@Ne Nat I D) ∧ (@Ne Nat C D)) →
      wpAny (model prog w) A (isTrue c (compEnvC scope cl C env) (eval c (compEnvC scope cl C env))) (fun okb s₃ => if okb = true then
        wpAny (model prog w) A (eval elt (compEnvC scope cl C env)) (CompEnd h₀ L m { s with heap := h, toks := tk } I oI C oC D (lst ys) S (fun y news' => R r (ys ++ [y]) news')) E' s₃
        else CompEnd h₀ L m { s with heap := h, toks := tk } I oI C oC D (lst ys) S (fun _ news' => R r ys news') .none s₃) E' { s with heap := h, toks := tk })
    (fin : ∀ ys news, R [] ys news → Fin ys news) : ∀ xs ys news, R xs ys news → KctRest prog w A h₀ L m env c elt x y scope cl s S Fin xs ys news
  | [], ys, news, h => KctRest.nil (fin ys news h)
  | p :: r, ys, news, h => KctRest.cons fun t I oI C oC D m₂ hp tk E' h1 h2 h3 h4 h5 h6 h7 =>
    wpAny_mono (step p r ys news h t I oI C oC D m₂ hp tk E' h1 h2 h3 h4 h5 h6 h7) (fun okb s₃ hs => by
      cases okb with
      | true => exact wpAny_mono (by simpa using hs) (fun _ _ z => compEnd_mono z fun _ _ z => kct_ind R step fin _ _ _ z) fun _ _ e => e
      | false => exact compEnd_mono (by simpa using hs) fun _ _ z => kct_ind R step fin _ _ _ z) fun _ _ e => e
theorem cr_ind {prog : Program} {A : Around} {env : Env} {ct elt : PySem.Expr} {x : Str} {scope : Scope} {S : List (Addr × Obj) → Prop} {P : Nat → Value → Prop} {Fin : List Value → List (Addr × Obj) → Prop} (R : Nat → Nat → List Value → List (Addr × Obj) → Prop)
    (step : ∀ k i ys news, R (k + 1) i ys news → ∀ v I oI C oC D m₂ h tk (E' : Value → Shared → Prop), P i v → NsObj oC m₂ → m₂ x = some v → Fr h₀ L h m → News h₀ L h ((I, oI) :: (C, oC) :: (D, lst ys) :: news) → Off3 I C D news → ((@Ne Nat I C) ∧ (@Ne Nat I D) ∧ (@Ne Nat C D)) →
      wpAny (model prog w) A (isTrue ct (compEnvC scope cl C env) (eval ct (compEnvC scope cl C env))) (fun okb s₃ => if okb = true then
        wpAny (model prog w) A (eval elt (compEnvC scope cl C env)) (CompEnd h₀ L m { s with heap := h, toks := tk } I oI C oC D (lst ys) S (fun y news' => R k (i + 1) (ys ++ [y]) news')) E' s₃
        else CompEnd h₀ L m { s with heap := h, toks := tk } I oI C oC D (lst ys) S (fun _ news' => R k (i + 1) ys news') .none s₃) E' { s with heap := h, toks := tk })
    (fin : ∀ i ys news, R 0 i ys news → Fin ys news) : ∀ k i ys news, R k i ys news → LCt.CompRestT prog w A h₀ L m env ct elt x scope cl s S P Fin k i ys news
  | 0, i, ys, news, h => LCt.CompRestT.zero (fin i ys news h)
  | k + 1, i, ys, news, h => LCt.CompRestT.succ fun v I oI C oC D m₂ hp tk E' h0 h1 h3 h4 h5 h6 h7 =>
    wpAny_mono (step k i ys news h v I oI C oC D m₂ hp tk E' h0 h1 h3 h4 h5 h6 h7) (fun okb s₃ hs => by
      cases okb with
      | true => exact wpAny_mono (by simpa using hs) (fun _ _ z => compEnd_mono z fun _ _ z => cr_ind R step fin _ _ _ _ z) fun _ _ e => e
      | false => exact compEnd_mono (by simpa using hs) fun _ _ z => cr_ind R step fin _ _ _ _ z) fun _ _ e => e
theorem off3_cons {I C D : Addr} {p : Addr × Obj} {l : List (Addr × Obj)} (h : Off3 I C D l) (h1 : @LT.lt Nat _ I p.1) (h2 : @LT.lt Nat _ C p.1) (h3 : @LT.lt Nat _ D p.1) : Off3 I C D (p :: l) :=
  Off3.of fun q hq => by
    rcases List.mem_cons.mp hq with rfl | hq
    · exact ⟨Nat.ne_of_gt h1, Nat.ne_of_gt h2, Nat.ne_of_gt h3⟩
    · exact h.mem q hq
theorem news_rot3 {h₀ h : Heap} {L : Addr} {a b c d : Addr × Obj} {l : List (Addr × Obj)} (N : News h₀ L h (a :: b :: c :: d :: l)) : News h₀ L h (b :: c :: d :: a :: l) :=
  news_sub N fun p hp => by
    simp only [List.mem_cons] at hp ⊢
    rcases hp with h | h | h | h | h
    · exact .inr (.inl h)
    · exact .inr (.inr (.inl h))
    · exact .inr (.inr (.inr (.inl h)))
    · exact .inl h
    · exact .inr (.inr (.inr (.inr h)))
theorem my_dict_small {prog : Program} {A : Around} {news small : List (Addr × Obj)} {l : Addr} {ys : List Value} {kvs : List (Str × Value)} (hh : A.handled = none) (F : Fr h₀ L s.heap m) (N : News h₀ L s.heap ((l, lst ys) :: news)) (hbig : sysModules < h₀.objs.size)
    (hlen : ys.length = kvs.length) (hT : ∀ (j : Nat) (k : Str) (v : Value), kvs[j]? = some (k, v) → ∃ T t, ys[j]? = some (.ref T) ∧ (T, tupO k t v) ∈ news) (hnd : (kvs.map (·.1)).Nodup) (hz : kvs.length ≤ 1000) (hsub : ∀ p ∈ small, p ∈ news)
    (h : ∀ (D : Addr) oD h' tk, Fr h₀ L h' m → News h₀ L h' ((D, oD) :: small) → (∀ q ∈ small, q.1 < D) → oD.IsDictOf (PySem.strKind prog w) kvs → (D == sysModules) = false → Q (.ref D) { s with heap := h', toks := tk }) :
    wpAny (model prog w) A (call (.type "dict") [.ref l]) Q E s :=
  my_dict_pairs hh F N hbig (List.mem_cons_self ..) hlen (fun j k v e => let ⟨T, t, a, b⟩ := hT j k v e; ⟨T, t, a, List.mem_cons_of_mem _ b⟩) hnd hz fun D oD h' tk F' N' l1 hd lo =>
    h D oD h' tk F' (news_sub N' fun p hp => by
      rcases List.mem_cons.mp hp with rfl | hp
      · exact List.mem_cons_self ..
      · exact List.mem_cons_of_mem _ (List.mem_cons_of_mem _ (hsub p hp))) (fun q hq => l1 q (List.mem_cons_of_mem _ (hsub q hq))) hd lo
theorem filter_nodup {kvs : List (Str × Value)} (q : Str × Value → Bool) (h : (kvs.map (·.1)).Nodup) : ((kvs.filter q).map (·.1)).Nodup :=
  List.Sublist.nodup (List.Sublist.map _ List.filter_sublist) h
theorem filter_snoc {α : Type} (q : α → Bool) (l : List α) (z : α) : (l ++ [z]).filter q = if q z = true then l.filter q ++ [z] else l.filter q := by
  rw [List.filter_append]; cases h : q z <;> simp [h]
theorem filt_comp {prog : Program} {A : Around} {env : Env} {c elt : PySem.Expr} {x y : Str} {scope : Scope} {S : List (Addr × Obj) → Prop} {Fin : List Value → List (Addr × Obj) → Prop} {news0 : List (Addr × Obj)} {kvs : List (Str × Value)} (q : Str × Value → Bool)
    (turn : ∀ k v ys extra (t : Tok) I oI C oC D m₂ h tk (E' : Value → Shared → Prop), (k, v) ∈ kvs → NsObj oC m₂ → m₂ x = some (.str k t) → m₂ y = some v → Fr h₀ L h m → News h₀ L h ((I, oI) :: (C, oC) :: (D, lst ys) :: (extra ++ news0)) → Off3 I C D (extra ++ news0) → ((@Ne Nat I C) ∧ (@Ne Nat I D) ∧ (@Ne Nat C D)) →
      wpAny (model prog w) A (isTrue c (compEnvC scope cl C env) (eval c (compEnvC scope cl C env))) (fun okb s₃ => if okb = true then
        wpAny (model prog w) A (eval elt (compEnvC scope cl C env)) (CompEnd h₀ L m { s with heap := h, toks := tk } I oI C oC D (lst ys) S (fun y news' => q (k, v) = true ∧ ∃ T t', y = .ref T ∧ news' = (T, tupO k t' v) :: (extra ++ news0))) E' s₃
        else CompEnd h₀ L m { s with heap := h, toks := tk } I oI C oC D (lst ys) S (fun _ news' => q (k, v) = false ∧ news' = extra ++ news0) .none s₃) E' { s with heap := h, toks := tk })
    (fin : ∀ ys extra, ys.length = (kvs.filter q).length → (∀ (j : Nat) (k : Str) (v : Value), (kvs.filter q)[j]? = some (k, v) → ∃ T t, ys[j]? = some (.ref T) ∧ (T, tupO k t v) ∈ extra ++ news0) → Fin ys (extra ++ news0)) :
    KctRest prog w A h₀ L m env c elt x y scope cl s S Fin (kvs.map fun p => (kyVal (PyData.str p.1), p.2)) [] news0 := by
  refine kct_ind (R := fun xs ys news' => ∃ pre todo extra, kvs = pre ++ todo ∧ xs = todo.map (fun p => (kyVal (PyData.str p.1), p.2)) ∧ news' = extra ++ news0 ∧ ys.length = (pre.filter q).length ∧
    ∀ (j : Nat) (k : Str) (v : Value), (pre.filter q)[j]? = some (k, v) → ∃ T t, ys[j]? = some (.ref T) ∧ (T, tupO k t v) ∈ extra ++ news0) ?_ ?_ _ _ _ ⟨[], kvs, [], rfl, rfl, rfl, rfl, fun j k v e => by simp at e⟩
  · rintro p r ys news ⟨pre, todo, extra, e1, e2, rfl, e3, e4⟩ t I oI C oC D m₂ h tk E' g1 g2 g3 g4 g5 g6 g7
    cases todo with
    | nil => simp at e2
    | cons kv todo =>
      obtain ⟨k, v⟩ := kv
      simp only [List.map_cons, List.cons.injEq] at e2
      obtain ⟨rfl, rfl⟩ := e2
      refine wpAny_mono (turn k v ys extra t I oI C oC D m₂ h tk E' (by rw [e1]; simp) g1 g2 g3 g4 g5 g6 g7) (fun okb s₃ hs => ?_) fun _ _ e => e
      have e1' : kvs = (pre ++ [(k, v)]) ++ todo := by rw [e1]; simp
      cases okb with
      | true =>
        simp only [if_true] at hs ⊢
        refine wpAny_mono hs (fun _ _ z => compEnd_mono z fun y n z => ?_) fun _ _ e => e
        obtain ⟨z1, T, t', rfl, rfl⟩ := z
        refine ⟨pre ++ [(k, v)], todo, (T, tupO k t' v) :: extra, e1', rfl, rfl, by rw [filter_snoc, if_pos z1]; simp [e3], fun j k' v' hj => ?_⟩
        rw [filter_snoc, if_pos z1] at hj
        rcases Nat.lt_or_ge j (pre.filter q).length with hl | hl
        · rw [List.getElem?_append_left hl] at hj
          obtain ⟨T', t'', a1, a2⟩ := e4 j k' v' hj
          exact ⟨T', t'', by rw [List.getElem?_append_left (by omega)]; exact a1, List.mem_cons_of_mem _ a2⟩
        · rw [List.getElem?_append_right hl] at hj
          have hz : j - (pre.filter q).length = 0 := by
            rcases Nat.eq_zero_or_pos (j - (pre.filter q).length) with h0 | h0
            · exact h0
            · rw [List.getElem?_eq_none (by simp; omega)] at hj; cases hj
          rw [hz] at hj
          simp only [List.getElem?_cons_zero, Option.some.injEq, Prod.mk.injEq] at hj
          obtain ⟨rfl, rfl⟩ := hj
          exact ⟨T, t', by rw [List.getElem?_append_right (by omega), e3, hz]; rfl, List.mem_cons_self ..⟩
      | false =>
        simp only [Bool.false_eq_true, if_false] at hs ⊢
        refine compEnd_mono hs fun y n z => ?_
        obtain ⟨z1, rfl⟩ := z
        exact ⟨pre ++ [(k, v)], todo, extra, e1', rfl, rfl, by rw [filter_snoc, if_neg (by simp [z1])]; exact e3, by rw [filter_snoc, if_neg (by simp [z1])]; exact e4⟩
  · rintro ys news ⟨pre, todo, extra, e1, e2, rfl, e3, e4⟩
    cases todo with
    | cons kv todo => simp at e2
    | nil =>
      rw [List.append_nil] at e1
      subst e1
      exact fin ys extra e3 e4
end
end
section
local macro_rules | `(tactic| k_all) => `(tactic| assumption)
local macro_rules | `(tactic| k_room) => `(tactic| ktr_room)
local macro_rules | `(tactic| walk_at "call builtin:len") => `(tactic| (k_here; (with_reducible show wpAny _ _ (call (Value.builtin "len") [Value.ref _]) _ _ _); k_dflt (refine' kst_len ?k1 ?k2 rfl ?k4 ?_; (case k1 => k_asm); (case k2 => k_mem); (case k4 => ((try simp only [List.size_toArray, List.length_append, List.length_cons, List.length_nil]); omega))); k_whole))
local macro_rules | `(tactic| walk_at "call builtin:list.append") => `(tactic| (k_here; (with_reducible show wpAny _ _ (call (Value.builtin _) [Value.ref _, _]) _ _ _); k_dflt (refine' append_K ?k1 ?k2 ?k3 ?_ ?z; (case k1 => k_asm); (case k2 => k_asm); (case k3 => k_upd); (case z => (rw [sizeLine_eq]; simp only [List.size_toArray]; omega)); k_whole); intro h' F' N'; (try simp only [List.push_toArray] at N'); (try k_sweep)))
local macro_rules | `(tactic| walk_at "no goal 0") => `(tactic| fail)
local macro_rules | `(tactic| walk_at "no goal 1") => `(tactic| fail)
variable {w : World} {mean : ExcName → Option Value} {mg mb : Str → Option Value} {dp un : Nat} {gd : Option (List Code)} {cn : Str} {cs : Scope} {a : Addr} {ccd : Value} {cl : List (Str × Addr)} {outer : List Env} {A₀ : Around} {base h₀ : Heap} {L : Addr} {m : Str → Option Value} {s : Shared} {Q E : Value → Shared → Prop}
local macro_rules | `(tactic| ktr_enter) => `(tactic| (refine' code_defC ?k1 ?k2 ?k3 ?k4 ?k5 ?kA ?kF ?kK ?k6 ?k7 ?k8 ?k9 ?kB ?kD ?_ ?c2 ?c3 ?c4; (case kA => exact rfl); (case kF => exact rfl); (case kK => assumption); (case k1 => k_asm); (case k2 => k_asm); (case k3 => k_asm); (case k4 => k_asm); (case k5 => k_asm); (case k6 => k_is); (case k7 => k_is); (case k8 => ktr_room); (case k9 => exact BindsTo.of_eq rfl); (case kB => exact rfl); (case kD => decide +kernel); (case c2 => exact rfl); (case c3 => exact rfl); (case c4 => exact rfl); k_whole; intro g' L' h' tk' cells' FG' F' N' Y' B' X' T' l1; (try k_lt l1); k_cells Y'; (try simp only [List.cons_append, List.nil_append] at N'); (try dsimp only); (try k_fold)))
local macro_rules | `(tactic| walk_at "getMethod ref") => `(tactic| (k_here; (with_reducible show wpAny _ _ (getMethod (Value.ref _) (Str.ofString "items") _) _ _ _); k_dflt (refine kdl_method (knd := PySem.strKind _ _) PySem.F.slot_dict_items PySem.F.type_dict_items (by k_asm) (by k_mem) (by k_asm) ?_)))
local macro_rules | `(tactic| walk_at "compareOp NotIn str ref") => `(tactic| (k_here; k_dflt (refine kdg_notin (knd := PySem.strKind _ _) (by k_asm) (by k_mem) (by k_asm) (by k_asm) (strKind_is _ _ _ _) _ (by assumption) ?_); (try dsimp only [Bool.not_true, Bool.not_false])))
local macro_rules | `(tactic| walk_at "eval ListComp") => `(tactic| (k_here; (rename Fr _ _ _ _ => lF'); k_dflt (refine kct_ListComp (PySem.strKind _ _) lF' (by rfl) (by decide) (by rfl) (by decide) (by rfl) (by rfl) (by first | decide | decide +kernel) ?_)))
local macro_rules | `(tactic| walk_at "call type:dict") => `(tactic| (k_here; (with_reducible show wpAny _ _ (call (Value.type _) [Value.ref _]) _ _ _); k_dflt (refine my_dict_small (by rfl) (by assumption) (by assumption) (modules_low (Top.nolimit (by assumption))) (by assumption) (by assumption) (by assumption) (by assumption) (by assumption) ?_); intro D' oD' h' tk' F' N' l1 hd' lo'; k_lt l1))
theorem sub3_of {D : Addr} {extra l : List (Addr × Obj)} {a b c : Addr × Obj} (_h : LCg.Off1 D (extra ++ a :: b :: c :: l)) : ∀ p ∈ l, p ∈ extra ++ a :: b :: c :: l :=
  fun _ hp => List.mem_append_right extra (List.mem_cons_of_mem _ (List.mem_cons_of_mem _ (List.mem_cons_of_mem _ hp)))
theorem news_pick {h₀ h : Heap} {L : Addr} {a b c d : Addr × Obj} {l : List (Addr × Obj)} (N : News h₀ L h (a :: b :: c :: d :: l)) : News h₀ L h (b :: c :: a :: l) :=
  news_sub N fun p hp => by
    simp only [List.mem_cons] at hp ⊢
    rcases hp with h | h | h | h
    · exact .inr (.inl h)
    · exact .inr (.inr (.inl h))
    · exact .inl h
    · exact .inr (.inr (.inr (.inr h)))
theorem any2_yes {x y nm : Str} (h : ([x, y].any fun z => z == nm) = true) : nm = x ∨ nm = y := by
  simp only [List.any_cons, List.any_nil, Bool.or_false, Bool.or_eq_true, beq_iff_eq] at h
  exact h.elim (fun e => .inl e.symm) fun e => .inr e.symm
theorem any2_no {x y nm : Str} (h : ([x, y].any fun z => z == nm) = false) : ¬ (nm = x ∨ nm = y) := by
  rintro (e | e) <;> subst e <;> simp at h
theorem isDict_nodup {o : Obj} {kvs : List (Str × Value)} (h : o.IsDictOf (SK w) kvs) : (kvs.map (·.1)).Nodup := let ⟨_, _, _, _, _, _, hn⟩ := h; hn
set_option maxRecDepth 100000 in
set_option maxHeartbeats 4000000 in
theorem unint_no {tb td ra na : Addr} {t1 t2 tn : Tok} {nm : Str} {oN : Obj} {kvs : List (Str × Value)} {rest : List (Addr × Obj)}
    (B : Below A₀ base outer h₀) (F : Fr h₀ L s.heap m) (X : (hd.heap_39 w.params).In h₀) (N : News h₀ L s.heap ((td, tabD w t1 t2 ra na) :: (tb, instObj 112 td) :: (na, oN) :: rest))
    (T : Top hd.view_39 (looseW hd.view_39 [Str.ofString "NIL", Str.ofString "T"]) mean mg mb h₀) (hk : cs.kind = .function) (hdp : dp + 10 < recursionLimit)
    (hN : oN.IsDictOf (SK w) kvs) (lo : (na == sysModules) = false) (hv : (valueAt kvs nm).isSome = false)
    (hret : ∀ h' tk', Fr h₀ L h' m → News h₀ L h' ((td, tabD w t1 t2 ra na) :: (tb, instObj 112 td) :: (na, oN) :: rest) → Q (.bool false) { s with heap := h', toks := tk' }) :
    wpAny (model PySem.Challenge.rw_ok0040_01.row.prog w) (ktrTop dp un gd cn cs L a ccd cl outer) (call (.ref 95) [.ref tb, .str nm tn]) Q E s := by
  w_top off
  revert X; k_fill; intro X
  have hMk : KstMark := kstMark
  refine wpAny_call ?_
  k_dflt ktr_enter
  k_steps
  all_goals exact hret _ _ (by assumption) (news_tl (by assumption))
set_option maxRecDepth 100000 in
set_option maxHeartbeats 4000000 in
theorem unint_yes {tb td ra na : Addr} {t1 t2 tn : Tok} {nm : Str} {oN : Obj} {kvs : List (Str × Value)} {rest : List (Addr × Obj)}
    (B : Below A₀ base outer h₀) (F : Fr h₀ L s.heap m) (X : (hd.heap_39 w.params).In h₀) (N : News h₀ L s.heap ((td, tabD w t1 t2 ra na) :: (tb, instObj 112 td) :: (na, oN) :: rest))
    (T : Top hd.view_39 (looseW hd.view_39 [Str.ofString "NIL", Str.ofString "T"]) mean mg mb h₀) (hk : cs.kind = .function) (hdp : dp + 10 < recursionLimit)
    (hN : oN.IsDictOf (SK w) kvs) (lo : (na == sysModules) = false) (hv : (valueAt kvs nm).isSome = true) (hkl : kvs.length ≤ 100)
    (hne1 : @Ne Nat tb td) (hne2 : @Ne Nat na td) (hoff : ∀ p ∈ rest, p.1 ≠ td)
    (hret0 : (nm = Str.ofString "nil" ∨ nm = Str.ofString "t") → ∀ h' tk', Fr h₀ L h' m → News h₀ L h' ((td, tabD w t1 t2 ra na) :: (tb, instObj 112 td) :: (na, oN) :: rest) → Q (.bool false) { s with heap := h', toks := tk' })
    (hret1 : ¬ (nm = Str.ofString "nil" ∨ nm = Str.ofString "t") → ∀ h' tk' na' oN' t1' t2', Fr h₀ L h' m → News h₀ L h' ((td, tabD w t1' t2' ra na') :: (tb, instObj 112 td) :: (na', oN') :: rest) → oN'.IsDictOf (SK w) (kvs.filter fun p => decide (p.1 ≠ nm)) → (na' == sysModules) = false →
      (tb < na' ∧ td < na' ∧ AllLt na' rest) → Q (.bool true) { s with heap := h', toks := tk' }) :
    wpAny (model PySem.Challenge.rw_ok0040_01.row.prog w) (ktrTop dp un gd cn cs L a ccd cl outer) (call (.ref 95) [.ref tb, .str nm tn]) Q E s := by
  w_top off
  revert X; k_fill; intro X
  have hMk : KstMark := kstMark
  refine wpAny_call ?_
  k_dflt ktr_enter
  k_steps
  case _ => exact hret0 (any2_yes (by assumption)) _ _ (by assumption) (news_tl (news_tl (by assumption)))
  rename Fr _ _ _ _ => F'
  rename News _ _ _ _ => N'
  refine KctSrc.intro (enc := PyData.str) (by rfl) F' N' ⟨_, (N' _ (List.mem_cons_self ..)).1, rfl, rfl⟩ (by k_mem) hN (by rw [sizeLine_eq]; omega) (fun _ _ h => Value.isStrOf_shape h) rfl ?_
  intro g9
  refine filt_comp (fun p => decide (p.1 ≠ nm)) ?_ ?_
  · intro k9 v9 ys9 extra9 t9 I9 oI9 C9 oC9 D9 m9 h9 tk9 E9 hin9 hC9 hx9 hy9 F9 N9 off9 ne9
    iterate 2 walk1
    rename Obj.data _ = _ => hd9
    refine lcf_cell N9 (by rfl) (by repeat (first | exact List.mem_cons_self .. | refine List.mem_append_right _ ?_ | refine List.mem_cons_of_mem _ ?_)) hd9 ?_ (by rfl) (by with_unfolding_all rfl)
    iterate 2 walk1
    by_cases hq9 : k9 = nm
    · rw [if_neg (by simp [hq9])]
      exact ⟨_, _, _, rfl, F9, N9, off9, .inr ⟨_, List.mem_append_right _ (by k_mem), rfl, 0, rfl⟩, by simp [hq9], rfl⟩
    · rw [if_pos (by simp [hq9])]
      k_steps
      rename Fr _ _ _ _ => F9
      rename News _ _ _ _ => N9
      rename _ ∧ _ ∧ _ ∧ AllLt _ _ => l9
      exact ⟨_, _, _, rfl, F9, news_rot3 N9, off3_cons off9 l9.1 l9.2.1 l9.2.2.1, .inr ⟨_, List.mem_cons_of_mem _ (List.mem_append_right _ (by k_mem)), rfl, 0, rfl⟩, by simp [hq9], _, _, rfl, rfl⟩
  · intro ys9 extra9 hl9 hT9 D9 h9 tk9 F9 N9 off9
    have hnd9 := filter_nodup (fun p : Str × Value => decide (p.1 ≠ nm)) (isDict_nodup hN)
    have hfl9 : (kvs.filter fun p => decide (p.1 ≠ nm)).length ≤ 1000 := Nat.le_trans (List.length_filter_le _ _) (by omega)
    have hsub9 := sub3_of off9
    k_steps
    rename _ ∧ _ ∧ _ ∧ AllLt _ _ => l9
    exact hret1 (any2_no (by assumption)) _ _ _ _ _ _ (by assumption) (news_pick (by assumption)) (by assumption) (by assumption) ⟨l9.2.1, l9.1, l9.2.2.2⟩
end
section
local macro_rules | `(tactic| k_all) => `(tactic| assumption)
local macro_rules | `(tactic| k_room) => `(tactic| ktr_room)
local macro_rules | `(tactic| walk_at "call builtin:len") => `(tactic| (k_here; (with_reducible show wpAny _ _ (call (Value.builtin "len") [Value.ref _]) _ _ _); k_dflt (refine' kst_len ?k1 ?k2 rfl ?k4 ?_; (case k1 => k_asm); (case k2 => k_mem); (case k4 => ((try simp only [List.size_toArray, List.length_append, List.length_cons, List.length_nil]); omega))); k_whole))
local macro_rules | `(tactic| walk_at "call builtin:list.append") => `(tactic| (k_here; (with_reducible show wpAny _ _ (call (Value.builtin _) [Value.ref _, _]) _ _ _); k_dflt (refine' append_K ?k1 ?k2 ?k3 ?_ ?z; (case k1 => k_asm); (case k2 => k_asm); (case k3 => k_upd); (case z => (rw [sizeLine_eq]; simp only [List.size_toArray]; omega)); k_whole); intro h' F' N'; (try simp only [List.push_toArray] at N'); (try k_sweep)))
variable {w : World} {mean : ExcName → Option Value} {mg mb : Str → Option Value} {dp un : Nat} {gd : Option (List Code)} {cn : Str} {cs : Scope} {a : Addr} {ccd : Value} {cl : List (Str × Addr)} {outer : List Env} {A₀ : Around} {base h₀ : Heap} {L : Addr} {m : Str → Option Value} {s : Shared} {Q E : Value → Shared → Prop}
def RPost (h₀ : Heap) (L : Addr) (I : Addr) (oI : Obj) (J : (Str → Option Value) → List (Addr × Obj) → Prop) (s₁ : Shared) (Q : Flow → Shared → Prop) (f : Flow) (s₂ : Shared) : Prop :=
  match f with
  | .ret v => Q (.ret v) s₂
  | .brk => Q .next s₂
  | _ => ∃ h' tk m' nx, s₂ = { s₁ with heap := h', toks := tk } ∧ Fr h₀ L h' m' ∧ News h₀ L h' ((I, oI) :: nx) ∧ (∀ p ∈ nx, p.1 ≠ I) ∧ J m' nx
theorem range_loop {prog : Program} {A : Around} {env : Env} {x : Str} {body : List Stmt} {Q : Flow → Shared → Prop} {r : Addr} {n : Nat} {b : Int} {t₀ u₀ v₀ : Tok} {m₀ : Str → Option Value} {news : List (Addr × Obj)}
    (J : Nat → (Str → Option Value) → List (Addr × Obj) → Prop) (hh : A.handled = none) (hr : IsRange s.heap r 0 b 1 t₀ u₀ v₀) (hb : b = (n : Int)) (hn : n ≤ 1000)
    (F : Fr h₀ env.locals s.heap m₀) (N : News h₀ env.locals s.heap news) (hj : J 0 m₀ news)
    (turn : ∀ (i : Nat) t m₁ news₁ I oI h tk, i < n → J i m₁ news₁ → (∀ p ∈ news, p.1 < I) → (∀ p ∈ news₁, p.1 ≠ I) → Fr h₀ env.locals h (fun y => if y = x then some (.int (i : Int) t) else m₁ y) → News h₀ env.locals h ((I, oI) :: news₁) →
      wpAny (model prog w) A (execs body env) (RPost h₀ env.locals I oI (J (i + 1)) { s with heap := h, toks := tk } Q) E { s with heap := h, toks := tk })
    (done : ∀ m₁ news₁ h tk, J n m₁ news₁ → Fr h₀ env.locals h m₁ → News h₀ env.locals h news₁ → Q .next { s with heap := h, toks := tk }) :
    wpAny (model prog w) A (pyIter (.ref r)) (fun it s₂ => LoopAtV prog w A h₀ env x body Q E it s₂) E s := by
  subst hb
  have hsm : Builtin.Range.small 0 (n : Int) 1 = true := small_one (by omega) (by omega) (by omega) (by omega)
  have hsz : Builtin.Range.rangeSize 0 (n : Int) 1 = (n : Int) := by rw [rangeSize_nat]; omega
  refine wpAny_pyIter_range hr hsm ?_
  have up : ∀ b o, s.heap.get? b = some o → (s.heap.push { cls := .type "range_iterator", data := .fields #[rawInt 0, rawInt (Builtin.Range.rangeSize 0 n 1), rawInt 1] }).get? b = some o := fun b o e => Heap.get?_push_of_some _ e
  refine ⟨s.heap.objs.size, [s.heap.objs.size], [s.heap.objs.size], n, _, _, m₀, news, J, rfl, LCg.range_walks hh 0 n, ?_, ?_, ?_, ?_, F.keeps up, News.grown N up, hj, ?_, ?_⟩
  · intro hm; exact absurd F.ns.lt ((List.mem_singleton.mp hm) ▸ Nat.lt_irrefl _)
  · intro b hb; rw [List.mem_singleton.mp hb]; exact next_is_new F
  · intro p hp hI; exact absurd (Heap.lt_size (N p hp).1) ((List.mem_singleton.mp hI) ▸ Nat.lt_irrefl _)
  · show IsRangeIter _ _ _ _ _
    rw [hsz]; simpa using Heap.get?_push_size _ rfl
  · rintro i v m₁ news₁ s₁ own ⟨h1, tk1, rfl⟩ hi ⟨t, rfl⟩ hJ hoff hown _ hall hst F₁ N₁
    obtain ⟨oI, heI⟩ : ∃ oI, h1.get? s.heap.objs.size = some oI := ⟨_, hst⟩
    have hmem := hall s.heap.objs.size (List.mem_singleton.mpr rfl) (next_is_new F) oI heI
    have hoff' : ∀ p ∈ news₁, p.1 ≠ s.heap.objs.size := fun p hp e => hoff p hp (List.mem_singleton.mpr e)
    rw [Int.zero_add] at F₁
    refine wpAny_mono (turn i t m₁ news₁ s.heap.objs.size oI h1 tk1 hi hJ (fun p hp => Heap.lt_size (N p hp).1) hoff' F₁ fun p hp => ?_) (fun f s₂ p => ?_) fun _ _ e => e
    · rcases List.mem_cons.mp hp with rfl | hp
      · exact N₁ _ (List.mem_append_left _ hmem)
      · exact N₁ _ (List.mem_append_right _ hp)
    have fin : (∃ h' tk m' nx, s₂ = { s with heap := h', toks := tk } ∧ Fr h₀ env.locals h' m' ∧ News h₀ env.locals h' ((s.heap.objs.size, oI) :: nx) ∧ (∀ p ∈ nx, p.1 ≠ s.heap.objs.size) ∧ J (i + 1) m' nx) →
        LoopStepU h₀ env.locals [s.heap.objs.size] own (J (i + 1)) { s with heap := h1, toks := tk1 } .next s₂ := by
      rintro ⟨h', tk, m', nx, e, F', N', ho, hJ'⟩
      refine ⟨rfl, h', tk, m', nx, e, F', fun p hp => ?_, fun p hp hI => ho p hp (List.mem_singleton.mp hI), hJ'⟩
      rcases List.mem_append.mp hp with hp | hp
      · have e1 := List.mem_singleton.mp (hown p hp)
        have e2 := (N₁ p (List.mem_append_left _ hp)).1
        rw [e1, heI] at e2
        have e3 : p = (s.heap.objs.size, oI) := Prod.ext e1 (Option.some.inj e2).symm
        rw [e3]; exact N' _ (List.mem_cons_self ..)
      · exact N' p (List.mem_cons_of_mem _ hp)
    cases f with
    | ret v => exact .ret p
    | brk => exact .brk p
    | next => exact .next (fin p)
    | cont => exact .cont (fin p)
  · intro h' tk m' news' F' N' _ hJ
    exact done m' news' h' tk hJ F' N'
def overM (u m₀ : Str → Option Value) : List Str → Str → Option Value
  | [], z => m₀ z
  | y :: r, z => if z = y then u z else overM u m₀ r z
theorem overM_of {m' m₀ : Str → Option Value} : ∀ (ys : List Str), (∀ z, z ∉ ys → m' z = m₀ z) → ∀ z, m' z = overM m' m₀ ys z
  | [], h, z => h z (by simp)
  | y :: r, h, z => by
    by_cases e : z = y
    · simp [overM, e]
    · simp only [overM, if_neg e]
      by_cases hz : z ∈ r
      · clear h
        induction r with
        | nil => simp at hz
        | cons y' r ih =>
          by_cases e' : z = y'
          · simp [overM, e']
          · simp only [overM, if_neg e']
            exact ih (by simpa [e'] using hz)
      · have h1 : m' z = m₀ z := h z (by simp [e, hz])
        rw [h1]
        clear h
        induction r with
        | nil => rfl
        | cons y' r ih =>
          have e' : z ≠ y' := fun q => hz (by simp [q])
          simp only [overM, if_neg e']
          exact ih (fun q => hz (by simp [q]))
theorem overM_at {u u' m₀ : Str → Option Value} {z : Str} (h : u z = u' z) : ∀ ys : List Str, overM u m₀ ys z = overM u' m₀ ys z
  | [] => rfl
  | y :: r => by simp only [overM, h, overM_at h r]
def SPost (h₀ : Heap) (L : Addr) (I : Addr) (oI : Obj) (x : Str) (ys : List Str) (m₀ : Str → Option Value) (J : List (Addr × Obj) → Prop) (s₁ : Shared) (Q : Flow → Shared → Prop) (f : Flow) (s₂ : Shared) : Prop :=
  match f with
  | .ret v => Q (.ret v) s₂
  | .brk => Q .next s₂
  | _ => ∃ h' tk m' nx, s₂ = { s₁ with heap := h', toks := tk } ∧ Fr h₀ L h' m' ∧ News h₀ L h' ((I, oI) :: nx) ∧ (∀ p ∈ nx, p.1 ≠ I) ∧ (∀ z, z ≠ x → z ∉ ys → m' z = m₀ z) ∧ J nx
theorem range_loop3 {prog : Program} {A : Around} {env : Env} {x : Str} {body : List Stmt} {Q : Flow → Shared → Prop} {r : Addr} {n : Nat} {b : Int} {t₀ u₀ v₀ : Tok} {m₀ : Str → Option Value} {news : List (Addr × Obj)} (ys : List Str)
    (J : Nat → List (Addr × Obj) → Prop) (hh : A.handled = none) (hr : IsRange s.heap r 0 b 1 t₀ u₀ v₀) (hb : b = (n : Int)) (hn : n ≤ 1000)
    (F : Fr h₀ env.locals s.heap m₀) (N : News h₀ env.locals s.heap news) (hj : J 0 news)
    (turn : ∀ (i : Nat) t u news₁ I oI h tk, i < n → J i news₁ → (∀ p ∈ news, p.1 < I) → (∀ p ∈ news₁, p.1 ≠ I) → Fr h₀ env.locals h (fun y => if y = x then some (.int (i : Int) t) else overM u m₀ ys y) → News h₀ env.locals h ((I, oI) :: news₁) →
      wpAny (model prog w) A (execs body env) (SPost h₀ env.locals I oI x ys m₀ (J (i + 1)) { s with heap := h, toks := tk } Q) E { s with heap := h, toks := tk })
    (done : ∀ u news₁ h tk, J n news₁ → Fr h₀ env.locals h (fun y => if y = x then u y else overM u m₀ ys y) → News h₀ env.locals h news₁ → Q .next { s with heap := h, toks := tk }) :
    wpAny (model prog w) A (pyIter (.ref r)) (fun it s₂ => LoopAtV prog w A h₀ env x body Q E it s₂) E s := by
  have ov : ∀ m' : Str → Option Value, (∀ z, z ≠ x → z ∉ ys → m' z = m₀ z) → ∀ z, z ≠ x → m' z = overM m' m₀ ys z := fun m' hm z hz => by
    have h2 := overM_of (m' := fun y => if y = x then m₀ y else m' y) (m₀ := m₀) ys (fun y hy => by
      by_cases e : y = x
      · simp [e]
      · simp only [if_neg e]; exact hm y e hy) z
    simp only [if_neg hz] at h2
    exact h2.trans (overM_at (by simp only [if_neg hz]) ys)
  refine range_loop (fun i m₁ nx => J i nx ∧ ∀ z, z ≠ x → z ∉ ys → m₁ z = m₀ z) hh hr hb hn F N ⟨hj, fun _ _ _ => rfl⟩ ?_ ?_
  · rintro i t m₁ news₁ I oI h tk hi ⟨hJ, hm⟩ hlt hoff F₁ N₁
    have e : (fun y => if y = x then some (Value.int (i : Int) t) else m₁ y) = fun y => if y = x then some (Value.int (i : Int) t) else overM m₁ m₀ ys y := by
      funext z
      by_cases h1 : z = x
      · simp [h1]
      · simp only [if_neg h1]; exact ov m₁ hm z h1
    rw [e] at F₁
    refine wpAny_mono (turn i t m₁ news₁ I oI h tk hi hJ hlt hoff F₁ N₁) (fun f s₂ p => ?_) fun _ _ e => e
    cases f with
    | ret v => exact p
    | brk => exact p
    | next => obtain ⟨h', tk, m', nx, e, F', N', ho, hm', hJ'⟩ := p; exact ⟨h', tk, m', nx, e, F', N', ho, hJ', hm'⟩
    | cont => obtain ⟨h', tk, m', nx, e, F', N', ho, hm', hJ'⟩ := p; exact ⟨h', tk, m', nx, e, F', N', ho, hJ', hm'⟩
  · rintro m₁ news₁ h tk ⟨hJ, hm⟩ F₁ N₁
    have e : m₁ = fun y => if y = x then m₁ y else overM m₁ m₀ ys y := by
      funext z
      by_cases h1 : z = x
      · simp [h1]
      · simp only [if_neg h1]; exact ov m₁ hm z h1
    rw [e] at F₁
    exact done m₁ news₁ h tk hJ F₁ N₁
end
section
local macro_rules | `(tactic| k_all) => `(tactic| assumption)
local macro_rules | `(tactic| k_room) => `(tactic| ktr_room)
local macro_rules | `(tactic| walk_at "call builtin:len") => `(tactic| (k_here; (with_reducible show wpAny _ _ (call (Value.builtin "len") [Value.ref _]) _ _ _); k_dflt (refine' kst_len ?k1 ?k2 rfl ?k4 ?_; (case k1 => k_asm); (case k2 => k_mem); (case k4 => ((try simp only [List.size_toArray, List.length_append, List.length_cons, List.length_nil]); omega))); k_whole))
local macro_rules | `(tactic| walk_at "call builtin:list.append") => `(tactic| (k_here; (with_reducible show wpAny _ _ (call (Value.builtin _) [Value.ref _, _]) _ _ _); k_dflt (refine' append_K ?k1 ?k2 ?k3 ?_ ?z; (case k1 => k_asm); (case k2 => k_asm); (case k3 => k_upd); (case z => (rw [sizeLine_eq]; simp only [List.size_toArray]; omega)); k_whole); intro h' F' N'; (try simp only [List.push_toArray] at N'); (try k_sweep)))
variable {w : World} {mean : ExcName → Option Value} {mg mb : Str → Option Value} {dp un : Nat} {gd : Option (List Code)} {cn : Str} {cs : Scope} {a : Addr} {ccd : Value} {cl : List (Str × Addr)} {outer : List Env} {A₀ : Around} {base h₀ : Heap} {L : Addr} {m : Str → Option Value} {s : Shared} {Q E : Value → Shared → Prop}
inductive Twin (sa : List Addr) (syms : List Str) : List (Str × Value) → List (Str × Value) → Prop
  | nil : Twin sa syms [] []
  | cons {k : Str} {i : Nat} {t : Tok} {b : Addr} {r r' : List (Str × Value)} : sa[i]? = some b → syms[i]? = some k → Twin sa syms r r' → Twin sa syms ((k, .ref b) :: r) ((k, .int (i : Int) t) :: r')
section
variable {sa : List Addr} {syms : List Str} {kvs lvs : List (Str × Value)}
theorem Twin.keys (h : Twin sa syms kvs lvs) : kvs.map (·.1) = lvs.map (·.1) := by
  induction h with
  | nil => rfl
  | cons _ _ _ ih => simp [ih]
theorem Twin.len (h : Twin sa syms kvs lvs) : kvs.length = lvs.length := by
  have := congrArg List.length h.keys; simpa using this
theorem Twin.mem (h : Twin sa syms kvs lvs) : ∀ k ∈ kvs.map (·.1), k ∈ syms := by
  induction h with
  | nil => intro k hk; simp at hk
  | cons _ h2 _ ih =>
    intro k hk
    simp only [List.map_cons, List.mem_cons] at hk
    rcases hk with rfl | hk
    · exact List.mem_of_getElem? h2
    · exact ih k hk
theorem Twin.look (h : Twin sa syms kvs lvs) (nm : Str) : (∃ i b t, valueAt kvs nm = some (.ref b) ∧ valueAt lvs nm = some (.int ((i : Nat) : Int) t) ∧ sa[i]? = some b ∧ syms[i]? = some nm) ∨ (valueAt kvs nm = none ∧ valueAt lvs nm = none) := by
  induction h with
  | nil => exact .inr ⟨rfl, rfl⟩
  | @cons k i t b r r' h1 h2 _ ih =>
    by_cases e : k = nm
    · subst e
      exact .inl ⟨i, b, t, by simp [valueAt], by simp [valueAt], h1, h2⟩
    · rcases ih with ⟨i', b', t', a1, a2, a3, a4⟩ | ⟨a1, a2⟩
      · exact .inl ⟨i', b', t', by simpa [valueAt, e] using a1, by simpa [valueAt, e] using a2, a3, a4⟩
      · exact .inr ⟨by simpa [valueAt, e] using a1, by simpa [valueAt, e] using a2⟩
theorem Twin.mono (h : Twin sa syms kvs lvs) (b : Addr) (nm : Str) : Twin (sa ++ [b]) (syms ++ [nm]) kvs lvs := by
  induction h with
  | nil => exact .nil
  | cons h1 h2 _ ih =>
    refine .cons ?_ ?_ ih
    · rw [List.getElem?_append_left (List.getElem?_eq_some_iff.mp h1).1]; exact h1
    · rw [List.getElem?_append_left (List.getElem?_eq_some_iff.mp h2).1]; exact h2
theorem stored_new {kvs : List (Str × Value)} {nm : Str} {v : Value} (h : valueAt kvs nm = none) : stored kvs nm v = kvs ++ [(nm, v)] := by
  have := valueAt_isSome_eq_any kvs nm
  rw [h] at this
  unfold stored
  rw [← this]; simp
theorem Twin.snoc (h : Twin sa syms kvs lvs) {i : Nat} {b : Addr} {nm : Str} {t : Tok} (h1 : sa[i]? = some b) (h2 : syms[i]? = some nm) : Twin sa syms (kvs ++ [(nm, .ref b)]) (lvs ++ [(nm, .int (i : Int) t)]) := by
  induction h with
  | nil => exact .cons h1 h2 .nil
  | cons g1 g2 _ ih => exact .cons g1 g2 ih
theorem Twin.filter (h : Twin sa syms kvs lvs) (q : Str → Bool) : Twin sa syms (kvs.filter fun p => q p.1) (lvs.filter fun p => q p.1) := by
  induction h with
  | nil => exact .nil
  | @cons k i t b r r' g1 g2 _ ih =>
    cases hq : q k with
    | true => simp only [List.filter_cons, hq, if_true]; exact .cons g1 g2 ih
    | false => simp only [List.filter_cons, hq, Bool.false_eq_true, if_false]; exact ih
end
structure Same (w : World) (rest : List (Addr × Obj)) (sa : List Addr) (syms : List Str) (sv : List Value) (kvs lvs : List (Str × Value)) : Prop where
  nodup : sa.Nodup
  len : sa.length = syms.length
  txt : StrsAre sv syms
  ok : ∀ x ∈ syms, PySem.PyData.strOk x = true
  sym : ∀ (i : Nat) (b : Addr) (nm : Str), sa[i]? = some b → syms[i]? = some nm → SymIn w rest b (i : Int) nm
  twin : Twin sa syms kvs lvs
theorem strs_at : ∀ {vs : List Value} {ss : List Str}, StrsAre vs ss → ∀ {i : Nat} {x : Str}, ss[i]? = some x → ∃ t, vs[i]? = some (.str x t)
  | _, _, .nil, i, x, h => by simp at h
  | _, _, .cons y t r, 0, x, h => by simp at h; exact ⟨t, by rw [← h]; rfl⟩
  | _, _, .cons y t r, i + 1, x, h => by simpa using strs_at r (by simpa using h)
theorem strs_snoc : ∀ {vs : List Value} {ss : List Str} (x : Str) (t : Tok), StrsAre vs ss → StrsAre (vs ++ [.str x t]) (ss ++ [x])
  | _, _, x, t, .nil => .cons x t .nil
  | _, _, x, t, .cons y u r => .cons y u (strs_snoc x t r)
section
open PySem.Spec PySem.SeqAt PyProof.V
theorem ok_canLay : ∀ {ss : List Str}, (∀ x ∈ ss, PyData.strOk x = true) → PyData.canLayAll0 (ss.map PyData.str) = true
  | [], _ => rfl
  | x :: r, h => by
    simp only [List.map_cons, PyData.canLayAll0, PyData.canLay0, Bool.and_eq_true]
    exact ⟨h x (List.mem_cons_self ..), ok_canLay fun y hy => h y (List.mem_cons_of_mem _ hy)⟩
theorem ok_depth : ∀ ss : List Str, PyData.depthAll (ss.map PyData.str) = 0
  | [] => rfl
  | x :: r => by simp only [List.map_cons, PyData.depthAll, PyData.depth, ok_depth r, Nat.max_self]
theorem ok_noMix : ∀ ss : List Str, noMixAll (ss.map PyData.str) (ss.map PyData.str) = true
  | [] => by simp [noMixAll]
  | _ :: r => by simp [noMixAll, noMix, ok_noMix r]
theorem ok_same : ∀ ss : List Str, PySem.Spec.sameAll (ss.map PyData.str) (ss.map PyData.str) = true
  | [] => by simp [PySem.Spec.sameAll]
  | _ :: r => by simp [PySem.Spec.sameAll, PySem.Spec.same, ok_same r]
theorem ne_strs {prog : Program} {A : Around} {E : Value → Shared → Prop} {s : Shared} {b c : Addr} {vs us : List Value} {ss : List Str} {Q : Value → Shared → Prop} (hl : s.heap.IsList b vs.toArray) (hi : StrsAre vs ss) (hl' : s.heap.IsList c us.toArray) (hi' : StrsAre us ss)
    (ok : ∀ x ∈ ss, PyData.strOk x = true) (hu : A.units + 64 < cLine) (h : Q (.bool false) s) : wpAny (model prog w) A (compareOp .NotEq (.ref b) (.ref c)) Q E s := by
  have sh : shaped (.list (ss.map PyData.str)) = true := by
    simp only [shaped, PyData.canLay0, PyData.depth, ok_depth, Bool.and_eq_true, decide_eq_true_eq]
    exact ⟨ok_canLay ok, by omega⟩
  obtain ⟨o, ho, hc, n, hd⟩ := hl
  obtain ⟨o', ho', hc', n', hd'⟩ := hl'
  refine ne_dataH_same (Reads.list ho hc hd (by simpa using StrsAre.reads s.heap hi)) (Reads.list ho' hc' hd' (by simpa using StrsAre.reads s.heap hi')) sh sh hu (by simp only [noMix]; exact ok_noMix ss) ?_
  simp only [PySem.Spec.same, ok_same]; exact h
theorem ne_pair {prog : Program} {A : Around} {E : Value → Shared → Prop} {s : Shared} {b c : Addr} {i : Int} {nm : Str} {t1 t2 t3 t4 : Tok} {n n' : Nat} {Q : Value → Shared → Prop}
    (hl : s.heap.get? b = some { cls := .type "tuple", data := .seq #[.int i t1, .str nm t2] n }) (hl' : s.heap.get? c = some { cls := .type "tuple", data := .seq #[.int i t3, .str nm t4] n' })
    (ok : PyData.strOk nm = true) (hu : A.units + 64 < cLine) (h : Q (.bool false) s) : wpAny (model prog w) A (compareOp .NotEq (.ref b) (.ref c)) Q E s := by
  have sh : shaped (.tuple [.int i, .str nm]) = true := by
    simp only [shaped, PyData.canLay0, PyData.canLayAll0, PyData.depth, PyData.depthAll, Bool.and_eq_true, decide_eq_true_eq, ok]
    simp
  have r1 : Reads s.heap (.ref b) (.tuple [.int i, .str nm]) [] := reads_tuple_at hl rfl rfl (.cons (as := []) (.int i t1) (.cons (as := []) (.str nm t2) .nil))
  have r2 : Reads s.heap (.ref c) (.tuple [.int i, .str nm]) [] := reads_tuple_at hl' rfl rfl (.cons (as := []) (.int i t3) (.cons (as := []) (.str nm t4) .nil))
  refine ne_dataH_same r1 r2 sh sh hu (by simp [noMix, noMixAll]) ?_
  simp only [PySem.Spec.same, PySem.Spec.sameAll, decide_true, Bool.and_self, Bool.not_true, beq_self_eq_true]; exact h
end
end
section
local macro_rules | `(tactic| k_all) => `(tactic| assumption)
local macro_rules | `(tactic| k_room) => `(tactic| ktr_room)
local macro_rules | `(tactic| walk_at "call builtin:len") => `(tactic| (k_here; (with_reducible show wpAny _ _ (call (Value.builtin "len") [Value.ref _]) _ _ _); k_dflt (refine' kst_len ?k1 ?k2 rfl ?k4 ?_; (case k1 => k_asm); (case k2 => k_mem); (case k4 => ((try simp only [List.size_toArray, List.length_append, List.length_cons, List.length_nil]); omega))); k_whole))
local macro_rules | `(tactic| walk_at "call builtin:list.append") => `(tactic| (k_here; (with_reducible show wpAny _ _ (call (Value.builtin _) [Value.ref _, _]) _ _ _); k_dflt (refine' append_K ?k1 ?k2 ?k3 ?_ ?z; (case k1 => k_asm); (case k2 => k_asm); (case k3 => k_upd); (case z => (rw [sizeLine_eq]; simp only [List.size_toArray]; omega)); k_whole); intro h' F' N'; (try simp only [List.push_toArray] at N'); (try k_sweep)))
variable {w : World} {mean : ExcName → Option Value} {mg mb : Str → Option Value} {dp un : Nat} {gd : Option (List Code)} {cn : Str} {cs : Scope} {a : Addr} {ccd : Value} {cl : List (Str × Addr)} {outer : List Env} {A₀ : Around} {base h₀ : Heap} {L : Addr} {m : Str → Option Value} {s : Shared} {Q E : Value → Shared → Prop}
theorem ne_same {a b : Bool} (h : a = b) : ¬ ((a != b) = true) := by subst h; simp
theorem twin_dec {sa : List Addr} {i j : Nat} {b c : Addr} (hn : sa.Nodup) (hj : sa[j]? = some c) (hi : sa[i]? = some b) : decide (c = b) = (((j : Nat) : Int) == ((i : Nat) : Int)) := by
  obtain ⟨lj, ej⟩ := List.getElem?_eq_some_iff.mp hj
  obtain ⟨li, ei⟩ := List.getElem?_eq_some_iff.mp hi
  by_cases e : j = i
  · subst e
    rw [hj] at hi
    have := Option.some.inj hi
    simp [this]
  · have h1 : c ≠ b := fun q => e ((List.getElem_inj hn).mp (by rw [ej, ei, q]))
    have h2 : ¬ ((j : Nat) : Int) = ((i : Nat) : Int) := fun q => e (by omega)
    simp only [decide_eq_false h1]
    symm; rw [beq_eq_false_iff_ne]; exact h2
theorem ne_sorted {prog : Program} {A : Around} {news : List (Addr × Obj)} {b c : Addr} {vs us : List Value} {n n' : Nat} {ss ss' : List Str} {kvs lvs : List (Str × Value)} (N : News h₀ L s.heap news) (h1 : (b, W.listOf (List.toArray vs) n) ∈ news) (h2 : (c, W.listOf (List.toArray us) n') ∈ news)
    (s1 : StrsAre vs ss) (s2 : StrsAre us ss') (p1 : ss.Perm (kvs.map (·.1))) (p2 : ss'.Perm (lvs.map (·.1))) (z1 : sortedS ss = true) (z2 : sortedS ss' = true) (kk : kvs.map (·.1) = lvs.map (·.1)) (ok : ∀ x ∈ kvs.map (·.1), PySem.PyData.strOk x = true)
    (hu : A.units + 64 < cLine) (h : Q (.bool false) s) : wpAny (model prog w) A (compareOp .NotEq (.ref b) (.ref c)) Q E s := by
  have e : ss = ss' := sorted_uniq (p1.trans (by rw [kk]; exact p2.symm)) z1 z2
  subst e
  exact ne_strs (News.isList N h1) s1 (News.isList N h2) s2 (fun x hx => ok x (p1.mem_iff.mp hx)) hu h
local macro_rules | `(tactic| walk_at "call ref") => `(tactic| (k_here; k_dflt (first
  | (refine' size_ok ?B ?F ?X ?N ?T ?hk ?dp ?h1 ?h2 ?h3 ?hl ?_; (case B => k_asm); (case F => k_asm); (case X => k_asm); (case N => k_asm); (case T => k_asm); (case hk => exact rfl); (case dp => ktr_room); (case h1 => k_mem); (case h2 => k_mem); (case h3 => k_mem); (case hl => omega); intro h' tk' t' F' N'; (try k_sweep))
  | (refine' names_ok ?B ?F ?X ?N ?T ?hk ?dp ?h1 ?h2 ?h3 ?hN ?lo ?hl ?_; (case B => k_asm); (case F => k_asm); (case X => k_asm); (case N => k_asm); (case T => k_asm); (case hk => exact rfl); (case dp => ktr_room); (case h1 => k_mem); (case h2 => k_mem); (case h3 => k_mem); (case hN => k_asm); (case lo => k_asm); (case hl => omega); intro D' c' h' tk' vs' ss' F' N' l1 hS' hP' hZ'; (try k_lt l1); (try k_sweep))
  | (refine' num_ok ?B ?F ?X ?N ?T ?hk ?dp ?h1 ?h2 ?h3 ?i0 ?i1 ?hv ?_; (case B => k_asm); (case F => k_asm); (case X => k_asm); (case N => k_asm); (case T => k_asm); (case hk => exact rfl); (case dp => ktr_room); (case h1 => k_mem); (case h2 => k_mem); (case h3 => k_mem); (case i0 => omega); (case i1 => omega); (case hv => k_asm); intro h' tk' F' N'; (try k_sweep))
  | (refine' isint_none ?B ?F ?X ?N ?T ?hk ?dp ?h1 ?h2 ?h3 ?hN ?lo ?S ?hv ?_; (case B => k_asm); (case F => k_asm); (case X => k_asm); (case N => k_asm); (case T => k_asm); (case hk => exact rfl); (case dp => ktr_room); (case h1 => k_mem); (case h2 => k_mem); (case h3 => k_mem); (case hN => k_asm); (case lo => k_asm); (case S => exact SymIn.mono (by assumption) (fun _ hp => by repeat (first | exact hp | refine List.mem_cons_of_mem _ ?_))); (case hv => k_asm); intro h' tk' F' N'; (try k_sweep))
  | (refine' isint_some ?B ?F ?X ?N ?T ?hk ?dp ?h1 ?h2 ?h3 ?hN ?lo ?S ?S' ?hv ?_; (case B => k_asm); (case F => k_asm); (case X => k_asm); (case N => k_asm); (case T => k_asm); (case hk => exact rfl); (case dp => ktr_room); (case h1 => k_mem); (case h2 => k_mem); (case h3 => k_mem); (case hN => k_asm); (case lo => k_asm); (case S => exact SymIn.mono (by assumption) (fun _ hp => by repeat (first | exact hp | refine List.mem_cons_of_mem _ ?_))); (case hv => k_asm); (case S' => exact SymIn.mono (by assumption) (fun _ hp => by repeat (first | exact hp | refine List.mem_cons_of_mem _ ?_))); intro h' tk' F' N'; (try k_sweep)))))
local macro_rules | `(tactic| walk_at "getAttr ref") => `(tactic| (k_here; (with_reducible show wpAny _ _ (getAttr (Value.ref _) (Str.ofString "number") _) _ _ _); k_dflt (refine' sym_number ?F ?X ?N ?S ?_; (case F => k_asm); (case X => k_asm); (case N => k_asm); (case S => exact SymIn.mono (by assumption) (fun _ hp => by repeat (first | exact hp | refine List.mem_cons_of_mem _ ?_)))); intro t' tk'))
local macro_rules | `(tactic| walk_at "getAttr ref") => `(tactic| (k_here; (with_reducible show wpAny _ _ (getAttr (Value.ref _) (Str.ofString "name") _) _ _ _); k_dflt (refine' sym_name ?F ?X ?N ?S ?_; (case F => k_asm); (case X => k_asm); (case N => k_asm); (case S => exact SymIn.mono (by assumption) (fun _ hp => by repeat (first | exact hp | refine List.mem_cons_of_mem _ ?_)))); intro t' tk'))
local macro_rules | `(tactic| walk_at "subscriptTail") => `(tactic| (k_here; (with_reducible show wpAny _ _ (subscriptTail _ _ (Value.ref _) (Value.int _ _)) _ _ _); (with_unfolding_all refine' my_item ?k1 ?k2 ?k3 ?k4 ?_ ?k6; (case k1 => exact News.isList (by k_asm) (by k_mem)); (case k2 => omega); (case k3 => omega); (case k4 => assumption); (case k6 => with_unfolding_all rfl); k_whole)))
local macro_rules | `(tactic| walk_at "getMethod ref") => `(tactic| (k_here; (with_reducible show wpAny _ _ (getMethod (Value.ref _) (Str.ofString "get") _) _ _ _); k_dflt (refine kdg_method (knd := PySem.strKind _ _) (by k_asm) (by k_mem) (by k_asm) ?_)))
local macro_rules | `(tactic| walk_at "call builtin:dict.get") => `(tactic| (k_here; (with_reducible show wpAny _ _ (call (Value.builtin _) [Value.ref _, Value.str _ _, _]) _ _ _); k_dflt (refine kdg_get2 (knd := PySem.strKind _ _) (by k_asm) (by k_mem) (by k_asm) (by k_asm) (strKind_is _ _ _ _) _ (by assumption) ?_); (try dsimp only [Option.getD])))
local macro_rules | `(tactic| walk_at "call builtin:sorted") => `(tactic| (k_here; (with_reducible show wpAny _ _ (call (Value.builtin _) [Value.ref _]) _ _ _); k_dflt (refine my_sorted (by rfl) (by k_asm) (by k_asm) (by k_mem) (by k_asm) (by k_asm) (by omega) ?_); intro D' c' h' tk' vs' ss' F' N' l1 hS' hP' hZ'; (try k_lt l1); (try k_sweep)))
local macro_rules | `(tactic| walk_at "compareOp NotEq ref ref") => `(tactic| (k_here; (with_reducible show wpAny _ _ (compareOp CmpOp.NotEq (Value.ref _) (Value.ref _)) _ _ _); k_dflt (first | (refine' ne_pair ?l ?l2 ?ok ?hu ?_; (case l => exact News.get (by k_asm) (by k_mem)); (case l2 => exact News.get (by k_asm) (by k_mem)); (case ok => assumption); (case hu => (simp only [units_in1, units_deeper, Around.mark_units, units_caller]; (try dsimp only [ktrTop]); omega))) | (refine' ne_sorted ?N ?h1 ?h2 ?s1 ?s2 ?p1 ?p2 ?z1 ?z2 ?kk ?ok ?hu ?_; (case N => k_asm); (case h1 => k_mem); (case h2 => k_mem); (case s1 => k_asm); (case s2 => k_asm); (case p1 => k_asm); (case p2 => k_asm); (case z1 => k_asm); (case z2 => k_asm); (case kk => k_asm); (case ok => k_asm); (case hu => (simp only [units_in1, units_deeper, Around.mark_units, units_caller]; (try dsimp only [ktrTop]); omega))))))
local macro_rules | `(tactic| walk_at "exec For Name Call cons nil") => `(tactic| (k_here; (rename Fr _ _ _ _ => lF'); (with_unfolding_all refine' For_invVF lF' ?k1 ?k2 ?_; (case k1 => exact rfl); (case k2 => exact rfl); k_whole)))
local macro_rules | `(tactic| walk_at "pyIter ref") => `(tactic| ((with_reducible show wpAny _ _ (pyIter (Value.ref _)) (fun it s₂ => LoopAtV _ _ _ _ _ _ _ _ _ it s₂) _ _); refine Hold.out ?_))
set_option maxRecDepth 100000 in
set_option maxHeartbeats 4000000 in
theorem lawis_ok {tb td ra na sr ld : Addr} {t1 t2 : Tok} {rc sc : Nat} {sa : List Addr} {sv : List Value} {syms : List Str} {oN oL : Obj} {kvs lvs : List (Str × Value)} {rest : List (Addr × Obj)}
    (B : Below A₀ base outer h₀) (F : Fr h₀ L s.heap m) (X : (hd.heap_39 w.params).In h₀) (N : News h₀ L s.heap ((tb, instObj 112 td) :: (td, tabD w t1 t2 ra na) :: (ra, W.listOf (List.toArray (sa.map Value.ref)) rc) :: (na, oN) :: (sr, W.listOf (List.toArray sv) sc) :: (ld, oL) :: rest))
    (T : Top hd.view_39 (looseW hd.view_39 [Str.ofString "NIL", Str.ofString "T"]) mean mg mb h₀) (hk : cs.kind = .function) (hdp : dp + 20 < recursionLimit) (hun : un + 160 < cLine)
    (hN : oN.IsDictOf (SK w) kvs) (lo : (na == sysModules) = false) (hL : oL.IsDictOf (SK w) lvs) (lo2 : (ld == sysModules) = false) (M : Same w rest sa syms sv kvs lvs) (hn : syms.length ≤ 60) (hkl : kvs.length < 64)
    (hret : ∀ h' tk', Fr h₀ L h' m → News h₀ L h' ((tb, instObj 112 td) :: (td, tabD w t1 t2 ra na) :: (ra, W.listOf (List.toArray (sa.map Value.ref)) rc) :: (na, oN) :: (sr, W.listOf (List.toArray sv) sc) :: (ld, oL) :: rest) → Q (.bool true) { s with heap := h', toks := tk' }) :
    wpAny (model PySem.Challenge.rw_ok0040_01.row.prog w) (ktrTop dp un gd cn cs L a ccd cl outer) (call (.ref 130) [.ref tb, .ref sr, .ref ld]) Q E s := by
  w_top off
  revert X; k_fill; intro X
  have hMk : KstMark := kstMark
  have hsv : sv.length = syms.length := StrsAre.len_eq M.txt
  have hsa : (sa.map Value.ref).length = syms.length := by rw [List.length_map]; exact M.len
  have hkk := M.twin.keys
  have hok : ∀ x ∈ kvs.map (·.1), PySem.PyData.strOk x = true := fun x hx => M.ok x (M.twin.mem x hx)
  have hll : lvs.length < 64 := by rw [← M.twin.len]; exact hkl
  refine wpAny_call ?_
  k_dflt ktr_enter
  k_steps
  · exfalso; omega
  unfold Hold
  rename Fr _ _ _ _ => F9
  rename News _ _ _ _ => N9
  rename IsRange _ _ _ _ _ _ _ _ => R9
  refine range_loop3 (n := syms.length) [Str.ofString "one"] (fun _ nx => nx = (tb, instObj 112 td) :: (td, tabD w t1 t2 ra na) :: (ra, W.listOf (List.toArray (sa.map Value.ref)) rc) :: (na, oN) :: (sr, W.listOf (List.toArray sv) sc) :: (ld, oL) :: rest) (by rfl) R9 (by rw [hsv]) (by omega) F9 (news_tl (news_tl N9)) rfl ?_ ?_
  · rintro i9 t9 u9 _ I9 oI9 h9 tk9 hi9 rfl - hoff9 F1 N1
    clear F9 N9 R9
    k_sweep
    simp only [overM] at F1
    obtain ⟨nm, hnm⟩ : ∃ nm, syms[i9]? = some nm := ⟨_, List.getElem?_eq_getElem hi9⟩
    obtain ⟨b9, hb9⟩ : ∃ b, sa[i9]? = some b := ⟨_, List.getElem?_eq_getElem (by rw [M.len]; exact hi9)⟩
    have S9 := M.sym i9 b9 nm hb9 hnm
    have hokn := M.ok nm (List.mem_of_getElem? hnm)
    obtain ⟨tn9, hsn⟩ := strs_at M.txt hnm
    have hrv9 : (sa.map Value.ref)[((i9 : Nat) : Int).toNat]? = some (.ref b9) := by rw [Int.toNat_natCast, List.getElem?_map, hb9]; rfl
    have hsv9 : sv[((i9 : Nat) : Int).toNat]? = some (.str nm tn9) := by rw [Int.toNat_natCast]; exact hsn
    rcases M.twin.look nm with ⟨j9, c9, tj9, a1, a2, a3, a4⟩ | ⟨a1, a2⟩
    · have S9' := M.sym j9 c9 nm a3 a4
      have hdec : decide (c9 = b9) = (((j9 : Nat) : Int) == ((i9 : Nat) : Int)) := twin_dec M.nodup a3 hb9
      k_steps
      · exact absurd (by assumption) (ne_same hdec)
      · exact ⟨_, _, _, _, rfl, by assumption, news_tl (news_tl (by assumption)), hoff9, fun z g1 g2 => by rw [List.mem_singleton] at g2; simp only [if_neg g1, if_neg g2], rfl⟩
    · have hdec : false = ((-1 : Int) == ((i9 : Nat) : Int)) := by symm; rw [beq_eq_false_iff_ne]; omega
      k_steps
      · exact absurd (by assumption) (ne_same hdec)
      · exact ⟨_, _, _, _, rfl, by assumption, news_tl (news_tl (by assumption)), hoff9, fun z g1 g2 => by rw [List.mem_singleton] at g2; simp only [if_neg g1, if_neg g2], rfl⟩
  · intro u9 _ h9 tk9 e9 F9 N9
    subst e9
    k_steps
    exact hret _ _ (by assumption) (by assumption)
end
section
local macro_rules | `(tactic| k_all) => `(tactic| assumption)
local macro_rules | `(tactic| k_room) => `(tactic| ktr_room)
local macro_rules | `(tactic| walk_at "call builtin:len") => `(tactic| (k_here; (with_reducible show wpAny _ _ (call (Value.builtin "len") [Value.ref _]) _ _ _); k_dflt (refine' kst_len ?k1 ?k2 rfl ?k4 ?_; (case k1 => k_asm); (case k2 => k_mem); (case k4 => ((try simp only [List.size_toArray, List.length_append, List.length_cons, List.length_nil]); omega))); k_whole))
local macro_rules | `(tactic| walk_at "call builtin:list.append") => `(tactic| (k_here; (with_reducible show wpAny _ _ (call (Value.builtin _) [Value.ref _, _]) _ _ _); k_dflt (refine' append_K ?k1 ?k2 ?k3 ?_ ?z; (case k1 => k_asm); (case k2 => k_asm); (case k3 => k_upd); (case z => (rw [sizeLine_eq]; simp only [List.size_toArray]; omega)); k_whole); intro h' F' N'; (try simp only [List.push_toArray] at N'); (try k_sweep)))
variable {w : World} {mean : ExcName → Option Value} {mg mb : Str → Option Value} {dp un : Nat} {gd : Option (List Code)} {cn : Str} {cs : Scope} {a : Addr} {ccd : Value} {cl : List (Str × Addr)} {outer : List Env} {A₀ : Around} {base h₀ : Heap} {L : Addr} {m : Str → Option Value} {s : Shared} {Q E : Value → Shared → Prop}
section
open PyProof.Rows.LCg PyProof.Rows.LCt
def SrcK (prog : Program) (w : World) (A : Around) (h₀ : Heap) (L : Addr) (m : Str → Option Value) (env : Env) (ct elt : PySem.Expr) (x : Str) (scope : Scope) (cl : List (Str × Addr)) (Fin : Shared → List Value → List (Addr × Obj) → Prop) (xv : Value) (s₁ : Shared) : Prop :=
  ∃ (d : Addr) (od : Obj) (kvs : List (Str × Value)) (news : List (Addr × Obj)), xv = .ref d ∧ A.handled = none ∧ Fr h₀ L s₁.heap m ∧ News h₀ L s₁.heap news ∧ (d, od) ∈ news ∧ od.IsDictOf (PySem.strKind prog w) kvs ∧ (d == sysModules) = false ∧ kvs.length ≤ sizeLine ∧
    ∀ g : Heap, CompRestT prog w A h₀ L m env ct elt x scope cl { s₁ with heap := g } (KcpAt d od) (fun i v => ∃ k y, kvs[i]? = some (k, y) ∧ (PySem.strKind prog w).is k v = true) (Fin { s₁ with heap := g }) kvs.length 0 [] news
theorem SrcK.intro {prog : Program} {A : Around} {env : Env} {ct elt : PySem.Expr} {x : Str} {scope : Scope} {Fin : Shared → List Value → List (Addr × Obj) → Prop} {d : Addr} {od : Obj} {kvs : List (Str × Value)} {news : List (Addr × Obj)} {s₁ : Shared}
    (hh : A.handled = none) (F : Fr h₀ L s₁.heap m) (N : News h₀ L s₁.heap news) (hmd : (d, od) ∈ news) (hN : od.IsDictOf (PySem.strKind prog w) kvs) (lo : (d == sysModules) = false) (hsz : kvs.length ≤ sizeLine)
    (h : ∀ g : Heap, CompRestT prog w A h₀ L m env ct elt x scope cl { s₁ with heap := g } (KcpAt d od) (fun i v => ∃ k y, kvs[i]? = some (k, y) ∧ (PySem.strKind prog w).is k v = true) (Fin { s₁ with heap := g }) kvs.length 0 [] news) :
    SrcK prog w A h₀ L m env ct elt x scope cl Fin (.ref d) s₁ := ⟨d, od, kvs, news, rfl, hh, F, N, hmd, hN, lo, hsz, h⟩
theorem ListComp_K {prog : Program} {A : Around} {env : Env} {ct elt iter : PySem.Expr} {x : Str} {px : Pos} {scope : Scope} {pos : Pos} (_F₀ : Fr h₀ L s.heap m)
    (hclos : closureFor scope env = pure cl) (hcell : ∀ y ∈ scope.names, y.2 ≠ .cell) (hkind : scope.kind = .function)
    (hnames : ∀ y ∈ scope.names, y.2 = .local → scope.names.lookup y.1 = some .local) (hx : scope.names.lookup x = some .local)
    (h : wpAny (model prog w) A (eval iter env) (SrcK prog w A h₀ L m env ct elt x scope cl (fun s₂ => FinE h₀ L m s₂ Q)) E s)
    (hs : ∀ x, foldedSetIterable iter env x = pure x := by intro _; rfl) :
    wpAny (model prog w) A (eval (.ListComp elt [⟨.Name x px, iter, [ct], 0⟩] scope pos) env) Q E s := by
  rw [eval_ListComp]
  refine wpAny_comprehension_free (use := none) rfl hs hclos hkind hnames (wpAny_mono h (fun xv s₁ h₁ => ?_) fun _ _ e => e)
  obtain ⟨d, od, kvs, news, rfl, hh, F, N, hmd, hN, lo, hsz, R⟩ := h₁
  obtain ⟨ep, hat⟩ := KdkAt.of hN
  have hD := hat.dictAt (N _ hmd).1
  refine wpAny_pyIter_dict lo hD ?_
  have hlt : d < s₁.heap.objs.size := Heap.lt_size (N _ hmd).1
  refine block_T (S := KcpAt d od) (Walks.dictKeys hh s₁.heap.objs.size d (Nat.ne_of_lt hlt) kvs ep) hsz (fun i h st => by obtain ⟨o, e, _⟩ := st.1; exact ⟨o, e⟩)
    (fun i h h' o nw st e e' _ N' S' => ⟨by obtain ⟨o', q, r⟩ := st.1; rw [e] at q; cases q; exact ⟨o, e', r⟩, hat.dictAt (N' _ S'.mem).1⟩) hcell hkind hx ⟨⟨_, Heap.get?_push_size _ rfl, rfl, rfl⟩, hD.push _⟩ (fun b hb => ?_)
    (F.push _) (fun p hp => ⟨Heap.get?_push_of_some _ (N p hp).1, (N p hp).2⟩) (Nat.ne_of_lt F.ns.lt) (next_is_new F) (fun p hp => Nat.ne_of_lt (Heap.lt_size (N p hp).1)) (.inr ⟨od, hmd, rfl, 0, rfl⟩) (R _) ?_
  · show b < (s₁.heap.push _).objs.size
    rw [Heap.size_push]
    rcases List.mem_cons.mp hb with rfl | hb
    · exact Nat.lt_succ_self _
    · rw [List.mem_singleton.mp hb]; exact Nat.lt_succ_of_lt hlt
  · intro D C h tk m' ys news' F' N' o1 hn hC₀ hD₀ hCL hDL hCD offC fin
    refine ⟨m', hn, fun h'' hs'' => fin D h'' tk (F'.change hs'' hCL hC₀) (fun p hp => ?_) o1⟩
    refine ⟨hs''.extBut _ _ ?_ (N' p hp).1, (N' p hp).2⟩
    rcases List.mem_cons.mp hp with rfl | hp
    · exact Ne.symm hCD
    · exact offC p hp
theorem filt_keys {prog : Program} {A : Around} {env : Env} {c elt : PySem.Expr} {x : Str} {scope : Scope} {S : List (Addr × Obj) → Prop} {Fin : List Value → List (Addr × Obj) → Prop} {news0 : List (Addr × Obj)} {kvs : List (Str × Value)} (q : Str × Value → Bool)
    (turn : ∀ k v ys extra (t : Tok) I oI C oC D m₂ h tk (E' : Value → Shared → Prop), (k, v) ∈ kvs → NsObj oC m₂ → m₂ x = some (.str k t) → Fr h₀ L h m → News h₀ L h ((I, oI) :: (C, oC) :: (D, lst ys) :: (extra ++ news0)) → Off3 I C D (extra ++ news0) → ((@Ne Nat I C) ∧ (@Ne Nat I D) ∧ (@Ne Nat C D)) →
      wpAny (model prog w) A (isTrue c (compEnvC scope cl C env) (eval c (compEnvC scope cl C env))) (fun okb s₃ => if okb = true then
        wpAny (model prog w) A (eval elt (compEnvC scope cl C env)) (CompEnd h₀ L m { s with heap := h, toks := tk } I oI C oC D (lst ys) S (fun y news' => q (k, v) = true ∧ ∃ T t', y = .ref T ∧ news' = (T, tupO k t' v) :: (extra ++ news0))) E' s₃
        else CompEnd h₀ L m { s with heap := h, toks := tk } I oI C oC D (lst ys) S (fun _ news' => q (k, v) = false ∧ news' = extra ++ news0) .none s₃) E' { s with heap := h, toks := tk })
    (fin : ∀ ys extra, ys.length = (kvs.filter q).length → (∀ (j : Nat) (k : Str) (v : Value), (kvs.filter q)[j]? = some (k, v) → ∃ T t, ys[j]? = some (.ref T) ∧ (T, tupO k t v) ∈ extra ++ news0) → Fin ys (extra ++ news0)) :
    CompRestT prog w A h₀ L m env c elt x scope cl s S (fun i v => ∃ k y, kvs[i]? = some (k, y) ∧ (PySem.strKind prog w).is k v = true) Fin kvs.length 0 [] news0 := by
  refine cr_ind (R := fun k i ys news' => ∃ pre todo extra, kvs = pre ++ todo ∧ k = todo.length ∧ i = pre.length ∧ news' = extra ++ news0 ∧ ys.length = (pre.filter q).length ∧
    ∀ (j : Nat) (k : Str) (v : Value), (pre.filter q)[j]? = some (k, v) → ∃ T t, ys[j]? = some (.ref T) ∧ (T, tupO k t v) ∈ extra ++ news0) ?_ ?_ _ _ _ _ ⟨[], kvs, [], rfl, rfl, rfl, rfl, rfl, fun j k v e => by simp at e⟩
  · rintro n i ys news ⟨pre, todo, extra, e1, e2, rfl, rfl, e3, e4⟩ v₀ I oI C oC D m₂ h tk E' ⟨k₀, y₀, g0, g0'⟩ g1 g2 g4 g5 g6 g7
    cases todo with
    | nil => simp at e2
    | cons kv todo =>
      obtain ⟨k, v⟩ := kv
      have e2' : n = todo.length := by simpa using e2
      rw [e1, List.getElem?_append_right (Nat.le_refl _), Nat.sub_self] at g0
      simp only [List.getElem?_cons_zero, Option.some.injEq, Prod.mk.injEq] at g0
      obtain ⟨rfl, rfl⟩ := g0
      obtain ⟨t, rfl⟩ := Value.isStrOf_shape g0'
      refine wpAny_mono (turn k v ys extra t I oI C oC D m₂ h tk E' (by rw [e1]; simp) g1 g2 g4 g5 g6 g7) (fun okb s₃ hs => ?_) fun _ _ e => e
      have e1' : kvs = (pre ++ [(k, v)]) ++ todo := by rw [e1]; simp
      have e5 : pre.length + 1 = (pre ++ [(k, v)]).length := by simp
      cases okb with
      | true =>
        simp only [if_true] at hs ⊢
        refine wpAny_mono hs (fun _ _ z => compEnd_mono z fun y n z => ?_) fun _ _ e => e
        obtain ⟨z1, T, t', rfl, rfl⟩ := z
        refine ⟨pre ++ [(k, v)], todo, (T, tupO k t' v) :: extra, e1', e2', e5, rfl, by rw [filter_snoc, if_pos z1]; simp [e3], fun j k' v' hj => ?_⟩
        rw [filter_snoc, if_pos z1] at hj
        rcases Nat.lt_or_ge j (pre.filter q).length with hl | hl
        · rw [List.getElem?_append_left hl] at hj
          obtain ⟨T', t'', a1, a2⟩ := e4 j k' v' hj
          exact ⟨T', t'', by rw [List.getElem?_append_left (by omega)]; exact a1, List.mem_cons_of_mem _ a2⟩
        · rw [List.getElem?_append_right hl] at hj
          have hz : j - (pre.filter q).length = 0 := by
            rcases Nat.eq_zero_or_pos (j - (pre.filter q).length) with h0 | h0
            · exact h0
            · rw [List.getElem?_eq_none (by simp; omega)] at hj; cases hj
          rw [hz] at hj
          simp only [List.getElem?_cons_zero, Option.some.injEq, Prod.mk.injEq] at hj
          obtain ⟨rfl, rfl⟩ := hj
          exact ⟨T, t', by rw [List.getElem?_append_right (by omega), e3, hz]; rfl, List.mem_cons_self ..⟩
      | false =>
        simp only [Bool.false_eq_true, if_false] at hs ⊢
        refine compEnd_mono hs fun y n z => ?_
        obtain ⟨z1, rfl⟩ := z
        exact ⟨pre ++ [(k, v)], todo, extra, e1', e2', e5, rfl, by rw [filter_snoc, if_neg (by simp [z1])]; exact e3, by rw [filter_snoc, if_neg (by simp [z1])]; exact e4⟩
  · rintro i ys news ⟨pre, todo, extra, e1, e2, -, rfl, e3, e4⟩
    cases todo with
    | cons kv todo => simp at e2
    | nil =>
      rw [List.append_nil] at e1
      subst e1
      exact fin ys extra e3 e4
end
end
section
local macro_rules | `(tactic| k_all) => `(tactic| assumption)
local macro_rules | `(tactic| k_room) => `(tactic| ktr_room)
local macro_rules | `(tactic| walk_at "call builtin:len") => `(tactic| (k_here; (with_reducible show wpAny _ _ (call (Value.builtin "len") [Value.ref _]) _ _ _); k_dflt (refine' kst_len ?k1 ?k2 rfl ?k4 ?_; (case k1 => k_asm); (case k2 => k_mem); (case k4 => ((try simp only [List.size_toArray, List.length_append, List.length_cons, List.length_nil]); omega))); k_whole))
local macro_rules | `(tactic| walk_at "call builtin:list.append") => `(tactic| (k_here; (with_reducible show wpAny _ _ (call (Value.builtin _) [Value.ref _, _]) _ _ _); k_dflt (refine' append_K ?k1 ?k2 ?k3 ?_ ?z; (case k1 => k_asm); (case k2 => k_asm); (case k3 => k_upd); (case z => (rw [sizeLine_eq]; simp only [List.size_toArray]; omega)); k_whole); intro h' F' N'; (try simp only [List.push_toArray] at N'); (try k_sweep)))
variable {w : World} {mean : ExcName → Option Value} {mg mb : Str → Option Value} {dp un : Nat} {gd : Option (List Code)} {cn : Str} {cs : Scope} {a : Addr} {ccd : Value} {cl : List (Str × Addr)} {outer : List Env} {A₀ : Around} {base h₀ : Heap} {L : Addr} {m : Str → Option Value} {s : Shared} {Q E : Value → Shared → Prop}
theorem valueAt_stored (kvs : List (Str × Value)) (nm : Str) (v : Value) : valueAt (stored kvs nm v) nm = some v := by
  unfold stored
  by_cases h : kvs.any (fun kv => decide (kv.1 = nm)) = true
  · rw [if_pos h]
    induction kvs with
    | nil => simp at h
    | cons p r ih =>
      by_cases e : p.1 = nm
      · simp [valueAt, e]
      · have h' : r.any (fun kv => decide (kv.1 = nm)) = true := by simpa [e] using h
        have := ih h'
        simpa [valueAt, e] using this
  · rw [if_neg h]
    have hn : valueAt kvs nm = none := by
      have := valueAt_isSome_eq_any kvs nm
      rw [Bool.eq_false_iff.mpr h] at this
      cases hv : valueAt kvs nm with
      | none => rfl
      | some x => rw [hv] at this; simp at this
    simp only [valueAt, Option.map_eq_none_iff] at hn
    simp [valueAt, List.find?_append, hn]
theorem news_p4 {h₀ h : Heap} {L : Addr} {a b c d : Addr × Obj} {l : List (Addr × Obj)} (N : News h₀ L h (a :: b :: c :: d :: l)) : News h₀ L h (b :: c :: d :: a :: l) := news_sub N fun p hp => by
    simp only [List.mem_cons] at hp ⊢
    rcases hp with h | h | h | h | h
    · exact .inr (.inl h)
    · exact .inr (.inr (.inl h))
    · exact .inr (.inr (.inr (.inl h)))
    · exact .inl h
    · exact .inr (.inr (.inr (.inr h)))
theorem news_p4' {h₀ h : Heap} {L : Addr} {a b c d e f : Addr × Obj} {l : List (Addr × Obj)} (N : News h₀ L h (b :: c :: d :: e :: f :: a :: l)) : News h₀ L h (a :: b :: c :: d :: e :: f :: l) := news_sub N fun p hp => by
    simp only [List.mem_cons] at hp ⊢
    rcases hp with h | h | h | h | h | h | h
    · exact .inr (.inr (.inr (.inr (.inr (.inl h)))))
    · exact .inl h
    · exact .inr (.inl h)
    · exact .inr (.inr (.inl h))
    · exact .inr (.inr (.inr (.inl h)))
    · exact .inr (.inr (.inr (.inr (.inl h))))
    · exact .inr (.inr (.inr (.inr (.inr (.inr h)))))
theorem news_q4 {h₀ h : Heap} {L : Addr} {a b c d : Addr × Obj} {l : List (Addr × Obj)} (N : News h₀ L h (a :: b :: c :: d :: l)) : News h₀ L h (d :: c :: a :: b :: l) := news_sub N fun p hp => by
    simp only [List.mem_cons] at hp ⊢
    rcases hp with h | h | h | h | h
    · exact .inr (.inr (.inr (.inl h)))
    · exact .inr (.inr (.inl h))
    · exact .inl h
    · exact .inr (.inl h)
    · exact .inr (.inr (.inr (.inr h)))
theorem news_q4' {h₀ h : Heap} {L : Addr} {a b c d : Addr × Obj} {l : List (Addr × Obj)} (N : News h₀ L h (d :: c :: a :: b :: l)) : News h₀ L h (a :: b :: c :: d :: l) := news_sub N fun p hp => by
    simp only [List.mem_cons] at hp ⊢
    rcases hp with h | h | h | h | h
    · exact .inr (.inr (.inl h))
    · exact .inr (.inr (.inr (.inl h)))
    · exact .inr (.inl h)
    · exact .inl h
    · exact .inr (.inr (.inr (.inr h)))
def NewAt (S D : Addr) (_q1 _q2 _q3 : Tok) (RR : List (Addr × Obj)) : Prop := @LT.lt Nat _ D S ∧ ∀ p ∈ RR, @LT.lt Nat _ p.1 D
def GoneAt (x : Addr) (RR : List (Addr × Obj)) : Prop := ∀ p ∈ RR, @LT.lt Nat _ p.1 x
theorem fresh_W {tb td ra na : Addr} {t1 t2 tn : Tok} {rc : Nat} {sa : List Addr} {nm : Str} {oN : Obj} {rest : List (Addr × Obj)}
    (B : Below A₀ base outer h₀) (F : Fr h₀ L s.heap m) (X : (hd.heap_39 w.params).In h₀) (N : News h₀ L s.heap ((na, oN) :: (ra, W.listOf (List.toArray (sa.map Value.ref)) rc) :: (tb, instObj 112 td) :: (td, tabD w t1 t2 ra na) :: rest))
    (T : Top hd.view_39 (looseW hd.view_39 [Str.ofString "NIL", Str.ofString "T"]) mean mg mb h₀) (hk : cs.kind = .function) (hdp : dp + 10 < recursionLimit)
    (hlen : sa.length ≤ 100) (hne1 : @Ne Nat tb ra) (hne2 : @Ne Nat td ra) (hne3 : @Ne Nat tb td) (hne4 : @Ne Nat na ra) (hoff : ∀ p ∈ rest, p.1 ≠ ra)
    (hret : ∀ h' tk' S D t1' t2' t3', Fr h₀ L h' m → News h₀ L h' ((na, oN) :: (ra, W.listOf (List.toArray ((sa ++ [S]).map Value.ref)) (rc + 1)) :: (tb, instObj 112 td) :: (td, tabD w t1 t2 ra na) :: (S, instObj 31 D) :: (D, symD w t1' t2' t3' tn sa.length nm) :: rest) →
      NewAt S D t1' t2' t3' rest → (@LT.lt Nat _ na D ∧ @LT.lt Nat _ ra D ∧ @LT.lt Nat _ tb D ∧ @LT.lt Nat _ td D ∧ AllLt D rest) → D < S → Q (.ref S) { s with heap := h', toks := tk' }) :
    wpAny (model PySem.Challenge.rw_ok0040_01.row.prog w) (ktrTop dp un gd cn cs L a ccd cl outer) (call (.ref 76) [.ref tb, .str nm tn]) Q E s := by
  refine fresh_ok (rv := sa.map Value.ref) B F X (news_p4 N) T hk hdp (by simpa using hlen) hne1 hne2 hne3 (fun p hp => ?_) fun h' tk' S D t1' t2' t3' F' N' l1 l2 => ?_
  · rcases List.mem_cons.mp hp with rfl | hp
    · exact hne4
    · exact hoff p hp
  · rw [List.length_map] at N'
    refine hret h' tk' S D t1' t2' t3' F' ?_ ⟨l2, fun p hp => allLt_mem l1.2.2.2 p (List.mem_cons_of_mem _ hp)⟩ ⟨l1.2.2.2.1, l1.1, l1.2.1, l1.2.2.1, l1.2.2.2.2⟩ l2
    rw [List.map_append]
    exact news_p4' N'
theorem intern_W {tb td ra na : Addr} {t1 t2 tn : Tok} {rc : Nat} {sa : List Addr} {nm : Str} {oN : Obj} {kvs : List (Str × Value)} {rest : List (Addr × Obj)}
    (B : Below A₀ base outer h₀) (F : Fr h₀ L s.heap m) (X : (hd.heap_39 w.params).In h₀) (N : News h₀ L s.heap ((na, oN) :: (ra, W.listOf (List.toArray (sa.map Value.ref)) rc) :: (tb, instObj 112 td) :: (td, tabD w t1 t2 ra na) :: rest))
    (T : Top hd.view_39 (looseW hd.view_39 [Str.ofString "NIL", Str.ofString "T"]) mean mg mb h₀) (hk : cs.kind = .function) (hdp : dp + 10 < recursionLimit)
    (hN : oN.IsDictOf (SK w) kvs) (lo : (na == sysModules) = false) (hv : valueAt kvs nm = none) (hkl : kvs.length ≤ 100)
    (hlen : sa.length ≤ 100) (hne1 : @Ne Nat tb ra) (hne2 : @Ne Nat td ra) (hne3 : @Ne Nat tb td) (hne4 : @Ne Nat na ra) (hne5 : @Ne Nat na tb) (hne6 : @Ne Nat na td) (hoff : ∀ p ∈ rest, p.1 ≠ ra) (hoff2 : ∀ p ∈ rest, p.1 ≠ na)
    (hret : ∀ h' tk' S D o' t1' t2' t3', Fr h₀ L h' m → News h₀ L h' ((na, o') :: (ra, W.listOf (List.toArray ((sa ++ [S]).map Value.ref)) (rc + 1)) :: (tb, instObj 112 td) :: (td, tabD w t1 t2 ra na) :: (S, instObj 31 D) :: (D, symD w t1' t2' t3' tn sa.length nm) :: rest) →
      o'.IsDictOf (SK w) (stored kvs nm (Value.ref S)) → valueAt (stored kvs nm (Value.ref S)) nm = some (Value.ref S) → NewAt S D t1' t2' t3' rest → (@LT.lt Nat _ ra D ∧ @LT.lt Nat _ na D ∧ @LT.lt Nat _ tb D ∧ @LT.lt Nat _ td D ∧ AllLt D rest) → D < S → Q (.ref S) { s with heap := h', toks := tk' }) :
    wpAny (model PySem.Challenge.rw_ok0040_01.row.prog w) (ktrTop dp un gd cn cs L a ccd cl outer) (call (.ref 62) [.ref tb, .str nm tn]) Q E s := by
  refine intern_new (rv := sa.map Value.ref) B F X N T hk hdp hN lo hv hkl (by simpa using hlen) hne1 hne2 hne3 hne4 hne5 hne6 hoff hoff2 fun h' tk' S D o' t1' t2' t3' F' N' hN' l1 l2 => ?_
  rw [List.length_map] at N'
  refine hret h' tk' S D o' t1' t2' t3' F' ?_ hN' (valueAt_stored _ _ _) ⟨l2, fun p hp => allLt_mem l1.2.2.2.2 p hp⟩ l1 l2
  rw [List.map_append]
  exact N'
theorem unint_no_W {tb td ra na : Addr} {t1 t2 tn : Tok} {nm : Str} {oN oR : Obj} {kvs : List (Str × Value)} {rest : List (Addr × Obj)}
    (B : Below A₀ base outer h₀) (F : Fr h₀ L s.heap m) (X : (hd.heap_39 w.params).In h₀) (N : News h₀ L s.heap ((na, oN) :: (ra, oR) :: (tb, instObj 112 td) :: (td, tabD w t1 t2 ra na) :: rest))
    (T : Top hd.view_39 (looseW hd.view_39 [Str.ofString "NIL", Str.ofString "T"]) mean mg mb h₀) (hk : cs.kind = .function) (hdp : dp + 10 < recursionLimit)
    (hN : oN.IsDictOf (SK w) kvs) (lo : (na == sysModules) = false) (hv : (valueAt kvs nm).isSome = false)
    (hret : ∀ h' tk', Fr h₀ L h' m → News h₀ L h' ((na, oN) :: (ra, oR) :: (tb, instObj 112 td) :: (td, tabD w t1 t2 ra na) :: rest) → Q (.bool false) { s with heap := h', toks := tk' }) :
    wpAny (model PySem.Challenge.rw_ok0040_01.row.prog w) (ktrTop dp un gd cn cs L a ccd cl outer) (call (.ref 95) [.ref tb, .str nm tn]) Q E s :=
  unint_no B F X (news_q4 N) T hk hdp hN lo hv fun h' tk' F' N' => hret h' tk' F' (news_q4' N')
theorem unint_yes_W {tb td ra na : Addr} {t1 t2 tn : Tok} {nm : Str} {oN oR : Obj} {kvs : List (Str × Value)} {rest : List (Addr × Obj)}
    (B : Below A₀ base outer h₀) (F : Fr h₀ L s.heap m) (X : (hd.heap_39 w.params).In h₀) (N : News h₀ L s.heap ((na, oN) :: (ra, oR) :: (tb, instObj 112 td) :: (td, tabD w t1 t2 ra na) :: rest))
    (T : Top hd.view_39 (looseW hd.view_39 [Str.ofString "NIL", Str.ofString "T"]) mean mg mb h₀) (hk : cs.kind = .function) (hdp : dp + 10 < recursionLimit)
    (hN : oN.IsDictOf (SK w) kvs) (lo : (na == sysModules) = false) (hv : (valueAt kvs nm).isSome = true) (hkl : kvs.length ≤ 100)
    (hne1 : @Ne Nat tb td) (hne2 : @Ne Nat na td) (hne3 : @Ne Nat ra td) (hoff : ∀ p ∈ rest, p.1 ≠ td)
    (hret0 : (nm = Str.ofString "nil" ∨ nm = Str.ofString "t") → ∀ h' tk', Fr h₀ L h' m → News h₀ L h' ((na, oN) :: (ra, oR) :: (tb, instObj 112 td) :: (td, tabD w t1 t2 ra na) :: rest) → Q (.bool false) { s with heap := h', toks := tk' })
    (hret1 : ¬ (nm = Str.ofString "nil" ∨ nm = Str.ofString "t") → ∀ h' tk' na' oN' t1' t2', Fr h₀ L h' m → News h₀ L h' ((na', oN') :: (ra, oR) :: (tb, instObj 112 td) :: (td, tabD w t1' t2' ra na') :: rest) → oN'.IsDictOf (SK w) (kvs.filter fun p => decide (p.1 ≠ nm)) → (na' == sysModules) = false →
      GoneAt na' rest → (@LT.lt Nat _ tb na' ∧ @LT.lt Nat _ td na' ∧ @LT.lt Nat _ ra na' ∧ AllLt na' rest) → Q (.bool true) { s with heap := h', toks := tk' }) :
    wpAny (model PySem.Challenge.rw_ok0040_01.row.prog w) (ktrTop dp un gd cn cs L a ccd cl outer) (call (.ref 95) [.ref tb, .str nm tn]) Q E s := by
  refine unint_yes B F X (news_q4 N) T hk hdp hN lo hv hkl hne1 hne2 (fun p hp => ?_) (fun g h' tk' F' N' => hret0 g h' tk' F' (news_q4' N')) fun g h' tk' na' oN' t1' t2' F' N' hN' lo' l1 => hret1 g h' tk' na' oN' t1' t2' F' (news_q4' N') hN' lo' (fun p hp => allLt_mem l1.2.2.2 p hp) ⟨l1.1, l1.2.1, l1.2.2.1, l1.2.2.2⟩
  rcases List.mem_cons.mp hp with rfl | hp
  · exact hne3
  · exact hoff p hp
theorem Same.mono {rest rest' : List (Addr × Obj)} {sa : List Addr} {syms : List Str} {sv : List Value} {kvs lvs : List (Str × Value)} (M : Same w rest sa syms sv kvs lvs) (hs : ∀ p ∈ rest, p ∈ rest') : Same w rest' sa syms sv kvs lvs :=
  ⟨M.nodup, M.len, M.txt, M.ok, fun i b nm h1 h2 => (M.sym i b nm h1 h2).mono hs, M.twin⟩
theorem lawis_W {tb td ra na sr ld : Addr} {t1 t2 : Tok} {rc sc : Nat} {sa : List Addr} {sv : List Value} {syms : List Str} {oN oL : Obj} {kvs lvs : List (Str × Value)} {news : List (Addr × Obj)}
    (B : Below A₀ base outer h₀) (F : Fr h₀ L s.heap m) (X : (hd.heap_39 w.params).In h₀) (N : News h₀ L s.heap news)
    (T : Top hd.view_39 (looseW hd.view_39 [Str.ofString "NIL", Str.ofString "T"]) mean mg mb h₀) (hk : cs.kind = .function) (hdp : dp + 20 < recursionLimit) (hun : un + 160 < cLine)
    (h1 : (tb, instObj 112 td) ∈ news) (h2 : (td, tabD w t1 t2 ra na) ∈ news) (h3 : (ra, W.listOf (List.toArray (sa.map Value.ref)) rc) ∈ news) (h4 : (na, oN) ∈ news) (h5 : (sr, W.listOf (List.toArray sv) sc) ∈ news) (h6 : (ld, oL) ∈ news)
    (hN : oN.IsDictOf (SK w) kvs) (lo : (na == sysModules) = false) (hL : oL.IsDictOf (SK w) lvs) (lo2 : (ld == sysModules) = false) (M : Same w news sa syms sv kvs lvs) (hn : syms.length ≤ 60) (hkl : kvs.length < 64)
    (hret : ∀ h' tk', Fr h₀ L h' m → News h₀ L h' news → Q (.bool true) { s with heap := h', toks := tk' }) :
    wpAny (model PySem.Challenge.rw_ok0040_01.row.prog w) (ktrTop dp un gd cn cs L a ccd cl outer) (call (.ref 130) [.ref tb, .ref sr, .ref ld]) Q E s := by
  refine lawis_ok (rest := news) (td := td) (ra := ra) (t1 := t1) (t2 := t2) (rc := rc) (sc := sc) B F X (fun p hp => ?_) T hk hdp hun hN lo hL lo2 M hn hkl fun h' tk' F' N' => hret h' tk' F' (news_tl (news_tl (news_tl (news_tl (news_tl (news_tl N'))))))
  simp only [List.mem_cons] at hp
  rcases hp with rfl | rfl | rfl | rfl | rfl | rfl | hp
  · exact N _ h1
  · exact N _ h2
  · exact N _ h3
  · exact N _ h4
  · exact N _ h5
  · exact N _ h6
  · exact N _ hp
theorem sym_lt {news rest : List (Addr × Obj)} {S b : Addr} {o : Obj} {i : Int} {nm : Str} {h : Heap} (X : (hd.heap_39 w.params).In h₀) (N : News h₀ L h news) (hS : (S, o) ∈ news) (hlt : ∀ p ∈ rest, p.1 < S) (hb : SymIn w rest b i nm) : S ≠ b := by
  rintro rfl
  have hn := (N _ hS).2.2
  rcases sym_base X hb with ⟨o', g⟩ | ⟨o', g⟩
  · exact Nat.lt_irrefl _ (hlt _ g)
  · simp only at hn
    rw [hn] at g; cases g
theorem Same.push {rest : List (Addr × Obj)} {sa : List Addr} {syms : List Str} {sv : List Value} {kvs lvs : List (Str × Value)} (M : Same w rest sa syms sv kvs lvs) {S : Addr} {nm : Str} (hS : SymIn w rest S ((sa.length : Nat) : Int) nm) (hf : ∀ b ∈ sa, S ≠ b) (ok : PySem.PyData.strOk nm = true) (t : Tok) :
    Same w rest (sa ++ [S]) (syms ++ [nm]) (sv ++ [.str nm t]) kvs lvs := by
  refine ⟨?_, by simp [M.len], strs_snoc nm t M.txt, fun x hx => ?_, fun i b nm' h1 h2 => ?_, M.twin.mono S nm⟩
  · rw [List.nodup_append]
    exact ⟨M.nodup, by simp, fun b hb c hc => by rw [List.mem_singleton.mp hc]; exact (hf b hb).symm⟩
  · rcases List.mem_append.mp hx with hx | hx
    · exact M.ok x hx
    · rw [List.mem_singleton.mp hx]; exact ok
  · rcases Nat.lt_or_ge i sa.length with hi | hi
    · rw [List.getElem?_append_left hi] at h1
      rw [List.getElem?_append_left (by rw [← M.len]; exact hi)] at h2
      exact M.sym i b nm' h1 h2
    · have e : i = sa.length := by
        have := (List.getElem?_eq_some_iff.mp h1).1
        simp at this; omega
      subst e
      rw [List.getElem?_append_right (Nat.le_refl _), Nat.sub_self] at h1
      rw [List.getElem?_append_right (by rw [M.len]; exact Nat.le_refl _), M.len, Nat.sub_self] at h2
      simp only [List.getElem?_cons_zero, Option.some.injEq] at h1 h2
      subst h1; subst h2
      exact hS
theorem Same.mem {rest : List (Addr × Obj)} {sa : List Addr} {syms : List Str} {sv : List Value} {kvs lvs : List (Str × Value)} (M : Same w rest sa syms sv kvs lvs) {b : Addr} (hb : b ∈ sa) : ∃ i nm, SymIn w rest b i nm := by
  obtain ⟨i, hi⟩ := List.getElem?_of_mem hb
  have hlt := (List.getElem?_eq_some_iff.mp hi).1
  exact ⟨_, _, M.sym i b _ hi (List.getElem?_eq_getElem (by rw [← M.len]; exact hlt))⟩
theorem Same.bind {rest : List (Addr × Obj)} {sa : List Addr} {syms : List Str} {sv : List Value} {kvs lvs : List (Str × Value)} {S : Addr} {nm : Str} {t : Tok} {n : Nat} (M : Same w rest (sa ++ [S]) (syms ++ [nm]) sv kvs lvs) (hn : n = sa.length) (h1 : valueAt kvs nm = none) (h2 : valueAt lvs nm = none) :
    Same w rest (sa ++ [S]) (syms ++ [nm]) sv (stored kvs nm (.ref S)) (stored lvs nm (.int (n : Int) t)) := by
  subst hn
  have hl : sa.length = syms.length := by have := M.len; simpa using this
  rw [stored_new h1, stored_new h2]
  exact ⟨M.nodup, M.len, M.txt, M.ok, M.sym, M.twin.snoc (by simp) (by rw [hl]; simp)⟩
theorem Same.filter {rest : List (Addr × Obj)} {sa : List Addr} {syms : List Str} {sv : List Value} {kvs lvs : List (Str × Value)} (M : Same w rest sa syms sv kvs lvs) (q : Str → Bool) : Same w rest sa syms sv (kvs.filter fun p => q p.1) (lvs.filter fun p => q p.1) :=
  ⟨M.nodup, M.len, M.txt, M.ok, M.sym, M.twin.filter q⟩

theorem push_new {news rest RR : List (Addr × Obj)} {S D : Addr} {q1 q2 q3 q4 : Tok} {h : Heap} {sa : List Addr} {syms : List Str} {sv : List Value} {kvs lvs : List (Str × Value)} {nm : Str} (hn : NewAt S D q1 q2 q3 RR) (X : (hd.heap_39 w.params).In h₀) (N : News h₀ L h news)
    (hS : (S, instObj 31 D) ∈ news) (_hD : (D, symD w q1 q2 q3 q4 ((sa.length : Nat) : Int) nm) ∈ news) (hr : ∀ p ∈ rest, p ∈ RR) (M : Same w rest sa syms sv kvs lvs) (ok : PySem.PyData.strOk nm = true) (t : Tok) :
    Same w ((S, instObj 31 D) :: (D, symD w q1 q2 q3 q4 ((sa.length : Nat) : Int) nm) :: rest) (sa ++ [S]) (syms ++ [nm]) (sv ++ [.str nm t]) kvs lvs := by
  refine (M.mono fun p hp => List.mem_cons_of_mem _ (List.mem_cons_of_mem _ hp)).push (.inl ⟨D, q1, q2, q3, q4, List.mem_cons_self .., List.mem_cons_of_mem _ (List.mem_cons_self ..)⟩) (fun b hb => ?_) ok t
  obtain ⟨i, nm', hb'⟩ := M.mem hb
  exact sym_lt X N hS (fun p hp => Nat.lt_trans (hn.2 p (hr p hp)) hn.1) hb'
theorem new_off {S D y : Addr} {oS oD : Obj} {q1 q2 q3 : Tok} {RR rest : List (Addr × Obj)} (hn : NewAt S D q1 q2 q3 RR) (hy : @LT.lt Nat _ y D) (h : ∀ p ∈ rest, p.1 ≠ y) : ∀ p ∈ (S, oS) :: (D, oD) :: rest, p.1 ≠ y := by
  intro p hp
  rcases List.mem_cons.mp hp with rfl | hp
  · exact Nat.ne_of_gt (Nat.lt_trans hy hn.1)
  · rcases List.mem_cons.mp hp with rfl | hp
    · exact Nat.ne_of_gt hy
    · exact h p hp
theorem new_gt {S D y : Addr} {oS oD : Obj} {q1 q2 q3 : Tok} {RR rest : List (Addr × Obj)} (hn : NewAt S D q1 q2 q3 RR) (hy : @LT.lt Nat _ y D) (h : ∀ p ∈ rest, @LT.lt Nat _ y p.1) : ∀ p ∈ (S, oS) :: (D, oD) :: rest, @LT.lt Nat _ y p.1 := by
  intro p hp
  rcases List.mem_cons.mp hp with rfl | hp
  · exact Nat.lt_trans hy hn.1
  · rcases List.mem_cons.mp hp with rfl | hp
    · exact hy
    · exact h p hp
theorem gone_off {y : Addr} {RR rest : List (Addr × Obj)} (hg : GoneAt y RR) (hr : ∀ p ∈ rest, p ∈ RR) : ∀ p ∈ rest, p.1 ≠ y := fun p hp => Nat.ne_of_lt (hg p (hr p hp))
theorem my_dict_gone {prog : Program} {A : Around} {news small : List (Addr × Obj)} {l : Addr} {ys : List Value} {kvs : List (Str × Value)} (hh : A.handled = none) (F : Fr h₀ L s.heap m) (N : News h₀ L s.heap ((l, LCg.lst ys) :: news)) (hbig : sysModules < h₀.objs.size)
    (hlen : ys.length = kvs.length) (hT : ∀ (j : Nat) (k : Str) (v : Value), kvs[j]? = some (k, v) → ∃ T t, ys[j]? = some (.ref T) ∧ (T, tupO k t v) ∈ news) (hnd : (kvs.map (·.1)).Nodup) (hz : kvs.length ≤ 1000) (hsub : ∀ p ∈ small, p ∈ news)
    (h : ∀ (D : Addr) oD h' tk, Fr h₀ L h' m → News h₀ L h' ((D, oD) :: small) → (∀ q ∈ small, q.1 < D) → oD.IsDictOf (PySem.strKind prog w) kvs → (D == sysModules) = false → GoneAt D small → Q (.ref D) { s with heap := h', toks := tk }) :
    wpAny (model prog w) A (call (.type "dict") [.ref l]) Q E s :=
  my_dict_small hh F N hbig hlen hT hnd hz hsub fun D oD h' tk F' N' l1 hd lo => h D oD h' tk F' N' l1 hd lo l1
theorem filter_all {kvs : List (Str × Value)} {nm : Str} {c : Bool} (h : c = true) : kvs.filter (fun p => decide (p.1 ≠ nm) || c) = kvs := by
  subst h; simp
theorem filter_none {kvs : List (Str × Value)} {nm : Str} {c : Bool} (h : valueAt kvs nm = none) : kvs.filter (fun p => decide (p.1 ≠ nm) || c) = kvs := by
  rw [List.filter_eq_self]
  intro p hp
  have : (valueAt kvs nm).isSome = false := by rw [h]; rfl
  rw [valueAt_isSome_eq_any, List.any_eq_false] at this
  have := this p hp
  simp only [decide_eq_true_eq] at this
  simp [this]
theorem filter_some {kvs : List (Str × Value)} {nm : Str} {c : Bool} (h : c = false) : kvs.filter (fun p => decide (p.1 ≠ nm) || c) = kvs.filter (fun p => decide (p.1 ≠ nm)) := by
  subst h; simp
theorem valueAt_of_mem {kvs : List (Str × Value)} {k : Str} {v : Value} (hn : (kvs.map (·.1)).Nodup) (h : (k, v) ∈ kvs) : valueAt kvs k = some v := by
  obtain ⟨i, hi⟩ := List.getElem?_of_mem h
  exact valueAt_of_get hn hi
theorem gone1 {x y nm : Str} (h : nm = x ∨ nm = y) : ¬ ((false != !([x, y].any fun z => z == nm)) = true) := by
  rcases h with rfl | rfl <;> simp
theorem gone2 {x y nm : Str} (h : ¬ (nm = x ∨ nm = y)) : ¬ ((true != !([x, y].any fun z => z == nm)) = true) := by
  have : ([x, y].any fun z => z == nm) = false := by
    simp only [not_or] at h
    simp [Ne.symm h.1, Ne.symm h.2]
  rw [this]; simp
theorem len_stored {kvs : List (Str × Value)} {nm : Str} {v : Value} (h : valueAt kvs nm = none) : (stored kvs nm v).length = kvs.length + 1 := by rw [stored_new h]; simp
theorem spost_of {L I : Addr} {oI : Obj} {x : Str} {ys : List Str} {m₀ m' : Str → Option Value} {J : List (Addr × Obj) → Prop} {s₁ : Shared} {Q : Flow → Shared → Prop} {h' : Heap} {tk : Nat} (F : Fr h₀ L h' m') (hm : ∀ z, z ≠ x → z ∉ ys → m' z = m₀ z)
    (D : ∃ nx, News h₀ L h' ((I, oI) :: nx) ∧ (∀ p ∈ nx, p.1 ≠ I) ∧ J nx) : SPost h₀ L I oI x ys m₀ J s₁ Q .next { s₁ with heap := h', toks := tk } := by
  obtain ⟨nx, n1, n2, n3⟩ := D
  exact ⟨h', tk, m', nx, rfl, F, n1, n2, hm, n3⟩
theorem off1_sub1 {D : Addr} {extra l : List (Addr × Obj)} {a : Addr × Obj} (_h : LCg.Off1 D (extra ++ a :: l)) : ∀ p ∈ l, p ∈ extra ++ a :: l := fun _ hp => List.mem_append_right extra (List.mem_cons_of_mem _ hp)
theorem off1_sub0 {D : Addr} {extra l : List (Addr × Obj)} (_h : LCg.Off1 D (extra ++ l)) : ∀ p ∈ l, p ∈ extra ++ l := fun _ hp => List.mem_append_right extra hp
theorem Same.bind_of {rest : List (Addr × Obj)} {sa : List Addr} {syms : List Str} {sv : List Value} {kvs lvs : List (Str × Value)} {S : Addr} {nm : Str} {t : Tok} {n : Nat} {oL : Obj} (M : Same w rest (sa ++ [S]) (syms ++ [nm]) sv kvs lvs) (hn : n = sa.length) (h1 : valueAt kvs nm = none) (h2 : valueAt lvs nm = none)
    (_hd : oL.IsDictOf (SK w) (stored lvs nm (.int (n : Int) t))) : Same w rest (sa ++ [S]) (syms ++ [nm]) sv (stored kvs nm (.ref S)) (stored lvs nm (.int (n : Int) t)) := M.bind hn h1 h2
theorem news_rot5 {h₀ h : Heap} {L : Addr} {a b c d e : Addr × Obj} {l : List (Addr × Obj)} (N : News h₀ L h (a :: e :: b :: c :: d :: l)) : News h₀ L h (b :: c :: d :: a :: l) := news_sub N fun p hp => by
    simp only [List.mem_cons] at hp ⊢
    rcases hp with h | h | h | h | h
    · exact .inr (.inr (.inl h))
    · exact .inr (.inr (.inr (.inl h)))
    · exact .inr (.inr (.inr (.inr (.inl h))))
    · exact .inl h
    · exact .inr (.inr (.inr (.inr (.inr h))))
theorem q_ne {k nm : Str} {c : Bool} (h : (k != nm) = true) : (decide (k ≠ nm) || c) = true := by
  have : k ≠ nm := bne_iff_ne.mp h
  simp [this]
theorem q_in {k nm x y : Str} (h : ([x, y].any fun z => z == nm) = true) : (decide (k ≠ nm) || decide (nm = x ∨ nm = y)) = true := by
  have := any2_yes h
  simp [this]
theorem q_no {k nm x y : Str} (h1 : (k != nm) = false) (h : ([x, y].any fun z => z == nm) = false) : (decide (k ≠ nm) || decide (nm = x ∨ nm = y)) = false := by
  have e1 : k = nm := by simpa using h1
  have := any2_no h
  simp [e1, this]
end
section
local macro_rules | `(tactic| k_all) => `(tactic| assumption)
local macro_rules | `(tactic| k_room) => `(tactic| ktr_room)
local macro_rules | `(tactic| walk_at "call builtin:len") => `(tactic| (k_here; (with_reducible show wpAny _ _ (call (Value.builtin "len") [Value.ref _]) _ _ _); k_dflt (refine' kst_len ?k1 ?k2 rfl ?k4 ?_; (case k1 => k_asm); (case k2 => k_mem); (case k4 => ((try simp only [List.size_toArray, List.length_append, List.length_cons, List.length_nil]); omega))); k_whole))
local macro_rules | `(tactic| walk_at "call builtin:list.append") => `(tactic| (k_here; (with_reducible show wpAny _ _ (call (Value.builtin _) [Value.ref _, _]) _ _ _); k_dflt (refine' append_K ?k1 ?k2 ?k3 ?_ ?z; (case k1 => k_asm); (case k2 => k_asm); (case k3 => k_upd); (case z => (rw [sizeLine_eq]; simp only [List.size_toArray]; omega)); k_whole); intro h' F' N'; (try simp only [List.push_toArray] at N'); (try k_sweep)))
variable {w : World} {mean : ExcName → Option Value} {mg mb : Str → Option Value} {dp un : Nat} {gd : Option (List Code)} {cn : Str} {cs : Scope} {a : Addr} {ccd : Value} {cl : List (Str × Addr)} {outer : List Env} {A₀ : Around} {base h₀ : Heap} {L : Addr} {m : Str → Option Value} {s : Shared} {Q E : Value → Shared → Prop}
def LawJ (w : World) (cap : Nat) (tb td ra sr dk il cL cN : Addr) (ys : List Value) (nx : List (Addr × Obj)) : Prop :=
  ∃ (na ld : Addr) (t1 t2 t : Tok) (rc sc c : Nat) (sa : List Addr) (sv : List Value) (syms : List Str) (oN oL oCL oCN : Obj) (kvs lvs : List (Str × Value)) (k : Int) (x : Option Value) (rest : List (Addr × Obj)),
    nx = (na, oN) :: (ra, W.listOf (List.toArray (sa.map Value.ref)) rc) :: (tb, instObj 112 td) :: (td, tabD w t1 t2 ra na) :: (sr, W.listOf (List.toArray sv) sc) :: (ld, oL) :: (dk, W.listOf #[.ref il, .int k t] c) :: (il, LCg.lst ys) :: (cL, oCL) :: (cN, oCN) :: rest ∧
    oN.IsDictOf (SK w) kvs ∧ oL.IsDictOf (SK w) lvs ∧ (na == sysModules) = false ∧ (ld == sysModules) = false ∧ oCL.data = .cell (some (.ref ld)) ∧ oCN.data = .cell x ∧
    Same w rest sa syms sv kvs lvs ∧ syms.length ≤ 2 + cap ∧ kvs.length ≤ 2 + cap ∧ 0 ≤ k ∧ k ≤ 1 + 2 * (cap : Int) ∧
    (@LT.lt Nat _ ra na ∧ @Ne Nat na sr ∧ @LT.lt Nat _ sr ld ∧ @Ne Nat ld na) ∧ (∀ p ∈ rest, @LT.lt Nat _ sr p.1) ∧ (∀ p ∈ rest, p.1 ≠ na) ∧ (∀ p ∈ rest, p.1 ≠ ld)
theorem law_start {h : Heap} {L tb td ra sr dk il sl cL cN na ld D : Addr} {oT oN oL oS oCL oCN : Obj} {t1 t2 t q1 q2 u1 u2 : Tok} {rc sc c : Nat} {k : Int} {ys : List Value}
    (N : News h₀ L h [(D, oT), (ld, oL), (sr, W.listOf #[.str (Str.ofString "nil") q1, .str (Str.ofString "t") q2] sc), (na, oN), (ra, W.listOf #[.ref 37, .ref 40] rc), (tb, instObj 112 td), (td, tabD w t1 t2 ra na), (dk, W.listOf #[.ref il, .int k t] c), (il, LCg.lst ys), (sl, oS), (cN, oCN), (cL, oCL)])
    (hN : oN.IsDictOf (SK w) [(Str.ofString "nil", .ref 37), (Str.ofString "t", .ref 40)]) (hL : oL.IsDictOf (SK w) [(Str.ofString "nil", .int 0 u1), (Str.ofString "t", .int 1 u2)]) (lo : (na == sysModules) = false) (lo2 : (ld == sysModules) = false)
    (h1 : oCL.data = .cell (some (.ref ld))) (x : Option Value) (h2 : oCN.data = .cell x) (k0 : 0 ≤ k) (k1 : k ≤ 1) (o1 : @LT.lt Nat _ ra na) (o2 : @LT.lt Nat _ na sr) (o3 : @LT.lt Nat _ sr ld) :
    ∃ nx, News h₀ L h nx ∧ (∃ o, (sr, o) ∈ nx) ∧ LawJ w 0 tb td ra sr dk il cL cN ys nx := by
  refine ⟨_, ?_, ⟨_, List.mem_cons_of_mem _ (List.mem_cons_of_mem _ (List.mem_cons_of_mem _ (List.mem_cons_of_mem _ (List.mem_cons_self ..))))⟩, na, ld, t1, t2, t, rc, sc, c, [37, 40], _, [Str.ofString "nil", Str.ofString "t"], oN, oL, oCL, oCN, _, _, k, x, [], rfl, hN, hL, lo, lo2, h1, h2, ⟨by simp, rfl, .cons _ q1 (.cons _ q2 .nil), ?_, ?_, ?_⟩, by simp, by simp, k0, by simpa using k1, ⟨o1, Nat.ne_of_lt o2, o3, Nat.ne_of_gt (Nat.lt_trans o2 o3)⟩, by simp, by simp, by simp⟩
  · refine news_sub N fun p hp => ?_
    simp only [List.mem_cons, List.not_mem_nil, or_false] at hp ⊢
    rcases hp with h | h | h | h | h | h | h | h | h | h
    all_goals simp only [h, true_or, or_true]
    all_goals simp only [List.map_cons, List.map_nil, true_or, or_true]
  · intro z hz
    simp only [List.mem_cons, List.not_mem_nil, or_false] at hz
    rcases hz with rfl | rfl <;> decide +kernel
  · intro i b nm g1 g2
    match i with
    | 0 => simp at g1 g2; exact .inr (.inl ⟨g1.symm, rfl, g2.symm⟩)
    | 1 => simp at g1 g2; exact .inr (.inr ⟨g1.symm, rfl, g2.symm⟩)
    | n + 2 => simp at g1
  · exact .cons (i := 0) rfl rfl (.cons (i := 1) rfl rfl .nil)

abbrev canon (w : World) (na ra tb td sr ld dk il cL cN : Addr) (oN oL oCL oCN : Obj) (sa : List Addr) (sv ys : List Value) (rc sc c : Nat) (t1 t2 t : Tok) (k : Int) (rest : List (Addr × Obj)) : List (Addr × Obj) :=
  (na, oN) :: (ra, W.listOf (List.toArray (sa.map Value.ref)) rc) :: (tb, instObj 112 td) :: (td, tabD w t1 t2 ra na) :: (sr, W.listOf (List.toArray sv) sc) :: (ld, oL) :: (dk, W.listOf #[.ref il, .int k t] c) :: (il, LCg.lst ys) :: (cL, oCL) :: (cN, oCN) :: rest
theorem turn_prep {h : Heap} {L tb td ra sr dk il cL cN I : Addr} {oI : Obj} {cap : Nat} {ys : List Value} {nx : List (Addr × Obj)} (N : News h₀ L h ((I, oI) :: nx)) (J : LawJ w cap tb td ra sr dk il cL cN ys nx)
    (o1 : @LT.lt Nat _ cL cN) (o2 : @LT.lt Nat _ cN dk) (o3 : @LT.lt Nat _ il dk) (o4 : @LT.lt Nat _ dk td) (o5 : @LT.lt Nat _ td tb) (o6 : @LT.lt Nat _ tb ra) (o7 : @LT.lt Nat _ ra sr) (hI : @LT.lt Nat _ sr I) (hoff : ∀ p ∈ nx, p.1 ≠ I) :
    ∃ (na ld : Addr) (t1 t2 t : Tok) (rc sc c : Nat) (sa : List Addr) (sv : List Value) (syms : List Str) (oN oL oCL oCN : Obj) (kvs lvs : List (Str × Value)) (k : Int) (x : Option Value) (rest R : List (Addr × Obj)),
      News h₀ L h ((na, oN) :: (ra, W.listOf (List.toArray (sa.map Value.ref)) rc) :: (tb, instObj 112 td) :: (td, tabD w t1 t2 ra na) :: (sr, W.listOf (List.toArray sv) sc) :: (ld, oL) :: (dk, W.listOf #[.ref il, .int k t] c) :: (il, LCg.lst ys) :: (cL, oCL) :: (cN, oCN) :: R) ∧
      oN.IsDictOf (SK w) kvs ∧ oL.IsDictOf (SK w) lvs ∧ (na == sysModules) = false ∧ (ld == sysModules) = false ∧ oCL.data = .cell (some (.ref ld)) ∧ oCN.data = .cell x ∧
      Same w rest sa syms sv kvs lvs ∧ syms.length ≤ 2 + cap ∧ kvs.length ≤ 2 + cap ∧ 0 ≤ k ∧ k ≤ 1 + 2 * (cap : Int) ∧
      (@LT.lt Nat _ ra na ∧ @Ne Nat na sr ∧ @LT.lt Nat _ sr ld ∧ @Ne Nat ld na) ∧ (@Ne Nat na I ∧ @Ne Nat ld I) ∧ (∀ p ∈ rest, @LT.lt Nat _ sr p.1) ∧ (∀ p ∈ rest, p.1 ≠ na) ∧ (∀ p ∈ rest, p.1 ≠ ld) ∧ (∀ p ∈ rest, p.1 ≠ I) ∧
      (I, oI) ∈ R ∧ (∀ p ∈ rest, p ∈ R) ∧ (∀ p ∈ R, p.1 ≠ na) ∧ (∀ p ∈ R, p.1 ≠ ld) ∧ (∀ p ∈ R, p.1 ≠ sr) ∧ (∀ p ∈ R, p.1 ≠ ra) ∧ (∀ p ∈ R, p.1 ≠ td) ∧ (∀ p ∈ R, p.1 ≠ dk) ∧ (∀ p ∈ R, p.1 ≠ cL) ∧ (∀ p ∈ R, p.1 ≠ cN) := by
  obtain ⟨na, ld, t1, t2, t, rc, sc, c, sa, sv, syms, oN, oL, oCL, oCN, kvs, lvs, k, x, rest, rfl, hN, hL, lo, lo2, hc, hc2, M, l1, l2, k0, k1, od, r1, r2, r3⟩ := J
  have off : ∀ p ∈ rest, p.1 ≠ I := fun p hp => hoff p (by simp only [List.mem_cons]; simp only [hp, or_true])
  have nI : na ≠ I := hoff (na, oN) (List.mem_cons_self ..)
  have lI : ld ≠ I := hoff (ld, oL) (by simp only [List.mem_cons, true_or, or_true])
  have all : ∀ p ∈ (I, oI) :: rest, @LT.lt Nat _ sr p.1 := fun p hp => by
    rcases List.mem_cons.mp hp with rfl | hp
    · exact hI
    · exact r1 p hp
  refine ⟨na, ld, t1, t2, t, rc, sc, c, sa, sv, syms, oN, oL, oCL, oCN, kvs, lvs, k, x, rest, (I, oI) :: rest, ?_, hN, hL, lo, lo2, hc, hc2, M, l1, l2, k0, k1, od, ⟨nI, lI⟩, r1, r2, r3, off, List.mem_cons_self .., fun p hp => List.mem_cons_of_mem _ hp, ?_, ?_, ?_, ?_, ?_, ?_, ?_, ?_⟩
  · refine news_sub N fun p hp => ?_
    simp only [List.mem_cons] at hp ⊢
    rcases hp with h | h | h | h | h | h | h | h | h | h | h | h <;> simp only [h, true_or, or_true]
  · intro p hp
    rcases List.mem_cons.mp hp with rfl | hp
    · exact nI.symm
    · exact r2 p hp
  · intro p hp
    rcases List.mem_cons.mp hp with rfl | hp
    · exact lI.symm
    · exact r3 p hp
  all_goals (intro p hp; have := all p hp; exact Nat.ne_of_gt (by omega))
theorem turn_done {h : Heap} {L tb td ra sr dk il cL cN I na ld : Addr} {oI oN oL oCL oCN : Obj} {cap : Nat} {ys : List Value} {news rest : List (Addr × Obj)} {t1 t2 t : Tok} {rc sc c : Nat} {sa : List Addr} {sv : List Value} {syms : List Str} {kvs lvs : List (Str × Value)} {k : Int} {x : Option Value}
    (N : News h₀ L h news) (hI : (I, oI) ∈ news) (g1 : (na, oN) ∈ news) (g2 : (ra, W.listOf (List.toArray (sa.map Value.ref)) rc) ∈ news) (g3 : (tb, instObj 112 td) ∈ news) (g4 : (td, tabD w t1 t2 ra na) ∈ news) (g5 : (sr, W.listOf (List.toArray sv) sc) ∈ news) (g6 : (ld, oL) ∈ news)
    (g7 : (dk, W.listOf #[.ref il, .int k t] c) ∈ news) (g8 : (il, LCg.lst ys) ∈ news) (g9 : (cL, oCL) ∈ news) (g10 : (cN, oCN) ∈ news) (g11 : ∀ p ∈ rest, p ∈ news)
    (hN : oN.IsDictOf (SK w) kvs) (hL : oL.IsDictOf (SK w) lvs) (lo : (na == sysModules) = false) (lo2 : (ld == sysModules) = false) (hc : oCL.data = .cell (some (.ref ld))) (hc2 : oCN.data = .cell x)
    (M : Same w rest sa syms sv kvs lvs) (l1 : syms.length ≤ 2 + (cap + 1)) (l2 : kvs.length ≤ 2 + (cap + 1)) (k0 : 0 ≤ k) (k1 : k ≤ 1 + 2 * ((cap + 1 : Nat) : Int))
    (o1 : @LT.lt Nat _ cL cN) (o2 : @LT.lt Nat _ cN dk) (o3 : @LT.lt Nat _ il dk) (o4 : @LT.lt Nat _ dk td) (o5 : @LT.lt Nat _ td tb) (o6 : @LT.lt Nat _ tb ra) (o7 : @LT.lt Nat _ ra sr) (o8 : @LT.lt Nat _ sr I)
    (od : @LT.lt Nat _ ra na ∧ @Ne Nat na sr ∧ @LT.lt Nat _ sr ld ∧ @Ne Nat ld na) (oI' : @Ne Nat na I ∧ @Ne Nat ld I) (r1 : ∀ p ∈ rest, @LT.lt Nat _ sr p.1) (r2 : ∀ p ∈ rest, p.1 ≠ na) (r3 : ∀ p ∈ rest, p.1 ≠ ld) (r4 : ∀ p ∈ rest, p.1 ≠ I) :
    ∃ nx, News h₀ L h ((I, oI) :: nx) ∧ (∀ p ∈ nx, p.1 ≠ I) ∧ LawJ w (cap + 1) tb td ra sr dk il cL cN ys nx := by
  refine ⟨_, ?_, ?_, na, ld, t1, t2, t, rc, sc, c, sa, sv, syms, oN, oL, oCL, oCN, kvs, lvs, k, x, rest, rfl, hN, hL, lo, lo2, hc, hc2, M, l1, l2, k0, k1, od, r1, r2, r3⟩
  · intro p hp
    simp only [List.mem_cons] at hp
    rcases hp with rfl | rfl | rfl | rfl | rfl | rfl | rfl | rfl | rfl | rfl | rfl | hp
    · exact N _ hI
    · exact N _ g1
    · exact N _ g2
    · exact N _ g3
    · exact N _ g4
    · exact N _ g5
    · exact N _ g6
    · exact N _ g7
    · exact N _ g8
    · exact N _ g9
    · exact N _ g10
    · exact N _ (g11 p hp)
  · intro p hp
    simp only [List.mem_cons] at hp
    rcases hp with rfl | rfl | rfl | rfl | rfl | rfl | rfl | rfl | rfl | rfl | hp
    · exact oI'.1
    · exact Nat.ne_of_lt (by omega)
    · exact Nat.ne_of_lt (by omega)
    · exact Nat.ne_of_lt (by omega)
    · exact Nat.ne_of_lt (by omega)
    · exact oI'.2
    · exact Nat.ne_of_lt (by omega)
    · exact Nat.ne_of_lt (by omega)
    · exact Nat.ne_of_lt (by omega)
    · exact Nat.ne_of_lt (by omega)
    · exact r4 p hp
theorem name_item {prog : Program} {A : Around} {news : List (Addr × Obj)} {value slice : PySem.Expr} {l : Addr} {k : Int} {u a1 a2 a3 a4 a5 : Tok} {c : Nat} (N : News h₀ L s.heap news)
    (hl : (l, W.listOf #[.str (Str.ofString "a") a1, .str (Str.ofString "b") a2, .str (Str.ofString "nil") a3, .str (Str.ofString "t") a4, .str (Str.ofString "") a5] c) ∈ news) (h0 : 0 ≤ k) (h1 : k < 5) (h : ∀ nm t, PySem.PyData.strOk nm = true → Q (.str nm t) s)
    (hs : subscripted slice false (.ref l) (.int k u) = operate [.ref l, .int k u] (getItem (.ref l) (.int k u)) := by with_unfolding_all rfl) :
    wpAny (model prog w) A (subscriptTail value slice (.ref l) (.int k u)) Q E s := by
  have hL : s.heap.IsList l (List.toArray [.str (Str.ofString "a") a1, .str (Str.ofString "b") a2, .str (Str.ofString "nil") a3, .str (Str.ofString "t") a4, .str (Str.ofString "") a5]) := ⟨_, N.get hl, rfl, _, rfl⟩
  have hk : k = 0 ∨ k = 1 ∨ k = 2 ∨ k = 3 ∨ k = 4 := by omega
  rcases hk with rfl | rfl | rfl | rfl | rfl
  all_goals exact my_item hL (by decide) (by decide) rfl (h _ _ (by decide +kernel)) hs
theorem range_n {h : Heap} {r : Addr} {b : Int} {t u v : Tok} (_R : IsRange h r 0 b 1 t u v) (hb : 0 ≤ b) : ∃ n : Nat, b = n := ⟨b.toNat, by omega⟩
end
section
local macro_rules | `(tactic| k_all) => `(tactic| assumption)
local macro_rules | `(tactic| k_room) => `(tactic| ktr_room)
local macro_rules | `(tactic| walk_at "call builtin:len") => `(tactic| (k_here; (with_reducible show wpAny _ _ (call (Value.builtin "len") [Value.ref _]) _ _ _); k_dflt (refine' kst_len ?k1 ?k2 rfl ?k4 ?_; (case k1 => k_asm); (case k2 => k_mem); (case k4 => ((try simp only [List.size_toArray, List.length_append, List.length_cons, List.length_nil]); omega))); k_whole))
local macro_rules | `(tactic| walk_at "call builtin:list.append") => `(tactic| (k_here; (with_reducible show wpAny _ _ (call (Value.builtin _) [Value.ref _, _]) _ _ _); k_dflt (refine' append_K ?k1 ?k2 ?k3 ?_ ?z; (case k1 => k_asm); (case k2 => k_asm); (case k3 => k_upd); (case z => (rw [sizeLine_eq]; simp only [List.size_toArray]; omega)); k_whole); intro h' F' N'; (try simp only [List.push_toArray] at N'); (try k_sweep)))
variable {w : World} {mean : ExcName → Option Value} {mg mb : Str → Option Value} {dp un : Nat} {gd : Option (List Code)} {cn : Str} {cs : Scope} {a : Addr} {ccd : Value} {cl : List (Str × Addr)} {outer : List Env} {A₀ : Around} {base h₀ : Heap} {L : Addr} {m : Str → Option Value} {s : Shared} {Q E : Value → Shared → Prop}
local macro_rules | `(tactic| walk_at "exec For Name Call cons nil") => `(tactic| (k_here; (rename Fr _ _ _ _ => lF'); (with_unfolding_all refine' For_invVF lF' ?k1 ?k2 ?_; (case k1 => exact rfl); (case k2 => exact rfl); k_whole)))
local macro_rules | `(tactic| walk_at "pyIter ref") => `(tactic| ((with_reducible show wpAny _ _ (pyIter (Value.ref _)) (fun it s₂ => LoopAtV _ _ _ _ _ _ _ _ _ it s₂) _ _); refine Hold.out ?_))
local macro_rules | `(tactic| walk_at "call ref") => `(tactic| (k_here; k_dflt (first | (refine' draw_use ?B ?F ?X ?N ?T ?hk ?dp ?un ?U ?hm ?ne ?hi ?hl ?k0 ?k1 ?m0 ?m1 ?_; (case B => k_asm); (case F => k_asm); (case X => k_asm); (case T => k_asm); (case hk => exact rfl); (case dp => ktr_room); (case N => k_asm); (case un => (simp only [units_in1, units_deeper, Around.mark_units, units_caller]; decide)); (case U => k_updF); (case hm => k_mem); (case ne => k_ne); (case hi => k_asm); (case hl => first | omega | (simp only [List.length_map, List.length_take]; omega)); (case k0 => omega); (case k1 => omega); (case m0 => omega); (case m1 => omega); intro h' tk' v' t' t'' F' N' v0' v1'; (try dsimp only at N'); (try k_sweep)) | (refine' soft_ok ?B ?F ?X ?N ?T ?hk ?dp ?h1 ?h2 ?h3 ?hN ?lo _ ?hx ?_; (case B => k_asm); (case F => k_asm); (case X => k_asm); (case T => k_asm); (case hk => exact rfl); (case dp => ktr_room); (case N => k_asm); (case h1 => k_mem); (case h2 => k_mem); (case h3 => k_mem); (case hN => k_asm); (case lo => k_asm); (case hx => assumption); intro h' tk' F' N'; (try dsimp only [Option.getD]); (try k_sweep)) | (refine' fresh_W ?B ?F ?X ?N ?T ?hk ?dp ?hl ?e1 ?e2 ?e3 ?e4 ?ho ?_; (case B => k_asm); (case F => k_asm); (case X => k_asm); (case T => k_asm); (case hk => exact rfl); (case dp => ktr_room); (case N => first | k_asm | exact news_tl (by k_asm) | exact news_tl (news_tl (by k_asm)) | exact news_tl (news_tl (news_tl (by k_asm)))); (case hl => omega); (case e1 => omega); (case e2 => omega); (case e3 => omega); (case e4 => omega); (case ho => k_all); intro h' tk' S' D' t1' t2' t3' F' N' hn' l1 l2; (try simp only [AllLt, and_true] at l1); (try k_lt2 l2); (try k_sweep)) | (refine' intern_old ?B ?F ?X ?N ?T ?hk ?dp ?h1 ?h2 ?h3 ?hN ?lo ?hv ?_; (case B => k_asm); (case F => k_asm); (case X => k_asm); (case T => k_asm); (case hk => exact rfl); (case dp => ktr_room); (case N => k_asm); (case h1 => k_mem); (case h2 => k_mem); (case h3 => k_mem); (case hN => k_asm); (case lo => k_asm); (case hv => assumption); intro h' tk' F' N'; (try k_sweep)) | (refine' intern_W ?B ?F ?X ?N ?T ?hk ?dp ?hN ?lo ?hv ?hkl ?hl ?e1 ?e2 ?e3 ?e4 ?e5 ?e6 ?ho ?ho2 ?_; (case B => k_asm); (case F => k_asm); (case X => k_asm); (case T => k_asm); (case hk => exact rfl); (case dp => ktr_room); (case N => first | k_asm | exact news_tl (by k_asm) | exact news_tl (news_tl (by k_asm)) | exact news_tl (news_tl (news_tl (by k_asm)))); (case hN => k_asm); (case lo => k_asm); (case hv => assumption); (case hkl => omega); (case hl => omega); (case e1 => omega); (case e2 => omega); (case e3 => omega); (case e4 => omega); (case e5 => omega); (case e6 => omega); (case ho => k_all); (case ho2 => k_all); intro h' tk' S' D' o' t1' t2' t3' F' N' hd' hv' hn' l1 l2; (try simp only [AllLt, and_true] at l1); (try k_lt2 l2); (try k_sweep)) | (refine' unint_no_W ?B ?F ?X ?N ?T ?hk ?dp ?hN ?lo ?hv ?_; (case B => k_asm); (case F => k_asm); (case X => k_asm); (case T => k_asm); (case hk => exact rfl); (case dp => ktr_room); (case N => first | k_asm | exact news_tl (by k_asm) | exact news_tl (news_tl (by k_asm)) | exact news_tl (news_tl (news_tl (by k_asm)))); (case hN => k_asm); (case lo => k_asm); (case hv => assumption); intro h' tk' F' N'; (try k_sweep)) | (refine' unint_yes_W ?B ?F ?X ?N ?T ?hk ?dp ?hN ?lo ?hv ?hkl ?e1 ?e2 ?e3 ?ho ?_ ?_; (case B => k_asm); (case F => k_asm); (case X => k_asm); (case T => k_asm); (case hk => exact rfl); (case dp => ktr_room); (case N => first | k_asm | exact news_tl (by k_asm) | exact news_tl (news_tl (by k_asm)) | exact news_tl (news_tl (news_tl (by k_asm)))); (case hN => k_asm); (case lo => k_asm); (case hv => assumption); (case hkl => omega); (case e1 => omega); (case e2 => omega); (case e3 => omega); (case ho => k_all); (all_goals first | (intro hq' h' tk' na' oN' t1' t2' F' N' hd' lo' hg' l1; (try simp only [AllLt, and_true] at l1); (try k_sweep)) | (intro hq' h' tk' F' N'; (try k_sweep)))))))
local macro_rules | `(tactic| walk_at "call ref") => `(tactic| ((with_reducible show wpAny _ _ (call (Value.ref 130) _) _ _ _); refine Hold.out ?_))
local macro_rules | `(tactic| walk_at "compareOp NotIn str ref") => `(tactic| (k_here; k_dflt (refine kdg_notin (knd := PySem.strKind _ _) (by k_asm) (by k_mem) (by k_asm) (by k_asm) (strKind_is _ _ _ _) _ (by assumption) ?_); (try dsimp only [Bool.not_true, Bool.not_false])))
local macro_rules | `(tactic| walk_at "compareOp In str ref") => `(tactic| (k_here; k_dflt (refine kda_in (knd := PySem.strKind _ _) (by k_asm) (by k_mem) (by k_asm) (by k_asm) (strKind_is _ _ _ _) _ (by assumption) ?_)))
local macro_rules | `(tactic| walk_at "setItem ref str") => `(tactic| (k_here; k_dflt (refine' kda_set (knd := PySem.strKind _ _) ?F ?N ?U ?d (strKind_is _ _ _ _) ?z ?_; (case F => k_asm); (case N => k_asm); (case U => k_updF); (case d => k_asm); (case z => rw [sizeLine_eq]; omega)); intro h' o' F' N' hd'; (try dsimp only at N'); (try k_sweep)))
local macro_rules | `(tactic| walk_at "compareOp IsNot ref ref") => `(tactic| (k_here; refine wpAny_isNot_ref_self ?_))
local macro_rules | `(tactic| walk_at "getAttr ref") => `(tactic| (k_here; (with_reducible show wpAny _ _ (getAttr (Value.ref _) (Str.ofString "number") _) _ _ _); k_dflt (refine' sym_number ?F ?X ?N ?S ?_; (case F => k_asm); (case X => k_asm); (case N => k_asm); (case S => exact SymIn.mono (by assumption) (fun _ hp => by repeat (first | exact hp | refine List.mem_cons_of_mem _ ?_)))); intro t' tk'))
local macro_rules | `(tactic| walk_at "getMethod ref") => `(tactic| (k_here; (with_reducible show wpAny _ _ (getMethod (Value.ref _) (Str.ofString "get") _) _ _ _); k_dflt (refine kdg_method (knd := PySem.strKind _ _) (by k_asm) (by k_mem) (by k_asm) ?_)))
local macro_rules | `(tactic| walk_at "call builtin:dict.get") => `(tactic| (k_here; (with_reducible show wpAny _ _ (call (Value.builtin _) [Value.ref _, Value.str _ _, _]) _ _ _); k_dflt (refine kdg_get2 (knd := PySem.strKind _ _) (by k_asm) (by k_mem) (by k_asm) (by k_asm) (strKind_is _ _ _ _) _ (by assumption) ?_); (try dsimp only [Option.getD])))
local macro_rules | `(tactic| walk_at "eval ListComp") => `(tactic| (k_here; (with_reducible show wpAny _ _ (eval (PySem.Expr.ListComp _ [PySem.Comprehension.mk (PySem.Expr.Name _ _) _ [_] _] _ _) _) _ _ _); (rename Fr _ _ _ _ => lF'); k_dflt (refine ListComp_K lF' (by rfl) (by decide) (by rfl) (by decide) (by rfl) ?_)))
local macro_rules | `(tactic| walk_at "call type:dict") => `(tactic| (k_here; (with_reducible show wpAny _ _ (call (Value.type _) [Value.ref _]) _ _ _); k_dflt (refine my_dict_gone (by rfl) (by assumption) (by assumption) (modules_low (Top.nolimit (by assumption))) (by assumption) (by assumption) (by assumption) (by assumption) (by assumption) ?_); intro D' oD' h' tk' F' N' l1 hd' lo' hg'; k_lt l1; (try k_sweep)))
local macro_rules | `(tactic| walk_at "subscriptTail") => `(tactic| (k_here; (with_reducible show wpAny _ _ (subscriptTail _ _ (Value.ref _) (Value.int _ _)) _ _ _); k_dflt (refine' name_item ?N ?hl ?h0 ?h1 ?_ ?hs; (case N => k_asm); (case hl => k_mem); (case h0 => omega); (case h1 => omega); (case hs => with_unfolding_all rfl)); refine Hold.out ?_))
local macro_rules | `(tactic| walk_at "subscriptTail") => `(tactic| (k_here; (with_reducible show wpAny _ _ (subscriptTail _ _ (Value.ref _) (Value.str _ _)) _ _ _); k_dflt (refine kda_item (knd := PySem.strKind _ _) (by k_asm) (by first | k_mem | (repeat (first | exact List.mem_cons_self .. | refine List.mem_append_right _ ?_ | refine List.mem_cons_of_mem _ ?_))) (by k_asm) (strKind_is _ _ _ _) (by first | assumption | exact valueAt_stored _ _ _) ?_)))
local macro_rules | `(tactic| walk_at "eval Name") => `(tactic| (k_here; (with_reducible show wpAny _ _ (eval (PySem.Expr.Name _ _) (compEnvC _ _ _ _)) _ _ _); k_dflt (refine' lcf_cell ?N ?c ?m ?d ?_ ?a ?b; (case a => rfl); (case b => rfl); (case N => k_asm); (case c => rfl); (case m => (repeat (first | exact List.mem_cons_self .. | refine List.mem_append_right _ ?_ | refine List.mem_cons_of_mem _ ?_))); (case d => assumption); k_whole)))
set_option maxRecDepth 100000 in
set_option maxHeartbeats 40000000 in
theorem law_holds : PySem.Challenge.rw_ok0040_01.Holds := by
  refine hd ?_
  (k_go0; (all_goals try k_fold); k_steps)
  unfold Hold
  rename Fr _ _ _ _ => F9
  rename News _ _ _ _ => N9
  rename IsRange _ _ _ _ _ _ _ _ => R9
  obtain ⟨nx0, N0, ⟨oS0, hS0⟩, J0⟩ := law_start N9 (by assumption) (by assumption) (by assumption) (by assumption) (by assumption) _ (by assumption) (by omega) (by omega) (by omega) (by omega) (by omega)
  obtain ⟨n9, hn9⟩ := range_n R9 (by omega)
  refine' range_loop3 (n := n9) [Str.ofString "way", Str.ofString "one", Str.ofString "is_gone"] (fun i nx => LawJ _ i _ _ _ _ _ _ _ _ _ nx) (by rfl) R9 hn9 (by omega) F9 N0 J0 ?_ ?_
  · rintro i9 t9 u9 nx I9 oI9 h9 tk9 hi9 hJ hlt9 hoff9 F1 N1
    have hI9 := hlt9 _ hS0
    have hi10 : i9 ≤ 12 := by omega
    clear hlt9 hS0 J0 N0 F9 N9 R9 hn9 hi9
    obtain ⟨na, ld, t1, t2, t, rc, sc, c, sa, sv, syms, oN, oL, oCL, oCN, kvs, lvs, k, x, rest, R, N2, hN, hL, lo, lo2, hc, hc2, M, l1, l2, k0, k1, od, oI, r1, r2, r3, r4, hIR, hrR, f1, f2, f3, f4, f5, f6, f7, f8⟩ := turn_prep N1 hJ (by omega) (by omega) (by omega) (by omega) (by omega) (by omega) (by omega) hI9 hoff9
    clear N1 hJ hoff9
    k_sweep
    simp only [overM] at F1
    k_steps
    unfold Hold
    intro nm tn hok
    have hsa : sa.length = syms.length := M.len
    have hsv : sv.length = syms.length := StrsAre.len_eq M.txt
    have hkl : lvs.length = kvs.length := M.twin.len.symm
    rename News _ _ _ _ => N3
    have N4 := news_tl N3
    clear N3
    rcases M.twin.look nm with ⟨j, b, tj, a1, a2, a3, a4⟩ | ⟨a1, a2⟩
    · have SR := (M.sym j b nm a3 a4).mono hrR
      have e1 : (valueAt kvs nm).isSome = true := by rw [a1]; rfl
      have e2 : (valueAt lvs nm).isSome = true := by rw [a2]; rfl
      k_steps
      · first | exact absurd rfl (by assumption) | (exfalso; (try simp only [List.length_append, List.length_cons, List.length_nil] at *); omega)
      · unfold Hold
        rename Fr _ _ _ _ => F9
        rename News _ _ _ _ => N9
        have MM := M
        k_dflt (refine' lawis_W ?B F9 ?X N9 ?T rfl ?dp ?un ?h1 ?h2 ?h3 ?h4 ?h5 ?h6 ?hN ?lo ?hL ?lo2 (MM.mono (fun p hp => by have hp' := hrR p hp; repeat (first | exact hp' | refine List.mem_cons_of_mem _ ?_))) ?hn ?hkl ?_)
        case B => k_asm
        case X => k_asm
        case T => k_asm
        case dp => ktr_room
        case un => (simp only [units_in1, units_deeper, Around.mark_units, units_caller]; decide)
        case h1 => (repeat (first | exact List.mem_cons_self .. | refine List.mem_cons_of_mem _ ?_))
        case h2 => (repeat (first | exact List.mem_cons_self .. | refine List.mem_cons_of_mem _ ?_))
        case h3 => (repeat (first | exact List.mem_cons_self .. | refine List.mem_cons_of_mem _ ?_))
        case h4 => (repeat (first | exact List.mem_cons_self .. | refine List.mem_cons_of_mem _ ?_))
        case h5 => (repeat (first | exact List.mem_cons_self .. | refine List.mem_cons_of_mem _ ?_))
        case h6 => (repeat (first | exact List.mem_cons_self .. | refine List.mem_cons_of_mem _ ?_))
        case hN => assumption
        case lo => assumption
        case hL => assumption
        case lo2 => assumption
        case hn => (try simp only [List.length_append, List.length_cons, List.length_nil]); omega
        case hkl => omega
        intro h7 tk7 F7 N7
        clear F9 N9
        k_steps
        refine' spost_of F7 ?hm (turn_done N7 ?hI ?g1 ?g2 ?g3 ?g4 ?g5 ?g6 ?g7 ?g8 ?g9 ?g10 (fun p hp => by have hp' := hrR p hp; repeat (first | exact hp' | refine List.mem_cons_of_mem _ ?_)) ?hN ?hL ?lo ?lo2 ?hc ?hc2 MM ?l1 ?l2 ?k0 ?k1 (by omega) (by omega) (by omega) (by omega) (by omega) (by omega) (by omega) (by omega) ?od ?oI ?r1 ?r2 ?r3 ?r4)
        case g4 => (repeat (first | exact List.mem_cons_self .. | refine List.mem_cons_of_mem _ ?_))
        case g9 => (repeat (first | exact List.mem_cons_self .. | refine List.mem_cons_of_mem _ ?_))
        case hc => assumption
        case g6 => (repeat (first | exact List.mem_cons_self .. | refine List.mem_cons_of_mem _ ?_))
        case g1 => (repeat (first | exact List.mem_cons_self .. | refine List.mem_cons_of_mem _ ?_))
        case g2 => (repeat (first | exact List.mem_cons_self .. | refine List.mem_cons_of_mem _ ?_))
        case g3 => (repeat (first | exact List.mem_cons_self .. | refine List.mem_cons_of_mem _ ?_))
        case g5 => (repeat (first | exact List.mem_cons_self .. | refine List.mem_cons_of_mem _ ?_))
        case g7 => (repeat (first | exact List.mem_cons_self .. | refine List.mem_cons_of_mem _ ?_))
        case g8 => (repeat (first | exact List.mem_cons_self .. | refine List.mem_cons_of_mem _ ?_))
        case g10 => (repeat (first | exact List.mem_cons_self .. | refine List.mem_cons_of_mem _ ?_))
        case hI => (repeat (first | exact hIR | refine List.mem_cons_of_mem _ ?_))
        case hN => assumption
        case hL => assumption
        case lo => assumption
        case lo2 => assumption
        case hc2 => assumption
        case l1 => (try simp only [List.length_append, List.length_cons, List.length_nil]); omega
        case l2 => omega
        case k0 => omega
        case k1 => omega
        case od => exact ⟨by omega, by omega, by omega, by omega⟩
        case oI => exact ⟨by omega, by omega⟩
        case r1 => exact r1
        case r2 => exact r2
        case r3 => exact r3
        case r4 => exact r4
        case hm => intro z g1 g2; simp only [List.mem_cons, List.not_mem_nil, or_false, not_or] at g2; simp only [if_neg g1, if_neg g2.1, if_neg g2.2.1, if_neg g2.2.2]
      · first | exact absurd rfl (by assumption) | (exfalso; (try simp only [List.length_append, List.length_cons, List.length_nil] at *); omega)
      · unfold Hold
        rename Fr _ _ _ _ => F9
        rename News _ _ _ _ => N9
        rename NewAt _ _ _ _ _ _ => hnew
        have hID := hnew.2 (I9, oI9) (by repeat (first | exact hIR | refine List.mem_cons_of_mem _ ?_))
        have MM0 := push_new hnew (by assumption) N9 (by (repeat (first | exact List.mem_cons_self .. | refine List.mem_cons_of_mem _ ?_))) (by (repeat (first | exact List.mem_cons_self .. | refine List.mem_cons_of_mem _ ?_))) (fun p hp => by have hp' := hrR p hp; repeat (first | exact hp' | refine List.mem_cons_of_mem _ ?_)) M hok tn
        have MM := MM0
        k_dflt (refine' lawis_W ?B F9 ?X N9 ?T rfl ?dp ?un ?h1 ?h2 ?h3 ?h4 ?h5 ?h6 ?hN ?lo ?hL ?lo2 (MM.mono (fun p hp => by
            rcases List.mem_cons.mp hp with rfl | hp
            · (repeat (first | exact List.mem_cons_self .. | refine List.mem_cons_of_mem _ ?_))
            rcases List.mem_cons.mp hp with rfl | hp
            · (repeat (first | exact List.mem_cons_self .. | refine List.mem_cons_of_mem _ ?_))
            have hp' := hrR p hp
            repeat (first | exact hp' | refine List.mem_cons_of_mem _ ?_))) ?hn ?hkl ?_)
        case B => k_asm
        case X => k_asm
        case T => k_asm
        case dp => ktr_room
        case un => (simp only [units_in1, units_deeper, Around.mark_units, units_caller]; decide)
        case h1 => (repeat (first | exact List.mem_cons_self .. | refine List.mem_cons_of_mem _ ?_))
        case h2 => (repeat (first | exact List.mem_cons_self .. | refine List.mem_cons_of_mem _ ?_))
        case h3 => (repeat (first | exact List.mem_cons_self .. | refine List.mem_cons_of_mem _ ?_))
        case h4 => (repeat (first | exact List.mem_cons_self .. | refine List.mem_cons_of_mem _ ?_))
        case h5 => (repeat (first | exact List.mem_cons_self .. | refine List.mem_cons_of_mem _ ?_))
        case h6 => (repeat (first | exact List.mem_cons_self .. | refine List.mem_cons_of_mem _ ?_))
        case hN => assumption
        case lo => assumption
        case hL => assumption
        case lo2 => assumption
        case hn => (try simp only [List.length_append, List.length_cons, List.length_nil]); omega
        case hkl => omega
        intro h7 tk7 F7 N7
        clear F9 N9
        k_steps
        refine' spost_of F7 ?hm (turn_done N7 ?hI ?g1 ?g2 ?g3 ?g4 ?g5 ?g6 ?g7 ?g8 ?g9 ?g10 (fun p hp => by
            rcases List.mem_cons.mp hp with rfl | hp
            · (repeat (first | exact List.mem_cons_self .. | refine List.mem_cons_of_mem _ ?_))
            rcases List.mem_cons.mp hp with rfl | hp
            · (repeat (first | exact List.mem_cons_self .. | refine List.mem_cons_of_mem _ ?_))
            have hp' := hrR p hp
            repeat (first | exact hp' | refine List.mem_cons_of_mem _ ?_)) ?hN ?hL ?lo ?lo2 ?hc ?hc2 MM ?l1 ?l2 ?k0 ?k1 (by omega) (by omega) (by omega) (by omega) (by omega) (by omega) (by omega) (by omega) ?od ?oI ?r1 ?r2 ?r3 ?r4)
        case g4 => (repeat (first | exact List.mem_cons_self .. | refine List.mem_cons_of_mem _ ?_))
        case g9 => (repeat (first | exact List.mem_cons_self .. | refine List.mem_cons_of_mem _ ?_))
        case hc => assumption
        case g6 => (repeat (first | exact List.mem_cons_self .. | refine List.mem_cons_of_mem _ ?_))
        case g1 => (repeat (first | exact List.mem_cons_self .. | refine List.mem_cons_of_mem _ ?_))
        case g2 => (repeat (first | exact List.mem_cons_self .. | refine List.mem_cons_of_mem _ ?_))
        case g3 => (repeat (first | exact List.mem_cons_self .. | refine List.mem_cons_of_mem _ ?_))
        case g5 => (repeat (first | exact List.mem_cons_self .. | refine List.mem_cons_of_mem _ ?_))
        case g7 => (repeat (first | exact List.mem_cons_self .. | refine List.mem_cons_of_mem _ ?_))
        case g8 => (repeat (first | exact List.mem_cons_self .. | refine List.mem_cons_of_mem _ ?_))
        case g10 => (repeat (first | exact List.mem_cons_self .. | refine List.mem_cons_of_mem _ ?_))
        case hI => (repeat (first | exact hIR | refine List.mem_cons_of_mem _ ?_))
        case hN => assumption
        case hL => assumption
        case lo => assumption
        case lo2 => assumption
        case hc2 => assumption
        case l1 => (try simp only [List.length_append, List.length_cons, List.length_nil]); omega
        case l2 => omega
        case k0 => omega
        case k1 => omega
        case od => exact ⟨by omega, by omega, by omega, by omega⟩
        case oI => exact ⟨by omega, by omega⟩
        case r1 => exact new_gt hnew (by omega) r1
        case r2 => exact new_off hnew (by omega) r2
        case r3 => exact new_off hnew (by omega) r3
        case r4 => exact new_off hnew (by omega) r4
        case hm => intro z g1 g2; simp only [List.mem_cons, List.not_mem_nil, or_false, not_or] at g2; simp only [if_neg g1, if_neg g2.1, if_neg g2.2.1, if_neg g2.2.2]
      · exact absurd (by assumption) (gone1 (by assumption))
      · rename Fr _ _ _ _ => F9
        rename News _ _ _ _ => N9
        have hndL := isDict_nodup hL
        refine SrcK.intro (by rfl) F9 N9 (by (repeat (first | exact List.mem_cons_self .. | refine List.mem_cons_of_mem _ ?_))) hL lo2 (by rw [sizeLine_eq]; omega) ?_
        intro g9
        refine filt_keys (fun p => decide (p.1 ≠ nm) || decide (nm = Str.ofString "nil" ∨ nm = Str.ofString "t")) ?_ ?_
        · intro k9 v9 ys9 extra9 t9' I8 oI8 C8 oC8 D8 m8 h8 tk8 E8 hin8 hC8 hx8 F8 N8 off8 ne8
          have hv8 := valueAt_of_mem hndL hin8
          clear F9 N9
          k_steps
          · rename Fr _ _ _ _ => F7
            rename News _ _ _ _ => N7
            rename _ ∧ _ ∧ _ ∧ AllLt _ _ => l9
            exact ⟨_, _, _, rfl, F7, news_rot3 N7, off3_cons off8 l9.1 l9.2.1 l9.2.2.1, .inr ⟨oL, (by (repeat (first | exact List.mem_cons_self .. | refine List.mem_append_right _ ?_ | refine List.mem_cons_of_mem _ ?_))), rfl, 0, rfl⟩, q_ne (by assumption), _, _, rfl, rfl⟩
          · rename Fr _ _ _ _ => F7
            rename News _ _ _ _ => N7
            rename _ ∧ _ ∧ _ ∧ _ ∧ AllLt _ _ => l9
            exact ⟨_, _, _, rfl, F7, news_rot5 N7, off3_cons off8 l9.2.1 l9.2.2.1 l9.2.2.2.1, .inr ⟨oL, (by (repeat (first | exact List.mem_cons_self .. | refine List.mem_append_right _ ?_ | refine List.mem_cons_of_mem _ ?_))), rfl, 0, rfl⟩, q_in (by assumption), _, _, rfl, rfl⟩
          · rename Fr _ _ _ _ => F7
            rename News _ _ _ _ => N7
            exact ⟨_, _, _, rfl, F7, news_tl N7, off8, .inr ⟨oL, (by (repeat (first | exact List.mem_cons_self .. | refine List.mem_append_right _ ?_ | refine List.mem_cons_of_mem _ ?_))), rfl, 0, rfl⟩, q_no (by assumption) (by assumption), rfl⟩
        · intro ys9 extra9 hl9 hT9 D8 h8 tk8 F8 N8 off8
          have hfq : lvs.filter (fun p => decide (p.1 ≠ nm) || decide (nm = Str.ofString "nil" ∨ nm = Str.ofString "t")) = lvs := filter_all (decide_eq_true (by assumption))
          rw [hfq] at hl9 hT9
          have hndF : ((lvs).map (·.1)).Nodup := hndL
          have hlF : (lvs).length ≤ 1000 := by omega
          have hsub9 := off1_sub1 off8
          clear F9 N9
          k_steps
          unfold Hold
          rename Fr _ _ _ _ => F9
          rename News _ _ _ _ => N9
          rename GoneAt _ _ => hg
          have hIg := hg (I9, oI9) (by repeat (first | exact hIR | refine List.mem_cons_of_mem _ ?_))
          have MM := M
          k_dflt (refine' lawis_W ?B F9 ?X N9 ?T rfl ?dp ?un ?h1 ?h2 ?h3 ?h4 ?h5 ?h6 ?hN ?lo ?hL ?lo2 (MM.mono (fun p hp => by have hp' := hrR p hp; repeat (first | exact hp' | refine List.mem_cons_of_mem _ ?_))) ?hn ?hkl ?_)
          case B => k_asm
          case X => k_asm
          case T => k_asm
          case dp => ktr_room
          case un => (simp only [units_in1, units_deeper, Around.mark_units, units_caller]; decide)
          case h1 => (repeat (first | exact List.mem_cons_self .. | refine List.mem_cons_of_mem _ ?_))
          case h2 => (repeat (first | exact List.mem_cons_self .. | refine List.mem_cons_of_mem _ ?_))
          case h3 => (repeat (first | exact List.mem_cons_self .. | refine List.mem_cons_of_mem _ ?_))
          case h4 => (repeat (first | exact List.mem_cons_self .. | refine List.mem_cons_of_mem _ ?_))
          case h5 => (repeat (first | exact List.mem_cons_self .. | refine List.mem_cons_of_mem _ ?_))
          case h6 => (repeat (first | exact List.mem_cons_self .. | refine List.mem_cons_of_mem _ ?_))
          case hN => assumption
          case lo => assumption
          case hL => assumption
          case lo2 => assumption
          case hn => (try simp only [List.length_append, List.length_cons, List.length_nil]); omega
          case hkl => omega
          intro h7 tk7 F7 N7
          clear F9 N9
          k_steps
          refine' spost_of F7 ?hm (turn_done N7 ?hI ?g1 ?g2 ?g3 ?g4 ?g5 ?g6 ?g7 ?g8 ?g9 ?g10 (fun p hp => by have hp' := hrR p hp; repeat (first | exact hp' | refine List.mem_cons_of_mem _ ?_)) ?hN ?hL ?lo ?lo2 ?hc ?hc2 MM ?l1 ?l2 ?k0 ?k1 (by omega) (by omega) (by omega) (by omega) (by omega) (by omega) (by omega) (by omega) ?od ?oI ?r1 ?r2 ?r3 ?r4)
          case g4 => (repeat (first | exact List.mem_cons_self .. | refine List.mem_cons_of_mem _ ?_))
          case g9 => (repeat (first | exact List.mem_cons_self .. | refine List.mem_cons_of_mem _ ?_))
          case hc => assumption
          case g6 => (repeat (first | exact List.mem_cons_self .. | refine List.mem_cons_of_mem _ ?_))
          case g1 => (repeat (first | exact List.mem_cons_self .. | refine List.mem_cons_of_mem _ ?_))
          case g2 => (repeat (first | exact List.mem_cons_self .. | refine List.mem_cons_of_mem _ ?_))
          case g3 => (repeat (first | exact List.mem_cons_self .. | refine List.mem_cons_of_mem _ ?_))
          case g5 => (repeat (first | exact List.mem_cons_self .. | refine List.mem_cons_of_mem _ ?_))
          case g7 => (repeat (first | exact List.mem_cons_self .. | refine List.mem_cons_of_mem _ ?_))
          case g8 => (repeat (first | exact List.mem_cons_self .. | refine List.mem_cons_of_mem _ ?_))
          case g10 => (repeat (first | exact List.mem_cons_self .. | refine List.mem_cons_of_mem _ ?_))
          case hI => (repeat (first | exact hIR | refine List.mem_cons_of_mem _ ?_))
          case hN => assumption
          case hL => assumption
          case lo => assumption
          case lo2 => assumption
          case hc2 => assumption
          case l1 => (try simp only [List.length_append, List.length_cons, List.length_nil]); omega
          case l2 => omega
          case k0 => omega
          case k1 => omega
          case od => exact ⟨by omega, by omega, by omega, by omega⟩
          case oI => exact ⟨by omega, by omega⟩
          case r1 => exact r1
          case r2 => exact r2
          case r3 => exact gone_off hg (fun p hp => by have hp' := hrR p hp; repeat (first | exact hp' | refine List.mem_cons_of_mem _ ?_))
          case r4 => exact r4
          case hm => intro z g1 g2; simp only [List.mem_cons, List.not_mem_nil, or_false, not_or] at g2; simp only [if_neg g1, if_neg g2.1, if_neg g2.2.1, if_neg g2.2.2]
      · exact absurd (by assumption) (gone2 (by assumption))
      · rename GoneAt _ _ => hg2
        have hIg2 := hg2 (I9, oI9) (by repeat (first | exact hIR | refine List.mem_cons_of_mem _ ?_))
        rename Fr _ _ _ _ => F9
        rename News _ _ _ _ => N9
        have hndL := isDict_nodup hL
        refine SrcK.intro (by rfl) F9 N9 (by (repeat (first | exact List.mem_cons_self .. | refine List.mem_cons_of_mem _ ?_))) hL lo2 (by rw [sizeLine_eq]; omega) ?_
        intro g9
        refine filt_keys (fun p => decide (p.1 ≠ nm) || decide (nm = Str.ofString "nil" ∨ nm = Str.ofString "t")) ?_ ?_
        · intro k9 v9 ys9 extra9 t9' I8 oI8 C8 oC8 D8 m8 h8 tk8 E8 hin8 hC8 hx8 F8 N8 off8 ne8
          have hv8 := valueAt_of_mem hndL hin8
          clear F9 N9
          k_steps
          · rename Fr _ _ _ _ => F7
            rename News _ _ _ _ => N7
            rename _ ∧ _ ∧ _ ∧ AllLt _ _ => l9
            exact ⟨_, _, _, rfl, F7, news_rot3 N7, off3_cons off8 l9.1 l9.2.1 l9.2.2.1, .inr ⟨oL, (by (repeat (first | exact List.mem_cons_self .. | refine List.mem_append_right _ ?_ | refine List.mem_cons_of_mem _ ?_))), rfl, 0, rfl⟩, q_ne (by assumption), _, _, rfl, rfl⟩
          · rename Fr _ _ _ _ => F7
            rename News _ _ _ _ => N7
            rename _ ∧ _ ∧ _ ∧ _ ∧ AllLt _ _ => l9
            exact ⟨_, _, _, rfl, F7, news_rot5 N7, off3_cons off8 l9.2.1 l9.2.2.1 l9.2.2.2.1, .inr ⟨oL, (by (repeat (first | exact List.mem_cons_self .. | refine List.mem_append_right _ ?_ | refine List.mem_cons_of_mem _ ?_))), rfl, 0, rfl⟩, q_in (by assumption), _, _, rfl, rfl⟩
          · rename Fr _ _ _ _ => F7
            rename News _ _ _ _ => N7
            exact ⟨_, _, _, rfl, F7, news_tl N7, off8, .inr ⟨oL, (by (repeat (first | exact List.mem_cons_self .. | refine List.mem_append_right _ ?_ | refine List.mem_cons_of_mem _ ?_))), rfl, 0, rfl⟩, q_no (by assumption) (by assumption), rfl⟩
        · intro ys9 extra9 hl9 hT9 D8 h8 tk8 F8 N8 off8
          have hfq : lvs.filter (fun p => decide (p.1 ≠ nm) || decide (nm = Str.ofString "nil" ∨ nm = Str.ofString "t")) = lvs.filter (fun p => decide (p.1 ≠ nm)) := filter_some (decide_eq_false (by assumption))
          rw [hfq] at hl9 hT9
          have hndF : ((lvs.filter (fun p => decide (p.1 ≠ nm))).map (·.1)).Nodup := filter_nodup _ hndL
          have hlF : (lvs.filter (fun p => decide (p.1 ≠ nm))).length ≤ 1000 := Nat.le_trans (List.length_filter_le _ _) (by omega)
          have hsub9 := off1_sub1 off8
          clear F9 N9
          k_steps
          unfold Hold
          rename Fr _ _ _ _ => F9
          rename News _ _ _ _ => N9
          rename GoneAt _ _ => hg
          have hIg := hg (I9, oI9) (by repeat (first | exact hIR | refine List.mem_cons_of_mem _ ?_))
          have MM := M.filter (fun k => decide (k ≠ nm))
          k_dflt (refine' lawis_W ?B F9 ?X N9 ?T rfl ?dp ?un ?h1 ?h2 ?h3 ?h4 ?h5 ?h6 ?hN ?lo ?hL ?lo2 (MM.mono (fun p hp => by have hp' := hrR p hp; repeat (first | exact hp' | refine List.mem_cons_of_mem _ ?_))) ?hn ?hkl ?_)
          case B => k_asm
          case X => k_asm
          case T => k_asm
          case dp => ktr_room
          case un => (simp only [units_in1, units_deeper, Around.mark_units, units_caller]; decide)
          case h1 => (repeat (first | exact List.mem_cons_self .. | refine List.mem_cons_of_mem _ ?_))
          case h2 => (repeat (first | exact List.mem_cons_self .. | refine List.mem_cons_of_mem _ ?_))
          case h3 => (repeat (first | exact List.mem_cons_self .. | refine List.mem_cons_of_mem _ ?_))
          case h4 => (repeat (first | exact List.mem_cons_self .. | refine List.mem_cons_of_mem _ ?_))
          case h5 => (repeat (first | exact List.mem_cons_self .. | refine List.mem_cons_of_mem _ ?_))
          case h6 => (repeat (first | exact List.mem_cons_self .. | refine List.mem_cons_of_mem _ ?_))
          case hN => assumption
          case lo => assumption
          case hL => assumption
          case lo2 => assumption
          case hn => (try simp only [List.length_append, List.length_cons, List.length_nil]); omega
          case hkl => (have hfl := List.length_filter_le (fun p : Str × Value => decide (p.1 ≠ nm)) kvs; omega)
          intro h7 tk7 F7 N7
          clear F9 N9
          k_steps
          refine' spost_of F7 ?hm (turn_done N7 ?hI ?g1 ?g2 ?g3 ?g4 ?g5 ?g6 ?g7 ?g8 ?g9 ?g10 (fun p hp => by have hp' := hrR p hp; repeat (first | exact hp' | refine List.mem_cons_of_mem _ ?_)) ?hN ?hL ?lo ?lo2 ?hc ?hc2 MM ?l1 ?l2 ?k0 ?k1 (by omega) (by omega) (by omega) (by omega) (by omega) (by omega) (by omega) (by omega) ?od ?oI ?r1 ?r2 ?r3 ?r4)
          case g4 => (repeat (first | exact List.mem_cons_self .. | refine List.mem_cons_of_mem _ ?_))
          case g9 => (repeat (first | exact List.mem_cons_self .. | refine List.mem_cons_of_mem _ ?_))
          case hc => assumption
          case g6 => (repeat (first | exact List.mem_cons_self .. | refine List.mem_cons_of_mem _ ?_))
          case g1 => (repeat (first | exact List.mem_cons_self .. | refine List.mem_cons_of_mem _ ?_))
          case g2 => (repeat (first | exact List.mem_cons_self .. | refine List.mem_cons_of_mem _ ?_))
          case g3 => (repeat (first | exact List.mem_cons_self .. | refine List.mem_cons_of_mem _ ?_))
          case g5 => (repeat (first | exact List.mem_cons_self .. | refine List.mem_cons_of_mem _ ?_))
          case g7 => (repeat (first | exact List.mem_cons_self .. | refine List.mem_cons_of_mem _ ?_))
          case g8 => (repeat (first | exact List.mem_cons_self .. | refine List.mem_cons_of_mem _ ?_))
          case g10 => (repeat (first | exact List.mem_cons_self .. | refine List.mem_cons_of_mem _ ?_))
          case hI => (repeat (first | exact hIR | refine List.mem_cons_of_mem _ ?_))
          case hN => assumption
          case hL => assumption
          case lo => assumption
          case lo2 => assumption
          case hc2 => assumption
          case l1 => (try simp only [List.length_append, List.length_cons, List.length_nil]); omega
          case l2 => (have hfl := List.length_filter_le (fun p : Str × Value => decide (p.1 ≠ nm)) kvs; omega)
          case k0 => omega
          case k1 => omega
          case od => exact ⟨by omega, by omega, by omega, by omega⟩
          case oI => exact ⟨by omega, by omega⟩
          case r1 => exact r1
          case r2 => exact gone_off hg2 (fun p hp => by have hp' := hrR p hp; repeat (first | exact hp' | refine List.mem_cons_of_mem _ ?_))
          case r3 => exact gone_off hg (fun p hp => by have hp' := hrR p hp; repeat (first | exact hp' | refine List.mem_cons_of_mem _ ?_))
          case r4 => exact r4
          case hm => intro z g1 g2; simp only [List.mem_cons, List.not_mem_nil, or_false, not_or] at g2; simp only [if_neg g1, if_neg g2.1, if_neg g2.2.1, if_neg g2.2.2]
      · first | exact absurd rfl (by assumption) | (exfalso; (try simp only [List.length_append, List.length_cons, List.length_nil] at *); omega)
      · unfold Hold
        rename Fr _ _ _ _ => F9
        rename News _ _ _ _ => N9
        have MM := M
        k_dflt (refine' lawis_W ?B F9 ?X N9 ?T rfl ?dp ?un ?h1 ?h2 ?h3 ?h4 ?h5 ?h6 ?hN ?lo ?hL ?lo2 (MM.mono (fun p hp => by have hp' := hrR p hp; repeat (first | exact hp' | refine List.mem_cons_of_mem _ ?_))) ?hn ?hkl ?_)
        case B => k_asm
        case X => k_asm
        case T => k_asm
        case dp => ktr_room
        case un => (simp only [units_in1, units_deeper, Around.mark_units, units_caller]; decide)
        case h1 => (repeat (first | exact List.mem_cons_self .. | refine List.mem_cons_of_mem _ ?_))
        case h2 => (repeat (first | exact List.mem_cons_self .. | refine List.mem_cons_of_mem _ ?_))
        case h3 => (repeat (first | exact List.mem_cons_self .. | refine List.mem_cons_of_mem _ ?_))
        case h4 => (repeat (first | exact List.mem_cons_self .. | refine List.mem_cons_of_mem _ ?_))
        case h5 => (repeat (first | exact List.mem_cons_self .. | refine List.mem_cons_of_mem _ ?_))
        case h6 => (repeat (first | exact List.mem_cons_self .. | refine List.mem_cons_of_mem _ ?_))
        case hN => assumption
        case lo => assumption
        case hL => assumption
        case lo2 => assumption
        case hn => (try simp only [List.length_append, List.length_cons, List.length_nil]); omega
        case hkl => omega
        intro h7 tk7 F7 N7
        clear F9 N9
        k_steps
        refine' spost_of F7 ?hm (turn_done N7 ?hI ?g1 ?g2 ?g3 ?g4 ?g5 ?g6 ?g7 ?g8 ?g9 ?g10 (fun p hp => by have hp' := hrR p hp; repeat (first | exact hp' | refine List.mem_cons_of_mem _ ?_)) ?hN ?hL ?lo ?lo2 ?hc ?hc2 MM ?l1 ?l2 ?k0 ?k1 (by omega) (by omega) (by omega) (by omega) (by omega) (by omega) (by omega) (by omega) ?od ?oI ?r1 ?r2 ?r3 ?r4)
        case g4 => (repeat (first | exact List.mem_cons_self .. | refine List.mem_cons_of_mem _ ?_))
        case g9 => (repeat (first | exact List.mem_cons_self .. | refine List.mem_cons_of_mem _ ?_))
        case hc => assumption
        case g6 => (repeat (first | exact List.mem_cons_self .. | refine List.mem_cons_of_mem _ ?_))
        case g1 => (repeat (first | exact List.mem_cons_self .. | refine List.mem_cons_of_mem _ ?_))
        case g2 => (repeat (first | exact List.mem_cons_self .. | refine List.mem_cons_of_mem _ ?_))
        case g3 => (repeat (first | exact List.mem_cons_self .. | refine List.mem_cons_of_mem _ ?_))
        case g5 => (repeat (first | exact List.mem_cons_self .. | refine List.mem_cons_of_mem _ ?_))
        case g7 => (repeat (first | exact List.mem_cons_self .. | refine List.mem_cons_of_mem _ ?_))
        case g8 => (repeat (first | exact List.mem_cons_self .. | refine List.mem_cons_of_mem _ ?_))
        case g10 => (repeat (first | exact List.mem_cons_self .. | refine List.mem_cons_of_mem _ ?_))
        case hI => (repeat (first | exact hIR | refine List.mem_cons_of_mem _ ?_))
        case hN => assumption
        case hL => assumption
        case lo => assumption
        case lo2 => assumption
        case hc2 => assumption
        case l1 => (try simp only [List.length_append, List.length_cons, List.length_nil]); omega
        case l2 => omega
        case k0 => omega
        case k1 => omega
        case od => exact ⟨by omega, by omega, by omega, by omega⟩
        case oI => exact ⟨by omega, by omega⟩
        case r1 => exact r1
        case r2 => exact r2
        case r3 => exact r3
        case r4 => exact r4
        case hm => intro z g1 g2; simp only [List.mem_cons, List.not_mem_nil, or_false, not_or] at g2; simp only [if_neg g1, if_neg g2.1, if_neg g2.2.1, if_neg g2.2.2]
    · have e1 : (valueAt kvs nm).isSome = false := by rw [a1]; rfl
      have e2 : (valueAt lvs nm).isSome = false := by rw [a2]; rfl
      k_steps
      · first | exact absurd rfl (by assumption) | (exfalso; (try simp only [List.length_append, List.length_cons, List.length_nil] at *); omega)
      · unfold Hold
        rename Fr _ _ _ _ => F9
        rename News _ _ _ _ => N9
        rename NewAt _ _ _ _ _ _ => hnew
        have hID := hnew.2 (I9, oI9) (by repeat (first | exact hIR | refine List.mem_cons_of_mem _ ?_))
        have MM0 := push_new hnew (by assumption) N9 (by (repeat (first | exact List.mem_cons_self .. | refine List.mem_cons_of_mem _ ?_))) (by (repeat (first | exact List.mem_cons_self .. | refine List.mem_cons_of_mem _ ?_))) (fun p hp => by have hp' := hrR p hp; repeat (first | exact hp' | refine List.mem_cons_of_mem _ ?_)) M hok tn
        have MM := MM0.bind_of (n := sv.length) (by omega) a1 a2 (by assumption)
        k_dflt (refine' lawis_W ?B F9 ?X N9 ?T rfl ?dp ?un ?h1 ?h2 ?h3 ?h4 ?h5 ?h6 ?hN ?lo ?hL ?lo2 (MM.mono (fun p hp => by
            rcases List.mem_cons.mp hp with rfl | hp
            · (repeat (first | exact List.mem_cons_self .. | refine List.mem_cons_of_mem _ ?_))
            rcases List.mem_cons.mp hp with rfl | hp
            · (repeat (first | exact List.mem_cons_self .. | refine List.mem_cons_of_mem _ ?_))
            have hp' := hrR p hp
            repeat (first | exact hp' | refine List.mem_cons_of_mem _ ?_))) ?hn ?hkl ?_)
        case B => k_asm
        case X => k_asm
        case T => k_asm
        case dp => ktr_room
        case un => (simp only [units_in1, units_deeper, Around.mark_units, units_caller]; decide)
        case h1 => (repeat (first | exact List.mem_cons_self .. | refine List.mem_cons_of_mem _ ?_))
        case h2 => (repeat (first | exact List.mem_cons_self .. | refine List.mem_cons_of_mem _ ?_))
        case h3 => (repeat (first | exact List.mem_cons_self .. | refine List.mem_cons_of_mem _ ?_))
        case h4 => (repeat (first | exact List.mem_cons_self .. | refine List.mem_cons_of_mem _ ?_))
        case h5 => (repeat (first | exact List.mem_cons_self .. | refine List.mem_cons_of_mem _ ?_))
        case h6 => (repeat (first | exact List.mem_cons_self .. | refine List.mem_cons_of_mem _ ?_))
        case hN => assumption
        case lo => assumption
        case hL => assumption
        case lo2 => assumption
        case hn => (try simp only [List.length_append, List.length_cons, List.length_nil]); omega
        case hkl => (rw [len_stored a1]; omega)
        intro h7 tk7 F7 N7
        clear F9 N9
        k_steps
        refine' spost_of F7 ?hm (turn_done N7 ?hI ?g1 ?g2 ?g3 ?g4 ?g5 ?g6 ?g7 ?g8 ?g9 ?g10 (fun p hp => by
            rcases List.mem_cons.mp hp with rfl | hp
            · (repeat (first | exact List.mem_cons_self .. | refine List.mem_cons_of_mem _ ?_))
            rcases List.mem_cons.mp hp with rfl | hp
            · (repeat (first | exact List.mem_cons_self .. | refine List.mem_cons_of_mem _ ?_))
            have hp' := hrR p hp
            repeat (first | exact hp' | refine List.mem_cons_of_mem _ ?_)) ?hN ?hL ?lo ?lo2 ?hc ?hc2 MM ?l1 ?l2 ?k0 ?k1 (by omega) (by omega) (by omega) (by omega) (by omega) (by omega) (by omega) (by omega) ?od ?oI ?r1 ?r2 ?r3 ?r4)
        case g4 => (repeat (first | exact List.mem_cons_self .. | refine List.mem_cons_of_mem _ ?_))
        case g9 => (repeat (first | exact List.mem_cons_self .. | refine List.mem_cons_of_mem _ ?_))
        case hc => assumption
        case g6 => (repeat (first | exact List.mem_cons_self .. | refine List.mem_cons_of_mem _ ?_))
        case g1 => (repeat (first | exact List.mem_cons_self .. | refine List.mem_cons_of_mem _ ?_))
        case g2 => (repeat (first | exact List.mem_cons_self .. | refine List.mem_cons_of_mem _ ?_))
        case g3 => (repeat (first | exact List.mem_cons_self .. | refine List.mem_cons_of_mem _ ?_))
        case g5 => (repeat (first | exact List.mem_cons_self .. | refine List.mem_cons_of_mem _ ?_))
        case g7 => (repeat (first | exact List.mem_cons_self .. | refine List.mem_cons_of_mem _ ?_))
        case g8 => (repeat (first | exact List.mem_cons_self .. | refine List.mem_cons_of_mem _ ?_))
        case g10 => (repeat (first | exact List.mem_cons_self .. | refine List.mem_cons_of_mem _ ?_))
        case hI => (repeat (first | exact hIR | refine List.mem_cons_of_mem _ ?_))
        case hN => assumption
        case hL => assumption
        case lo => assumption
        case lo2 => assumption
        case hc2 => assumption
        case l1 => (try simp only [List.length_append, List.length_cons, List.length_nil]); omega
        case l2 => (rw [len_stored a1]; omega)
        case k0 => omega
        case k1 => omega
        case od => exact ⟨by omega, by omega, by omega, by omega⟩
        case oI => exact ⟨by omega, by omega⟩
        case r1 => exact new_gt hnew (by omega) r1
        case r2 => exact new_off hnew (by omega) r2
        case r3 => exact new_off hnew (by omega) r3
        case r4 => exact new_off hnew (by omega) r4
        case hm => intro z g1 g2; simp only [List.mem_cons, List.not_mem_nil, or_false, not_or] at g2; simp only [if_neg g1, if_neg g2.1, if_neg g2.2.1, if_neg g2.2.2]
      · first | exact absurd rfl (by assumption) | (exfalso; (try simp only [List.length_append, List.length_cons, List.length_nil] at *); omega)
      · unfold Hold
        rename Fr _ _ _ _ => F9
        rename News _ _ _ _ => N9
        rename NewAt _ _ _ _ _ _ => hnew
        have hID := hnew.2 (I9, oI9) (by repeat (first | exact hIR | refine List.mem_cons_of_mem _ ?_))
        have MM0 := push_new hnew (by assumption) N9 (by (repeat (first | exact List.mem_cons_self .. | refine List.mem_cons_of_mem _ ?_))) (by (repeat (first | exact List.mem_cons_self .. | refine List.mem_cons_of_mem _ ?_))) (fun p hp => by have hp' := hrR p hp; repeat (first | exact hp' | refine List.mem_cons_of_mem _ ?_)) M hok tn
        have MM := MM0
        k_dflt (refine' lawis_W ?B F9 ?X N9 ?T rfl ?dp ?un ?h1 ?h2 ?h3 ?h4 ?h5 ?h6 ?hN ?lo ?hL ?lo2 (MM.mono (fun p hp => by
            rcases List.mem_cons.mp hp with rfl | hp
            · (repeat (first | exact List.mem_cons_self .. | refine List.mem_cons_of_mem _ ?_))
            rcases List.mem_cons.mp hp with rfl | hp
            · (repeat (first | exact List.mem_cons_self .. | refine List.mem_cons_of_mem _ ?_))
            have hp' := hrR p hp
            repeat (first | exact hp' | refine List.mem_cons_of_mem _ ?_))) ?hn ?hkl ?_)
        case B => k_asm
        case X => k_asm
        case T => k_asm
        case dp => ktr_room
        case un => (simp only [units_in1, units_deeper, Around.mark_units, units_caller]; decide)
        case h1 => (repeat (first | exact List.mem_cons_self .. | refine List.mem_cons_of_mem _ ?_))
        case h2 => (repeat (first | exact List.mem_cons_self .. | refine List.mem_cons_of_mem _ ?_))
        case h3 => (repeat (first | exact List.mem_cons_self .. | refine List.mem_cons_of_mem _ ?_))
        case h4 => (repeat (first | exact List.mem_cons_self .. | refine List.mem_cons_of_mem _ ?_))
        case h5 => (repeat (first | exact List.mem_cons_self .. | refine List.mem_cons_of_mem _ ?_))
        case h6 => (repeat (first | exact List.mem_cons_self .. | refine List.mem_cons_of_mem _ ?_))
        case hN => assumption
        case lo => assumption
        case hL => assumption
        case lo2 => assumption
        case hn => (try simp only [List.length_append, List.length_cons, List.length_nil]); omega
        case hkl => omega
        intro h7 tk7 F7 N7
        clear F9 N9
        k_steps
        refine' spost_of F7 ?hm (turn_done N7 ?hI ?g1 ?g2 ?g3 ?g4 ?g5 ?g6 ?g7 ?g8 ?g9 ?g10 (fun p hp => by
            rcases List.mem_cons.mp hp with rfl | hp
            · (repeat (first | exact List.mem_cons_self .. | refine List.mem_cons_of_mem _ ?_))
            rcases List.mem_cons.mp hp with rfl | hp
            · (repeat (first | exact List.mem_cons_self .. | refine List.mem_cons_of_mem _ ?_))
            have hp' := hrR p hp
            repeat (first | exact hp' | refine List.mem_cons_of_mem _ ?_)) ?hN ?hL ?lo ?lo2 ?hc ?hc2 MM ?l1 ?l2 ?k0 ?k1 (by omega) (by omega) (by omega) (by omega) (by omega) (by omega) (by omega) (by omega) ?od ?oI ?r1 ?r2 ?r3 ?r4)
        case g4 => (repeat (first | exact List.mem_cons_self .. | refine List.mem_cons_of_mem _ ?_))
        case g9 => (repeat (first | exact List.mem_cons_self .. | refine List.mem_cons_of_mem _ ?_))
        case hc => assumption
        case g6 => (repeat (first | exact List.mem_cons_self .. | refine List.mem_cons_of_mem _ ?_))
        case g1 => (repeat (first | exact List.mem_cons_self .. | refine List.mem_cons_of_mem _ ?_))
        case g2 => (repeat (first | exact List.mem_cons_self .. | refine List.mem_cons_of_mem _ ?_))
        case g3 => (repeat (first | exact List.mem_cons_self .. | refine List.mem_cons_of_mem _ ?_))
        case g5 => (repeat (first | exact List.mem_cons_self .. | refine List.mem_cons_of_mem _ ?_))
        case g7 => (repeat (first | exact List.mem_cons_self .. | refine List.mem_cons_of_mem _ ?_))
        case g8 => (repeat (first | exact List.mem_cons_self .. | refine List.mem_cons_of_mem _ ?_))
        case g10 => (repeat (first | exact List.mem_cons_self .. | refine List.mem_cons_of_mem _ ?_))
        case hI => (repeat (first | exact hIR | refine List.mem_cons_of_mem _ ?_))
        case hN => assumption
        case hL => assumption
        case lo => assumption
        case lo2 => assumption
        case hc2 => assumption
        case l1 => (try simp only [List.length_append, List.length_cons, List.length_nil]); omega
        case l2 => omega
        case k0 => omega
        case k1 => omega
        case od => exact ⟨by omega, by omega, by omega, by omega⟩
        case oI => exact ⟨by omega, by omega⟩
        case r1 => exact new_gt hnew (by omega) r1
        case r2 => exact new_off hnew (by omega) r2
        case r3 => exact new_off hnew (by omega) r3
        case r4 => exact new_off hnew (by omega) r4
        case hm => intro z g1 g2; simp only [List.mem_cons, List.not_mem_nil, or_false, not_or] at g2; simp only [if_neg g1, if_neg g2.1, if_neg g2.2.1, if_neg g2.2.2]
      · rename Fr _ _ _ _ => F9
        rename News _ _ _ _ => N9
        have hndL := isDict_nodup hL
        refine SrcK.intro (by rfl) F9 N9 (by (repeat (first | exact List.mem_cons_self .. | refine List.mem_cons_of_mem _ ?_))) hL lo2 (by rw [sizeLine_eq]; omega) ?_
        intro g9
        refine filt_keys (fun p => decide (p.1 ≠ nm) || decide (nm = Str.ofString "nil" ∨ nm = Str.ofString "t")) ?_ ?_
        · intro k9 v9 ys9 extra9 t9' I8 oI8 C8 oC8 D8 m8 h8 tk8 E8 hin8 hC8 hx8 F8 N8 off8 ne8
          have hv8 := valueAt_of_mem hndL hin8
          clear F9 N9
          k_steps
          · rename Fr _ _ _ _ => F7
            rename News _ _ _ _ => N7
            rename _ ∧ _ ∧ _ ∧ AllLt _ _ => l9
            exact ⟨_, _, _, rfl, F7, news_rot3 N7, off3_cons off8 l9.1 l9.2.1 l9.2.2.1, .inr ⟨oL, (by (repeat (first | exact List.mem_cons_self .. | refine List.mem_append_right _ ?_ | refine List.mem_cons_of_mem _ ?_))), rfl, 0, rfl⟩, q_ne (by assumption), _, _, rfl, rfl⟩
          · rename Fr _ _ _ _ => F7
            rename News _ _ _ _ => N7
            rename _ ∧ _ ∧ _ ∧ _ ∧ AllLt _ _ => l9
            exact ⟨_, _, _, rfl, F7, news_rot5 N7, off3_cons off8 l9.2.1 l9.2.2.1 l9.2.2.2.1, .inr ⟨oL, (by (repeat (first | exact List.mem_cons_self .. | refine List.mem_append_right _ ?_ | refine List.mem_cons_of_mem _ ?_))), rfl, 0, rfl⟩, q_in (by assumption), _, _, rfl, rfl⟩
          · rename Fr _ _ _ _ => F7
            rename News _ _ _ _ => N7
            exact ⟨_, _, _, rfl, F7, news_tl N7, off8, .inr ⟨oL, (by (repeat (first | exact List.mem_cons_self .. | refine List.mem_append_right _ ?_ | refine List.mem_cons_of_mem _ ?_))), rfl, 0, rfl⟩, q_no (by assumption) (by assumption), rfl⟩
        · intro ys9 extra9 hl9 hT9 D8 h8 tk8 F8 N8 off8
          have hfq : lvs.filter (fun p => decide (p.1 ≠ nm) || decide (nm = Str.ofString "nil" ∨ nm = Str.ofString "t")) = lvs := filter_none a2
          rw [hfq] at hl9 hT9
          have hndF : ((lvs).map (·.1)).Nodup := hndL
          have hlF : (lvs).length ≤ 1000 := by omega
          have hsub9 := off1_sub0 off8
          clear F9 N9
          k_steps
          unfold Hold
          rename Fr _ _ _ _ => F9
          rename News _ _ _ _ => N9
          rename GoneAt _ _ => hg
          have hIg := hg (I9, oI9) (by repeat (first | exact hIR | refine List.mem_cons_of_mem _ ?_))
          have MM := M
          k_dflt (refine' lawis_W ?B F9 ?X N9 ?T rfl ?dp ?un ?h1 ?h2 ?h3 ?h4 ?h5 ?h6 ?hN ?lo ?hL ?lo2 (MM.mono (fun p hp => by have hp' := hrR p hp; repeat (first | exact hp' | refine List.mem_cons_of_mem _ ?_))) ?hn ?hkl ?_)
          case B => k_asm
          case X => k_asm
          case T => k_asm
          case dp => ktr_room
          case un => (simp only [units_in1, units_deeper, Around.mark_units, units_caller]; decide)
          case h1 => (repeat (first | exact List.mem_cons_self .. | refine List.mem_cons_of_mem _ ?_))
          case h2 => (repeat (first | exact List.mem_cons_self .. | refine List.mem_cons_of_mem _ ?_))
          case h3 => (repeat (first | exact List.mem_cons_self .. | refine List.mem_cons_of_mem _ ?_))
          case h4 => (repeat (first | exact List.mem_cons_self .. | refine List.mem_cons_of_mem _ ?_))
          case h5 => (repeat (first | exact List.mem_cons_self .. | refine List.mem_cons_of_mem _ ?_))
          case h6 => (repeat (first | exact List.mem_cons_self .. | refine List.mem_cons_of_mem _ ?_))
          case hN => assumption
          case lo => assumption
          case hL => assumption
          case lo2 => assumption
          case hn => (try simp only [List.length_append, List.length_cons, List.length_nil]); omega
          case hkl => omega
          intro h7 tk7 F7 N7
          clear F9 N9
          k_steps
          refine' spost_of F7 ?hm (turn_done N7 ?hI ?g1 ?g2 ?g3 ?g4 ?g5 ?g6 ?g7 ?g8 ?g9 ?g10 (fun p hp => by have hp' := hrR p hp; repeat (first | exact hp' | refine List.mem_cons_of_mem _ ?_)) ?hN ?hL ?lo ?lo2 ?hc ?hc2 MM ?l1 ?l2 ?k0 ?k1 (by omega) (by omega) (by omega) (by omega) (by omega) (by omega) (by omega) (by omega) ?od ?oI ?r1 ?r2 ?r3 ?r4)
          case g4 => (repeat (first | exact List.mem_cons_self .. | refine List.mem_cons_of_mem _ ?_))
          case g9 => (repeat (first | exact List.mem_cons_self .. | refine List.mem_cons_of_mem _ ?_))
          case hc => assumption
          case g6 => (repeat (first | exact List.mem_cons_self .. | refine List.mem_cons_of_mem _ ?_))
          case g1 => (repeat (first | exact List.mem_cons_self .. | refine List.mem_cons_of_mem _ ?_))
          case g2 => (repeat (first | exact List.mem_cons_self .. | refine List.mem_cons_of_mem _ ?_))
          case g3 => (repeat (first | exact List.mem_cons_self .. | refine List.mem_cons_of_mem _ ?_))
          case g5 => (repeat (first | exact List.mem_cons_self .. | refine List.mem_cons_of_mem _ ?_))
          case g7 => (repeat (first | exact List.mem_cons_self .. | refine List.mem_cons_of_mem _ ?_))
          case g8 => (repeat (first | exact List.mem_cons_self .. | refine List.mem_cons_of_mem _ ?_))
          case g10 => (repeat (first | exact List.mem_cons_self .. | refine List.mem_cons_of_mem _ ?_))
          case hI => (repeat (first | exact hIR | refine List.mem_cons_of_mem _ ?_))
          case hN => assumption
          case hL => assumption
          case lo => assumption
          case lo2 => assumption
          case hc2 => assumption
          case l1 => (try simp only [List.length_append, List.length_cons, List.length_nil]); omega
          case l2 => omega
          case k0 => omega
          case k1 => omega
          case od => exact ⟨by omega, by omega, by omega, by omega⟩
          case oI => exact ⟨by omega, by omega⟩
          case r1 => exact r1
          case r2 => exact r2
          case r3 => exact gone_off hg (fun p hp => by have hp' := hrR p hp; repeat (first | exact hp' | refine List.mem_cons_of_mem _ ?_))
          case r4 => exact r4
          case hm => intro z g1 g2; simp only [List.mem_cons, List.not_mem_nil, or_false, not_or] at g2; simp only [if_neg g1, if_neg g2.1, if_neg g2.2.1, if_neg g2.2.2]
      · unfold Hold
        rename Fr _ _ _ _ => F9
        rename News _ _ _ _ => N9
        have MM := M
        k_dflt (refine' lawis_W ?B F9 ?X N9 ?T rfl ?dp ?un ?h1 ?h2 ?h3 ?h4 ?h5 ?h6 ?hN ?lo ?hL ?lo2 (MM.mono (fun p hp => by have hp' := hrR p hp; repeat (first | exact hp' | refine List.mem_cons_of_mem _ ?_))) ?hn ?hkl ?_)
        case B => k_asm
        case X => k_asm
        case T => k_asm
        case dp => ktr_room
        case un => (simp only [units_in1, units_deeper, Around.mark_units, units_caller]; decide)
        case h1 => (repeat (first | exact List.mem_cons_self .. | refine List.mem_cons_of_mem _ ?_))
        case h2 => (repeat (first | exact List.mem_cons_self .. | refine List.mem_cons_of_mem _ ?_))
        case h3 => (repeat (first | exact List.mem_cons_self .. | refine List.mem_cons_of_mem _ ?_))
        case h4 => (repeat (first | exact List.mem_cons_self .. | refine List.mem_cons_of_mem _ ?_))
        case h5 => (repeat (first | exact List.mem_cons_self .. | refine List.mem_cons_of_mem _ ?_))
        case h6 => (repeat (first | exact List.mem_cons_self .. | refine List.mem_cons_of_mem _ ?_))
        case hN => assumption
        case lo => assumption
        case hL => assumption
        case lo2 => assumption
        case hn => (try simp only [List.length_append, List.length_cons, List.length_nil]); omega
        case hkl => omega
        intro h7 tk7 F7 N7
        clear F9 N9
        k_steps
        refine' spost_of F7 ?hm (turn_done N7 ?hI ?g1 ?g2 ?g3 ?g4 ?g5 ?g6 ?g7 ?g8 ?g9 ?g10 (fun p hp => by have hp' := hrR p hp; repeat (first | exact hp' | refine List.mem_cons_of_mem _ ?_)) ?hN ?hL ?lo ?lo2 ?hc ?hc2 MM ?l1 ?l2 ?k0 ?k1 (by omega) (by omega) (by omega) (by omega) (by omega) (by omega) (by omega) (by omega) ?od ?oI ?r1 ?r2 ?r3 ?r4)
        case g4 => (repeat (first | exact List.mem_cons_self .. | refine List.mem_cons_of_mem _ ?_))
        case g9 => (repeat (first | exact List.mem_cons_self .. | refine List.mem_cons_of_mem _ ?_))
        case hc => assumption
        case g6 => (repeat (first | exact List.mem_cons_self .. | refine List.mem_cons_of_mem _ ?_))
        case g1 => (repeat (first | exact List.mem_cons_self .. | refine List.mem_cons_of_mem _ ?_))
        case g2 => (repeat (first | exact List.mem_cons_self .. | refine List.mem_cons_of_mem _ ?_))
        case g3 => (repeat (first | exact List.mem_cons_self .. | refine List.mem_cons_of_mem _ ?_))
        case g5 => (repeat (first | exact List.mem_cons_self .. | refine List.mem_cons_of_mem _ ?_))
        case g7 => (repeat (first | exact List.mem_cons_self .. | refine List.mem_cons_of_mem _ ?_))
        case g8 => (repeat (first | exact List.mem_cons_self .. | refine List.mem_cons_of_mem _ ?_))
        case g10 => (repeat (first | exact List.mem_cons_self .. | refine List.mem_cons_of_mem _ ?_))
        case hI => (repeat (first | exact hIR | refine List.mem_cons_of_mem _ ?_))
        case hN => assumption
        case hL => assumption
        case lo => assumption
        case lo2 => assumption
        case hc2 => assumption
        case l1 => (try simp only [List.length_append, List.length_cons, List.length_nil]); omega
        case l2 => omega
        case k0 => omega
        case k1 => omega
        case od => exact ⟨by omega, by omega, by omega, by omega⟩
        case oI => exact ⟨by omega, by omega⟩
        case r1 => exact r1
        case r2 => exact r2
        case r3 => exact r3
        case r4 => exact r4
        case hm => intro z g1 g2; simp only [List.mem_cons, List.not_mem_nil, or_false, not_or] at g2; simp only [if_neg g1, if_neg g2.1, if_neg g2.2.1, if_neg g2.2.2]
  · intro u9 nx h9 tk9 hJ9 F1 N1
    simp only [overM] at F1
    k_steps
end
end Mine
theorem PySem.Challenge.cw_ok0040_01_holds : PySem.Challenge.rw_ok0040_01.Holds := by
  exact Mine.law_holds
