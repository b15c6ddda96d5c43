import PyProof.Rows.All
import Wide.All
import OpenK.AllK
import Wide.FinOn
import Lean
import PySem.Challenge.RW_nt0172_01
open PySem PySem.W PyProof.Rows PySem.Calls PySem.Spec
set_option Elab.async false
set_option maxRecDepth 100000
set_option maxHeartbeats 8000000
set_option linter.all false
namespace Mine
theorem e0 : @instDecidableEqStr = @instDecidableEqStr := rfl
end Mine
name_quick tw33947250564475670 for instDecidableEqStr by Mine.e0
name_quick tw14485798159841100844 for instDecidableEqStr by Mine.e0
name_quick tw13727257379158654825 for instDecidableEqStr by Mine.e0
name_quick tw17572973558303979738 for instDecidableEqStr by Mine.e0
name_quick tw9147687152630714167 for instDecidableEqStr by Mine.e0
name_quick tw15354961124065954711 for instDecidableEqStr by Mine.e0
name_quick tw9672940911018732228 for instDecidableEqStr by Mine.e0
name_quick tw2870095666369198896 for instDecidableEqStr by Mine.e0
name_quick tw13005525537368259615 for instDecidableEqStr by Mine.e0
name_quick tw5666199782390945895 for instDecidableEqStr by Mine.e0
name_quick tw7724411443426799186 for instDecidableEqStr by Mine.e0
name_quick tw12154249011475706051 for instDecidableEqStr by Mine.e0
name_quick tw4203769775962670563 for instDecidableEqStr by Mine.e0
name_quick tw14403976554626127153 for instDecidableEqStr by Mine.e0
name_quick tw1544467936467551939 for instDecidableEqStr by Mine.e0
name_quick tw15815610950748101138 for instDecidableEqStr by Mine.e0
name_quick tw15601887785240431125 for instDecidableEqStr by Mine.e0
name_quick tw1600318978717557136 for instDecidableEqStr by Mine.e0
name_quick tw5949994416548833483 for instDecidableEqStr by Mine.e0
name_quick tw1845660263644377290 for instDecidableEqStr by Mine.e0
name_quick tw1014833478286081143 for instDecidableEqStr by Mine.e0
name_quick tw10938098519956923654 for instDecidableEqStr by Mine.e0
name_quick tw14300736609930842612 for instDecidableEqStr by Mine.e0
name_quick tw8380744906650342812 for instDecidableEqStr by Mine.e0
namespace Mine
open_top tp for PySem.Challenge.rw_nt0172_01
end Mine

namespace Mine
abbrev Led := List (Addr × Obj)
abbrev ThePr : Program := PySem.Challenge.rw_nt0172_01.row.prog
/-- a call of `f` with `vs` over the ledger `news` gives back what `Out` says and a ledger that `Led'` says -/
def Says (w : World) (f : Addr) (vs : List Value) (news : Led) (d : Nat) (Out : Value → Led → Prop) : Prop :=
  ∀ (mean : ExcName → Option Value) (mg mb : Str → Option Value) (dp un : Nat) (gd : Option (List Code)) (cn : Str) (cs : Scope) (a : Addr) (ccd : Value) (cl : List (Str × Addr)) (outer : List Env)
    (A₀ : Around) (base h₀ : Heap) (L : Addr) (m : Str → Option Value) (s : Shared) (Q E : Value → Shared → Prop),
    Below A₀ base outer h₀ → Fr h₀ L s.heap m → (tp.heap_39 w.params).In h₀ → News h₀ L s.heap news → Top tp.view_39 [] mean mg mb h₀ → cs.kind = .function →
    dp + d < recursionLimit → un + 8 * d < cLine →
    (∀ r news' h' tk', Fr h₀ L h' m → News h₀ L h' news' → Out r news' → Q r { s with heap := h', toks := tk' }) →
    wpAny (model PySem.Challenge.rw_nt0172_01.row.prog w) (ktrTop dp un gd cn cs L a ccd cl outer) (call (.ref f) vs) Q E s
end Mine
namespace Mine
theorem Says.use {w : World} {f : Addr} {vs : List Value} {news : Led} {d : Nat} {Out : Value → Led → Prop} (S : Says w f vs news d Out)
    {mean : ExcName → Option Value} {mg mb : Str → Option Value} {dp un : Nat} {gd : Option (List Code)} {cn : Str} {cs : Scope} {a : Addr} {ccd : Value} {cl : List (Str × Addr)} {outer : List Env}
    {A₀ : Around} {base h₀ : Heap} {L : Addr} {m : Str → Option Value} {s : Shared} {Q E : Value → Shared → Prop}
    (B : Below A₀ base outer h₀) (F : Fr h₀ L s.heap m) (X : (tp.heap_39 w.params).In h₀) (N : News h₀ L s.heap news) (T : Top tp.view_39 [] mean mg mb h₀) (hk : cs.kind = .function)
    (hd : dp + d < recursionLimit) (hu : un + 8 * d < cLine)
    (ret : ∀ r news' h' tk', Fr h₀ L h' m → News h₀ L h' news' → Out r news' → Q r { s with heap := h', toks := tk' }) :
    wpAny (model PySem.Challenge.rw_nt0172_01.row.prog w) (ktrTop dp un gd cn cs L a ccd cl outer) (call (.ref f) vs) Q E s :=
  S mean mg mb dp un gd cn cs a ccd cl outer A₀ base h₀ L m s Q E B F X N T hk hd hu ret

abbrev kh (w : World) (x : String) : Int := PyData.keyHash w.params (Str.ofString x)
abbrev IntK (w : World) : KeyKind PySem.Challenge.rw_nt0172_01.row.prog w Int := intKind PySem.Challenge.rw_nt0172_01.row.prog w
/-- names of a scope: a key, and the word of a Special, or none for a local -/
abbrev Nm := List (Int × Option Str)

inductive SpecialIn (w : World) (news : Led) (a : Addr) (x : Str) : Prop
  | mk {d k : Nat} {t t' : Tok} : (a, instObj 143 d) ∈ news → (d, dictOf [⟨kh w "word", .str (Str.ofString "word") t, .str x t'⟩] k) ∈ news → SpecialIn w news a x
inductive LocalIn (w : World) (news : Led) (a : Addr) : Prop
  | mk {d k : Nat} {t t' t2 t2' : Tok} {n : Int} {x : Str} : (a, instObj 164 d) ∈ news →
      (d, dictOf [⟨kh w "number", .str (Str.ofString "number") t, .int n t'⟩, ⟨kh w "title", .str (Str.ofString "title") t2, .str x t2'⟩] k) ∈ news → LocalIn w news a
inductive BdIn (w : World) (news : Led) : Value → Option Str → Prop
  | spec {a : Addr} {x : Str} : SpecialIn w news a x → BdIn w news (.ref a) (some x)
  | loc {a : Addr} : LocalIn w news a → BdIn w news (.ref a) none
inductive NmIn (w : World) (news : Led) : List (Int × Value) → Nm → Prop
  | nil : NmIn w news [] []
  | cons {k : Int} {v : Value} {b : Option Str} {kvs : List (Int × Value)} {nm : Nm} : BdIn w news v b → NmIn w news kvs nm → NmIn w news ((k, v) :: kvs) ((k, b) :: nm)
inductive ScpIn (w : World) (news : Led) : Value → List Nm → Prop
  | nil : ScpIn w news .none []
  | cons {a d nd k : Nat} {t t' : Tok} {v : Value} {o : Obj} {kvs : List (Int × Value)} {nm : Nm} {sc : List Nm} : (a, instObj 283 d) ∈ news →
      (d, dictOf [⟨kh w "parent", .str (Str.ofString "parent") t, v⟩, ⟨kh w "names", .str (Str.ofString "names") t', .ref nd⟩] k) ∈ news →
      (nd, o) ∈ news → o.IsDictOf (IntK w) kvs → (nd == sysModules) = false → NmIn w news kvs nm → ScpIn w news v sc → ScpIn w news (.ref a) (nm :: sc)
inductive Idn where
  | sym (a : Addr) (n : Int) (x : Str)
  | ali (num : Int) (b : Idn) (sc : List Nm)
inductive IdnIn (w : World) (news : Led) : Value → Idn → Prop
  | sym {a d k : Nat} {n : Int} {x : Str} {t tn t' tt : Tok} : 0 ≤ n → n < 1000 → (a, instObj 38 d) ∈ news →
      (d, dictOf [⟨kh w "number", .str (Str.ofString "number") t, .int n tn⟩, ⟨kh w "text", .str (Str.ofString "text") t', .str x tt⟩] k) ∈ news → IdnIn w news (.ref a) (.sym a n x)
  | ali {a d k sa : Nat} {num : Int} {vb : Value} {b : Idn} {sc : List Nm} {t tn t' t'' : Tok} : 0 ≤ num → num < 1000 → (a, instObj 122 d) ∈ news →
      (d, dictOf [⟨kh w "number", .str (Str.ofString "number") t, .int num tn⟩, ⟨kh w "base", .str (Str.ofString "base") t', vb⟩, ⟨kh w "scope", .str (Str.ofString "scope") t'', .ref sa⟩] k) ∈ news →
      IdnIn w news vb b → ScpIn w news (.ref sa) sc → IdnIn w news (.ref a) (.ali num b sc)
namespace Idn
def key : Idn → Int
  | .sym _ n _ => 2 * n
  | .ali n _ _ => 2 * n + 1
def rootA : Idn → Addr
  | .sym a _ _ => a
  | .ali _ b _ => b.rootA
def rootX : Idn → Str
  | .sym _ _ x => x
  | .ali _ b _ => b.rootX
def depth : Idn → Nat
  | .sym _ _ _ => 0
  | .ali _ b _ => b.depth + 1
end Idn
theorem SpecialIn.mono {w : World} {news news' : Led} {a : Addr} {x : Str} (h : SpecialIn w news a x) (hs : ∀ p ∈ news, p ∈ news') : SpecialIn w news' a x := by
  cases h with | mk h1 h2 => exact .mk (hs _ h1) (hs _ h2)
theorem LocalIn.mono {w : World} {news news' : Led} {a : Addr} (h : LocalIn w news a) (hs : ∀ p ∈ news, p ∈ news') : LocalIn w news' a := by
  cases h with | mk h1 h2 => exact .mk (hs _ h1) (hs _ h2)
theorem BdIn.mono {w : World} {news news' : Led} {v : Value} {b : Option Str} (h : BdIn w news v b) (hs : ∀ p ∈ news, p ∈ news') : BdIn w news' v b := by
  cases h with
  | spec h => exact .spec (h.mono hs)
  | loc h => exact .loc (h.mono hs)
theorem NmIn.mono {w : World} {news news' : Led} {kvs : List (Int × Value)} {nm : Nm} (h : NmIn w news kvs nm) (hs : ∀ p ∈ news, p ∈ news') : NmIn w news' kvs nm := by
  induction h with
  | nil => exact .nil
  | cons h _ ih => exact .cons (h.mono hs) ih
theorem ScpIn.mono {w : World} {news news' : Led} {v : Value} {sc : List Nm} (h : ScpIn w news v sc) (hs : ∀ p ∈ news, p ∈ news') : ScpIn w news' v sc := by
  induction h with
  | nil => exact .nil
  | cons h1 h2 h3 h4 h5 h6 _ ih => exact .cons (hs _ h1) (hs _ h2) (hs _ h3) h4 h5 (h6.mono hs) ih
theorem IdnIn.mono {w : World} {news news' : Led} {v : Value} {d : Idn} (h : IdnIn w news v d) (hs : ∀ p ∈ news, p ∈ news') : IdnIn w news' v d := by
  induction h with
  | sym h0 h1 h2 h3 => exact .sym h0 h1 (hs _ h2) (hs _ h3)
  | ali h0 h1 h2 h3 _ h5 ih => exact .ali h0 h1 (hs _ h2) (hs _ h3) ih (h5.mono hs)
end Mine
namespace Mine
theorem says_key_of {w : World} {news : Led} {v : Value} {d : Idn} (h : IdnIn w news v d) :
  Says w 203 [v] news 1 (fun r news' => (∃ t, r = .int d.key t) ∧ news' = news) := by
  unfold Says
  k_fill
  intro mean mg mb dp un gd cn cs a ccd cl outer A₀ base h₀ L m s Q E B F X N T hk hd hu hret
  cases h
  all_goals (
    refine wpAny_call ?_
    k_dflt ktr_enter
    k_steps
    exact hret _ _ _ _ (by k_asm) (by k_asm) ⟨⟨_, rfl⟩, rfl⟩)
end Mine
namespace Mine
local macro_rules | `(tactic| ktr_unf) => `(tactic| (try simp only [Idn.depth, Idn.rootA] at *))
theorem says_root {w : World} {news : Led} {v : Value} {d : Idn} (h : IdnIn w news v d) :
  Says w 210 [v] news 1 (fun r news' => r = .ref d.rootA ∧ news' = news) := by
  unfold Says
  k_fill
  intro mean mg mb dp un gd cn cs a ccd cl outer A₀ base h₀ L m s Q E B F X N T hk hd hu hret
  refine wpAny_call ?_
  k_dflt ktr_enter
  k_with_none
  k_with "exec While Call cons nil" => k_whileD (IdnIn w) Idn.depth (fun D d => Idn.rootA d = Idn.rootA D) "at"
  k_steps
  exact hret _ _ _ _ (by k_asm) (by k_asm) ⟨congrArg Value.ref (by assumption), rfl⟩

theorem says_depth_ {w : World} {news : Led} {v : Value} {d : Idn} (h : IdnIn w news v d) (hd1 : d.depth < 100) :
  Says w 399 [v] news 1 (fun r news' => (∃ t, r = .int d.depth t) ∧ news' = news) := by
  unfold Says
  k_fill
  intro mean mg mb dp un gd cn cs a ccd cl outer A₀ base h₀ L m s Q E B F X N T hk hd hu hret
  refine wpAny_call ?_
  k_dflt ktr_enter
  k_with_none
  k_with "exec While Call cons nil" => k_whileD (IdnIn w) Idn.depth (fun D _ d a => a + (Idn.depth d : Int) = (Idn.depth D : Int) ∧ 0 ≤ a) "at" "many"
  k_steps
  exact hret _ _ _ _ (by k_asm) (by k_asm) ⟨⟨_, congrArg (fun z => Value.int z _) (by simp only [Idn.depth] at *; omega)⟩, rfl⟩

theorem says_is_id {w : World} {news : Led} {v : Value} {d : Idn} (h : IdnIn w news v d) :
  Says w 196 [v] news 1 (fun r news' => r = .bool true ∧ news' = news) := by
  unfold Says
  k_fill
  intro mean mg mb dp un gd cn cs a ccd cl outer A₀ base h₀ L m s Q E B F X N T hk hd hu hret
  k_with_none
  cases h
  all_goals (
    refine wpAny_call ?_
    k_dflt ktr_enter
    k_steps
    exact hret _ _ _ _ (by k_asm) (by k_asm) ⟨rfl, rfl⟩)
theorem says_is_id_int {w : World} {news : Led} {i : Int} {t : Tok} :
  Says w 196 [.int i t] news 1 (fun r news' => r = .bool false ∧ news' = news) := by
  unfold Says
  k_fill
  intro mean mg mb dp un gd cn cs a ccd cl outer A₀ base h₀ L m s Q E B F X N T hk hd hu hret
  k_with_none
  refine wpAny_call ?_
  k_dflt ktr_enter
  k_steps
  exact hret _ _ _ _ (by k_asm) (by k_asm) ⟨rfl, rfl⟩
end Mine
namespace Mine
theorem IdnIn.root {w : World} {news : Led} {v : Value} {d : Idn} (h : IdnIn w news v d) : ∃ (dd k : Nat) (n : Int) (t tn t' tt : Tok), 0 ≤ n ∧ n < 1000 ∧ (d.rootA, instObj 38 dd) ∈ news ∧
      (dd, dictOf [⟨kh w "number", .str (Str.ofString "number") t, .int n tn⟩, ⟨kh w "text", .str (Str.ofString "text") t', .str d.rootX tt⟩] k) ∈ news := by
  induction h with
  | sym h0 h1 h2 h3 => exact ⟨_, _, _, _, _, _, _, h0, h1, h2, h3⟩
  | ali h0 h1 h2 h3 _ h5 ih => exact ih
theorem says_title {w : World} {news : Led} {v : Value} {d : Idn} (h : IdnIn w news v d) :
  Says w 217 [v] news 2 (fun r news' => (∃ t, r = .str d.rootX t) ∧ news' = news) := by
  unfold Says
  k_fill
  intro mean mg mb dp un gd cn cs a ccd cl outer A₀ base h₀ L m s Q E B F X N T hk hd hu hret
  k_with_none
  obtain ⟨dd, k, n, t1, tn, t2, tt, h1, h2, h3, h4⟩ := h.root
  refine wpAny_call ?_
  k_dflt ktr_enter
  k_with "call ref" => (k_here; k_dflt (refine' Says.use (says_root (by assumption)) ?k1 ?k2 ?k3 ?k4 ?k5 ?kK ?kd ?ku ?_; (case k1 => k_asm); (case k2 => k_asm); (case k3 => k_asm); (case k4 => k_asm); (case k5 => k_asm); (case kK => first | exact rfl | assumption); (case kd => ktr_room); (case ku => ktr_units)); intro r9 n9 h9 tk9 F9 N9 O9; obtain ⟨e9, e8⟩ := O9; subst e9; subst e8; (try dsimp only); (try k_fold))
  k_steps
  exact hret _ _ _ _ (by k_asm) (by k_asm) ⟨⟨_, rfl⟩, rfl⟩
end Mine
namespace Mine
def lookNm (nm : Nm) (k : Int) : Option (Option Str) := (nm.find? fun p => p.1 = k).map (·.2)
def boundP (k : Int) : List Nm → Option (Option Str)
  | [] => none
  | nm :: sc => match lookNm nm k with
    | some b => some b
    | none => boundP k sc
def findP : Idn → List Nm → Option (Option Str)
  | .sym _ n _, sc => boundP (2 * n) sc
  | .ali n b sc', sc => match boundP (2 * n + 1) sc with
    | some b => some b
    | none => findP b sc'
def specialP (d : Idn) (sc : List Nm) : Str := match findP d sc with
  | some (some x) => x
  | _ => Str.ofString ""
inductive BoundOut (w : World) (news : Led) : Value → Option (Option Str) → Prop
  | none : BoundOut w news .none none
  | spec {a : Addr} {x : Str} : SpecialIn w news a x → BoundOut w news (.ref a) (some (some x))
  | loc {a : Addr} : LocalIn w news a → BoundOut w news (.ref a) (some none)
theorem NmIn.at {w : World} {news : Led} {kvs : List (Int × Value)} {nm : Nm} (h : NmIn w news kvs nm) (k : Int) :
    BoundOut w news ((valueAt kvs k).getD .none) (lookNm nm k) := by
  induction h with
  | nil => exact .none
  | @cons k' v b kvs nm hb _ ih =>
    by_cases e : k' = k
    · simp only [valueAt, lookNm, List.find?_cons, e, decide_true, Option.map_some, Option.getD_some]
      cases hb with
      | spec h => exact .spec h
      | loc h => exact .loc h
    · simp only [valueAt, lookNm, List.find?_cons, e, decide_false] at ih ⊢
      exact ih
theorem nm_get {w : World} {A : Around} {E : Value → Shared → Prop} {s : Shared} {h₀ : Heap} {L nd : Addr} {news : Led} {o : Obj} {kvs : List (Int × Value)} {nm : Nm} {k : Int} {t : Tok} {Q : Value → Shared → Prop}
    (N : News h₀ L s.heap news) (hp : (nd, o) ∈ news) (hd : o.IsDictOf (IntK w) kvs) (lo : (nd == sysModules) = false) (hn : NmIn w news kvs nm)
    (h : ∀ v, BoundOut w news v (lookNm nm k) → Q v { s with toks := s.toks + 1 }) :
    wpAny (model PySem.Challenge.rw_nt0172_01.row.prog w) A (call (.builtin "dict.get") [.ref nd, .int k t, .none]) Q E s :=
  kdg_get2 (knd := IntK w) N hp hd lo (intKind_is _ _ _ _) _ rfl (h _ (hn.at k))
theorem nm_method {w : World} {A : Around} {E : Value → Shared → Prop} {s : Shared} {h₀ : Heap} {L nd : Addr} {news : Led} {o : Obj} {kvs : List (Int × Value)} {pl : Sem Bool} {Q : Value × List Value → Shared → Prop}
    (N : News h₀ L s.heap news) (hp : (nd, o) ∈ news) (hd : o.IsDictOf (IntK w) kvs) (h : Q (.builtin "dict.get", [.ref nd]) s) :
    wpAny (model PySem.Challenge.rw_nt0172_01.row.prog w) A (getMethod (.ref nd) (Str.ofString "get") pl) Q E s := kdg_method (knd := IntK w) N hp hd h
end Mine
namespace Mine
local macro_rules | `(tactic| ktr_unf) => `(tactic| (try simp only [List.length_cons, List.length_nil, boundP] at *))
theorem boundP_step {k : Int} {nm : Nm} {sc : List Nm} {D : Option (Option Str)} (h : boundP k (nm :: sc) = D) (e : lookNm nm k = none) : boundP k sc = D := by
  rw [boundP, e] at h; exact h
theorem boundP_nil {k : Int} {D : Option (Option Str)} (h : boundP k [] = D) : D = none := h.symm
theorem boundP_hit {k : Int} {nm : Nm} {sc : List Nm} {D : Option (Option Str)} {b : Option Str} (h : boundP k (nm :: sc) = D) (e : lookNm nm k = some b) : D = some b := by
  rw [boundP, e] at h; exact h.symm
local macro_rules | `(tactic| kwd_inv) => `(tactic| exact boundP_step (by assumption) (by assumption))
theorem says_bound {w : World} {news : Led} {vs v : Value} {sc : List Nm} {d : Idn} (hs : ScpIn w news vs sc) (h : IdnIn w news v d) :
  Says w 259 [vs, v] news 2 (fun r news' => BoundOut w news r (boundP d.key sc) ∧ news' = news) := by
  unfold Says
  k_fill
  intro mean mg mb dp un gd cn cs a ccd cl outer A₀ base h₀ L m s Q E B F X N T hk hd hu hret
  k_with_none
  refine wpAny_call ?_
  k_dflt ktr_enter
  k_with "call ref" => (k_here; k_dflt (refine' Says.use (says_key_of (by assumption)) ?k1 ?k2 ?k3 ?k4 ?k5 ?kK ?kd ?ku ?_; (case k1 => k_asm); (case k2 => k_asm); (case k3 => k_asm); (case k4 => k_asm); (case k5 => k_asm); (case kK => first | exact rfl | assumption); (case kd => ktr_room); (case ku => ktr_units)); intro r9 n9 h9 tk9 F9 N9 O9; obtain ⟨⟨t9, e9⟩, e8⟩ := O9; subst e9; subst e8; (try dsimp only); (try k_fold))
  k_with "exec While Compare cons nil" => k_whileD (ScpIn w) List.length (fun D d' => boundP (Idn.key d) d' = boundP (Idn.key d) D) "at"
  k_with "getMethod ref" => (k_here; (with_reducible show wpAny _ _ (getMethod (Value.ref _) (Str.ofString "get") _) _ _ _); k_dflt (refine' nm_method ?k1 ?k2 ?k3 ?_; (case k1 => k_asm); (case k2 => assumption); (case k3 => assumption)))
  k_with "call builtin:dict.get" => (k_here; k_dflt (refine' nm_get ?k1 ?k2 ?k3 ?k4 ?k5 ?_; (case k1 => k_asm); (case k2 => assumption); (case k3 => assumption); (case k4 => assumption); (case k5 => assumption)); intro r9 O9; generalize hlk : lookNm _ _ = lk at O9; cases O9 <;> (try dsimp only) <;> (try k_fold))
  k_steps
  · exact hret _ _ _ _ (by k_asm) (by k_asm) ⟨by rw [boundP_nil (D := boundP d.key sc) (by assumption)]; exact .none, rfl⟩
  · exact hret _ _ _ _ (by k_asm) (by k_asm) ⟨by rw [boundP_hit (D := boundP d.key sc) (by assumption) (by assumption)]; exact .spec (by assumption), rfl⟩
  · exact hret _ _ _ _ (by k_asm) (by k_asm) ⟨by rw [boundP_hit (D := boundP d.key sc) (by assumption) (by assumption)]; exact .loc (by assumption), rfl⟩
end Mine
namespace Mine
inductive UpIn (w : World) (r0 : Addr) (news : Led) : Value → Nat → Prop
  | root {d nd k : Nat} {t t' : Tok} : (r0, instObj 283 d) ∈ news →
      (d, dictOf [⟨kh w "parent", .str (Str.ofString "parent") t, .none⟩, ⟨kh w "names", .str (Str.ofString "names") t', .ref nd⟩] k) ∈ news → UpIn w r0 news (.ref r0) 0
  | up {a b d nd k n : Nat} {t t' : Tok} : (a, instObj 283 d) ∈ news →
      (d, dictOf [⟨kh w "parent", .str (Str.ofString "parent") t, .ref b⟩, ⟨kh w "names", .str (Str.ofString "names") t', .ref nd⟩] k) ∈ news → UpIn w r0 news (.ref b) n → UpIn w r0 news (.ref a) (n + 1)
theorem UpIn.mono {w : World} {r0 : Addr} {news news' : Led} {v : Value} {n : Nat} (h : UpIn w r0 news v n) (hs : ∀ p ∈ news, p ∈ news') : UpIn w r0 news' v n := by
  induction h with
  | root h1 h2 => exact .root (hs _ h1) (hs _ h2)
  | up h1 h2 _ ih => exact .up (hs _ h1) (hs _ h2) ih
theorem says_outermost {w : World} {r0 : Addr} {news : Led} {v : Value} {n : Nat} (h : UpIn w r0 news v n) :
  Says w 273 [v] news 1 (fun r news' => r = .ref r0 ∧ news' = news) := by
  unfold Says
  k_fill
  intro mean mg mb dp un gd cn cs a ccd cl outer A₀ base h₀ L m s Q E B F X N T hk hd hu hret
  k_with_none
  refine wpAny_call ?_
  k_dflt ktr_enter
  k_with "exec While Compare cons nil" => k_whileD (UpIn w r0) (fun n : Nat => n) (fun _ _ => True) "at"
  k_steps
  exact hret _ _ _ _ (by k_asm) (by k_asm) ⟨rfl, rfl⟩
theorem says_scope_depth {w : World} {r0 : Addr} {news : Led} {v : Value} {n : Nat} (h : UpIn w r0 news v n) (hn : n < 100) :
  Says w 280 [v] news 1 (fun r news' => (∃ t, r = .int n t) ∧ news' = news) := by
  unfold Says
  k_fill
  intro mean mg mb dp un gd cn cs a ccd cl outer A₀ base h₀ L m s Q E B F X N T hk hd hu hret
  k_with_none
  refine wpAny_call ?_
  k_dflt ktr_enter
  k_with "exec While Compare cons nil" => k_whileD (UpIn w r0) (fun n : Nat => n) (fun D _ d a => a + (d : Int) = (D : Int) ∧ 0 ≤ a) "at" "many"
  k_steps
  exact hret _ _ _ _ (by k_asm) (by k_asm) ⟨⟨_, congrArg (fun z => Value.int z _) (by omega)⟩, rfl⟩
end Mine
namespace Mine
theorem ScpIn.inst {w : World} {news : Led} {a : Addr} {sc : List Nm} (h : ScpIn w news (.ref a) sc) : ∃ (d nd k : Nat) (t t' : Tok) (v : Value), (a, instObj 283 d) ∈ news ∧
      (d, dictOf [⟨kh w "parent", .str (Str.ofString "parent") t, v⟩, ⟨kh w "names", .str (Str.ofString "names") t', .ref nd⟩] k) ∈ news := by
  cases h with
  | cons h1 h2 => exact ⟨_, _, _, _, _, _, h1, h2⟩
/-- a while whose turn changes three names -/
def W3End (h₀ : Heap) (L : Addr) (s : Shared) (R : Nat → Value → Value → Value → Prop) (y1 y2 y3 : Str) (m₀ : Str → Option Value) (news : Led) (n : Nat) (s₂ : Shared) : Prop :=
  ∃ h' tk m' news' n' v1 v2 v3, s₂ = { s with heap := h', toks := tk } ∧ Fr h₀ L h' m' ∧ News h₀ L h' news' ∧ (∀ p ∈ news, p ∈ news') ∧ m' y1 = some v1 ∧ m' y2 = some v2 ∧ m' y3 = some v3 ∧ R n' v1 v2 v3 ∧ n' < n ∧
    ∀ x, x ≠ y1 → x ≠ y2 → x ≠ y3 → m' x = m₀ x
def W3Post (h₀ : Heap) (L : Addr) (s : Shared) (R : Nat → Value → Value → Value → Prop) (y1 y2 y3 : Str) (m₀ : Str → Option Value) (news : Led) (Q : Flow → Shared → Prop) (n : Nat) (f : Flow) (s₂ : Shared) : Prop :=
  match f with
  | .ret v => Q (.ret v) s₂
  | .brk => Q .next s₂
  | _ => W3End h₀ L s R y1 y2 y3 m₀ news n s₂
theorem W3End.intro {h₀ : Heap} {L : Addr} {s : Shared} {R : Nat → Value → Value → Value → Prop} {y1 y2 y3 : Str} {m₀ m' : Str → Option Value} {news news' : Led} {n n' : Nat} {h' : Heap} {tk : Nat} {v1 v2 v3 : Value}
    (F : Fr h₀ L h' m') (N : News h₀ L h' news') (hn : ∀ p ∈ news, p ∈ news') (h1 : m' y1 = some v1) (h2 : m' y2 = some v2) (h3 : m' y3 = some v3) (hR : R n' v1 v2 v3) (hl : n' < n)
    (hm : ∀ x, x ≠ y1 → x ≠ y2 → x ≠ y3 → m' x = m₀ x) : W3End h₀ L s R y1 y2 y3 m₀ news n { s with heap := h', toks := tk } :=
  ⟨h', tk, m', news', n', v1, v2, v3, rfl, F, N, hn, h1, h2, h3, hR, hl, hm⟩
theorem w3_while {prog : Program} {w : World} {A : Around} {E : Value → Shared → Prop} {Q : Flow → Shared → Prop} {s : Shared} {env : Env} {h₀ : Heap} {L : Addr}
    {test : Expr} {body : List Stmt} {pos : Pos} {m₀ : Str → Option Value} {news : Led} {y1 y2 y3 : Str} {v1 v2 v3 : Value} {n₀ : Nat} (R : Nat → Value → Value → Value → Prop)
    (F : Fr h₀ L s.heap m₀) (N : News h₀ L s.heap news) (h1 : m₀ y1 = some v1) (h2 : m₀ y2 = some v2) (h3 : m₀ y3 = some v3) (hr : R n₀ v1 v2 v3)
    (turn : ∀ n v1 v2 v3 h tk, R n v1 v2 v3 → Fr h₀ L h (fun x => if x = y1 then some v1 else if x = y2 then some v2 else if x = y3 then some v3 else m₀ x) → News h₀ L h news →
      wpAny (model prog w) A (isTrue test env (eval test env)) (fun b s₂ =>
        if b = true then wpAny (model prog w) A (execs body env) (W3Post h₀ L s R y1 y2 y3 m₀ news Q n) E s₂ else Q .next s₂) E { s with heap := h, toks := tk })
    (hE : PassesOwn (model prog w) A env E := by passes_own) :
    wpAny (model prog w) A (exec (.While test body [] pos) env) Q E s := by
  refine While_inv2 (fun n m nx => nx = news ∧ ∃ v1 v2 v3, m y1 = some v1 ∧ m y2 = some v2 ∧ m y3 = some v3 ∧ R n v1 v2 v3 ∧ ∀ x, x ≠ y1 → x ≠ y2 → x ≠ y3 → m x = m₀ x) F N ⟨rfl, v1, v2, v3, h1, h2, h3, hr, fun _ _ _ _ => rfl⟩ ?_ hE
  rintro n m₁ nx h tk F₁ N₁ ⟨rfl, v1, v2, v3, h1, h2, h3, hR, hm⟩
  have e : (fun x => if x = y1 then some v1 else if x = y2 then some v2 else if x = y3 then some v3 else m₀ x) = m₁ := by
    funext x
    by_cases e1 : x = y1
    · subst e1; simp [h1]
    · by_cases e2 : x = y2
      · subst e2; simp [e1, h2]
      · by_cases e3 : x = y3
        · subst e3; simp [e1, e2, h3]
        · simp [e1, e2, e3, hm x e1 e2 e3]
  refine wpAny_mono (turn n v1 v2 v3 h tk hR (by rw [e]; exact F₁) N₁) (fun b s₂ p => ?_) fun _ _ x => x
  cases b with
  | false => simpa using p
  | true =>
    simp only [if_true] at p ⊢
    refine wpAny_mono p (fun f s₃ q => ?_) fun _ _ x => x
    have go : W3End h₀ L s R y1 y2 y3 m₀ nx n s₃ → ∃ h' tk m₂ news₂ n', s₃ = { s with heap := h', toks := tk } ∧ Fr h₀ L h' m₂ ∧ News h₀ L h' news₂ ∧ n' < n ∧
        (news₂ = nx ∧ ∃ v1 v2 v3, m₂ y1 = some v1 ∧ m₂ y2 = some v2 ∧ m₂ y3 = some v3 ∧ R n' v1 v2 v3 ∧ ∀ x, x ≠ y1 → x ≠ y2 → x ≠ y3 → m₂ x = m₀ x) := by
      rintro ⟨h', tk', m', news', n', v1, v2, v3, rfl, F', N', hn, a1, a2, a3, hR', hs, hm'⟩
      exact ⟨h', tk', m', nx, n', rfl, F', fun p hp => N' p (hn p hp), hs, rfl, v1, v2, v3, a1, a2, a3, hR', hm'⟩
    cases f with
    | ret v => exact q
    | brk => exact q
    | next => exact go q
    | cont => exact go q
inductive FindR (w : World) (news : Led) (Fd : Option (Option Str)) : Nat → Value → Value → Value → Prop
  | mk {sa : Addr} {va vf : Value} {d : Idn} {sc : List Nm} {b : Option (Option Str)} : IdnIn w news va d → ScpIn w news (.ref sa) sc → BoundOut w news vf b → b = boundP d.key sc → findP d sc = Fd → FindR w news Fd d.depth (.ref sa) va vf
inductive FindOut (w : World) (news : Led) : Value → Option (Option Str) → Led → Prop
  | none {x dx : Addr} {o : Obj} : FindOut w news (.ref x) none ((x, instObj 185 dx) :: (dx, o) :: news)
  | spec {a : Addr} {x : Str} : SpecialIn w news a x → FindOut w news (.ref a) (some (some x)) news
  | loc {a : Addr} : LocalIn w news a → FindOut w news (.ref a) (some none) news
theorem findR_sym_none {a : Addr} {n : Int} {x : Str} {sc : List Nm} {Fd : Option (Option Str)} (h : findP (.sym a n x) sc = Fd) (e : none = boundP (Idn.key (.sym a n x)) sc) : Fd = none := by
  rw [← h, findP]; exact e.symm
theorem findR_ali_none {n : Int} {b : Idn} {sc sc' : List Nm} {Fd : Option (Option Str)} (h : findP (.ali n b sc') sc = Fd) (e : none = boundP (Idn.key (.ali n b sc')) sc) : findP b sc' = Fd := by
  rw [← h, findP, show boundP (2 * n + 1) sc = none from e.symm]
theorem findR_some {d : Idn} {sc : List Nm} {Fd : Option (Option Str)} {b : Option Str} (h : findP d sc = Fd) (e : some b = boundP d.key sc) : Fd = some b := by
  cases d with
  | sym a n x => rw [← h, findP]; exact e.symm
  | ali n b' sc' => rw [← h, findP, show boundP (2 * n + 1) sc = some b from e.symm]
end Mine
namespace Mine
local macro_rules | `(tactic| k_room) => `(tactic| ktr_room)
theorem says_find {w : World} {news : Led} {sa : Addr} {v : Value} {sc : List Nm} {d : Idn} (hs : ScpIn w news (.ref sa) sc) (h : IdnIn w news v d) :
  Says w 266 [.ref sa, v] news 4 (fun r news' => FindOut w news r (findP d sc) news') := by
  unfold Says
  k_fill
  intro mean mg mb dp un gd cn cs a ccd cl outer A₀ base h₀ L m s Q E B F X N T hk hd hu hret
  k_with_none
  have hi := hs.inst
  obtain ⟨d1, nd1, k1, t1, t1', v1, hi1, hi2⟩ := hi
  refine wpAny_call ?_
  k_dflt ktr_enter
  k_with "call ref" => (k_here; k_dflt (refine' Says.use (says_bound (by assumption) (by assumption)) ?k1 ?k2 ?k3 ?k4 ?k5 ?kK ?kd ?ku ?_; (case k1 => k_asm); (case k2 => k_asm); (case k3 => k_asm); (case k4 => k_asm); (case k5 => k_asm); (case kK => first | exact rfl | assumption); (case kd => ktr_room); (case ku => ktr_units)); intro r9 n9 h9 tk9 F9 N9 O9; obtain ⟨e9, e8⟩ := O9; subst n9; (try dsimp only); (try k_fold))
  k_with "exec While BoolOp cons nil" => (k_here; (rename Fr _ _ _ _ => lF'); (rename News _ _ _ _ => lN'); (with_unfolding_all refine' w3_while (y1 := Str.ofString "scope") (y2 := Str.ofString "at") (y3 := Str.ofString "found") (FindR w news (findP d sc)) lF' lN' (by rfl) (by rfl) (by rfl) (FindR.mk (by assumption) (by assumption) (by assumption) rfl rfl) (fun n' v1' v2' v3' h' tk' hR' F' N' => ?_)); clear lF' lN'; (obtain ⟨hI', hS', hB', hb', hF'⟩ := hR'); (have hi' := hS'.inst); (obtain ⟨d2, nd2, k2, t2, t2', v2, hi3, hi4⟩ := hi'); cases hB' <;> cases hI' <;> (rename ScpIn _ _ _ _ => hq9) <;> (obtain ⟨d3, nd3, k3, t3, t3', v3, hi5, hi6⟩ := hq9.inst) <;> (try k_fold))
  k_with "W3Post" => (dsimp only [W3Post])
  k_with "W3End" => (refine W3End.intro (by assumption) (by assumption) (by k_sub) (by with_unfolding_all rfl) (by with_unfolding_all rfl) (by with_unfolding_all rfl) (FindR.mk (by assumption) (by assumption) (by assumption) rfl (findR_ali_none (by assumption) (by assumption))) (by simp only [Idn.depth]; omega) (by intro x h1 h2 h3; simp [h1, h2, h3]))
  k_steps
  all_goals first
    | exact hret _ _ _ _ (by k_asm) (by k_asm) (by rw [findR_sym_none (Fd := findP d sc) (by assumption) (by assumption)]; exact .none)
    | exact hret _ _ _ _ (by k_asm) (by k_asm) (by rw [findR_some (Fd := findP d sc) (by assumption) (by assumption)]; exact .spec (by assumption))
    | exact hret _ _ _ _ (by k_asm) (by k_asm) (by rw [findR_some (Fd := findP d sc) (by assumption) (by assumption)]; exact .loc (by assumption))
    | trace_state
end Mine
namespace Mine
local macro_rules | `(tactic| walk_at $s:str) => `(tactic| k_extra $s)
local macro_rules | `(tactic| k_room) => `(tactic| ktr_room)
local macro_rules | `(tactic| k_all) => `(tactic| assumption)
local macro_rules | `(tactic| k_mem) => `(tactic| assumption)

theorem special_none {d : Idn} {sc : List Nm} (h : findP d sc = none) : specialP d sc = Str.ofString "" := by rw [specialP, h]
theorem special_spec {d : Idn} {sc : List Nm} {x : Str} (h : findP d sc = some (some x)) : specialP d sc = x := by rw [specialP, h]
theorem special_loc {d : Idn} {sc : List Nm} (h : findP d sc = some none) : specialP d sc = Str.ofString "" := by rw [specialP, h]
theorem says_special {w : World} {news : Led} {sa : Addr} {v : Value} {sc : List Nm} {d : Idn} (h : IdnIn w news v d) (hs : ScpIn w news (.ref sa) sc) :
  Says w 294 [v, .ref sa] news 6 (fun r news' => (∃ t, r = .str (specialP d sc) t) ∧ news' = news) := by
  unfold Says
  k_fill
  intro mean mg mb dp un gd cn cs a ccd cl outer A₀ base h₀ L m s Q E B F X N T hk hd hu hret
  k_with_none
  obtain ⟨d1, nd1, k1, t1, t1', v1, hi1, hi2⟩ := hs.inst
  refine wpAny_call ?_
  k_dflt ktr_enter
  k_with "call ref" => (k_here; k_dflt (refine' Says.use (says_is_id (by assumption)) ?k1 ?k2 ?k3 ?k4 ?k5 ?kK ?kd ?ku ?_; (case k1 => k_asm); (case k2 => k_asm); (case k3 => k_asm); (case k4 => k_asm); (case k5 => k_asm); (case kK => first | exact rfl | assumption); (case kd => ktr_room); (case ku => ktr_units)); intro r9 n9 h9 tk9 F9 N9 O9; obtain ⟨e9, e8⟩ := O9; subst r9; subst n9; (try dsimp only); (try k_fold))
  k_with "call ref" => (k_here; k_dflt (refine' Says.use (says_find (by assumption) (by assumption)) ?k1 ?k2 ?k3 ?k4 ?k5 ?kK ?kd ?ku ?_; (case k1 => k_asm); (case k2 => k_asm); (case k3 => k_asm); (case k4 => k_asm); (case k5 => k_asm); (case kK => first | exact rfl | assumption); (case kd => ktr_room); (case ku => ktr_units)); intro r9 n9 h9 tk9 F9 N9 O9; (try dsimp only at O9); (generalize hfd : findP _ _ = fd at O9); (cases O9 <;> (try (rename SpecialIn _ _ _ _ => h9; cases h9)) <;> (try (rename LocalIn _ _ _ => h9; cases h9)) <;> (try dsimp only) <;> (try k_fold)); (try dsimp only); (try k_fold))
  k_steps
  · exact hret _ _ _ _ (by k_asm) (by first | k_asm | (refine cb_drop (news := news) (by assumption) ?_; k_sub)) ⟨⟨_, by rw [special_none hfd]⟩, rfl⟩
  · exact hret _ _ _ _ (by k_asm) (by k_asm) ⟨⟨_, by rw [special_spec hfd]⟩, rfl⟩
  · exact hret _ _ _ _ (by k_asm) (by k_asm) ⟨⟨_, by rw [special_loc hfd]⟩, rfl⟩
theorem says_special_int {w : World} {news : Led} {i : Int} {t : Tok} {vs : Value} :
  Says w 294 [.int i t, vs] news 6 (fun r news' => (∃ t, r = .str (Str.ofString "") t) ∧ news' = news) := by
  unfold Says
  k_fill
  intro mean mg mb dp un gd cn cs a ccd cl outer A₀ base h₀ L m s Q E B F X N T hk hd hu hret
  k_with_none
  refine wpAny_call ?_
  k_dflt ktr_enter
  k_with "call ref" => (k_here; k_dflt (refine' Says.use (says_is_id_int) ?k1 ?k2 ?k3 ?k4 ?k5 ?kK ?kd ?ku ?_; (case k1 => k_asm); (case k2 => k_asm); (case k3 => k_asm); (case k4 => k_asm); (case k5 => k_asm); (case kK => first | exact rfl | assumption); (case kd => ktr_room); (case ku => ktr_units)); intro r9 n9 h9 tk9 F9 N9 O9; obtain ⟨e9, e8⟩ := O9; subst r9; subst n9; (try dsimp only); (try k_fold))
  k_steps
  exact hret _ _ _ _ (by k_asm) (by k_asm) ⟨⟨_, rfl⟩, rfl⟩
end Mine
namespace Mine
local macro_rules | `(tactic| walk_at $s:str) => `(tactic| k_extra $s)
local macro_rules | `(tactic| k_room) => `(tactic| ktr_room)
local macro_rules | `(tactic| k_all) => `(tactic| assumption)
local macro_rules | `(tactic| k_mem) => `(tactic| assumption)

theorem says_named {w : World} {news : Led} {v : Value} {d : Idn} {x : Str} {t0 : Tok} (h : IdnIn w news v d) :
  Says w 224 [v, .str x t0] news 4 (fun r news' => r = .bool (d.rootX == x) ∧ news' = news) := by
  unfold Says
  k_fill
  intro mean mg mb dp un gd cn cs a ccd cl outer A₀ base h₀ L m s Q E B F X N T hk hd hu hret
  k_with_none
  obtain ⟨dd, k, n, t1, tn, t2, tt, h1, h2, h3, h4⟩ := h.root
  refine wpAny_call ?_
  k_dflt ktr_enter
  k_with "call ref" => (k_here; k_dflt (refine' Says.use (says_is_id (by assumption)) ?k1 ?k2 ?k3 ?k4 ?k5 ?kK ?kd ?ku ?_; (case k1 => k_asm); (case k2 => k_asm); (case k3 => k_asm); (case k4 => k_asm); (case k5 => k_asm); (case kK => first | exact rfl | assumption); (case kd => ktr_room); (case ku => ktr_units)); intro r9 n9 h9 tk9 F9 N9 O9; obtain ⟨e9, e8⟩ := O9; subst r9; subst n9; (try dsimp only); (try k_fold))
  k_with "call ref" => (k_here; k_dflt (refine' Says.use (says_root (by assumption)) ?k1 ?k2 ?k3 ?k4 ?k5 ?kK ?kd ?ku ?_; (case k1 => k_asm); (case k2 => k_asm); (case k3 => k_asm); (case k4 => k_asm); (case k5 => k_asm); (case kK => first | exact rfl | assumption); (case kd => ktr_room); (case ku => ktr_units)); intro r9 n9 h9 tk9 F9 N9 O9; obtain ⟨e9, e8⟩ := O9; subst r9; subst n9; (try dsimp only); (try k_fold))
  k_steps
  exact hret _ _ _ _ (by k_asm) (by k_asm) ⟨rfl, rfl⟩
theorem says_named_int {w : World} {news : Led} {i : Int} {x : Str} {t t0 : Tok} :
  Says w 224 [.int i t, .str x t0] news 4 (fun r news' => r = .bool false ∧ news' = news) := by
  unfold Says
  k_fill
  intro mean mg mb dp un gd cn cs a ccd cl outer A₀ base h₀ L m s Q E B F X N T hk hd hu hret
  k_with_none
  refine wpAny_call ?_
  k_dflt ktr_enter
  k_with "call ref" => (k_here; k_dflt (refine' Says.use (says_is_id_int) ?k1 ?k2 ?k3 ?k4 ?k5 ?kK ?kd ?ku ?_; (case k1 => k_asm); (case k2 => k_asm); (case k3 => k_asm); (case k4 => k_asm); (case k5 => k_asm); (case kK => first | exact rfl | assumption); (case kd => ktr_room); (case ku => ktr_units)); intro r9 n9 h9 tk9 F9 N9 O9; obtain ⟨e9, e8⟩ := O9; subst r9; subst n9; (try dsimp only); (try k_fold))
  k_steps
  exact hret _ _ _ _ (by k_asm) (by k_asm) ⟨rfl, rfl⟩
abbrev worldD (w : World) (tA a1 a2 : Addr) (n : Int) (t1 t2 t3 t4 t5 t6 : Tok) : Obj :=
  dictOf [⟨kh w "table", .str (Str.ofString "table") t1, .ref tA⟩, ⟨kh w "last", .str (Str.ofString "last") t2, .int n t3⟩, ⟨kh w "titles", .str (Str.ofString "titles") t4, .ref a1⟩,
    ⟨kh w "ops", .str (Str.ofString "ops") t5, .ref a2⟩, ⟨kh w "root", .str (Str.ofString "root") t6, .none⟩] 5
theorem says_fresh {w : World} {rest : Led} {wA wd tA a1 a2 : Addr} {n : Int} {t1 t2 t3 t4 t5 t6 : Tok} (hw : (wA, instObj 388 wd) ∈ rest) (hoff : ∀ p ∈ rest, p.1 ≠ wd) (hn : 0 ≤ n) (hn' : n < 100) :
  Says w 329 [.ref wA] ((wd, worldD w tA a1 a2 n t1 t2 t3 t4 t5 t6) :: rest) 2 (fun r news' => ∃ t3', r = .int (n + 1) t3' ∧ news' = (wd, worldD w tA a1 a2 (n + 1) t1 t2 t3' t4 t5 t6) :: rest) := by
  unfold Says
  k_fill
  intro mean mg mb dp un gd cn cs a ccd cl outer A₀ base h₀ L m s Q E B F X N T hk hd hu hret
  k_with_none
  refine wpAny_call ?_
  k_dflt ktr_enter
  k_steps
  exact hret _ _ _ _ (by k_asm) (by k_asm) ⟨_, rfl, rfl⟩
theorem says_alias {w : World} {rest : Led} {wA wd tA a1 a2 sa : Addr} {n : Int} {t1 t2 t3 t4 t5 t6 : Tok} {v : Value} (hw : (wA, instObj 388 wd) ∈ rest) (hoff : ∀ p ∈ rest, p.1 ≠ wd) (hn : 0 ≤ n) (hn' : n < 100) (hv : handedIn v = true) :
  Says w 308 [v, .ref sa, .ref wA] ((wd, worldD w tA a1 a2 n t1 t2 t3 t4 t5 t6) :: rest) 6 (fun r news' => ∃ x dx t3' u1 u1' u2 u3, r = .ref x ∧ dx < x ∧ (∀ p ∈ ((wd, worldD w tA a1 a2 n t1 t2 t3 t4 t5 t6) :: rest), p.1 < dx) ∧
     news' = (x, instObj 122 dx) :: (dx, dictOf [⟨kh w "number", .str (Str.ofString "number") u1, .int (n + 1) u1'⟩, ⟨kh w "base", .str (Str.ofString "base") u2, v⟩, ⟨kh w "scope", .str (Str.ofString "scope") u3, .ref sa⟩] 3) :: (wd, worldD w tA a1 a2 (n + 1) t1 t2 t3' t4 t5 t6) :: rest) := by
  unfold Says
  k_fill
  intro mean mg mb dp un gd cn cs a ccd cl outer A₀ base h₀ L m s Q E B F X N T hk hd hu hret
  k_with_none
  refine wpAny_call ?_
  k_dflt ktr_enter
  k_with "call ref" => (k_here; k_dflt (refine' Says.use (says_fresh (by assumption) (by assumption) (by assumption) (by assumption)) ?k1 ?k2 ?k3 ?k4 ?k5 ?kK ?kd ?ku ?_; (case k1 => k_asm); (case k2 => k_asm); (case k3 => k_asm); (case k4 => k_asm); (case k5 => k_asm); (case kK => first | exact rfl | assumption); (case kd => ktr_room); (case ku => ktr_units)); intro r9 n9 h9 tk9 F9 N9 O9; obtain ⟨t3', e9, e8⟩ := O9; subst r9; subst n9; (try dsimp only); (try k_fold))
  k_steps
  exact hret _ _ _ _ (by k_asm) (by k_asm) ⟨_, _, _, _, _, _, _, rfl, by assumption, ktn_ltOf (l := (wd, _) :: rest) (by assumption), rfl⟩
end Mine
namespace Mine
local macro_rules | `(tactic| walk_at $s:str) => `(tactic| k_extra $s)
local macro_rules | `(tactic| k_room) => `(tactic| ktr_room)
local macro_rules | `(tactic| k_all) => `(tactic| assumption)
local macro_rules | `(tactic| k_mem) => `(tactic| assumption)

theorem nm_set {w : World} {A : Around} {E : Value → Shared → Prop} {s : Shared} {h₀ : Heap} {L nd : Addr} {m : Str → Option Value} {rest : Led} {o : Obj} {kvs : List (Int × Value)} {k : Int} {t : Tok} {v : Value} {Q : Unit → Shared → Prop}
    (F : Fr h₀ L s.heap m) (N : News h₀ L s.heap ((nd, o) :: rest)) (hoff : ∀ p ∈ rest, p.1 ≠ nd) (hd : o.IsDictOf (IntK w) kvs) (hsz : kvs.length ≤ 1000)
    (h : ∀ h' o', Fr h₀ L h' m → News h₀ L h' ((nd, o') :: rest) → o'.IsDictOf (IntK w) (stored kvs k v) → Q () { s with heap := h', toks := s.toks + 1 }) :
    wpAny (model PySem.Challenge.rw_nt0172_01.row.prog w) A (setItem (.ref nd) (.int k t) v) Q E s :=
  kda_set (knd := IntK w) (g := fun o' => (nd, o') :: rest) F N (.head hoff) hd (intKind_is _ _ _ _) (by rw [sizeLine_eq]; omega) h
theorem says_bind {w : World} {rest : Led} {a dd nd kk : Addr} {o : Obj} {kvs : List (Int × Value)} {t t' : Tok} {v val pv : Value} {d : Idn}
  (h1 : (a, instObj 283 dd) ∈ rest) (h2 : (dd, dictOf [⟨kh w "parent", .str (Str.ofString "parent") t, pv⟩, ⟨kh w "names", .str (Str.ofString "names") t', .ref nd⟩] kk) ∈ rest)
  (hoff : ∀ p ∈ rest, p.1 ≠ nd) (hd' : o.IsDictOf (IntK w) kvs) (hsz : kvs.length ≤ 1000) (hI : IdnIn w rest v d) :
  Says w 245 [.ref a, v, val] ((nd, o) :: rest) 3 (fun r news' => r = .none ∧ ∃ o', o'.IsDictOf (IntK w) (stored kvs d.key val) ∧ news' = (nd, o') :: rest) := by
  unfold Says
  k_fill
  intro mean mg mb dp un gd cn cs a ccd cl outer A₀ base h₀ L m s Q E B F X N T hk hd hu hret
  k_with_none
  have hI' := IdnIn.mono (news' := (nd, o) :: rest) hI (fun _ hp => List.Mem.tail _ hp)
  refine wpAny_call ?_
  k_dflt ktr_enter
  k_with "call ref" => (k_here; k_dflt (refine' Says.use (says_key_of (by assumption)) ?k1 ?k2 ?k3 ?k4 ?k5 ?kK ?kd ?ku ?_; (case k1 => k_asm); (case k2 => k_asm); (case k3 => k_asm); (case k4 => k_asm); (case k5 => k_asm); (case kK => first | exact rfl | assumption); (case kd => ktr_room); (case ku => ktr_units)); intro r9 n9 h9 tk9 F9 N9 O9; obtain ⟨⟨t9, e9⟩, e8⟩ := O9; subst r9; subst n9; (try dsimp only); (try k_fold))
  k_with "setItem ref int" => (k_here; k_dflt (refine' nm_set ?k1 ?k2 ?k3 ?k4 ?k5 ?_; (case k1 => k_asm); (case k2 => k_asm); (case k3 => assumption); (case k4 => assumption); (case k5 => assumption)); intro h9 o9 F9 N9 hd9; (try k_fold))
  k_steps
  exact hret _ _ _ _ (by k_asm) (by k_asm) ⟨rfl, _, by assumption, rfl⟩
end Mine
namespace Mine
local macro_rules | `(tactic| walk_at $s:str) => `(tactic| k_extra $s)
local macro_rules | `(tactic| k_room) => `(tactic| ktr_room)
local macro_rules | `(tactic| k_all) => `(tactic| assumption)
local macro_rules | `(tactic| k_mem) => `(tactic| assumption)

inductive DeckObj (o : Obj) : Prop
  | mk {vs : List Value} {ns : List Int} {k : Nat} : o = listOf vs.toArray k → IntsAre vs ns → (∀ x ∈ ns, 0 ≤ x) → ns.length ≤ 16 → DeckObj o
inductive DeckR : Nat → Obj → Prop
  | mk {vs : List Value} {ns : List Int} {k : Nat} : IntsAre vs ns → (∀ x ∈ ns, 0 ≤ x) → ns.length ≤ 16 → DeckR ns.length (listOf vs.toArray k)
/-- a while that changes one object, D, and no name -/
def WdEnd (h₀ : Heap) (L : Addr) (s : Shared) (R : Nat → Obj → Prop) (D : Addr) (rest : Led) (m₀ : Str → Option Value) (n : Nat) (s₂ : Shared) : Prop :=
  ∃ h' tk m' news' n' o', s₂ = { s with heap := h', toks := tk } ∧ Fr h₀ L h' m' ∧ News h₀ L h' news' ∧ (∀ p ∈ (D, o') :: rest, p ∈ news') ∧ m' = m₀ ∧ R n' o' ∧ n' < n
def WdPost (h₀ : Heap) (L : Addr) (s : Shared) (R : Nat → Obj → Prop) (D : Addr) (rest : Led) (m₀ : Str → Option Value) (Q : Flow → Shared → Prop) (n : Nat) (f : Flow) (s₂ : Shared) : Prop :=
  match f with
  | .ret v => Q (.ret v) s₂
  | .brk => Q .next s₂
  | _ => WdEnd h₀ L s R D rest m₀ n s₂
theorem WdEnd.intro {h₀ : Heap} {L : Addr} {s : Shared} {R : Nat → Obj → Prop} {D : Addr} {rest : Led} {m₀ : Str → Option Value} {news' : Led} {n n' : Nat} {h' : Heap} {tk : Nat} {o' : Obj}
    (F : Fr h₀ L h' m₀) (N : News h₀ L h' news') (hR : R n' o') (hn : ∀ p ∈ (D, o') :: rest, p ∈ news') (hl : n' < n) : WdEnd h₀ L s R D rest m₀ n { s with heap := h', toks := tk } :=
  ⟨h', tk, m₀, news', n', o', rfl, F, N, hn, rfl, hR, hl⟩
theorem wd_while {prog : Program} {w : World} {A : Around} {E : Value → Shared → Prop} {Q : Flow → Shared → Prop} {s : Shared} {env : Env} {h₀ : Heap} {L D : Addr}
    {test : Expr} {body : List Stmt} {pos : Pos} {m₀ : Str → Option Value} {rest : Led} {o₀ : Obj} {n₀ : Nat} (R : Nat → Obj → Prop)
    (F : Fr h₀ L s.heap m₀) (N : News h₀ L s.heap ((D, o₀) :: rest)) (hr : R n₀ o₀)
    (turn : ∀ n o h tk, R n o → Fr h₀ L h m₀ → News h₀ L h ((D, o) :: rest) →
      wpAny (model prog w) A (isTrue test env (eval test env)) (fun b s₂ =>
        if b = true then wpAny (model prog w) A (execs body env) (WdPost h₀ L s R D rest m₀ Q n) E s₂ else Q .next s₂) E { s with heap := h, toks := tk })
    (hE : PassesOwn (model prog w) A env E := by passes_own) :
    wpAny (model prog w) A (exec (.While test body [] pos) env) Q E s := by
  refine While_inv2 (fun n m nx => m = m₀ ∧ ∃ o, nx = (D, o) :: rest ∧ R n o) F N ⟨rfl, o₀, rfl, hr⟩ ?_ hE
  rintro n m₁ nx h tk F₁ N₁ ⟨rfl, o, rfl, hR⟩
  refine wpAny_mono (turn n o h tk hR F₁ N₁) (fun b s₂ p => ?_) fun _ _ x => x
  cases b with
  | false => simpa using p
  | true =>
    simp only [if_true] at p ⊢
    refine wpAny_mono p (fun f s₃ q => ?_) fun _ _ x => x
    have go : WdEnd h₀ L s R D rest m₁ n s₃ → ∃ h' tk m₂ news₂ n', s₃ = { s with heap := h', toks := tk } ∧ Fr h₀ L h' m₂ ∧ News h₀ L h' news₂ ∧ n' < n ∧ (m₂ = m₁ ∧ ∃ o, news₂ = (D, o) :: rest ∧ R n' o) := by
      rintro ⟨h', tk', m', news', n', o', rfl, F', N', hn, rfl, hR', hs⟩
      exact ⟨h', tk', m', (D, o') :: rest, n', rfl, F', fun p hp => N' p (hn p hp), hs, rfl, o', rfl, hR'⟩
    cases f with
    | ret v => exact q
    | brk => exact q
    | next => exact go q
    | cont => exact go q
theorem my_sub {w : World} {A : Around} {E : Value → Shared → Prop} {s : Shared} {h₀ : Heap} {L D : Addr} {news : Led} {vs : List Value} {n : Nat} {k : Int} {u : Tok} {v : Value} {value slice : PySem.Expr} {Q : Value → Shared → Prop}
    (N : News h₀ L s.heap news) (hm : (D, listOf vs.toArray n) ∈ news) (h0 : 0 ≤ k) (hhi : k < 2 ^ 63) (hx : vs[k.toNat]? = some v) (h : Q v s)
    (hs : subscripted slice false (.ref D) (.int k u) = operate [.ref D, .int k u] (getItem (.ref D) (.int k u)) := by with_unfolding_all rfl) :
    wpAny (model PySem.Challenge.rw_nt0172_01.row.prog w) A (subscriptTail value slice (.ref D) (.int k u)) Q E s :=
  have hL : s.heap.IsList D vs.toArray := ⟨_, N.get hm, rfl, n, rfl⟩
  tail_any hL.typeIs slot_list_getitem.lookup (wpAny_getItem_list hL h0 hhi (by simpa using hx) h) hs
theorem pop0 {w : World} {A : Around} {E : Value → Shared → Prop} {s : Shared} {h₀ : Heap} {L D : Addr} {m : Str → Option Value} {news news' : Led} {q : List Value} {y : Value} {n : Nat} {u : Tok} {Q : Value → Shared → Prop}
    (F : Fr h₀ L s.heap m) (N : News h₀ L s.heap news) (U : Upd D (listOf (y :: q).toArray n) (listOf q.toArray (n + 1)) news news') (hz : q.length ≤ 1000)
    (h : ∀ h', Fr h₀ L h' m → News h₀ L h' news' → Q y { s with heap := h' }) : wpAny (model PySem.Challenge.rw_nt0172_01.row.prog w) A (call (.builtin "list.pop") [.ref D, .int 0 u]) Q E s :=
  kl_popAt (its := (y :: q).toArray) (k := 0) (p := []) (q := q) (y := y) F N (by rfl) (by simp [seqIndex?]) rfl U (by simp only [List.toList_toArray, List.length_cons]; rw [sizeLine_eq]; omega) h
theorem draw_lo {n many : Int} {ns : List Int} (hm : 1 ≤ many) : 0 ≤ ((n :: ns).getD (Int.toNat 0) 0).fmod many := Int.fmod_nonneg_of_pos _ (by omega)
theorem draw_hi {n many : Int} {ns : List Int} (hm : 1 ≤ many) : ((n :: ns).getD (Int.toNat 0) 0).fmod many < many := Int.fmod_lt_of_pos _ (by omega)
theorem draw_obj {n many : Int} {ns : List Int} {vs : List Value} {k : Nat} {t : Tok} (hm : 1 ≤ many) (hi : IntsAre vs ns) (hp : ∀ x ∈ n :: ns, 0 ≤ x) (hl : (n :: ns).length ≤ 16) :
    DeckObj (listOf (Value.int (((n :: ns).getD (Int.toNat 0) 0).fdiv many) t :: vs).toArray k) := by
  refine ⟨rfl, .cons _ _ hi, ?_, by simpa using hl⟩
  intro x hx
  rcases List.mem_cons.mp hx with rfl | hx
  · exact Int.fdiv_nonneg (hp n (.head _)) (by omega)
  · exact hp x (.tail _ hx)
theorem says_draw {w : World} {rest : Led} {D : Addr} {o : Obj} {many : Int} {tm : Tok} (hoff : ∀ p ∈ rest, p.1 ≠ D) (ho : DeckObj o) (hm : 1 ≤ many) (hm' : many ≤ 1000) :
  Says w 411 [.ref D, .int many tm] ((D, o) :: rest) 20 (fun r news' => ∃ i t o', r = .int i t ∧ 0 ≤ i ∧ i < many ∧ DeckObj o' ∧ news' = (D, o') :: rest) := by
  unfold Says
  k_fill
  intro mean mg mb dp un gd cn cs a ccd cl outer A₀ base h₀ L m s Q E B F X N T hk hd hu hret
  k_with_none
  obtain ⟨e, hi, hp, hl⟩ := ho
  subst e
  refine wpAny_call ?_
  k_dflt ktr_enter
  k_with "exec While BoolOp cons nil" => (k_here; (rename Fr _ _ _ _ => lF'); (rename News _ _ _ _ => lN'); (with_unfolding_all refine' wd_while DeckR lF' lN' (DeckR.mk (by assumption) (by assumption) (by assumption)) (fun n' o' h' tk' hR' F' N' => ?_)); clear lF' lN' hi hp hl; (obtain ⟨hi, hp, hl⟩ := hR'); (cases hi <;> (try k_fold)))
  k_with "subscriptTail" => (k_here; (with_reducible show wpAny _ _ (subscriptTail _ _ (Value.ref _) (Value.int _ _)) _ _ _); k_dflt (refine' my_sub ?k1 ?k2 ?k3 ?k4 ?k5 ?_ ?k6; (case k1 => k_asm); (case k2 => k_mem); (case k3 => decide); (case k4 => decide); (case k5 => rfl); (case k6 => with_unfolding_all rfl)))
  k_with "call builtin:list.pop" => (k_here; k_dflt (refine' pop0 ?F ?N ?U ?z ?_; (case F => k_asm); (case N => k_asm); (case U => k_upd); (case z => ((have hLen9 := IntsAre.length (by assumption)); simp only [List.length_cons] at *; omega))); intro h' F' N'; (try k_fold))
  k_with "WdEnd" => (refine WdEnd.intro (by assumption) (by assumption) (DeckR.mk (by assumption) (fun x hx => hp x (.tail _ hx)) (by simp only [List.length_cons] at hl; omega)) (by k_sub) (by simp))
  k_with "WdPost" => (dsimp only [WdPost])
  k_steps
  all_goals first
    | (exfalso; (rename decide (_ = ([] : List Int)) = true => hc); simp at hc; done)
    | exact hret _ _ _ _ (by k_asm) (by first | k_asm | (refine cb_drop (by assumption) ?_; k_sub)) ⟨_, _, _, rfl, draw_lo hm, draw_hi hm, draw_obj hm (by assumption) hp hl, rfl⟩
    | exact hret _ _ _ _ (by k_asm) (by first | k_asm | (refine cb_drop (by assumption) ?_; k_sub)) ⟨_, _, _, rfl, by omega, by omega, .mk rfl .nil (fun _ h => (nomatch h)) (by simp), rfl⟩
    | trace_state
end Mine
namespace Mine
/-- a for over a range that changes no object and no name but its own -/
def RdEnd (h₀ : Heap) (L : Addr) (x : Str) (m₀ : Str → Option Value) (all : Led) (I : Prop) (s₁ s₂ : Shared) : Prop :=
  ∃ h' tk m' news', s₂ = { s₁ with heap := h', toks := tk } ∧ Fr h₀ L h' m' ∧ News h₀ L h' news' ∧ (∀ p ∈ all, p ∈ news') ∧ (∀ z, z ≠ x → m' z = m₀ z) ∧ I
def RdPost (h₀ : Heap) (L : Addr) (x : Str) (m₀ : Str → Option Value) (all : Led) (I : Prop) (s₁ : Shared) (Q : Flow → Shared → Prop) (f : Flow) (s₂ : Shared) : Prop :=
  match f with
  | .ret v => Q (.ret v) s₂
  | .brk => Q .next s₂
  | _ => RdEnd h₀ L x m₀ all I s₁ s₂
theorem RdEnd.intro {h₀ : Heap} {L : Addr} {x : Str} {m₀ m' : Str → Option Value} {all news' : Led} {I : Prop} {s₁ : Shared} {h' : Heap} {tk : Nat}
    (F : Fr h₀ L h' m') (N : News h₀ L h' news') (hn : ∀ p ∈ all, p ∈ news') (hm : ∀ z, z ≠ x → m' z = m₀ z) (hI : I) : RdEnd h₀ L x m₀ all I s₁ { s₁ with heap := h', toks := tk } :=
  ⟨h', tk, m', news', rfl, F, N, hn, hm, hI⟩
section
variable {prog : Program} {w : World} {A : Around} {E : Value → Shared → Prop} {s : Shared} {env : Env} {h₀ : Heap} {x : Str} {body : List Stmt} {Q : Flow → Shared → Prop}
theorem rd_range {r : Addr} {a₀ b₀ c : Int} {t₀ u₀ v₀ : Tok} {n : Nat} {m₀ : Str → Option Value} {news : Led} (I : Nat → Prop)
    (hh : A.handled = none) (hr : IsRange s.heap r a₀ b₀ c t₀ u₀ v₀) (hsmall : Builtin.Range.small a₀ b₀ c = true) (hn : Builtin.Range.rangeSize a₀ b₀ c = (n : Int))
    (F : Fr h₀ env.locals s.heap m₀) (N : News h₀ env.locals s.heap news) (h0 : I 0)
    (turn : ∀ (i : Nat) (k : Int) t h tk own, k = a₀ + (i : Int) * c → i < n → I i → TbOff own news → Fr h₀ env.locals h (fun y => if y = x then some (.int k t) else m₀ y) → News h₀ env.locals h (news ++ own) →
      wpAny (model prog w) A (execs body env) (RdPost h₀ env.locals x m₀ (news ++ own) (I (i + 1)) { s with heap := h, toks := tk } Q) E { s with heap := h, toks := tk })
    (done : ∀ u h tk, I n → Fr h₀ env.locals h (fun y => if y = x then u else m₀ y) → News h₀ env.locals h news → Q .next { s with heap := h, toks := tk }) :
    wpAny (model prog w) A (pyIter (.ref r)) (fun it s₂ => LoopAtV prog w A h₀ env x body Q E it s₂) E s := by
  refine wpAny_pyIter_range hr hsmall ?_
  have W : Walks prog w A s.heap.objs.size [s.heap.objs.size] [s.heap.objs.size] n (fun i v => i < n ∧ ∃ t, v = .int (a₀ + i * c) t)
      (fun i h => IsRangeIter h s.heap.objs.size (a₀ + (i : Nat) * c) ((n : Int) - (i : Nat)) c) := (Walks.range hh _ a₀ c n).bound
  refine tbr_loop (fun i m nx => nx = news ∧ (∀ z, z ≠ x → m z = m₀ z) ∧ I i) W (fun _ h => h) (fun _ h => h) ?_ ?_ ?_ ?_ (by show IsRangeIter _ _ _ _ _; rw [hn]; simpa using Heap.get?_push_size _ rfl) (F.push _) (fun p hp => ⟨Heap.get?_push_of_some _ (N p hp).1, (N p hp).2⟩) ⟨rfl, fun _ _ => rfl, h0⟩ ?_ ?_
  · intro i h hi b hb
    rw [List.mem_singleton.mp hb]
    exact ⟨_, hi⟩
  · intro hm
    exact absurd F.ns.lt ((List.mem_singleton.mp hm) ▸ Nat.lt_irrefl _)
  · intro b hb
    rw [List.mem_singleton.mp hb]
    exact next_is_new F
  · intro p hp hI
    exact absurd (Heap.lt_size (N p hp).1) ((List.mem_singleton.mp hI) ▸ Nat.lt_irrefl _)
  · rintro i v m₁ nx h tk own hi ⟨_, t, rfl⟩ hoff ⟨rfl, hm, hI⟩ F₁ N₁
    have e : (fun y => if y = x then some (Value.int (a₀ + (i : Int) * c) t) else m₁ y) = fun y => if y = x then some (Value.int (a₀ + (i : Int) * c) t) else m₀ y := by
      funext y
      by_cases h1 : y = x
      · simp [h1]
      · simp only [if_neg h1]; exact hm y h1
    rw [e] at F₁
    refine wpAny_mono (turn i _ t h tk own rfl hi hI hoff F₁ N₁) (fun f s₂ p => ?_) fun _ _ e => e
    have fin : RdEnd h₀ env.locals x m₀ (nx ++ own) (I (i + 1)) { s with heap := h, toks := tk } s₂ → TbEnd h₀ env.locals (fun m' nx' => nx' = nx ∧ (∀ z, z ≠ x → m' z = m₀ z) ∧ I (i + 1)) own { s with heap := h, toks := tk } s₂ := by
      rintro ⟨h', tk', m', news', rfl, F', N', ha, hm', hI'⟩
      exact ⟨h', tk', m', news', nx, rfl, F', N', fun p hp => ha p (List.mem_append.mpr (.inl hp)), fun p hp => ha p (List.mem_append.mpr (.inr hp)), hoff, rfl, hm', hI'⟩
    cases f with
    | ret v => exact p
    | brk => exact p
    | next => exact fin p
    | cont => exact fin p
  · rintro m₁ nx h tk ⟨rfl, hm, hI⟩ F₁ N₁
    refine done (m₁ x) h tk hI ?_ N₁
    have e : (fun y => if y = x then m₁ x else m₀ y) = m₁ := by
      funext y
      by_cases h1 : y = x
      · simp [h1]
      · simp only [if_neg h1]; exact (hm y h1).symm
    rw [e]; exact F₁
end
theorem size_down (lv : Nat) : Builtin.Range.rangeSize (lv : Int) (-1) (-1) = ((lv + 1 : Nat) : Int) := by rw [rangeSize_downNat]; omega
-- words bound, by number
inductive WdIn : List (Int × Value) → List (Int × Str) → Prop
  | nil : WdIn [] []
  | cons {k : Int} {x : Str} {t : Tok} {kvs : List (Int × Value)} {ws : List (Int × Str)} : WdIn kvs ws → WdIn ((k, .str x t) :: kvs) ((k, x) :: ws)
def lookW (ws : List (Int × Str)) (k : Int) : Option Str := (ws.find? fun p => p.1 = k).map (·.2)
theorem WdIn.at {kvs : List (Int × Value)} {ws : List (Int × Str)} (h : WdIn kvs ws) (k : Int) : (valueAt kvs k = none ∧ lookW ws k = none) ∨ ∃ x t, valueAt kvs k = some (.str x t) ∧ lookW ws k = some x := by
  induction h with
  | nil => exact .inl ⟨rfl, rfl⟩
  | @cons k' x t kvs ws _ ih =>
    by_cases e : k' = k
    · refine .inr ⟨x, t, ?_, ?_⟩ <;> simp [valueAt, lookW, List.find?_cons, e]
    · simpa only [valueAt, lookW, List.find?_cons, e, decide_false] using ih
structure BndIn (w : World) (news : Led) (bd : List Value) (Bd : List (List (Int × Str))) : Prop where
  len : bd.length = Bd.length
  at_ : ∀ l, l < Bd.length → ∃ dA o kvs, bd[l]? = some (.ref dA) ∧ (dA, o) ∈ news ∧ (dA == sysModules) = false ∧ Obj.IsDictOf (IntK w) o kvs ∧ WdIn kvs (Bd.getD l [])
theorem BndIn.mono {w : World} {news news' : Led} {bd : List Value} {Bd : List (List (Int × Str))} (h : BndIn w news bd Bd) (hs : ∀ p ∈ news, p ∈ news') : BndIn w news' bd Bd :=
  ⟨h.len, fun l hl => let ⟨dA, o, kvs, h1, h2, h3, h4, h5⟩ := h.at_ l hl; ⟨dA, o, kvs, h1, hs _ h2, h3, h4, h5⟩⟩
abbrev tup2 (b l : Int) (tb tl : Tok) : Obj := { cls := .type "tuple", data := .seq [Value.int b tb, Value.int l tl].toArray }
inductive BaseIn (news : Led) : Value → Option (Nat × Nat) → Prop
  | none : BaseIn news .none none
  | some {tA : Addr} {b l : Nat} {tb tl : Tok} : (tA, tup2 b l tb tl) ∈ news → BaseIn news (.ref tA) (some (b, l))
theorem BaseIn.mono {news news' : Led} {v : Value} {o : Option (Nat × Nat)} (h : BaseIn news v o) (hs : ∀ p ∈ news, p ∈ news') : BaseIn news' v o := by
  cases h with
  | none => exact .none
  | some h => exact .some (hs _ h)
structure BasesIn (news : Led) (bs : List Value) (Bs : List (Option (Nat × Nat))) : Prop where
  len : bs.length = Bs.length
  at_ : ∀ i, i < Bs.length → ∃ v, bs[i]? = some v ∧ BaseIn news v (Bs.getD i none)
theorem BasesIn.mono {news news' : Led} {bs : List Value} {Bs : List (Option (Nat × Nat))} (h : BasesIn news bs Bs) (hs : ∀ p ∈ news, p ∈ news') : BasesIn news' bs Bs :=
  ⟨h.len, fun i hi => let ⟨v, h1, h2⟩ := h.at_ i hi; ⟨v, h1, h2.mono hs⟩⟩
def meantAt (Bd : List (List (Int × Str))) (num : Int) : Nat → Option Str
  | 0 => lookW (Bd.getD 0 []) num
  | l + 1 => match lookW (Bd.getD (l + 1) []) num with
    | some x => some x
    | none => meantAt Bd num l
def meantP (Bs : List (Option (Nat × Nat))) (Bd : List (List (Int × Str))) : Nat → Nat → Nat → Str
  | 0, _, _ => Str.ofString ""
  | f + 1, num, lv => match meantAt Bd num lv with
    | some x => x
    | none => match Bs.getD num none with
      | none => Str.ofString ""
      | some (b, l) => meantP Bs Bd f b l
theorem meantAt_none {Bd : List (List (Int × Str))} {num : Int} : ∀ lv : Nat, (∀ j, j < lv + 1 → lookW (Bd.getD (lv - j) []) num = none) → meantAt Bd num lv = none
  | 0, h => h 0 (by omega)
  | l + 1, h => by
    have h0 := h 0 (by omega)
    rw [Nat.sub_zero] at h0
    rw [meantAt, h0]
    exact meantAt_none l fun j hj => by
      have := h (j + 1) (by omega)
      rwa [show l + 1 - (j + 1) = l - j by omega] at this
theorem meantAt_some {Bd : List (List (Int × Str))} {num : Int} {x : Str} : ∀ (lv i : Nat), i < lv + 1 → (∀ j, j < i → lookW (Bd.getD (lv - j) []) num = none) → lookW (Bd.getD (lv - i) []) num = some x → meantAt Bd num lv = some x
  | 0, i, hi, _, h => by
    have : i = 0 := by omega
    subst this; exact h
  | l + 1, 0, _, _, h => by rw [Nat.sub_zero] at h; rw [meantAt, h]
  | l + 1, i + 1, hi, hn, h => by
    have h0 := hn 0 (by omega)
    rw [Nat.sub_zero] at h0
    rw [meantAt, h0]
    refine meantAt_some l i (by omega) (fun j hj => ?_) ?_
    · have := hn (j + 1) (by omega)
      rwa [show l + 1 - (j + 1) = l - j by omega] at this
    · rwa [show l + 1 - (i + 1) = l - i by omega] at h
end Mine
namespace Mine
local macro_rules | `(tactic| walk_at $s:str) => `(tactic| k_extra $s)
local macro_rules | `(tactic| k_room) => `(tactic| ktr_room)
local macro_rules | `(tactic| k_all) => `(tactic| assumption)
local macro_rules | `(tactic| k_mem) => `(tactic| assumption)

theorem my_dsub {w : World} {A : Around} {E : Value → Shared → Prop} {s : Shared} {h₀ : Heap} {L d : Addr} {news : Led} {o : Obj} {kvs : List (Int × Value)} {k : Int} {t : Tok} {v : Value} {value slice : PySem.Expr} {Q : Value → Shared → Prop}
    (N : News h₀ L s.heap news) (hp : (d, o) ∈ news) (hd : o.IsDictOf (IntK w) kvs) (hl : valueAt kvs k = some v) (h : Q v { s with toks := s.toks + 1 })
    (hs : subscripted slice false (.ref d) (.int k t) = operate [.ref d, .int k t] (getItem (.ref d) (.int k t)) := by with_unfolding_all rfl) (hg : ∀ r, letTemporaryGo value (.ref d) r = pure () := by intro _; with_unfolding_all rfl) :
    wpAny (model PySem.Challenge.rw_nt0172_01.row.prog w) A (subscriptTail value slice (.ref d) (.int k t)) Q E s := kda_item (knd := IntK w) N hp hd (intKind_is _ _ _ _) hl h hs hg
theorem my_tsub {w : World} {A : Around} {E : Value → Shared → Prop} {s : Shared} {h₀ : Heap} {L d : Addr} {news : Led} {b l : Int} {tb tl : Tok} {k : Int} {u : Tok} {v : Value} {j : Nat} {value slice : PySem.Expr} {Q : Value → Shared → Prop}
    (N : News h₀ L s.heap news) (hp : (d, tup2 b l tb tl) ∈ news) (hlo : -(2 ^ 63) ≤ k) (hhi : k < 2 ^ 63) (hj : seqIndex? k 2 = some j) (hx : [Value.int b tb, Value.int l tl][j]? = some v) (h : Q v s)
    (hs : subscripted slice false (.ref d) (.int k u) = operate [.ref d, .int k u] (getItem (.ref d) (.int k u)) := by with_unfolding_all rfl) :
    wpAny (model PySem.Challenge.rw_nt0172_01.row.prog w) A (subscriptTail value slice (.ref d) (.int k u)) Q E s :=
  item_tupleT (l := [Value.int b tb, Value.int l tl]) ⟨_, N.get hp, rfl, 0, rfl⟩ hlo hhi hj hx h hs
theorem meantP_hit {Bs : List (Option (Nat × Nat))} {Bd : List (List (Int × Str))} {f num lv i : Nat} {x : Str} (hi : i < lv + 1) (hn : ∀ j, j < i → lookW (Bd.getD (lv - j) []) num = none) (h : lookW (Bd.getD (lv - i) []) num = some x) : meantP Bs Bd (f + 1) num lv = x := by
  rw [meantP, meantAt_some lv i hi hn h]
theorem meantP_root {Bs : List (Option (Nat × Nat))} {Bd : List (List (Int × Str))} {f num lv : Nat} (hn : ∀ j, j < lv + 1 → lookW (Bd.getD (lv - j) []) num = none) (h : Bs.getD num none = none) : meantP Bs Bd (f + 1) num lv = Str.ofString "" := by
  rw [meantP, meantAt_none lv hn, h]
theorem meantP_up {Bs : List (Option (Nat × Nat))} {Bd : List (List (Int × Str))} {f num lv b l : Nat} (hn : ∀ j, j < lv + 1 → lookW (Bd.getD (lv - j) []) num = none) (h : Bs.getD num none = some (b, l)) : meantP Bs Bd (f + 1) num lv = meantP Bs Bd f b l := by
  rw [meantP, meantAt_none lv hn, h]
theorem says_meant {w : World} {news : Led} {bs bd : List Value} {Bs : List (Option (Nat × Nat))} {Bd : List (List (Int × Str))} {basesA boundA kb kd : Nat}
    (h1 : (basesA, listOf bs.toArray kb) ∈ news) (h2 : (boundA, listOf bd.toArray kd) ∈ news) (hBs : BasesIn news bs Bs) (hB : BndIn w news bd Bd)
    (hwf : ∀ i b l, Bs.getD i none = some (b, l) → b < i ∧ b < Bs.length ∧ l < Bd.length) (hlen : Bs.length ≤ 50) (hlen' : Bd.length ≤ 50) :
    ∀ (f num lv : Nat), num < f → num < Bs.length → lv < Bd.length → ∀ t t' : Tok,
      Says w 418 [.int num t, .int lv t', .ref basesA, .ref boundA] news (3 * f + 2) (fun r news' => (∃ t, r = .str (meantP Bs Bd f num lv) t) ∧ news' = news) := by
  intro f
  induction f with
  | zero => intro num lv h; exact absurd h (by omega)
  | succ f ih =>
    intro num lv hf hn hl t t'
    unfold Says
    k_fill
    intro mean mg mb dp un gd cn cs a ccd cl outer A₀ base h₀ L m s Q E B F X N T hk hd hu hret
    k_with_none
    refine wpAny_call ?_
    k_dflt ktr_enter
    k_with "exec For Name Call cons nil" => (k_here; (rename Fr _ _ _ _ => lF'); (with_unfolding_all refine' For_invVF lF' ?k1 ?k2 ?_; (case k1 => exact rfl); (case k2 => exact rfl); k_whole))
    k_with "call type:range" => ((rename Fr _ _ _ _ => lF'); (rename News _ _ _ _ => lN'); (with_unfolding_all refine range3_rows lF' lN' (by decide) ?_); intro h9 tk9 t9 u9 v9 rgX F9 N9 kp9; clear lF' lN')
    k_with "pyIter ref" => ((rename Fr _ _ _ _ => lF'); (rename News _ _ _ _ => lN'); (rename IsRange _ _ _ _ _ _ _ _ => rgX); (with_unfolding_all refine' rd_range (n := lv + 1) (fun i => ∀ j, j < i → lookW (Bd.getD (lv - j) []) num = none) (by rfl) rgX ?small ?size lF' lN' (fun j hj => absurd hj (by omega)) (fun i' k' t' h' tk' own' hk' hlt' hI' hoff' F' N' => ?turn) (fun u' h' tk' hI' F' N' => ?done)); (case small => exact small_down (by omega) (by omega) (by decide) (by decide)); (case size => exact size_down lv); clear lF' lN'; (case' turn => ((obtain rfl : k' = ((lv - i' : Nat) : Int) := by omega); (obtain ⟨dA, oB, kvs, hx, hm, hlo, hdk, hW⟩ := hB.at_ (lv - i') (by omega)); rcases hW.at num with ⟨e1, e2⟩ | ⟨x9, tx9, e1, e2⟩ <;> (try k_fold))); (case' done => ((obtain ⟨bv, hbv, hbI⟩ := hBs.at_ num hn); (generalize hbo : Bs.getD num none = bo at hbI); (cases hbI <;> (try k_fold)))))
    k_with "subscriptTail" => (k_here; k_dflt (first
      | (refine' my_sub (vs := bd) ?k1 ?k2 ?k3 ?k4 ?k5 ?_ ?k6; (case k1 => k_asm); (case k2 => k_mem); (case k3 => omega); (case k4 => omega); (case k5 => (rw [Int.toNat_natCast]; exact hx)); (case k6 => with_unfolding_all rfl))
      | (refine' my_sub (vs := bs) ?k1 ?k2 ?k3 ?k4 ?k5 ?_ ?k6; (case k1 => k_asm); (case k2 => k_mem); (case k3 => omega); (case k4 => omega); (case k5 => (rw [Int.toNat_natCast]; exact hbv)); (case k6 => with_unfolding_all rfl))
      | (refine' my_dsub ?k1 ?k2 ?k3 ?k4 ?_ ?k6 ?k7; (case k1 => k_asm); (case k2 => k_mem); (case k3 => assumption); (case k4 => exact e1); (case k6 => with_unfolding_all rfl); (case k7 => (intro _; with_unfolding_all rfl)))
      | (refine' my_tsub ?k1 ?k2 ?k3 ?k4 ?k5 ?k6 ?_ ?k7; (case k1 => k_asm); (case k2 => k_mem); (case k3 => decide); (case k4 => decide); (case k5 => rfl); (case k6 => rfl); (case k7 => with_unfolding_all rfl))))
    k_with "compareOp In int ref" => (k_here; k_dflt (first
      | refine kda_in (knd := IntK w) (by k_asm) (by k_mem) (by assumption) (by assumption) (intKind_is _ _ _ _) false (by rw [e1]; rfl) ?_
      | refine kda_in (knd := IntK w) (by k_asm) (by k_mem) (by assumption) (by assumption) (intKind_is _ _ _ _) true (by rw [e1]; rfl) ?_))
    k_with "RdPost" => (dsimp only [RdPost])
    k_with "RdEnd" => (refine RdEnd.intro (by assumption) (by assumption) (by first | exact fun _ h => h | k_sub) (by intro z hz; simp [hz]) (fun j hj => ?_); (rcases Nat.lt_succ_iff_lt_or_eq.mp hj with h8 | h8); (exact hI' j h8); (subst h8; exact e2))
    k_with "call ref" => (k_here; k_dflt (refine' Says.use (ih _ _ (by have h7 := hwf _ _ _ hbo; omega) (by have h7 := hwf _ _ _ hbo; omega) (by have h7 := hwf _ _ _ hbo; omega) _ _) ?k1 ?k2 ?k3 ?k4 ?k5 ?kK ?kd ?ku ?_; (case k1 => k_asm); (case k2 => k_asm); (case k3 => k_asm); (case k4 => k_asm); (case k5 => k_asm); (case kK => first | exact rfl | assumption); (case kd => ktr_room); (case ku => ktr_units)); intro r9 n9 h9 tk9 F9 N9 O9; obtain ⟨⟨t9, e9⟩, e8⟩ := O9; subst r9; subst n9; (try dsimp only); (try k_fold))
    k_steps
    all_goals first
      | exact hret _ _ _ _ (by k_asm) (by k_asm) ⟨⟨_, by rw [meantP_root hI' hbo]⟩, rfl⟩
      | exact hret _ _ _ _ (by k_asm) (by k_asm) ⟨⟨_, by rw [meantP_up hI' hbo]⟩, rfl⟩
      | exact hret _ _ _ _ (by k_asm) (by first | k_asm | (refine cb_drop (by assumption) ?_; k_sub) | exact fun p hp => (by assumption : News _ _ _ (news ++ _)) p (List.mem_append.mpr (.inl hp))) ⟨⟨_, by rw [meantP_hit hlt' hI' e2]⟩, rfl⟩
      | trace_state
end Mine
namespace Mine
local macro_rules | `(tactic| walk_at $s:str) => `(tactic| k_extra $s)
local macro_rules | `(tactic| k_room) => `(tactic| ktr_room)
local macro_rules | `(tactic| k_all) => `(tactic| assumption)
local macro_rules | `(tactic| k_mem) => `(tactic| assumption)

local macro_rules | `(tactic| k_all) => `(tactic| exact fun p hp => Nat.ne_of_lt (by first | exact (by assumption : ∀ p ∈ _, p.1 < _) p hp | omega))
theorem says_special_new {w : World} {news : Led} {x : Str} {t : Tok} :
  Says w 143 [.str x t] news 2 (fun r news' => ∃ (a d : Nat) (u1 u2 : Tok), r = .ref a ∧ d < a ∧ (∀ p ∈ news, p.1 < d) ∧ news' = (a, instObj 143 d) :: (d, dictOf [⟨kh w "word", .str (Str.ofString "word") u1, .str x u2⟩] 1) :: news) := by
  unfold Says
  k_fill
  intro mean mg mb dp un gd cn cs a ccd cl outer A₀ base h₀ L m s Q E B F X N T hk hd hu hret
  k_with_none
  k_dflt (refine' call_cls ?k1 ?k2 ?k3 ?k4 ?k5 ?k6 ?_; (case k1 => k_asm); (case k2 => k_asm); (case k3 => k_asm); (case k4 => k_is); (case k5 => k_is); (case k6 => k_is); k_whole; intro x' d' h' F' N' l1 l2; (have l1' := l1); (try k_lt l1); (try k_lt2 l2); (try k_sweep); ktr_enter)
  k_steps
  refine hret _ _ _ _ (by k_asm) (by k_asm) ⟨_, _, _, _, rfl, ?_, ?_, rfl⟩ <;> assumption
theorem says_local_new {w : World} {news : Led} {n : Int} {x : Str} {t t' : Tok} :
  Says w 164 [.int n t', .str x t] news 2 (fun r news' => ∃ (a d : Nat) (u1 u2 u3 u4 : Tok), r = .ref a ∧ d < a ∧ (∀ p ∈ news, p.1 < d) ∧ news' = (a, instObj 164 d) :: (d, dictOf [⟨kh w "number", .str (Str.ofString "number") u1, .int n u2⟩, ⟨kh w "title", .str (Str.ofString "title") u3, .str x u4⟩] 2) :: news) := by
  unfold Says
  k_fill
  intro mean mg mb dp un gd cn cs a ccd cl outer A₀ base h₀ L m s Q E B F X N T hk hd hu hret
  k_with_none
  k_dflt (refine' call_cls ?k1 ?k2 ?k3 ?k4 ?k5 ?k6 ?_; (case k1 => k_asm); (case k2 => k_asm); (case k3 => k_asm); (case k4 => k_is); (case k5 => k_is); (case k6 => k_is); k_whole; intro x' d' h' F' N' l1 l2; (have l1' := l1); (try k_lt l1); (try k_lt2 l2); (try k_sweep); ktr_enter)
  k_steps
  refine hret _ _ _ _ (by k_asm) (by k_asm) ⟨_, _, _, _, _, _, rfl, ?_, ?_, rfl⟩ <;> assumption
theorem says_scope_new {w : World} {news : Led} {v : Value} :
  Says w 283 [v] news 2 (fun r news' => ∃ (a d nd : Nat) (o : Obj) (u1 u3 : Tok), r = .ref a ∧ d < a ∧ a < nd ∧ (∀ p ∈ news, p.1 < d) ∧ (nd == sysModules) = false ∧ Obj.IsDictOf (IntK w) o [] ∧
     news' = (nd, o) :: (a, instObj 283 d) :: (d, dictOf [⟨kh w "parent", .str (Str.ofString "parent") u1, v⟩, ⟨kh w "names", .str (Str.ofString "names") u3, .ref nd⟩] 2) :: news) := by
  unfold Says
  k_fill
  intro mean mg mb dp un gd cn cs a ccd cl outer A₀ base h₀ L m s Q E B F X N T hk hd hu hret
  k_with_none
  k_dflt (refine' call_cls ?k1 ?k2 ?k3 ?k4 ?k5 ?k6 ?_; (case k1 => k_asm); (case k2 => k_asm); (case k3 => k_asm); (case k4 => k_is); (case k5 => k_is); (case k6 => k_is); k_whole; intro x' d' h' F' N' l1 l2; (have l1' := l1); (try k_lt l1); (try k_lt2 l2); (try k_sweep); ktr_enter)
  k_with "eval Dict nil nil" => (k_here; k_dflt (refine' newDict_K ?k1 ?k2 (TopRead.nolimit ?k3) ?_; (case k1 => k_asm); (case k2 => k_asm); (case k3 => k_asm); k_whole); intro d' h' o' F' N' l1 lo' hs' fs' hi' fi'; (have l1' := l1); (try k_lt l1); (try k_sweep))
  k_steps

  refine hret _ _ _ _ (by k_asm) (by k_asm) ⟨_, _, _, _, _, _, rfl, ?_, ?_, ?_, ?_, ?_, rfl⟩
  all_goals first | assumption | omega
theorem says_names_new {w : World} {news : Led} :
  Says w 388 [] news 6 (fun r news' => ∃ (a d tA td rl bt a1 a2 : Nat) (o o1 o2 : Obj) (u1 u2 u3 u4 u5 u6 u7 u8 : Tok), r = .ref a ∧ d < a ∧ a < td ∧ td < tA ∧ tA < rl ∧ rl < bt ∧ bt < a1 ∧ a1 < a2 ∧ (∀ p ∈ news, p.1 < d) ∧ (bt == sysModules) = false ∧ Obj.IsDictOf (PySem.strKind ThePr w) o [] ∧
     news' = (a2, o2) :: (a1, o1) :: (bt, o) :: (rl, listOf #[] 0) :: (tA, instObj 101 td) :: (td, dictOf [⟨kh w "rows", .str (Str.ofString "rows") u7, .ref rl⟩, ⟨kh w "by_text", .str (Str.ofString "by_text") u8, .ref bt⟩] 2) :: (a, instObj 388 d) :: (d, worldD w tA a1 a2 0 u1 u2 u3 u4 u5 u6) :: news) := by
  unfold Says
  k_fill
  intro mean mg mb dp un gd cn cs a ccd cl outer A₀ base h₀ L m s Q E B F X N T hk hd hu hret
  k_with_none
  k_dflt (refine' call_cls ?k1 ?k2 ?k3 ?k4 ?k5 ?k6 ?_; (case k1 => k_asm); (case k2 => k_asm); (case k3 => k_asm); (case k4 => k_is); (case k5 => k_is); (case k6 => k_is); k_whole; intro x' d' h' F' N' l1 l2; (have l1' := l1); (try k_lt l1); (try k_lt2 l2); (try k_sweep); ktr_enter)
  k_with "eval Dict nil nil" => (k_here; k_dflt (refine' newDict_K ?k1 ?k2 (TopRead.nolimit ?k3) ?_; (case k1 => k_asm); (case k2 => k_asm); (case k3 => k_asm); k_whole); intro d' h' o' F' N' l1 lo' hs' fs' hi' fi'; (have l1' := l1); (try k_lt l1); (try k_sweep))
  k_steps

  refine hret _ _ _ _ (by k_asm) (by k_asm) ⟨_, _, _, _, _, _, _, _, _, _, _, _, _, _, _, _, _, _, _, rfl, ?_, ?_, ?_, ?_, ?_, ?_, ?_, ?_, ?_, ?_, rfl⟩
  all_goals first | assumption | omega 
end Mine
namespace Mine
/-- the n-th entry, put at the head -/
def front {α : Type} : Nat → List α → List α
  | 0, l => l
  | _ + 1, [] => []
  | n + 1, x :: l => match front n l with
    | [] => [x]
    | y :: r => y :: x :: r
theorem front_perm {α : Type} : ∀ (n : Nat) (l : List α), (front n l).Perm l
  | 0, l => .refl l
  | _ + 1, [] => .refl _
  | n + 1, x :: l => by
    have h := front_perm n l
    rw [front]
    split
    · next e => rw [e] at h; exact h.cons x
    · next y r e => rw [e] at h; exact (List.Perm.swap x y r).trans (h.cons x)
/-- no address twice -/
structure ND (l : Led) : Prop where
  nd : (l.map (·.1)).Nodup
theorem ND.perm {l l' : Led} (h : ND l) (p : l'.Perm l) : ND l' := ⟨(p.map _).nodup_iff.mpr h.nd⟩
theorem ND.front {l : Led} (h : ND l) (n : Nat) : ND (front n l) := h.perm (front_perm n l)
theorem ND.off {a : Addr} {o : Obj} {l : Led} (h : ND ((a, o) :: l)) : ∀ p ∈ l, p.1 ≠ a := fun p hp e => by
  exact (List.nodup_cons.mp h.nd).1 (List.mem_map.mpr ⟨p, hp, e⟩)
theorem ND.tl {p : Addr × Obj} {l : Led} (h : ND (p :: l)) : ND l := ⟨(List.nodup_cons.mp h.nd).2⟩
theorem ND.cons {a : Addr} {o : Obj} {l : Led} (h : ND l) (hl : ∀ p ∈ l, p.1 < a) : ND ((a, o) :: l) :=
  ⟨List.nodup_cons.mpr ⟨fun q => by obtain ⟨p, hp, e⟩ := List.mem_map.mp q; exact Nat.lt_irrefl _ (e ▸ hl p hp), h.nd⟩⟩
theorem ND.put {a : Addr} {o o' : Obj} {l : Led} (h : ND ((a, o) :: l)) : ND ((a, o') :: l) := ⟨h.nd⟩
theorem news_front {h₀ h : Heap} {L : Addr} {news : Led} (N : News h₀ L h news) (n : Nat) : News h₀ L h (front n news) := fun p hp => N p ((front_perm n news).mem_iff.mp hp)
theorem news_sub {h₀ h : Heap} {L : Addr} {news news' : Led} (N : News h₀ L h news) (hs : ∀ p ∈ news', p ∈ news) : News h₀ L h news' := fun p hp => N p (hs p hp)
theorem lt_cons {a x : Nat} {o : Obj} {l : Led} (h : a < x) (hl : ∀ p ∈ l, p.1 < x) : ∀ p ∈ ((a, o) :: l : Led), p.1 < x := fun p hp => by
  rcases List.mem_cons.mp hp with rfl | hp
  · exact h
  · exact hl p hp
theorem my_app {w : World} {A : Around} {E : Value → Shared → Prop} {s : Shared} {h₀ : Heap} {L l : Addr} {m : Str → Option Value} {news news' : Led} {vs : List Value} {k : Nat} {v : Value} {Q : Value → Shared → Prop}
    (F : Fr h₀ L s.heap m) (N : News h₀ L s.heap news) (U : Upd l (listOf vs.toArray k) (listOf (vs ++ [v]).toArray (k + 1)) news news') (hz : vs.length ≤ 1000)
    (h : ∀ h', Fr h₀ L h' m → News h₀ L h' news' → Q .none { s with heap := h' }) :
    wpAny (model PySem.Challenge.rw_nt0172_01.row.prog w) A (call (.builtin "list.append") [.ref l, v]) Q E s := by
  have e : (vs ++ [v]).toArray = vs.toArray.push v := by simp
  rw [e] at U
  exact append_K F N U h (by rw [sizeLine_eq]; simp; omega)
theorem my_len {w : World} {A : Around} {E : Value → Shared → Prop} {s : Shared} {h₀ : Heap} {L l : Addr} {news : Led} {vs : List Value} {k : Nat} {Q : Value → Shared → Prop}
    (N : News h₀ L s.heap news) (hm : (l, listOf vs.toArray k) ∈ news) (hz : vs.length ≤ 1000)
    (h : Q (.int vs.length (s.toks + 1)) { s with toks := s.toks + 1 + 1 }) :
    wpAny (model PySem.Challenge.rw_nt0172_01.row.prog w) A (call (.builtin "len") [.ref l]) Q E s := by
  have hL : s.heap.IsList l vs.toArray := ⟨_, N.get hm, rfl, k, rfl⟩
  refine len_list hL (by simp; omega) ?_
  simpa using h
theorem my_store {w : World} {A : Around} {E : Value → Shared → Prop} {s : Shared} {h₀ : Heap} {L a : Addr} {m : Str → Option Value} {cn : Str} {cs : Scope} {ccd : Value} {cl : List (Str × Addr)} {x : Str} {v : Value} {Q : Unit → Shared → Prop} {news rest : Led} {c : Addr} {o : Obj} {v₀ : Option Value} (n : Nat)
    (F : Fr h₀ L s.heap m) (N : News h₀ L s.heap news) (D : ND news) (hc : cl.lookup x = some c) (e : front n news = (c, o) :: rest) (hd : o.data = .cell v₀)
    (h : ∀ h' o', Fr h₀ L h' m → News h₀ L h' ((c, o') :: rest) → ND ((c, o') :: rest) → o'.data = .cell (some v) → Q () { s with heap := h' })
    (hk : cs.kind = .function := by rfl) (hx : (envX cn cs L a ccd cl).kindOf x = some .cell := by rfl) :
    wpAny (model PySem.Challenge.rw_nt0172_01.row.prog w) A (storeName (envX cn cs L a ccd cl) x v) Q E s := by
  have N' := news_front N n
  have D' := D.front n
  rw [e] at N' D'
  exact storeX_C F N' hc (g := fun o' => (c, o') :: rest) (.head D'.off) hd (fun h' o' F' N'' hd' => h h' o' F' N'' D'.put hd') hk hx
theorem my_tuple {w : World} {A : Around} {E : Value → Shared → Prop} {s : Shared} {h₀ : Heap} {L : Addr} {m : Str → Option Value} {news : Led} {vs : List Value} {Q : Value → Shared → Prop}
    (F : Fr h₀ L s.heap m) (N : News h₀ L s.heap news) (D : ND news) (hz : vs.length ≤ 1000)
    (h : ∀ l h', Fr h₀ L h' m → News h₀ L h' ((l, { cls := .type "tuple", data := .seq vs.toArray }) :: news) → (∀ p ∈ news, p.1 < l) → ND ((l, { cls := .type "tuple", data := .seq vs.toArray }) :: news) → Q (.ref l) { s with heap := h' }) :
    wpAny (model PySem.Challenge.rw_nt0172_01.row.prog w) A (newTuple vs) Q E s :=
  newTuple_N F N (fun h' F' N' => have l1 := fun p hp => Heap.lt_size (N p hp).1; h _ h' F' N' l1 (D.cons l1)) (by rw [sizeLine_eq]; omega)
theorem my_list {w : World} {A : Around} {E : Value → Shared → Prop} {s : Shared} {h₀ : Heap} {L : Addr} {m : Str → Option Value} {news : Led} {vs : List Value} {Q : Value → Shared → Prop}
    (F : Fr h₀ L s.heap m) (N : News h₀ L s.heap news) (D : ND news) (hz : vs.length ≤ 1000)
    (h : ∀ l h', Fr h₀ L h' m → News h₀ L h' ((l, listOf vs.toArray 0) :: news) → (∀ p ∈ news, p.1 < l) → ND ((l, listOf vs.toArray 0) :: news) → Q (.ref l) { s with heap := h' }) :
    wpAny (model PySem.Challenge.rw_nt0172_01.row.prog w) A (newList vs) Q E s :=
  newList_K F N (fun l h' F' N' l1 => h l h' F' N' l1 (D.cons l1)) (by rw [sizeLine_eq]; omega)
def AllNe (d : Nat) : Led → Prop
  | [] => True
  | p :: r => (p.1 : Nat) ≠ d ∧ AllNe d r
theorem offOf {d : Nat} : ∀ {l : Led}, AllNe d l → ∀ p ∈ l, p.1 ≠ d
  | [], _, _, hp => nomatch hp
  | _ :: _, h, p, hp => by
    rcases List.mem_cons.mp hp with rfl | hp
    · exact h.1
    · exact offOf h.2 p hp
theorem ND.consOff {a : Addr} {o : Obj} {l : Led} (h : ND l) (hl : ∀ p ∈ l, p.1 ≠ a) : ND ((a, o) :: l) :=
  ⟨List.nodup_cons.mpr ⟨fun q => by obtain ⟨p, hp, e⟩ := List.mem_map.mp q; exact hl p hp e, h.nd⟩⟩
theorem ndQ {a b d : Addr} {o o' : Obj} {l : Led} (_q : ∀ p ∈ ((a, o) :: (b, o') :: l : Led), p.1 < d) (h0 : ND l) (h1 : AllLt b l) (h2 : AllNe a ((b, o') :: l)) : ND ((a, o) :: (b, o') :: l) :=
  ND.consOff (ND.cons h0 (ktn_ltOf h1)) (offOf h2)
theorem lt_up {a b : Nat} {l : Led} (h : a < b) (hl : ∀ p ∈ l, p.1 < a) : ∀ p ∈ l, p.1 < b := fun p hp => Nat.lt_trans (hl p hp) h
theorem nd_new1 {x : Nat} {o : Obj} {l : Led} (hl : ∀ p ∈ l, p.1 < x) (h : ND l) : ND ((x, o) :: l) := h.cons hl
theorem nd_new2 {d a : Nat} {o o' : Obj} {l : Led} (hl : ∀ p ∈ l, p.1 < d) (h1 : d < a) (h : ND l) : ND ((a, o) :: (d, o') :: l) := (h.cons hl).cons (lt_cons h1 (lt_up h1 hl))
theorem nd_new3 {d a n : Nat} {o o' o'' : Obj} {l : Led} (hl : ∀ p ∈ l, p.1 < d) (h1 : d < a) (h2 : a < n) (h : ND l) : ND ((n, o'') :: (a, o) :: (d, o') :: l) :=
  (nd_new2 hl h1 h).cons (lt_cons h2 (lt_cons (Nat.lt_trans h1 h2) (lt_up (Nat.lt_trans h1 h2) hl)))
theorem nd_names {a d tA td rl bt a1 a2 : Nat} {o1 o2 o3 o4 o5 o6 o7 o8 : Obj} {l : Led} (h1 : d < a) (h2 : a < td) (h3 : td < tA) (h4 : tA < rl) (h5 : rl < bt) (h6 : bt < a1) (h7 : a1 < a2) (hl : ∀ p ∈ l, p.1 < d) (h : ND l) :
    ND ((a2, o1) :: (a1, o2) :: (bt, o3) :: (rl, o4) :: (tA, o5) :: (td, o6) :: (a, o7) :: (d, o8) :: l) := by
  have g1 := nd_new2 (o := o7) (o' := o8) hl h1 h
  have l1 : ∀ p ∈ ((a, o7) :: (d, o8) :: l : Led), p.1 < td := lt_cons h2 (lt_cons (Nat.lt_trans h1 h2) (lt_up (Nat.lt_trans h1 h2) hl))
  have g2 := nd_new2 (o := o5) (o' := o6) l1 h3 g1
  have l2 : ∀ p ∈ ((tA, o5) :: (td, o6) :: (a, o7) :: (d, o8) :: l : Led), p.1 < rl := lt_cons h4 (lt_cons (Nat.lt_trans h3 h4) (lt_up (Nat.lt_trans h3 h4) l1))
  have g3 := nd_new2 (o := o3) (o' := o4) l2 h5 g2
  have l3 : ∀ p ∈ ((bt, o3) :: (rl, o4) :: (tA, o5) :: (td, o6) :: (a, o7) :: (d, o8) :: l : Led), p.1 < a1 := lt_cons h6 (lt_cons (Nat.lt_trans h5 h6) (lt_up (Nat.lt_trans h5 h6) l2))
  exact nd_new2 l3 h7 g3
theorem nd7 {h₀ h : Heap} {L L' : Addr} {o1 o2 o3 o4 o5 o6 o7 : Obj} (_N : News h₀ L' h [(L + 1 + 1 + 1 + 1 + 1 + 1 + 1, o7), (L + 1 + 1 + 1 + 1 + 1 + 1, o6), (L + 1 + 1 + 1 + 1 + 1, o5), (L + 1 + 1 + 1 + 1, o4), (L + 1 + 1 + 1, o3), (L + 1 + 1, o2), (L + 1, o1)]) :
    ND [(L + 1 + 1 + 1 + 1 + 1 + 1 + 1, o7), (L + 1 + 1 + 1 + 1 + 1 + 1, o6), (L + 1 + 1 + 1 + 1 + 1, o5), (L + 1 + 1 + 1 + 1, o4), (L + 1 + 1 + 1, o3), (L + 1 + 1, o2), (L + 1, o1)] := by
  refine ⟨?_⟩
  simp only [List.map_cons, List.map_nil, List.nodup_cons, List.mem_cons, List.not_mem_nil, or_false, not_or, not_false_eq_true, List.nodup_nil, and_true]
  refine ⟨⟨?_, ?_, ?_, ?_, ?_, ?_⟩, ⟨?_, ?_, ?_, ?_, ?_⟩, ⟨?_, ?_, ?_, ?_⟩, ⟨?_, ?_, ?_⟩, ⟨?_, ?_⟩, ?_⟩ <;> exact fun e => by simp [Nat.add_assoc] at e
end Mine
namespace Mine
local macro_rules | `(tactic| walk_at $s:str) => `(tactic| k_extra $s)
local macro_rules | `(tactic| k_room) => `(tactic| ktr_room)
local macro_rules | `(tactic| k_all) => `(tactic| assumption)
local macro_rules | `(tactic| k_mem) => `(tactic| assumption)

local macro_rules | `(tactic| k_all) => `(tactic| exact fun p hp => Nat.ne_of_lt (by first | exact (by assumption : ∀ p ∈ _, p.1 < _) p hp | omega))
theorem says_table_symbol {w : World} {rest : Led} {tA td rl bt : Nat} {o : Obj} {vs : List Value} {k : Nat} {kvs : List (Str × Value)} {x : Str} {t u1 u2 : Tok}
    (h1 : (tA, instObj 101 td) ∈ rest) (h2 : (td, dictOf [⟨kh w "rows", .str (Str.ofString "rows") u1, .ref rl⟩, ⟨kh w "by_text", .str (Str.ofString "by_text") u2, .ref bt⟩] 2) ∈ rest)
    (hne : rl ≠ bt) (ho1 : ∀ p ∈ rest, p.1 ≠ rl) (ho2 : ∀ p ∈ rest, p.1 ≠ bt) (hlo : (bt == sysModules) = false) (hd' : Obj.IsDictOf (PySem.strKind ThePr w) o kvs) (hnone : valueAt kvs x = none)
    (hl : vs.length ≤ 100) (hl' : kvs.length ≤ 100) :
  Says w 63 [.ref tA, .str x t] ((rl, listOf vs.toArray k) :: (bt, o) :: rest) 3 (fun r news' => ∃ (a d : Nat) (o' : Obj) (u3 u4 u5 u6 : Tok), r = .ref a ∧ d < a ∧ (∀ p ∈ ((rl, listOf vs.toArray k) :: (bt, o) :: rest : Led), p.1 < d) ∧
     Obj.IsDictOf (PySem.strKind ThePr w) o' (stored kvs x (.ref a)) ∧
     news' = (a, instObj 38 d) :: (d, dictOf [⟨kh w "number", .str (Str.ofString "number") u3, .int vs.length u4⟩, ⟨kh w "text", .str (Str.ofString "text") u5, .str x u6⟩] 2) :: (rl, listOf (vs ++ [Value.ref a]).toArray (k + 1)) :: (bt, o') :: rest) := by
  unfold Says
  k_fill
  intro mean mg mb dp un gd cn cs a ccd cl outer A₀ base h₀ L m s Q E B F X N T hk hd hu hret
  k_with_none
  refine wpAny_call ?_
  k_dflt ktr_enter
  k_with "getMethod ref" => (k_here; (with_reducible show wpAny _ _ (getMethod (Value.ref _) (Str.ofString "get") _) _ _ _); k_dflt (refine' kdg_method (knd := PySem.strKind _ _) ?k1 ?k2 ?k3 ?_; (case k1 => k_asm); (case k2 => k_mem); (case k3 => assumption)))
  k_with "call builtin:dict.get" => (k_here; k_dflt (refine' kdg_get2 (knd := PySem.strKind _ _) ?k1 ?k2 ?k3 ?k4 (strKind_is _ _ _ _) none ?k5 ?_; (case k1 => k_asm); (case k2 => k_mem); (case k3 => assumption); (case k4 => assumption); (case k5 => assumption)); (try dsimp only [Option.getD]); (try k_fold))
  k_with "call builtin:len" => (k_here; k_dflt (refine' my_len (vs := vs) ?k1 ?k2 ?k3 ?_; (case k1 => k_asm); (case k2 => k_mem); (case k3 => omega)); (try k_fold))
  k_with "call builtin:list.append" => (k_here; k_dflt (refine' my_app ?k1 ?k2 ?k3 ?k4 ?_; (case k1 => k_asm); (case k2 => k_asm); (case k3 => k_upd); (case k4 => omega)); intro h' F' N'; (try k_fold))
  k_with "setItem ref str" => (k_here; k_dflt (refine' kda_set (knd := PySem.strKind _ _) ?F ?N ?U ?d (strKind_is _ _ _ _) ?z ?_; (case F => k_asm); (case N => k_asm); (case U => k_updF); (case d => assumption); (case z => (rw [sizeLine_eq]; omega))); intro h' o' F' N' hd'; (try dsimp only at N'); (try k_fold))
  k_steps
  refine hret _ _ _ _ (by k_asm) (by k_asm) ⟨_, _, _, _, _, _, _, rfl, ?_, ?_, ?_, rfl⟩
  all_goals first | assumption | omega | exact ktn_ltOf (l := (rl, _) :: (bt, _) :: rest) (by assumption)
theorem says_world_symbol {w : World} {rest : Led} {wA wd tA td rl bt a1 a2 : Nat} {n : Int} {o : Obj} {vs : List Value} {k : Nat} {kvs : List (Str × Value)} {x : Str} {t u1 u2 t1 t2 t3 t4 t5 t6 : Tok}
    (hw : (wA, instObj 388 wd) ∈ rest) (hw2 : (wd, worldD w tA a1 a2 n t1 t2 t3 t4 t5 t6) ∈ rest)
    (h1 : (tA, instObj 101 td) ∈ rest) (h2 : (td, dictOf [⟨kh w "rows", .str (Str.ofString "rows") u1, .ref rl⟩, ⟨kh w "by_text", .str (Str.ofString "by_text") u2, .ref bt⟩] 2) ∈ rest)
    (hne : rl ≠ bt) (ho1 : ∀ p ∈ rest, p.1 ≠ rl) (ho2 : ∀ p ∈ rest, p.1 ≠ bt) (hlo : (bt == sysModules) = false) (hd' : Obj.IsDictOf (PySem.strKind ThePr w) o kvs) (hnone : valueAt kvs x = none)
    (hl : vs.length ≤ 100) (hl' : kvs.length ≤ 100) :
  Says w 336 [.ref wA, .str x t] ((rl, listOf vs.toArray k) :: (bt, o) :: rest) 5 (fun r news' => ∃ (a d : Nat) (o' : Obj) (u3 u4 u5 u6 : Tok), r = .ref a ∧ d < a ∧ (∀ p ∈ ((rl, listOf vs.toArray k) :: (bt, o) :: rest : Led), p.1 < d) ∧
     Obj.IsDictOf (PySem.strKind ThePr w) o' (stored kvs x (.ref a)) ∧
     news' = (a, instObj 38 d) :: (d, dictOf [⟨kh w "number", .str (Str.ofString "number") u3, .int vs.length u4⟩, ⟨kh w "text", .str (Str.ofString "text") u5, .str x u6⟩] 2) :: (rl, listOf (vs ++ [Value.ref a]).toArray (k + 1)) :: (bt, o') :: rest) := by
  unfold Says
  k_fill
  intro mean mg mb dp un gd cn cs a ccd cl outer A₀ base h₀ L m s Q E B F X N T hk hd hu hret
  k_with_none
  refine wpAny_call ?_
  k_dflt ktr_enter
  k_with "call ref" => (k_here; k_dflt (refine' Says.use (says_table_symbol (by assumption) (by assumption) hne ho1 ho2 hlo hd' hnone hl hl') ?k1 ?k2 ?k3 ?k4 ?k5 ?kK ?kd ?ku ?_; (case k1 => k_asm); (case k2 => k_asm); (case k3 => k_asm); (case k4 => k_asm); (case k5 => k_asm); (case kK => first | exact rfl | assumption); (case kd => ktr_room); (case ku => ktr_units)); intro r9 n9 h9 tk9 F9 N9 O9; obtain ⟨a9, d9, o9, u3, u4, u5, u6, e9, e8, e7, e6, e5⟩ := O9; subst r9; subst n9; (try dsimp only); (try k_fold))
  k_steps
  refine hret _ _ _ _ (by k_asm) (by k_asm) ⟨_, _, _, _, _, _, _, rfl, ?_, ?_, ?_, rfl⟩
  all_goals first | assumption | omega | exact ktn_ltOf (l := (rl, _) :: (bt, _) :: rest) (by assumption)
end Mine
namespace Mine
def bodyOf : Option Stmt → List Stmt
  | some (.FunctionDef _ _ b _ _ _ _ _ _ _) => b
  | _ => []
def scopeOf : Option Stmt → Scope
  | some (.FunctionDef _ _ _ _ _ _ s _ _ _) => s
  | _ => { kind := .function, names := [], isGenerator := false, isCoroutine := false, more := [] }
abbrev lawBody : List Stmt := bodyOf PySem.Challenge.pw_nt0172_01.main.body[27]?
def lawSc : Scope := scopeOf PySem.Challenge.pw_nt0172_01.main.body[27]?
def forBody : Option Stmt → List Stmt
  | some (.For _ _ b _ _) => b
  | _ => []
abbrev levelBody : List Stmt := forBody lawBody[5]?
abbrev innerBody : List Stmt := forBody levelBody[7]?
abbrev checkBody : List Stmt := forBody lawBody[6]?
abbrev meantBody : List Stmt := forBody checkBody[4]?
abbrev lawEnv (L fa : Addr) (ccd : Value) : Env := envX "law" lawSc L fa ccd (cellsFrom (L + 1) lawSc.names [])
abbrev lawTop (dp un : Nat) (gd : Option (List Code)) (L fa : Addr) (ccd : Value) (outer : List Env) : Around := ktrTop dp un gd "law" lawSc L fa ccd (cellsFrom (L + 1) lawSc.names []) outer
theorem lawSc_kind : lawSc.kind = .function := by decide +kernel
theorem own_nd {h₀ h : Heap} {L : Addr} : ∀ {own : Led}, News h₀ L h own → ∃ own', (∀ p, p ∈ own' ↔ p ∈ own) ∧ ND own'
  | [], _ => ⟨[], fun _ => Iff.rfl, ⟨List.nodup_nil⟩⟩
  | p :: own, N => by
    obtain ⟨own', h1, h2⟩ := own_nd (own := own) fun q hq => N q (.tail _ hq)
    by_cases hm : p.1 ∈ own'.map (·.1)
    · obtain ⟨q, hq, e⟩ := List.mem_map.mp hm
      have a := (N p (.head _)).1
      have b := (N q (.tail _ ((h1 q).mp hq))).1
      have e2 : q = p := by
        refine Prod.ext e ?_
        have e' : q.1 = p.1 := e
        rw [e', a] at b
        exact (Option.some.inj b).symm
      refine ⟨own', fun r => ⟨fun hr => .tail _ ((h1 r).mp hr), fun hr => ?_⟩, h2⟩
      rcases List.mem_cons.mp hr with rfl | hr
      · exact e2 ▸ hq
      · exact (h1 r).mpr hr
    · refine ⟨p :: own', fun r => ⟨fun hr => ?_, fun hr => ?_⟩, ⟨List.nodup_cons.mpr ⟨hm, h2.nd⟩⟩⟩
      · rcases List.mem_cons.mp hr with rfl | hr
        · exact .head _
        · exact .tail _ ((h1 r).mp hr)
      · rcases List.mem_cons.mp hr with rfl | hr
        · exact .head _
        · exact .tail _ ((h1 r).mpr hr)
theorem ND.app {nx own : Led} (h1 : ND nx) (h2 : ND own) (h : TbOff own nx) : ND (nx ++ own) := by
  refine ⟨?_⟩
  rw [List.map_append]
  refine List.nodup_append.mpr ⟨h1.nd, h2.nd, fun a ha b hb => ?_⟩
  obtain ⟨p, hp, rfl⟩ := List.mem_map.mp ha
  obtain ⟨q, hq, rfl⟩ := List.mem_map.mp hb
  exact fun e => h q hq p hp e.symm
theorem ND.appL {nx own : Led} (h : ND (nx ++ own)) : ND nx := ⟨(List.nodup_append.mp (by have := h.nd; rwa [List.map_append] at this)).1⟩
theorem ND.appOff {nx own : Led} (h : ND (nx ++ own)) : TbOff own nx := fun p hp q hq e =>
  (List.nodup_append.mp (by have := h.nd; rwa [List.map_append] at this)).2.2 q.1 (List.mem_map_of_mem hq) p.1 (List.mem_map_of_mem hp) e.symm
/-- a for over a range, its whole state told by J -/
def RsEnd (h₀ : Heap) (L : Addr) (J : (Str → Option Value) → Led → Prop) (own : Led) (s₁ s₂ : Shared) : Prop :=
  ∃ h' tk m' nx, s₂ = { s₁ with heap := h', toks := tk } ∧ Fr h₀ L h' m' ∧ News h₀ L h' (nx ++ own) ∧ ND (nx ++ own) ∧ J m' nx
def RsPost (h₀ : Heap) (L : Addr) (J : (Str → Option Value) → Led → Prop) (own : Led) (s₁ : Shared) (Q : Flow → Shared → Prop) (f : Flow) (s₂ : Shared) : Prop :=
  match f with
  | .ret v => Q (.ret v) s₂
  | .brk => Q .next s₂
  | _ => RsEnd h₀ L J own s₁ s₂
section
variable {prog : Program} {w : World} {A : Around} {E : Value → Shared → Prop} {s : Shared} {env : Env} {h₀ : Heap} {x : Str} {body : List Stmt} {Q : Flow → Shared → Prop}
theorem rs_range {r : Addr} {a₀ b₀ : Int} {t₀ u₀ v₀ : Tok} {n : Nat} {m₀ : Str → Option Value} {news : Led} (J : Nat → (Str → Option Value) → Led → Prop)
    (hh : A.handled = none) (hr : IsRange s.heap r a₀ b₀ 1 t₀ u₀ v₀) (hsmall : Builtin.Range.small a₀ b₀ 1 = true) (hn : Builtin.Range.rangeSize a₀ b₀ 1 = (n : Int)) (F : Fr h₀ env.locals s.heap m₀) (N : News h₀ env.locals s.heap news) (D : ND news) (hj : J 0 m₀ news)
    (turn : ∀ i t m₁ nx h tk own, i < n → J i m₁ nx → Fr h₀ env.locals h (fun y => if y = x then some (.int (a₀ + (i : Int)) t) else m₁ y) → News h₀ env.locals h (nx ++ own) → ND (nx ++ own) →
      wpAny (model prog w) A (execs body env) (RsPost h₀ env.locals (J (i + 1)) own { s with heap := h, toks := tk } Q) E { s with heap := h, toks := tk })
    (done : ∀ m₁ nx h tk, J n m₁ nx → Fr h₀ env.locals h m₁ → News h₀ env.locals h nx → ND nx → Q .next { s with heap := h, toks := tk }) :
    wpAny (model prog w) A (pyIter (.ref r)) (fun it s₂ => LoopAtV prog w A h₀ env x body Q E it s₂) E s := by
  refine tbr_invG (fun i m nx => J i m nx ∧ ND nx) hh hr hsmall hn F N ⟨hj, D⟩ ?_ ?_
  · rintro i k t m₁ nx h tk own hk hoff ⟨hJ, hD⟩ F₁ N₁
    have hi : i < n := by
      have := List.getElem?_eq_some_iff.mp hk
      obtain ⟨h1, _⟩ := this
      simpa [rangeKs_length] using h1
    have hk' : k = a₀ + (i : Int) := by
      have e : (rangeKs a₀ n)[i]? = some (a₀ + (i : Int)) := by simp [rangeKs, hi]
      rw [e] at hk; exact (Option.some.inj hk).symm
    subst hk'
    obtain ⟨own', h1, h2⟩ := own_nd (own := own) fun q hq => N₁ q (List.mem_append.mpr (.inr hq))
    have hoff' : TbOff own' nx := fun p hp q hq => hoff p ((h1 p).mp hp) q hq
    have N₂ : News h₀ env.locals h (nx ++ own') := fun p hp => N₁ p ((List.mem_append.mp hp).elim (fun h => List.mem_append.mpr (.inl h)) fun h => List.mem_append.mpr (.inr ((h1 p).mp h)))
    refine wpAny_mono (turn i t m₁ nx h tk own' hi hJ F₁ N₂ (hD.app h2 hoff')) (fun f s₂ p => ?_) fun _ _ e => e
    have fin : RsEnd h₀ env.locals (J (i + 1)) own' { s with heap := h, toks := tk } s₂ → TbEnd h₀ env.locals (fun m nx => J (i + 1) m nx ∧ ND nx) own { s with heap := h, toks := tk } s₂ := by
      rintro ⟨h', tk', m', nx', rfl, F', N', D', hJ'⟩
      exact ⟨h', tk', m', nx' ++ own', nx', rfl, F', N', fun p hp => List.mem_append.mpr (.inl hp), fun p hp => List.mem_append.mpr (.inr ((h1 p).mpr hp)), fun p hp q hq => D'.appOff p ((h1 p).mpr hp) q hq, hJ', D'.appL⟩
    cases f with
    | ret v => exact p
    | brk => exact p
    | next => exact fin p
    | cont => exact fin p
  · rintro m₁ nx h tk ⟨hJ, hD⟩ F₁ N₁
    exact done m₁ nx h tk hJ F₁ N₁ hD
end
end Mine
namespace Mine
-- plain facts about tables by int keys
def look {β : Type} (l : List (Int × β)) (k : Int) : Option β := (l.find? fun p => p.1 = k).map (·.2)
def stv {β : Type} (l : List (Int × β)) (k : Int) (v : β) : List (Int × β) := if l.any (fun p => p.1 = k) then l.map (fun p => if p.1 = k then (p.1, v) else p) else l ++ [(k, v)]
theorem look_map {β : Type} {l : List (Int × β)} {k k' : Int} {v : β} : look (l.map (fun p => if p.1 = k then (p.1, v) else p)) k' = if k' = k then (look l k').map (fun _ => v) else look l k' := by
  induction l with
  | nil => simp [look]
  | cons p l ih =>
    by_cases e : p.1 = k
    · by_cases e' : p.1 = k'
      · subst e'; simp [look, e]
      · have e2 : ¬ k = k' := fun q => e' (e.trans q)
        have e3 : ¬ k' = k := fun q => e2 q.symm
        simp only [look, List.map_cons, e, if_true, List.find?_cons, e2, decide_false, if_neg e3] at ih ⊢
        exact ih
    · by_cases e' : p.1 = k'
      · have e3 : ¬ k' = k := fun q => e (e'.trans q)
        simp [look, List.map_cons, e, List.find?_cons, e', if_neg e3]
      · simp only [look, List.map_cons, e, if_false, List.find?_cons, e', decide_false] at ih ⊢
        exact ih
theorem look_none {β : Type} {l : List (Int × β)} {k : Int} (h : ∀ p ∈ l, p.1 ≠ k) : look l k = none := by
  rw [look, Option.map_eq_none_iff, List.find?_eq_none]
  intro p hp; simpa using h p hp
theorem look_isSome {β : Type} {l : List (Int × β)} {k : Int} (h : l.any (fun p => p.1 = k) = true) : (look l k).isSome = true := by
  rw [look, Option.isSome_map, List.find?_isSome]
  obtain ⟨p, hp, e⟩ := List.any_eq_true.mp h
  exact ⟨p, hp, e⟩
theorem look_append {β : Type} {l : List (Int × β)} {k k' : Int} {v : β} (h : l.any (fun p => p.1 = k) = false) : look (l ++ [(k, v)]) k' = if k' = k then some v else look l k' := by
  have h0 : look l k = none := look_none fun p hp e => by
    have := List.any_eq_false.mp h p hp
    simp [e] at this
  by_cases e : k' = k
  · subst e
    rw [if_pos rfl]
    have h1 : l.find? (fun p => decide (p.1 = k')) = none := by simpa only [look, Option.map_eq_none_iff] using h0
    simp only [look, List.find?_append, h1, Option.none_or, List.find?_cons, decide_true, Option.map_some]
  · rw [if_neg e]
    have e' : ¬ k = k' := fun q => e q.symm
    simp only [look, List.find?_append, List.find?_cons, e', decide_false, List.find?_nil, Option.or_none]
theorem look_stv {β : Type} {l : List (Int × β)} {k k' : Int} {v : β} : look (stv l k v) k' = if k' = k then some v else look l k' := by
  unfold stv
  by_cases h : l.any (fun p => p.1 = k) = true
  · rw [if_pos h, look_map]
    by_cases e : k' = k
    · subst e
      obtain ⟨x, hx⟩ := Option.isSome_iff_exists.mp (look_isSome h)
      simp [hx]
    · simp [e]
  · have h' : l.any (fun p => p.1 = k) = false := Bool.eq_false_iff.mpr h
    rw [if_neg h, look_append h']
theorem mem_stv {β : Type} {l : List (Int × β)} {k : Int} {v : β} {p : Int × β} (h : p ∈ stv l k v) : p.1 = k ∨ ∃ q ∈ l, q.1 = p.1 := by
  unfold stv at h
  split at h
  · obtain ⟨q, hq, rfl⟩ := List.mem_map.mp h
    right; refine ⟨q, hq, ?_⟩
    split <;> rfl
  · rcases List.mem_append.mp h with h | h
    · exact .inr ⟨p, h, rfl⟩
    · rw [List.mem_singleton.mp h]; exact .inl rfl
theorem stored_length {kvs : List (Int × Value)} {k : Int} {v : Value} : (stored kvs k v).length ≤ kvs.length + 1 := by
  unfold stored; split <;> simp
theorem NmIn.any {w : World} {news : Led} {kvs : List (Int × Value)} {nm : Nm} (h : NmIn w news kvs nm) (k : Int) : kvs.any (fun p => p.1 = k) = nm.any (fun p => p.1 = k) := by
  induction h with
  | nil => rfl
  | cons _ _ ih => simp [ih]
theorem NmIn.app {w : World} {news : Led} {kvs : List (Int × Value)} {nm : Nm} (h : NmIn w news kvs nm) {k : Int} {v : Value} {b : Option Str} (hb : BdIn w news v b) : NmIn w news (kvs ++ [(k, v)]) (nm ++ [(k, b)]) := by
  induction h with
  | nil => exact .cons hb .nil
  | cons h1 _ ih => exact .cons h1 ih
theorem NmIn.put {w : World} {news : Led} {kvs : List (Int × Value)} {nm : Nm} (h : NmIn w news kvs nm) {k : Int} {v : Value} {b : Option Str} (hb : BdIn w news v b) :
    NmIn w news (kvs.map fun p => if p.1 = k then (p.1, v) else p) (nm.map fun p => if p.1 = k then (p.1, b) else p) := by
  induction h with
  | nil => exact .nil
  | @cons k' v' b' kvs nm h1 _ ih =>
    by_cases e : k' = k
    · simp only [List.map_cons, e, if_true]; exact .cons hb ih
    · simp only [List.map_cons, e, if_false]; exact .cons h1 ih
theorem NmIn.stored {w : World} {news : Led} {kvs : List (Int × Value)} {nm : Nm} (h : NmIn w news kvs nm) {k : Int} {v : Value} {b : Option Str} (hb : BdIn w news v b) : NmIn w news (PySem.stored kvs k v) (stv nm k b) := by
  unfold PySem.stored stv
  rw [h.any k]
  split
  · exact h.put hb
  · exact h.app hb
theorem WdIn.any {kvs : List (Int × Value)} {ws : List (Int × Str)} (h : WdIn kvs ws) (k : Int) : kvs.any (fun p => p.1 = k) = ws.any (fun p => p.1 = k) := by
  induction h with
  | nil => rfl
  | cons _ ih => simp [ih]
theorem WdIn.stored {kvs : List (Int × Value)} {ws : List (Int × Str)} (h : WdIn kvs ws) {k : Int} {x : Str} {t : Tok} : WdIn (PySem.stored kvs k (.str x t)) (stv ws k x) := by
  unfold PySem.stored stv
  rw [h.any k]
  split
  · induction h with
    | nil => exact .nil
    | @cons k' x' t' kvs ws _ ih =>
      by_cases e : k' = k
      · simp only [List.map_cons, e, if_true]
        refine .cons ?_
        clear ih
        rename_i h0 _
        induction h0 with
        | nil => exact .nil
        | @cons k2 x2 t2 kvs ws _ ih =>
          by_cases e2 : k2 = k
          · simp only [List.map_cons, e2, if_true]; exact .cons (ih (by simp [e]))
          · simp only [List.map_cons, e2, if_false]; exact .cons (ih (by simp [e]))
      · simp only [List.map_cons, e, if_false]
        refine .cons ?_
        rename_i h0 h1
        simp [e] at h1
        exact ih (by simpa using h1)
  · rename_i hh; clear hh
    induction h with
    | nil => exact .cons .nil
    | cons _ ih => exact .cons ih
theorem lookNm_look (nm : Nm) (k : Int) : lookNm nm k = look nm k := rfl
theorem lookW_look (ws : List (Int × Str)) (k : Int) : lookW ws k = look ws k := rfl
/-- what a word that stands in a scope means: the empty one is a local -/
def den (x : Str) : Option Str := if x = Str.ofString "" then none else some x
structure NB (ids : List Idn) (nm : Nm) (ws : List (Int × Str)) : Prop where
  look : ∀ (j : Nat) (d : Idn), ids[j]? = some d → lookNm nm d.key = (lookW ws (j : Int)).map den
  domN : ∀ p ∈ nm, ∃ d ∈ ids, p.1 = d.key
  domW : ∀ p ∈ ws, ∃ j : Nat, j < ids.length ∧ p.1 = (j : Int)
def Inj (ids : List Idn) : Prop := ∀ (i j : Nat) (d : Idn), ids[i]? = some d → ∀ d' : Idn, ids[j]? = some d' → d.key = d'.key → i = j
theorem NB.nil (ids : List Idn) : NB ids [] [] := ⟨fun _ _ _ => rfl, fun _ h => (nomatch h), fun _ h => (nomatch h)⟩
theorem NB.put {ids : List Idn} {nm : Nm} {ws : List (Int × Str)} (h : NB ids nm ws) (hi : Inj ids) {j : Nat} {d : Idn} (hj : ids[j]? = some d) (x : Str) : NB ids (stv nm d.key (den x)) (stv ws (j : Int) x) := by
  refine ⟨fun i e he => ?_, fun p hp => ?_, fun p hp => ?_⟩
  · rw [lookNm_look, lookW_look, look_stv, look_stv]
    by_cases q : i = j
    · subst q
      rw [hj] at he; cases he
      simp
    · have q1 : ¬ e.key = d.key := fun z => q (hi _ _ _ he _ hj z)
      have q2 : ¬ (i : Int) = (j : Int) := by omega
      rw [if_neg q1, if_neg q2]
      exact h.look i e he
  · rcases mem_stv hp with e | ⟨q, hq, e⟩
    · exact ⟨d, List.mem_of_getElem? hj, e⟩
    · obtain ⟨d', h1, h2⟩ := h.domN q hq
      exact ⟨d', h1, e ▸ h2⟩
  · rcases mem_stv hp with e | ⟨q, hq, e⟩
    · exact ⟨j, (List.getElem?_eq_some_iff.mp hj).1, e⟩
    · obtain ⟨d', h1, h2⟩ := h.domW q hq
      exact ⟨d', h1, e ▸ h2⟩
theorem NB.more {ids : List Idn} {nm : Nm} {ws : List (Int × Str)} (h : NB ids nm ws) {d : Idn} (hd : ∀ d' ∈ ids, d'.key ≠ d.key) : NB (ids ++ [d]) nm ws := by
  refine ⟨fun i e he => ?_, fun p hp => ?_, fun p hp => ?_⟩
  · by_cases q : i < ids.length
    · rw [List.getElem?_append_left q] at he
      exact h.look i e he
    · rw [List.getElem?_append_right (by omega)] at he
      have q2 : i - ids.length = 0 := by
        have := (List.getElem?_eq_some_iff.mp he).1
        simp at this; omega
      rw [q2] at he
      simp at he; subst he
      have h1 : lookNm nm d.key = none := look_none fun p hp e => by
        obtain ⟨d', hd', e'⟩ := h.domN p hp
        exact hd d' hd' (e'.symm.trans e)
      have h2 : lookW ws (i : Int) = none := look_none fun p hp e => by
        obtain ⟨j, hj, e'⟩ := h.domW p hp
        omega
      rw [h1, h2]; rfl
  · obtain ⟨d', h1, h2⟩ := h.domN p hp
    exact ⟨d', List.mem_append.mpr (.inl h1), h2⟩
  · obtain ⟨d', h1, h2⟩ := h.domW p hp
    exact ⟨d', by simp; omega, h2⟩
end Mine
namespace Mine
theorem app_at {w : World} {A : Around} {E : Value → Shared → Prop} {s : Shared} {h₀ : Heap} {L l : Addr} {m : Str → Option Value} {news rest : Led} {vs : List Value} {k : Nat} {v : Value} {Q : Value → Shared → Prop} (n : Nat)
    (F : Fr h₀ L s.heap m) (N : News h₀ L s.heap news) (D : ND news) (e : front n news = (l, listOf vs.toArray k) :: rest) (hz : vs.length ≤ 1000)
    (h : ∀ h', Fr h₀ L h' m → News h₀ L h' ((l, listOf (vs ++ [v]).toArray (k + 1)) :: rest) → ND ((l, listOf (vs ++ [v]).toArray (k + 1)) :: rest) → Q .none { s with heap := h' }) :
    wpAny (model PySem.Challenge.rw_nt0172_01.row.prog w) A (call (.builtin "list.append") [.ref l, v]) Q E s := by
  have N' := news_front N n
  have D' := D.front n
  rw [e] at N' D'
  exact my_app F N' (.head D'.off) hz fun h' F' N'' => h h' F' N'' D'.put
theorem set_at {w : World} {A : Around} {E : Value → Shared → Prop} {s : Shared} {h₀ : Heap} {L nd : Addr} {m : Str → Option Value} {news rest : Led} {o : Obj} {kvs : List (Int × Value)} {k : Int} {t : Tok} {v : Value} {Q : Unit → Shared → Prop} (n : Nat)
    (F : Fr h₀ L s.heap m) (N : News h₀ L s.heap news) (D : ND news) (e : front n news = (nd, o) :: rest) (hd : o.IsDictOf (IntK w) kvs) (hsz : kvs.length ≤ 1000)
    (h : ∀ h' o', Fr h₀ L h' m → News h₀ L h' ((nd, o') :: rest) → ND ((nd, o') :: rest) → o'.IsDictOf (IntK w) (stored kvs k v) → Q () { s with heap := h', toks := s.toks + 1 }) :
    wpAny (model PySem.Challenge.rw_nt0172_01.row.prog w) A (setItem (.ref nd) (.int k t) v) Q E s := by
  have N' := news_front N n
  have D' := D.front n
  rw [e] at N' D'
  exact nm_set F N' D'.off hd hsz fun h' o' F' N'' hd' => h h' o' F' N'' D'.put hd'
def lawM (xA bA rA pA oA : Nat) (u : Str → Option Value) : Str → Option Value := fun y =>
  if y = Str.ofString "texts" then some (.ref xA) else if y = Str.ofString "bases" then some (.ref bA) else if y = Str.ofString "roots" then some (.ref rA) else if y = Str.ofString "depths" then some (.ref pA) else if y = Str.ofString "bound" then some (.ref oA) else u y
theorem lawM_self {xA bA rA pA oA : Nat} {m : Str → Option Value} (h1 : m (Str.ofString "texts") = some (.ref xA)) (h2 : m (Str.ofString "bases") = some (.ref bA)) (h3 : m (Str.ofString "roots") = some (.ref rA)) (h4 : m (Str.ofString "depths") = some (.ref pA)) (h5 : m (Str.ofString "bound") = some (.ref oA)) : m = lawM xA bA rA pA oA m := by
  funext y
  unfold lawM
  split
  · next e => rw [e, h1]
  · split
    · next e => rw [e, h2]
    · split
      · next e => rw [e, h3]
      · split
        · next e => rw [e, h4]
        · split
          · next e => rw [e, h5]
          · rfl
def lvM (lv : Nat) (tl : Tok) (xA bA rA pA oA : Nat) (u : Str → Option Value) : Str → Option Value := fun y => if y = Str.ofString "level" then some (.int lv tl) else lawM xA bA rA pA oA u y
theorem lvM_self {lv : Nat} {tl : Tok} {xA bA rA pA oA : Nat} {m : Str → Option Value} (h0 : m (Str.ofString "level") = some (.int lv tl)) (h1 : m (Str.ofString "texts") = some (.ref xA)) (h2 : m (Str.ofString "bases") = some (.ref bA)) (h3 : m (Str.ofString "roots") = some (.ref rA)) (h4 : m (Str.ofString "depths") = some (.ref pA)) (h5 : m (Str.ofString "bound") = some (.ref oA)) : m = lvM lv tl xA bA rA pA oA m := by
  funext y
  unfold lvM
  split
  · next e => rw [e, h0]
  · exact congrFun (lawM_self h1 h2 h3 h4 h5) y
/-- what the inner loop leaves alone -/
structure InFix (w : World) (L D wA wd eA sA oA : Nat) (ids : List Idn) (ev sv ov : List Value) (lv a dd nd bd : Nat) (fz : Led) : Prop where
  c1 : ∃ o, (L + 1, o) ∈ fz ∧ o.data = .cell (some (.ref D))
  c2 : ∃ o, (L + 1 + 1, o) ∈ fz ∧ o.data = .cell (some (.ref wA))
  c3 : ∃ o, (L + 1 + 1 + 1, o) ∈ fz ∧ o.data = .cell (some (.ref sA))
  c5 : ∃ o, (L + 1 + 1 + 1 + 1 + 1, o) ∈ fz ∧ o.data = .cell (some (.ref eA))
  hw : (wA, instObj 388 wd) ∈ fz
  he : ∃ k, (eA, listOf ev.toArray k) ∈ fz
  hs : ∃ k, (sA, listOf sv.toArray k) ∈ fz
  ho : ∃ k, (oA, listOf ov.toArray k) ∈ fz
  ha : (a, instObj 283 dd) ∈ fz
  hdd : ∃ t t' pv k, (dd, dictOf [⟨kh w "parent", .str (Str.ofString "parent") t, pv⟩, ⟨kh w "names", .str (Str.ofString "names") t', .ref nd⟩] k) ∈ fz
  hI : ∀ (j : Nat) (d : Idn), ids[j]? = some d → ∃ v, ev[j]? = some v ∧ IdnIn w fz v d
theorem InFix.mono {w : World} {L D wA wd eA sA oA : Nat} {ids : List Idn} {ev sv ov : List Value} {lv a dd nd bd : Nat} {fz fz' : Led} (h : InFix w L D wA wd eA sA oA ids ev sv ov lv a dd nd bd fz) (hs : ∀ p ∈ fz, p ∈ fz') : InFix w L D wA wd eA sA oA ids ev sv ov lv a dd nd bd fz' where
  c1 := let ⟨o, h1, h2⟩ := h.c1; ⟨o, hs _ h1, h2⟩
  c2 := let ⟨o, h1, h2⟩ := h.c2; ⟨o, hs _ h1, h2⟩
  c3 := let ⟨o, h1, h2⟩ := h.c3; ⟨o, hs _ h1, h2⟩
  c5 := let ⟨o, h1, h2⟩ := h.c5; ⟨o, hs _ h1, h2⟩
  hw := hs _ h.hw
  he := let ⟨o, h1⟩ := h.he; ⟨o, hs _ h1⟩
  hs := let ⟨o, h1⟩ := h.hs; ⟨o, hs _ h1⟩
  ho := let ⟨o, h1⟩ := h.ho; ⟨o, hs _ h1⟩
  ha := hs _ h.ha
  hdd := let ⟨t, t', pv, k, h1⟩ := h.hdd; ⟨t, t', pv, k, hs _ h1⟩
  hI := fun j d hj => let ⟨v, h1, h2⟩ := h.hI j d hj; ⟨v, h1, h2.mono hs⟩
inductive InJ (w : World) (lv : Nat) (tl : Tok) (D wd tA a1 a2 xA bA rA pA oA nd bd : Nat) (t1 t2 t4 t5 t6 : Tok) (n₀ : Int) (ids : List Idn) (fz₀ : Led) (j : Nat) : (Str → Option Value) → Led → Prop
  | mk {u : Str → Option Value} {gr : Led} {oD oN oB : Obj} {n : Int} {t3 : Tok} {kvs kvb : List (Int × Value)} {nm : Nm} {ws : List (Int × Str)} : DeckObj oD → n₀ ≤ n → n ≤ n₀ + j →
      oN.IsDictOf (IntK w) kvs → NmIn w gr kvs nm → kvs.length ≤ j → oB.IsDictOf (IntK w) kvb → WdIn kvb ws → kvb.length ≤ j → NB ids nm ws →
      InJ w lv tl D wd tA a1 a2 xA bA rA pA oA nd bd t1 t2 t4 t5 t6 n₀ ids fz₀ j (lvM lv tl xA bA rA pA oA u) ((D, oD) :: (wd, worldD w tA a1 a2 n t1 t2 t3 t4 t5 t6) :: (nd, oN) :: (bd, oB) :: (gr ++ fz₀))
theorem InJ.turn {w : World} {lv : Nat} {tl : Tok} {D wd tA a1 a2 xA bA rA pA oA nd bd : Nat} {t1 t2 t3 t4 t5 t6 : Tok} {n₀ n : Int} {ids : List Idn} {fz₀ gr gr' : Led} {i j : Nat} {m : Str → Option Value} {oD oN oB : Obj} {kvs kvb : List (Int × Value)} {nm : Nm} {ws : List (Int × Str)} {d : Idn} {v : Value} {x : Str} {t : Tok}
    (hm : m = lvM lv tl xA bA rA pA oA m) (hs : ∀ p ∈ gr, p ∈ gr') (hdk : DeckObj oD) (h1 : n₀ ≤ n) (h2 : n ≤ n₀ + ((i + 1 : Nat) : Int))
    (hN : oN.IsDictOf (IntK w) (stored kvs d.key v)) (hNm : NmIn w gr kvs nm) (hk : kvs.length ≤ i) (hB : oB.IsDictOf (IntK w) (stored kvb (j : Int) (.str x t))) (hW : WdIn kvb ws) (hkb : kvb.length ≤ i)
    (hNB : NB ids nm ws) (hinj : Inj ids) (hj : ids[j]? = some d) (hb : BdIn w gr' v (den x)) :
    InJ w lv tl D wd tA a1 a2 xA bA rA pA oA nd bd t1 t2 t4 t5 t6 n₀ ids fz₀ (i + 1) m ((D, oD) :: (wd, worldD w tA a1 a2 n t1 t2 t3 t4 t5 t6) :: (nd, oN) :: (bd, oB) :: (gr' ++ fz₀)) := by
  have h := InJ.mk (w := w) (lv := lv) (tl := tl) (D := D) (wd := wd) (tA := tA) (a1 := a1) (a2 := a2) (xA := xA) (bA := bA) (rA := rA) (pA := pA) (oA := oA) (nd := nd) (bd := bd) (t1 := t1) (t2 := t2) (t3 := t3) (t4 := t4) (t5 := t5) (t6 := t6) (j := i + 1) (fz₀ := fz₀) (u := m) hdk h1 h2 hN ((hNm.mono hs).stored hb)
    (Nat.le_trans stored_length (Nat.succ_le_succ hk)) hB hW.stored (Nat.le_trans stored_length (Nat.succ_le_succ hkb)) (hNB.put hinj hj x)
  rwa [← hm] at h
theorem den_if : den (Str.ofString "if") = some (Str.ofString "if") := by decide +kernel
theorem den_let : den (Str.ofString "let") = some (Str.ofString "let") := by decide +kernel
theorem den_no : den (Str.ofString "") = none := by simp [den]
theorem ND.putN {h₀ h : Heap} {L a : Addr} {o o' : Obj} {l : Led} (_N : News h₀ L h ((a, o') :: l)) (h : ND ((a, o) :: l)) : ND ((a, o') :: l) := h.put
theorem nd_new2N {h₀ h : Heap} {L : Addr} {d a : Nat} {o o' : Obj} {l : Led} (_N : News h₀ L h ((a, o) :: (d, o') :: l)) (hl : ∀ p ∈ l, p.1 < d) (h1 : d < a) (h : ND l) : ND ((a, o) :: (d, o') :: l) := nd_new2 hl h1 h
theorem nd_new3N {h₀ h : Heap} {L : Addr} {d a n : Nat} {o o' o'' : Obj} {l : Led} (_N : News h₀ L h ((n, o'') :: (a, o) :: (d, o') :: l)) (hl : ∀ p ∈ l, p.1 < d) (h1 : d < a) (h2 : a < n) (h : ND l) : ND ((n, o'') :: (a, o) :: (d, o') :: l) := nd_new3 hl h1 h2 h
theorem mem_app {p : Addr × Obj} {fz fo own : Led} (h : p ∈ fz) (e : fo = fz ++ own) : p ∈ fo := e ▸ List.mem_append.mpr (.inl h)
end Mine
namespace Mine
local macro_rules | `(tactic| walk_at $s:str) => `(tactic| k_extra $s)
local macro_rules | `(tactic| k_room) => `(tactic| ktr_room)
local macro_rules | `(tactic| k_all) => `(tactic| assumption)
local macro_rules | `(tactic| k_mem) => `(tactic| assumption)

theorem inner_turn {w : World} {mean : ExcName → Option Value} {mg mb : Str → Option Value} {dp un : Nat} {gd : Option (List Code)} {fa : Addr} {ccd : Value} {outer : List Env} {A₀ : Around} {base h₀ : Heap} {L : Addr} {s : Shared} {Q : Flow → Shared → Prop} {E : Value → Shared → Prop}
    {lv : Nat} {tl : Tok} {D wA wd tA a1 a2 xA eA bA rA pA sA oA a dd nd bd : Nat} {t1 t2 t4 t5 t6 : Tok} {n₀ : Int} {ids : List Idn} {ev sv ov : List Value} {fz₀ own nx : Led} {i : Nat} {t : Tok} {m : Str → Option Value}
    (B : Below A₀ base outer h₀) (X : (_root_.Mine.tp.heap_39 w.params).In h₀) (T : Top _root_.Mine.tp.view_39 [] mean mg mb h₀) (hd : dp + 30 < recursionLimit) (hu : un + 8 * 30 < cLine)
    (hx : InFix w L D wA wd eA sA oA ids ev sv ov lv a dd nd bd fz₀) (hl : ev.length = ids.length) (hl3 : 3 ≤ ids.length) (hl9 : ids.length ≤ 9) (hi : i < 2) (hn : 0 ≤ n₀) (hn' : n₀ ≤ 50) (hlv : lv < 9) (hsl : sv[lv + 1]? = some (.ref a)) (hol : ov[lv + 1]? = some (.ref bd)) (hinj : Inj ids)
    (hJ : InJ w lv tl D wd tA a1 a2 xA bA rA pA oA nd bd t1 t2 t4 t5 t6 n₀ ids fz₀ i m nx)
    (F : Fr h₀ L s.heap (fun y => if y = Str.ofString "turn" then some (.int (0 + (i : Int)) t) else m y)) (N : News h₀ L s.heap (nx ++ own)) (ndx : ND (nx ++ own)) :
    wpAny (model PySem.Challenge.rw_nt0172_01.row.prog w) (lawTop dp un gd L fa ccd outer) (execs innerBody (lawEnv L fa ccd))
      (RsPost h₀ L (InJ w lv tl D wd tA a1 a2 xA bA rA pA oA nd bd t1 t2 t4 t5 t6 n₀ ids fz₀ (i + 1)) own s Q) E s := by
  (revert X; k_fill; intro X)
  k_with_none
  conv => arg 4; arg 1; whnf
  delta lawTop lawEnv
  conv in (occs := *) lawSc => all_goals whnf
  obtain @⟨u, gr, oD, oN, oB, n, t3, kvs, kvb, nm, ws, hdk, hn1, hn2, hdN, hNm, hkl, hdB, hWd, hbl, hNB⟩ := hJ
  simp only [List.cons_append] at N ndx
  obtain ⟨fo, hfo⟩ : ∃ fo, fo = (gr ++ fz₀) ++ own := ⟨_, rfl⟩
  rw [← hfo] at N ndx
  have hx' := hx.mono (fun p hp => mem_app (List.mem_append.mpr (.inr hp)) hfo)
  obtain ⟨⟨oc1, m1, d1⟩, ⟨oc2, m2, d2⟩, ⟨oc3, m3, d3⟩, ⟨oc5, m5, d5⟩, hw, ⟨ke, he⟩, ⟨ks, hs⟩, ⟨ko, ho⟩, ha, ⟨tt, tt', pv, kd, hdd⟩, hI⟩ := hx'
  unfold lvM lawM at F
  k_with "newTuple" => (k_here; k_dflt (refine' my_tuple ?k1 ?k2 ?k3 ?k4 ?_; (case k1 => k_asm); (case k2 => k_asm); (case k3 => with_reducible assumption); (case k4 => exact Nat.le_of_ble_eq_true rfl)); intro l' h' F' N' l1 nd9; (try k_sweep); (try k_fold))
  k_with "newList" => (k_here; k_dflt (refine' my_list ?k1 ?k2 ?k3 ?k4 ?_; (case k1 => k_asm); (case k2 => k_asm); (case k3 => with_reducible assumption); (case k4 => exact Nat.le_of_ble_eq_true rfl)); intro l' h' F' N' l1 nd9; (try k_sweep); (try k_fold))
  k_with "storeName" => (k_here; k_dflt (first | (refine' my_store 0 ?F ?N ?D ?c ?e ?d ?_ ?a ?b; (case a => rfl); (case b => rfl); (case F => with_reducible assumption); (case N => with_reducible assumption); (case c => rfl); (case e => rfl); (case D => with_reducible assumption); (case d => with_reducible assumption)) | (refine' my_store 1 ?F ?N ?D ?c ?e ?d ?_ ?a ?b; (case a => rfl); (case b => rfl); (case F => with_reducible assumption); (case N => with_reducible assumption); (case c => rfl); (case e => rfl); (case D => with_reducible assumption); (case d => with_reducible assumption)) | (refine' my_store 2 ?F ?N ?D ?c ?e ?d ?_ ?a ?b; (case a => rfl); (case b => rfl); (case F => with_reducible assumption); (case N => with_reducible assumption); (case c => rfl); (case e => rfl); (case D => with_reducible assumption); (case d => with_reducible assumption)) | (refine' my_store 3 ?F ?N ?D ?c ?e ?d ?_ ?a ?b; (case a => rfl); (case b => rfl); (case F => with_reducible assumption); (case N => with_reducible assumption); (case c => rfl); (case e => rfl); (case D => with_reducible assumption); (case d => with_reducible assumption)) | (refine' my_store 4 ?F ?N ?D ?c ?e ?d ?_ ?a ?b; (case a => rfl); (case b => rfl); (case F => with_reducible assumption); (case N => with_reducible assumption); (case c => rfl); (case e => rfl); (case D => with_reducible assumption); (case d => with_reducible assumption)) | (refine' my_store 5 ?F ?N ?D ?c ?e ?d ?_ ?a ?b; (case a => rfl); (case b => rfl); (case F => with_reducible assumption); (case N => with_reducible assumption); (case c => rfl); (case e => rfl); (case D => with_reducible assumption); (case d => with_reducible assumption)) | (refine' my_store 6 ?F ?N ?D ?c ?e ?d ?_ ?a ?b; (case a => rfl); (case b => rfl); (case F => with_reducible assumption); (case N => with_reducible assumption); (case c => rfl); (case e => rfl); (case D => with_reducible assumption); (case d => with_reducible assumption)) | (refine' my_store 7 ?F ?N ?D ?c ?e ?d ?_ ?a ?b; (case a => rfl); (case b => rfl); (case F => with_reducible assumption); (case N => with_reducible assumption); (case c => rfl); (case e => rfl); (case D => with_reducible assumption); (case d => with_reducible assumption)) | (refine' my_store 8 ?F ?N ?D ?c ?e ?d ?_ ?a ?b; (case a => rfl); (case b => rfl); (case F => with_reducible assumption); (case N => with_reducible assumption); (case c => rfl); (case e => rfl); (case D => with_reducible assumption); (case d => with_reducible assumption)) | (refine' my_store 9 ?F ?N ?D ?c ?e ?d ?_ ?a ?b; (case a => rfl); (case b => rfl); (case F => with_reducible assumption); (case N => with_reducible assumption); (case c => rfl); (case e => rfl); (case D => with_reducible assumption); (case d => with_reducible assumption)) | (refine' my_store 10 ?F ?N ?D ?c ?e ?d ?_ ?a ?b; (case a => rfl); (case b => rfl); (case F => with_reducible assumption); (case N => with_reducible assumption); (case c => rfl); (case e => rfl); (case D => with_reducible assumption); (case d => with_reducible assumption)) | (refine' my_store 11 ?F ?N ?D ?c ?e ?d ?_ ?a ?b; (case a => rfl); (case b => rfl); (case F => with_reducible assumption); (case N => with_reducible assumption); (case c => rfl); (case e => rfl); (case D => with_reducible assumption); (case d => with_reducible assumption)) | (refine' my_store 12 ?F ?N ?D ?c ?e ?d ?_ ?a ?b; (case a => rfl); (case b => rfl); (case F => with_reducible assumption); (case N => with_reducible assumption); (case c => rfl); (case e => rfl); (case D => with_reducible assumption); (case d => with_reducible assumption)) | (refine' my_store 13 ?F ?N ?D ?c ?e ?d ?_ ?a ?b; (case a => rfl); (case b => rfl); (case F => with_reducible assumption); (case N => with_reducible assumption); (case c => rfl); (case e => rfl); (case D => with_reducible assumption); (case d => with_reducible assumption)) | (refine' my_store 14 ?F ?N ?D ?c ?e ?d ?_ ?a ?b; (case a => rfl); (case b => rfl); (case F => with_reducible assumption); (case N => with_reducible assumption); (case c => rfl); (case e => rfl); (case D => with_reducible assumption); (case d => with_reducible assumption)) | (refine' my_store 15 ?F ?N ?D ?c ?e ?d ?_ ?a ?b; (case a => rfl); (case b => rfl); (case F => with_reducible assumption); (case N => with_reducible assumption); (case c => rfl); (case e => rfl); (case D => with_reducible assumption); (case d => with_reducible assumption)) | (refine' my_store 16 ?F ?N ?D ?c ?e ?d ?_ ?a ?b; (case a => rfl); (case b => rfl); (case F => with_reducible assumption); (case N => with_reducible assumption); (case c => rfl); (case e => rfl); (case D => with_reducible assumption); (case d => with_reducible assumption)) | (refine' my_store 17 ?F ?N ?D ?c ?e ?d ?_ ?a ?b; (case a => rfl); (case b => rfl); (case F => with_reducible assumption); (case N => with_reducible assumption); (case c => rfl); (case e => rfl); (case D => with_reducible assumption); (case d => with_reducible assumption)) | (refine' my_store 18 ?F ?N ?D ?c ?e ?d ?_ ?a ?b; (case a => rfl); (case b => rfl); (case F => with_reducible assumption); (case N => with_reducible assumption); (case c => rfl); (case e => rfl); (case D => with_reducible assumption); (case d => with_reducible assumption)) | (refine' my_store 19 ?F ?N ?D ?c ?e ?d ?_ ?a ?b; (case a => rfl); (case b => rfl); (case F => with_reducible assumption); (case N => with_reducible assumption); (case c => rfl); (case e => rfl); (case D => with_reducible assumption); (case d => with_reducible assumption))); intro h' o' F' N' nd9 cd9; (try dsimp only at N' nd9); (try k_sweep); (try k_fold))
  k_with "call builtin:len" => (k_here; k_dflt (refine' my_len (vs := ev) ?k1 ?k2 ?k3 ?_; (case k1 => k_asm); (case k2 => k_mem); (case k3 => omega)); (try k_fold))
  k_with "subscriptTail" => (k_here; k_dflt (first
      | (refine' my_sub (vs := sv) ?k1 ?k2 ?k3 ?k4 ?k5 ?_ ?k6; (case k1 => k_asm); (case k2 => k_mem); (case k3 => omega); (case k4 => omega); (case k5 => (rw [show ((lv : Int) + 1).toNat = lv + 1 by omega]; exact hsl)); (case k6 => with_unfolding_all rfl))
      | (refine' my_sub (vs := ov) ?k1 ?k2 ?k3 ?k4 ?k5 ?_ ?k6; (case k1 => k_asm); (case k2 => k_mem); (case k3 => omega); (case k4 => omega); (case k5 => (rw [show ((lv : Int) + 1).toNat = lv + 1 by omega]; exact hol)); (case k6 => with_unfolding_all rfl))
      | (refine' my_sub (vs := ev) ?k1 ?k2 ?k3 ?k4 ?k5 ?_ ?k6; (case k1 => k_asm); (case k2 => k_mem); (case k3 => omega); (case k4 => omega); (case k5 => (rw [Int.toNat_natCast]; assumption)); (case k6 => with_unfolding_all rfl))))
  k_with "setItem ref int" => (k_here; (rename News _ _ _ _ => lN); (rename ND _ => lD); k_dflt (first | (refine' set_at 7 ?k1 lN lD ?k4 ?k5 ?k6 ?_; (case k1 => k_asm); (case k4 => rfl); (case k5 => assumption); (case k6 => omega))); intro h9 o9 F9 N9 nd9 hd9; clear lN lD; (try k_fold))
  k_with "call ref" => (first | ((with_reducible show wpAny _ _ (call (Value.ref 411) _) _ _ _); (rename News _ _ _ _ => lN); (try (rename ND _ => lD)); k_here; k_dflt (first | ((have lE := ND.front lD 0); (refine' Says.use (says_draw (many := 3) (ND.off lE) ?c1 (by decide) (by decide)) ?k1 ?k2 ?k3 ?k4 ?k5 ?kK ?kd ?ku ?_; (case k4 => exact news_front lN 0); (case c1 => with_reducible assumption); (case k1 => k_asm); (case k2 => k_asm); (case k3 => k_asm); (case k5 => k_asm); (case kK => first | exact rfl | assumption); (case kd => ktr_room); (case ku => ktr_units))) | ((have lE := ND.front lD 1); (refine' Says.use (says_draw (many := 3) (ND.off lE) ?c1 (by decide) (by decide)) ?k1 ?k2 ?k3 ?k4 ?k5 ?kK ?kd ?ku ?_; (case k4 => exact news_front lN 1); (case c1 => with_reducible assumption); (case k1 => k_asm); (case k2 => k_asm); (case k3 => k_asm); (case k5 => k_asm); (case kK => first | exact rfl | assumption); (case kd => ktr_room); (case ku => ktr_units)))); intro r9 n9 h9 tk9 F9 N9 O9; (obtain ⟨i9, t9, o9, e9, hlo9, hhi9, hdk9, e8⟩ := O9); subst r9; subst n9; (k_dflt (have nd9 := ND.putN N9 lE)); clear lE lN lD; (rcases (by omega : i9 = 0 ∨ i9 = 1 ∨ i9 = 2) with rfl | rfl | rfl) <;>  (try dsimp only); (try k_fold)) | ((with_reducible show wpAny _ _ (call (Value.ref 411) _) _ _ _); (rename News _ _ _ _ => lN); (try (rename ND _ => lD)); k_here; k_dflt (first | ((have lE := ND.front lD 0); (refine' Says.use (says_draw (many := (ev.length : Int)) (ND.off lE) ?c1 (by omega) (by omega)) ?k1 ?k2 ?k3 ?k4 ?k5 ?kK ?kd ?ku ?_; (case k4 => exact news_front lN 0); (case c1 => with_reducible assumption); (case k1 => k_asm); (case k2 => k_asm); (case k3 => k_asm); (case k5 => k_asm); (case kK => first | exact rfl | assumption); (case kd => ktr_room); (case ku => ktr_units))) | ((have lE := ND.front lD 1); (refine' Says.use (says_draw (many := (ev.length : Int)) (ND.off lE) ?c1 (by omega) (by omega)) ?k1 ?k2 ?k3 ?k4 ?k5 ?kK ?kd ?ku ?_; (case k4 => exact news_front lN 1); (case c1 => with_reducible assumption); (case k1 => k_asm); (case k2 => k_asm); (case k3 => k_asm); (case k5 => k_asm); (case kK => first | exact rfl | assumption); (case kd => ktr_room); (case ku => ktr_units)))); intro r9 n9 h9 tk9 F9 N9 O9; (obtain ⟨i9, t9, o9, e9, hlo9, hhi9, hdk9, e8⟩ := O9); subst r9; subst n9; (k_dflt (have nd9 := ND.putN N9 lE)); clear lE lN lD; (obtain ⟨j9, rfl⟩ := Int.eq_ofNat_of_zero_le hlo9); (obtain ⟨d9, hd9⟩ : ∃ d, ids[j9]? = some d := ⟨_, List.getElem?_eq_getElem (by omega)⟩); (obtain ⟨v9, hv9, hI9⟩ := hI _ _ hd9); (try dsimp only); (try k_fold)) | ((with_reducible show wpAny _ _ (call (Value.ref 143) _) _ _ _); (rename News _ _ _ _ => lN); (try (rename ND _ => lD)); k_here; k_dflt (refine' Says.use (says_special_new) ?k1 ?k2 ?k3 ?k4 ?k5 ?kK ?kd ?ku ?_; (case k4 => exact lN);  (case k1 => k_asm); (case k2 => k_asm); (case k3 => k_asm); (case k5 => k_asm); (case kK => first | exact rfl | assumption); (case kd => ktr_room); (case ku => ktr_units)); intro r9 n9 h9 tk9 F9 N9 O9; (obtain ⟨a9, dd9, u1, u2, e9, q1, q2, e8⟩ := O9); subst r9; subst n9; (have nd9 := nd_new2N N9 q2 q1 lD); clear lN lD; (try dsimp only); (try k_fold)) | ((with_reducible show wpAny _ _ (call (Value.ref 164) _) _ _ _); (rename News _ _ _ _ => lN); (try (rename ND _ => lD)); k_here; k_dflt (refine' Says.use (says_local_new) ?k1 ?k2 ?k3 ?k4 ?k5 ?kK ?kd ?ku ?_; (case k4 => exact lN);  (case k1 => k_asm); (case k2 => k_asm); (case k3 => k_asm); (case k5 => k_asm); (case kK => first | exact rfl | assumption); (case kd => ktr_room); (case ku => ktr_units)); intro r9 n9 h9 tk9 F9 N9 O9; (obtain ⟨a9, dd9, u1, u2, u3, u4, e9, q1, q2, e8⟩ := O9); subst r9; subst n9; (have nd9 := nd_new2N N9 q2 q1 lD); clear lN lD; (try dsimp only); (try k_fold)) | ((with_reducible show wpAny _ _ (call (Value.ref 329) _) _ _ _); (rename News _ _ _ _ => lN); (try (rename ND _ => lD)); k_here; k_dflt (first | ((have lE := ND.front lD 3); (refine' Says.use (says_fresh ?c1 (ND.off lE) ?c2 ?c3) ?k1 ?k2 ?k3 ?k4 ?k5 ?kK ?kd ?ku ?_; (case k4 => exact news_front lN 3); (case c1 => k_mem); (case c2 => omega); (case c3 => omega); (case k1 => k_asm); (case k2 => k_asm); (case k3 => k_asm); (case k5 => k_asm); (case kK => first | exact rfl | assumption); (case kd => ktr_room); (case ku => ktr_units)))); intro r9 n9 h9 tk9 F9 N9 O9; (obtain ⟨t9, e9, e8⟩ := O9); subst r9; subst n9; (k_dflt (have nd9 := ND.putN N9 lE)); clear lE lN lD; (try dsimp only); (try k_fold)) | ((with_reducible show wpAny _ _ (call (Value.ref 245) _) _ _ _); (rename News _ _ _ _ => lN); (try (rename ND _ => lD)); k_here; k_dflt (first | ((have lE := ND.front lD 6); (refine' Says.use (says_bind ?c1 ?c2 (ND.off lE) ?c3 ?c4 ?c5) ?k1 ?k2 ?k3 ?k4 ?k5 ?kK ?kd ?ku ?_; (case k4 => exact news_front lN 6); (case c1 => k_mem); (case c2 => k_mem); (case c3 => with_reducible assumption); (case c4 => omega); (case c5 => (refine IdnIn.mono hI9 (fun p hp => ?_); (repeat (first | exact hp | apply List.Mem.tail)))); (case k1 => k_asm); (case k2 => k_asm); (case k3 => k_asm); (case k5 => k_asm); (case kK => first | exact rfl | assumption); (case kd => ktr_room); (case ku => ktr_units)))); intro r9 n9 h9 tk9 F9 N9 O9; (obtain ⟨e9, o9, hd9', e8⟩ := O9); subst r9; subst n9; (k_dflt (have nd9 := ND.putN N9 lE)); clear lE lN lD; (try dsimp only); (try k_fold)))
  k_steps
  all_goals (
    subst hfo
    refine' ⟨_, _, _, (D, _) :: (wd, _) :: (nd, _) :: (bd, _) :: ((_ :: _ :: _ :: _ :: gr) ++ fz₀), rfl, F9, ?n, ?d, ?j⟩
    case n => first | exact news_front (news_front (news_front N9 1) 7) 6 | exact news_front (news_front (news_front N9 1) 4) 6
    case d => first | exact ((nd9.front 1).front 7).front 6 | exact ((nd9.front 1).front 4).front 6
    case j =>
      refine InJ.turn (lvM_self rfl rfl rfl rfl rfl rfl) (fun p hp => .tail _ (.tail _ (.tail _ (.tail _ hp)))) (by with_reducible assumption) (by omega) (by omega) (by with_reducible assumption) hNm hkl (by with_reducible assumption) hWd hbl hNB hinj (by with_reducible assumption) ?_
      first
        | exact den_no ▸ .loc (.mk (.head _) (.tail _ (.head _)))
        | exact den_if ▸ .spec (.mk (.head _) (.tail _ (.head _)))
        | exact den_let ▸ .spec (.mk (.head _) (.tail _ (.head _))))
end Mine
namespace Mine
def chain (nms : List Nm) (l : Nat) : List Nm := (nms.take (l + 1)).reverse
theorem chain_more {nms : List Nm} {nm : Nm} {l : Nat} (h : l < nms.length) : chain (nms ++ [nm]) l = chain nms l := by
  unfold chain
  rw [List.take_append_of_le_length (by omega)]
theorem chain_new {nms : List Nm} {nm : Nm} {i : Nat} (h : nms.length = i + 1) : chain (nms ++ [nm]) (i + 1) = nm :: chain nms i := by
  unfold chain
  rw [List.take_of_length_le (by simp; omega), List.take_of_length_le (by omega)]
  simp
def txt : Nat → Str
  | 0 => Str.ofString "if"
  | 1 => Str.ofString "let"
  | _ => Str.ofString "x"
structure LvFix (w : World) (L D wA wd eA sA : Nat) (r0 : Addr) (i : Nat) (n : Int) (ids : List Idn) (Bs : List (Option (Nat × Nat))) (Rs Ds : List Int) (nms : List Nm) (Bds : List (List (Int × Str))) (ev bs rs ds sv ov : List Value) (fz : Led) : Prop where
  c1 : ∃ o, (L + 1, o) ∈ fz ∧ o.data = .cell (some (.ref D))
  c2 : ∃ o, (L + 1 + 1, o) ∈ fz ∧ o.data = .cell (some (.ref wA))
  c3 : ∃ o, (L + 1 + 1 + 1, o) ∈ fz ∧ o.data = .cell (some (.ref sA))
  c5 : ∃ o, (L + 1 + 1 + 1 + 1 + 1, o) ∈ fz ∧ o.data = .cell (some (.ref eA))
  hw : (wA, instObj 388 wd) ∈ fz
  hl : ev.length = ids.length
  h3 : ids.length = 3 + i
  hI : ∀ (j : Nat) (d : Idn), ids[j]? = some d → ∃ v, ev[j]? = some v ∧ IdnIn w fz v d
  hB : BasesIn fz bs Bs
  hBl : Bs.length = ids.length
  hR : IntsAre rs Rs
  hRl : Rs.length = ids.length
  hRt : ∀ (j : Nat) (d : Idn), ids[j]? = some d → ∃ r : Nat, Rs[j]? = some (r : Int) ∧ r < 3 ∧ d.rootX = txt r ∧ ev[r]? = some (.ref d.rootA)
  hD : IntsAre ds Ds
  hDl : Ds.length = ids.length
  hDt : ∀ (j : Nat) (d : Idn), ids[j]? = some d → Ds[j]? = some (d.depth : Int) ∧ d.depth ≤ i
  hS : ∀ l, l ≤ i → ∃ a, sv[l]? = some (.ref a) ∧ ScpIn w fz (.ref a) (chain nms l) ∧ UpIn w r0 fz (.ref a) l
  hSl : sv.length = i + 1
  hO : BndIn w fz ov Bds
  hOl : Bds.length = i + 1
  hnl : nms.length = i + 1
  hNB : ∀ (l : Nat) (nm : Nm) (ws : List (Int × Str)), nms[l]? = some nm → Bds[l]? = some ws → NB ids nm ws
  hT : ∀ (j : Nat) (d : Idn), ids[j]? = some d → (Bs[j]? = some none ∧ ∃ a n x, d = .sym a n x) ∨ ∃ b l num bd, Bs[j]? = some (some (b, l)) ∧ ids[b]? = some bd ∧ b < j ∧ l < i ∧ d = .ali num bd (chain nms l)
  hinj : Inj ids
  hnum : ∀ num b sc, Idn.ali num b sc ∈ ids → num ≤ n
  hn : 0 ≤ n
  hn' : n ≤ 3 * i
theorem UpIn.monoS {w : World} {r0 : Addr} {news news' : Led} {v : Value} {n : Nat} (h : UpIn w r0 news v n) (hs : ∀ p ∈ news, p ∈ news') : UpIn w r0 news' v n := h.mono hs
theorem getElem?_snoc {α : Type} {l : List α} {x y : α} {j : Nat} (h : (l ++ [x])[j]? = some y) : l[j]? = some y ∨ (j = l.length ∧ y = x) := by
  by_cases q : j < l.length
  · rw [List.getElem?_append_left q] at h; exact .inl h
  · rw [List.getElem?_append_right (by omega)] at h
    have q2 : j - l.length = 0 := by
      have := (List.getElem?_eq_some_iff.mp h).1
      simp at this; omega
    rw [q2] at h
    simp at h
    exact .inr ⟨by omega, h.symm⟩
theorem getElem?_old {α : Type} {l : List α} {x y : α} {j : Nat} (h : l[j]? = some y) : (l ++ [x])[j]? = some y := by
  rw [List.getElem?_append_left (List.getElem?_eq_some_iff.mp h).1]; exact h
theorem getElem?_last {α : Type} {l : List α} {x : α} {j : Nat} (h : j = l.length) : (l ++ [x])[j]? = some x := by subst h; simp
theorem IntsAre.snoc {vs : List Value} {ns : List Int} (h : IntsAre vs ns) (k : Int) (t : Tok) : IntsAre (vs ++ [.int k t]) (ns ++ [k]) := by
  induction h with
  | nil => exact .cons _ _ .nil
  | cons n t h ih => exact .cons _ _ ih
theorem BasesIn.snoc {fz fz' : Led} {bs : List Value} {Bs : List (Option (Nat × Nat))} (h : BasesIn fz bs Bs) (hs : ∀ p ∈ fz, p ∈ fz') {v : Value} {o : Option (Nat × Nat)} (hv : BaseIn fz' v o) : BasesIn fz' (bs ++ [v]) (Bs ++ [o]) := by
  refine ⟨by simp [h.len], fun i hi => ?_⟩
  by_cases q : i < Bs.length
  · obtain ⟨u, h1, h2⟩ := h.at_ i q
    refine ⟨u, getElem?_old h1, ?_⟩
    have : (Bs ++ [o]).getD i none = Bs.getD i none := by simp [List.getD, List.getElem?_append_left q]
    rw [this]; exact h2.mono hs
  · have e : i = Bs.length := by simp at hi; omega
    refine ⟨v, getElem?_last (by rw [e, h.len]), ?_⟩
    have : (Bs ++ [o]).getD i none = o := by subst e; simp [List.getD]
    rw [this]; exact hv
theorem BndIn.snoc {w : World} {fz fz' : Led} {ov : List Value} {Bds : List (List (Int × Str))} (h : BndIn w fz ov Bds) (hs : ∀ p ∈ fz, p ∈ fz') {bd : Addr} {o : Obj} {kvs : List (Int × Value)} {ws : List (Int × Str)}
    (hm : (bd, o) ∈ fz') (hlo : (bd == sysModules) = false) (hd : Obj.IsDictOf (IntK w) o kvs) (hw : WdIn kvs ws) : BndIn w fz' (ov ++ [.ref bd]) (Bds ++ [ws]) := by
  refine ⟨by simp [h.len], fun l hl => ?_⟩
  by_cases q : l < Bds.length
  · obtain ⟨dA, o', kvs', h1, h2, h3, h4, h5⟩ := h.at_ l q
    refine ⟨dA, o', kvs', getElem?_old h1, hs _ h2, h3, h4, ?_⟩
    have : (Bds ++ [ws]).getD l [] = Bds.getD l [] := by simp [List.getD, List.getElem?_append_left q]
    rw [this]; exact h5
  · have e : l = Bds.length := by simp at hl; omega
    refine ⟨bd, o, kvs, getElem?_last (by rw [e, h.len]), hm, hlo, hd, ?_⟩
    have : (Bds ++ [ws]).getD l [] = ws := by subst e; simp [List.getD]
    rw [this]; exact hw
theorem Inj.snoc {ids : List Idn} (h : Inj ids) {d : Idn} (hd : ∀ d' ∈ ids, d'.key ≠ d.key) : Inj (ids ++ [d]) := by
  intro i j a ha b hb e
  rcases getElem?_snoc ha with h1 | ⟨h1, rfl⟩ <;> rcases getElem?_snoc hb with h2 | ⟨h2, rfl⟩
  · exact h i j a h1 b h2 e
  · exact absurd e (hd a (List.mem_of_getElem? h1))
  · exact absurd e.symm (hd b (List.mem_of_getElem? h2))
  · omega
theorem LvFix.newkey {w : World} {L D wA wd eA sA : Nat} {r0 : Addr} {i : Nat} {n : Int} {ids : List Idn} {Bs : List (Option (Nat × Nat))} {Rs Ds : List Int} {nms : List Nm} {Bds : List (List (Int × Str))} {ev bs rs ds sv ov : List Value} {fz : Led}
    (h : LvFix w L D wA wd eA sA r0 i n ids Bs Rs Ds nms Bds ev bs rs ds sv ov fz) (d : Idn) (sc : List Nm) : ∀ d' ∈ ids, d'.key ≠ (Idn.ali (n + 1) d sc).key := by
  intro d' hd' e
  cases d' with
  | sym a m x => simp only [Idn.key] at e; omega
  | ali m b s =>
    have := h.hnum m b s hd'
    simp only [Idn.key] at e; omega
theorem LvFix.next {w : World} {L D wA wd eA sA : Nat} {r0 : Addr} {i : Nat} {n n' : Int} {ids : List Idn} {Bs : List (Option (Nat × Nat))} {Rs Ds : List Int} {nms : List Nm} {Bds : List (List (Int × Str))} {ev bs rs ds sv ov : List Value} {fz fz' : Led}
    (h : LvFix w L D wA wd eA sA r0 i n ids Bs Rs Ds nms Bds ev bs rs ds sv ov fz) (hs : ∀ p ∈ fz, p ∈ fz') (hi : i < 4) {j : Nat} {d : Idn} {v : Value} {r : Int} {sa : Addr} {x dx tA2 a ad nd bd k1 k2 : Nat} {tr td tb tl u1 u2 u3 u4 u5 u6 : Tok} {oN oB : Obj} {kvs kvb : List (Int × Value)} {nm : Nm} {ws : List (Int × Str)}
    (hj : ids[j]? = some d) (hv : ev[j]? = some v) (hr : Rs[j]? = some r) (hsa : sv[i]? = some (.ref sa))
    (m1 : (x, instObj 122 dx) ∈ fz') (m2 : (dx, dictOf [⟨kh w "number", .str (Str.ofString "number") u1, .int (n + 1) u2⟩, ⟨kh w "base", .str (Str.ofString "base") u3, v⟩, ⟨kh w "scope", .str (Str.ofString "scope") u4, .ref sa⟩] k1) ∈ fz')
    (m3 : (tA2, tup2 j i tb tl) ∈ fz') (m4 : (a, instObj 283 ad) ∈ fz') (m5 : (ad, dictOf [⟨kh w "parent", .str (Str.ofString "parent") u5, .ref sa⟩, ⟨kh w "names", .str (Str.ofString "names") u6, .ref nd⟩] k2) ∈ fz')
    (m6 : (nd, oN) ∈ fz') (m7 : (bd, oB) ∈ fz') (lo1 : (nd == sysModules) = false) (lo2 : (bd == sysModules) = false) (d1 : Obj.IsDictOf (IntK w) oN kvs) (d2 : Obj.IsDictOf (IntK w) oB kvb) (e1 : NmIn w fz' kvs nm) (e2 : WdIn kvb ws)
    (hnb : NB (ids ++ [.ali (n + 1) d (chain nms i)]) nm ws) (hn1 : n + 1 ≤ n') (hn2 : n' ≤ n + 3) :
    LvFix w L D wA wd eA sA r0 (i + 1) n' (ids ++ [.ali (n + 1) d (chain nms i)]) (Bs ++ [some (j, i)]) (Rs ++ [r]) (Ds ++ [(d.depth : Int) + 1]) (nms ++ [nm]) (Bds ++ [ws]) (ev ++ [.ref x]) (bs ++ [.ref tA2]) (rs ++ [.int r tr]) (ds ++ [.int ((d.depth : Int) + 1) td]) (sv ++ [.ref a]) (ov ++ [.ref bd]) fz' := by
  have hlen := h.hl
  have h3 := h.h3
  have hnl := h.hnl
  have hjl : j < ids.length := (List.getElem?_eq_some_iff.mp hj).1
  obtain ⟨v', hv', hI'⟩ := h.hI j d hj
  obtain rfl : v' = v := by rw [hv] at hv'; exact (Option.some.inj hv').symm
  obtain ⟨sa', hsa', hsc, hup⟩ := h.hS i (Nat.le_refl _)
  obtain rfl : sa' = sa := by rw [hsa] at hsa'; exact (Value.ref.inj (Option.some.inj hsa')).symm
  have hsc' := hsc.mono hs
  have hnew : IdnIn w fz' (.ref x) (.ali (n + 1) d (chain nms i)) := .ali (by have := h.hn; omega) (by have := h.hn'; omega) m1 m2 (hI'.mono hs) hsc'
  refine ⟨?_, ?_, ?_, ?_, hs _ h.hw, by simp [hlen], by simp [h3]; omega, ?_, h.hB.snoc hs (.some m3), by simp [h.hBl], IntsAre.snoc h.hR r tr, by simp [h.hRl], ?_, IntsAre.snoc h.hD _ td, by simp [h.hDl], ?_, ?_, by simp [h.hSl], h.hO.snoc hs m7 lo2 d2 e2, by simp [h.hOl], by simp [hnl], ?_, ?_, h.hinj.snoc (h.newkey d _), ?_, ?_, ?_⟩
  · obtain ⟨o, q1, q2⟩ := h.c1; exact ⟨o, hs _ q1, q2⟩
  · obtain ⟨o, q1, q2⟩ := h.c2; exact ⟨o, hs _ q1, q2⟩
  · obtain ⟨o, q1, q2⟩ := h.c3; exact ⟨o, hs _ q1, q2⟩
  · obtain ⟨o, q1, q2⟩ := h.c5; exact ⟨o, hs _ q1, q2⟩
  · intro k e he
    rcases getElem?_snoc he with q | ⟨q, rfl⟩
    · obtain ⟨u, q1, q2⟩ := h.hI k e q
      exact ⟨u, getElem?_old q1, q2.mono hs⟩
    · exact ⟨_, getElem?_last (by omega), hnew⟩
  · intro k e he
    rcases getElem?_snoc he with q | ⟨q, rfl⟩
    · obtain ⟨r', q1, q2, q3, q4⟩ := h.hRt k e q
      exact ⟨r', getElem?_old q1, q2, q3, getElem?_old q4⟩
    · obtain ⟨r', q1, q2, q3, q4⟩ := h.hRt j d hj
      obtain rfl : r = (r' : Int) := by rw [hr] at q1; exact Option.some.inj q1
      exact ⟨r', getElem?_last (by rw [h.hRl]; exact q), q2, q3, getElem?_old q4⟩
  · intro k e he
    rcases getElem?_snoc he with q | ⟨q, rfl⟩
    · obtain ⟨q1, q2⟩ := h.hDt k e q
      exact ⟨getElem?_old q1, by omega⟩
    · obtain ⟨q1, q2⟩ := h.hDt j d hj
      refine ⟨?_, by simp only [Idn.depth]; omega⟩
      have : ((Idn.ali (n + 1) d (chain nms i)).depth : Int) = (d.depth : Int) + 1 := by simp [Idn.depth]
      rw [this]
      exact getElem?_last (by rw [h.hDl]; exact q)
  · intro l hl
    by_cases q : l ≤ i
    · obtain ⟨b, q1, q2, q3⟩ := h.hS l q
      exact ⟨b, getElem?_old q1, by rw [chain_more (by omega)]; exact q2.mono hs, q3.mono hs⟩
    · have e : l = i + 1 := by omega
      subst e
      refine ⟨a, getElem?_last (by rw [h.hSl]), ?_, .up m4 m5 (hup.mono hs)⟩
      rw [chain_new hnl]
      exact .cons m4 m5 m6 d1 lo1 e1 hsc'
  · intro l nm' ws' h1 h2
    rcases getElem?_snoc h1 with q | ⟨q, rfl⟩ <;> rcases getElem?_snoc h2 with q' | ⟨q', rfl⟩
    · exact (h.hNB l nm' ws' q q').more (h.newkey d _)
    · have := (List.getElem?_eq_some_iff.mp q).1; have := h.hOl; omega
    · have := (List.getElem?_eq_some_iff.mp q').1; have := h.hOl; omega
    · exact hnb
  · intro k e he
    rcases getElem?_snoc he with q | ⟨q, rfl⟩
    · rcases h.hT k e q with ⟨q1, q2⟩ | ⟨b, l, num, bd', q1, q2, q3, q4, q5⟩
      · exact .inl ⟨getElem?_old q1, q2⟩
      · exact .inr ⟨b, l, num, bd', getElem?_old q1, getElem?_old q2, q3, by omega, by rw [chain_more (by omega)]; exact q5⟩
    · exact .inr ⟨j, i, n + 1, d, getElem?_last (by rw [h.hBl]; exact q), getElem?_old hj, by omega, by omega, by rw [chain_more (by omega)]⟩
  · intro num b sc hm
    rcases List.mem_append.mp hm with q | q
    · have := h.hnum num b sc q; omega
    · simp at q; omega
  · have := h.hn; omega
  · have := h.hn'; omega
inductive LvJ (w : World) (L D wA wd tA a1 a2 xA eA bA rA pA sA oA : Nat) (t1 t2 t4 t5 t6 : Tok) (r0 : Addr) (fz₀ : Led) (i : Nat) : (Str → Option Value) → Led → Prop
  | mk {o4 o6 o7 : Obj} {v4 v6 v7 : Option Value} {u : Str → Option Value} {fz : Led} {oD : Obj} {n : Int} {t3 : Tok} {ids : List Idn} {Bs : List (Option (Nat × Nat))} {Rs Ds : List Int} {nms : List Nm} {Bds : List (List (Int × Str))} {ev bs rs ds sv ov : List Value} {ke kb kr kp ks ko : Nat} : (∀ p ∈ fz₀, p ∈ fz) → DeckObj oD → o4.data = .cell v4 → o6.data = .cell v6 → o7.data = .cell v7 →
      LvFix w L D wA wd eA sA r0 i n ids Bs Rs Ds nms Bds ev bs rs ds sv ov fz →
      LvJ w L D wA wd tA a1 a2 xA eA bA rA pA sA oA t1 t2 t4 t5 t6 r0 fz₀ i (lawM xA bA rA pA oA u) ((D, oD) :: (wd, worldD w tA a1 a2 n t1 t2 t3 t4 t5 t6) :: (eA, listOf ev.toArray ke) :: (bA, listOf bs.toArray kb) :: (rA, listOf rs.toArray kr) :: (pA, listOf ds.toArray kp) :: (sA, listOf sv.toArray ks) :: (oA, listOf ov.toArray ko) :: (L + 1 + 1 + 1 + 1, o4) :: (L + 1 + 1 + 1 + 1 + 1 + 1, o6) :: (L + 1 + 1 + 1 + 1 + 1 + 1 + 1, o7) :: fz)
theorem IdnIn.handed {w : World} {news : Led} {v : Value} {d : Idn} (h : IdnIn w news v d) : handedIn v = true := by
  cases h <;> rfl
theorem lt_put {a d : Nat} {o o' : Obj} {l : Led} (h : ∀ p ∈ ((a, o) :: l : Led), p.1 < d) : ∀ p ∈ ((a, o') :: l : Led), p.1 < d := fun p hp => by
  rcases List.mem_cons.mp hp with rfl | hp
  · exact h (a, o) (.head _)
  · exact h _ (.tail _ hp)
theorem nd_new1N {h₀ h : Heap} {L : Addr} {x : Nat} {o : Obj} {l : Led} (_N : News h₀ L h ((x, o) :: l)) (hl : ∀ p ∈ l, p.1 < x) (h : ND l) : ND ((x, o) :: l) := h.cons hl
theorem InJ.start {w : World} {lv : Nat} {tl : Tok} {D wd tA a1 a2 xA bA rA pA oA nd bd : Nat} {t1 t2 t3 t4 t5 t6 : Tok} {n₀ : Int} {ids : List Idn} {fz₀ : Led} {m : Str → Option Value} {oD oN oB : Obj}
    (hm : m = lvM lv tl xA bA rA pA oA m) (hdk : DeckObj oD) (hN : oN.IsDictOf (IntK w) []) (hB : oB.IsDictOf (IntK w) []) :
    InJ w lv tl D wd tA a1 a2 xA bA rA pA oA nd bd t1 t2 t4 t5 t6 n₀ ids fz₀ 0 m ((D, oD) :: (wd, worldD w tA a1 a2 n₀ t1 t2 t3 t4 t5 t6) :: (nd, oN) :: (bd, oB) :: fz₀) := by
  have h := InJ.mk (w := w) (lv := lv) (tl := tl) (D := D) (wd := wd) (tA := tA) (a1 := a1) (a2 := a2) (xA := xA) (bA := bA) (rA := rA) (pA := pA) (oA := oA) (nd := nd) (bd := bd) (t1 := t1) (t2 := t2) (t3 := t3) (t4 := t4) (t5 := t5) (t6 := t6) (j := 0) (u := m) (gr := []) (ids := ids) (fz₀ := fz₀) hdk (Int.le_refl n₀) (by omega) hN .nil (Nat.le_refl _) hB .nil (Nat.le_refl _) (NB.nil ids)
  rwa [← hm] at h
theorem LvJ.of {o4 o6 o7 : Obj} {v4 v6 v7 : Option Value} {w : World} {L D wA wd tA a1 a2 xA eA bA rA pA sA oA : Nat} {t1 t2 t3 t4 t5 t6 : Tok} {r0 : Addr} {fz₀ fz : Led} {i : Nat} {m : Str → Option Value} {oD : Obj} {n : Int} {ids : List Idn} {Bs : List (Option (Nat × Nat))} {Rs Ds : List Int} {nms : List Nm} {Bds : List (List (Int × Str))} {ev bs rs ds sv ov : List Value} {ke kb kr kp ks ko : Nat}
    (hm : m = lawM xA bA rA pA oA m) (h0 : ∀ p ∈ fz₀, p ∈ fz) (hd : DeckObj oD) (h4 : o4.data = .cell v4) (h6 : o6.data = .cell v6) (h7 : o7.data = .cell v7) (h : LvFix w L D wA wd eA sA r0 i n ids Bs Rs Ds nms Bds ev bs rs ds sv ov fz) :
    LvJ w L D wA wd tA a1 a2 xA eA bA rA pA sA oA t1 t2 t4 t5 t6 r0 fz₀ i m ((D, oD) :: (wd, worldD w tA a1 a2 n t1 t2 t3 t4 t5 t6) :: (eA, listOf ev.toArray ke) :: (bA, listOf bs.toArray kb) :: (rA, listOf rs.toArray kr) :: (pA, listOf ds.toArray kp) :: (sA, listOf sv.toArray ks) :: (oA, listOf ov.toArray ko) :: (L + 1 + 1 + 1 + 1, o4) :: (L + 1 + 1 + 1 + 1 + 1 + 1, o6) :: (L + 1 + 1 + 1 + 1 + 1 + 1 + 1, o7) :: fz) := by
  have q := LvJ.mk (tA := tA) (a1 := a1) (a2 := a2) (xA := xA) (bA := bA) (rA := rA) (pA := pA) (oA := oA) (t1 := t1) (t2 := t2) (t3 := t3) (t4 := t4) (t5 := t5) (t6 := t6) (u := m) (ke := ke) (kb := kb) (kr := kr) (kp := kp) (ks := ks) (ko := ko) h0 hd h4 h6 h7 h
  rwa [← hm] at q
theorem turn_perm (M gr E O C fz own : Led) : (M ++ (gr ++ (E ++ (O ++ (C ++ (fz ++ own)))))).Perm ((M ++ (E ++ (C ++ (gr ++ (O ++ fz))))) ++ own) := by
  have e : (M ++ (E ++ (C ++ (gr ++ (O ++ fz))))) ++ own = M ++ (E ++ (C ++ (gr ++ (O ++ (fz ++ own))))) := by simp only [List.append_assoc]
  rw [e]
  refine List.Perm.append_left M ?_
  have h1 : (gr ++ (E ++ (O ++ (C ++ (fz ++ own))))).Perm (E ++ (gr ++ (O ++ (C ++ (fz ++ own))))) := List.perm_append_comm_assoc _ _ _
  have h2 : (O ++ (C ++ (fz ++ own))).Perm (C ++ (O ++ (fz ++ own))) := List.perm_append_comm_assoc _ _ _
  have h3 : (gr ++ (C ++ (O ++ (fz ++ own)))).Perm (C ++ (gr ++ (O ++ (fz ++ own)))) := List.perm_append_comm_assoc _ _ _
  exact h1.trans (((h2.append_left gr).trans h3).append_left E)
theorem LvFix.inner {w : World} {L D wA wd eA sA oA : Nat} {r0 : Addr} {i : Nat} {n : Int} {ids : List Idn} {Bs : List (Option (Nat × Nat))} {Rs Ds : List Int} {nms : List Nm} {Bds : List (List (Int × Str))} {ev bs rs ds sv ov : List Value} {fz F0 : Led}
    (h : LvFix w L D wA wd eA sA r0 i n ids Bs Rs Ds nms Bds ev bs rs ds sv ov fz) (hs : ∀ p ∈ fz, p ∈ F0) (hi : i < 4) {j : Nat} {d : Idn} {v : Value} {sa : Addr} {x dx a ad nd bd k1 k2 ke ks ko : Nat} {u1 u2 u3 u4 u5 u6 : Tok}
    (hj : ids[j]? = some d) (hv : ev[j]? = some v) (hsa : sv[i]? = some (.ref sa))
    (m1 : (x, instObj 122 dx) ∈ F0) (m2 : (dx, dictOf [⟨kh w "number", .str (Str.ofString "number") u1, .int (n + 1) u2⟩, ⟨kh w "base", .str (Str.ofString "base") u3, v⟩, ⟨kh w "scope", .str (Str.ofString "scope") u4, .ref sa⟩] k1) ∈ F0)
    (m4 : (a, instObj 283 ad) ∈ F0) (m5 : (ad, dictOf [⟨kh w "parent", .str (Str.ofString "parent") u5, .ref sa⟩, ⟨kh w "names", .str (Str.ofString "names") u6, .ref nd⟩] k2) ∈ F0)
    (he : (eA, listOf (ev ++ [Value.ref x]).toArray ke) ∈ F0) (hs' : (sA, listOf (sv ++ [Value.ref a]).toArray ks) ∈ F0) (ho : (oA, listOf (ov ++ [Value.ref bd]).toArray ko) ∈ F0) :
    InFix w L D wA wd eA sA oA (ids ++ [.ali (n + 1) d (chain nms i)]) (ev ++ [Value.ref x]) (sv ++ [Value.ref a]) (ov ++ [Value.ref bd]) i a ad nd bd F0 := by
  obtain ⟨v', hv', hI'⟩ := h.hI j d hj
  obtain rfl : v' = v := by rw [hv] at hv'; exact (Option.some.inj hv').symm
  obtain ⟨sa', hsa', hsc, hup⟩ := h.hS i (Nat.le_refl _)
  obtain rfl : sa' = sa := by rw [hsa] at hsa'; exact (Value.ref.inj (Option.some.inj hsa')).symm
  have hnew : IdnIn w F0 (.ref x) (.ali (n + 1) d (chain nms i)) := .ali (by have := h.hn; omega) (by have := h.hn'; omega) m1 m2 (hI'.mono hs) (hsc.mono hs)
  refine ⟨?_, ?_, ?_, ?_, hs _ h.hw, ⟨_, he⟩, ⟨_, hs'⟩, ⟨_, ho⟩, m4, ⟨_, _, _, _, m5⟩, ?_⟩
  · obtain ⟨o, q1, q2⟩ := h.c1; exact ⟨o, hs _ q1, q2⟩
  · obtain ⟨o, q1, q2⟩ := h.c2; exact ⟨o, hs _ q1, q2⟩
  · obtain ⟨o, q1, q2⟩ := h.c3; exact ⟨o, hs _ q1, q2⟩
  · obtain ⟨o, q1, q2⟩ := h.c5; exact ⟨o, hs _ q1, q2⟩
  · intro k e he
    have hl := h.hl
    rcases getElem?_snoc he with q | ⟨q, rfl⟩
    · obtain ⟨u, q1, q2⟩ := h.hI k e q
      exact ⟨u, getElem?_old q1, q2.mono hs⟩
    · exact ⟨_, getElem?_last (by omega), hnew⟩
end Mine
namespace Mine
local macro_rules | `(tactic| walk_at $s:str) => `(tactic| k_extra $s)
local macro_rules | `(tactic| k_room) => `(tactic| ktr_room)
local macro_rules | `(tactic| k_all) => `(tactic| assumption)
local macro_rules | `(tactic| k_mem) => `(tactic| assumption)

theorem in_new {p x1 x2 y1 y2 y3 y4 y5 : Addr × Obj} {gr fz : Led} (h : p ∈ fz) : p ∈ x1 :: x2 :: (gr ++ (y1 :: y2 :: y3 :: y4 :: y5 :: fz)) :=
  .tail _ (.tail _ (List.mem_append.mpr (.inr (.tail _ (.tail _ (.tail _ (.tail _ (.tail _ h))))))))
theorem level_turn {w : World} {mean : ExcName → Option Value} {mg mb : Str → Option Value} {dp un : Nat} {gd : Option (List Code)} {fa : Addr} {ccd : Value} {outer : List Env} {A₀ : Around} {base h₀ : Heap} {L : Addr} {s : Shared} {Q : Flow → Shared → Prop} {E : Value → Shared → Prop}
    {D wA wd tA a1 a2 xA eA bA rA pA sA oA : Nat} {t1 t2 t4 t5 t6 : Tok} {r0 : Addr} {fz₀ own nx : Led} {i : Nat} {t : Tok} {m : Str → Option Value}
    (B : Below A₀ base outer h₀) (X : (_root_.Mine.tp.heap_39 w.params).In h₀) (T : Top _root_.Mine.tp.view_39 [] mean mg mb h₀) (hd : dp + 60 < recursionLimit) (hu : un + 8 * 60 < cLine) (hi : i < 4) (hE : PassesOwn (model PySem.Challenge.rw_nt0172_01.row.prog w) (lawTop dp un gd L fa ccd outer) (lawEnv L fa ccd) E)
    (hJ : LvJ w L D wA wd tA a1 a2 xA eA bA rA pA sA oA t1 t2 t4 t5 t6 r0 fz₀ i m nx)
    (F : Fr h₀ L s.heap (fun y => if y = Str.ofString "level" then some (.int (0 + (i : Int)) t) else m y)) (N : News h₀ L s.heap (nx ++ own)) (ndx : ND (nx ++ own)) :
    wpAny (model PySem.Challenge.rw_nt0172_01.row.prog w) (lawTop dp un gd L fa ccd outer) (execs levelBody (lawEnv L fa ccd))
      (RsPost h₀ L (LvJ w L D wA wd tA a1 a2 xA eA bA rA pA sA oA t1 t2 t4 t5 t6 r0 fz₀ (i + 1)) own s Q) E s := by
  (revert X; k_fill; intro X)
  k_with_none
  conv => arg 4; arg 1; whnf
  delta lawTop lawEnv
  conv in (occs := *) lawSc => all_goals whnf
  obtain @⟨o4, o6, o7, v4, v6, v7, u, fz, oD, n, t3, ids, Bs, Rs, Ds, nms, Bds, ev, bs, rs, ds, sv, ov, ke, kb, kr, kp, ks, ko, hfz, hdk, h4, h6, h7, hx⟩ := hJ
  simp only [List.cons_append] at N ndx
  obtain ⟨fo, hfo⟩ : ∃ fo, fo = (L + 1 + 1 + 1 + 1, o4) :: (L + 1 + 1 + 1 + 1 + 1 + 1, o6) :: (L + 1 + 1 + 1 + 1 + 1 + 1 + 1, o7) :: (fz ++ own) := ⟨_, rfl⟩
  rw [← hfo] at N ndx
  have hsub : ∀ p ∈ fz, p ∈ fo := fun p hp => hfo ▸ .tail _ (.tail _ (.tail _ (List.mem_append.mpr (.inl hp))))
  obtain ⟨oc1, m1, d1⟩ := hx.c1
  obtain ⟨oc2, m2, d2⟩ := hx.c2
  obtain ⟨oc3, m3, d3⟩ := hx.c3
  obtain ⟨oc5, m5, d5⟩ := hx.c5
  replace m1 := hsub _ m1
  replace m2 := hsub _ m2
  replace m3 := hsub _ m3
  replace m5 := hsub _ m5
  have hw := hsub _ hx.hw
  have hl := hx.hl
  have h3 := hx.h3
  have hn := hx.hn
  have hn' := hx.hn'
  have hbl : bs.length = ids.length := by rw [hx.hB.len, hx.hBl]
  have hrl : rs.length = ids.length := by rw [hx.hR.length, hx.hRl]
  have hdl : ds.length = ids.length := by rw [hx.hD.length, hx.hDl]
  have hsl := hx.hSl
  have hol : ov.length = i + 1 := by rw [hx.hO.len, hx.hOl]
  obtain ⟨sa, hsa, hsc, hup⟩ := hx.hS i (Nat.le_refl _)
  rw [Int.zero_add] at F
  unfold lawM at F
  k_with "newTuple" => (k_here; k_dflt (refine' my_tuple ?k1 ?k2 ?k3 ?k4 ?_; (case k1 => k_asm); (case k2 => k_asm); (case k3 => with_reducible assumption); (case k4 => exact Nat.le_of_ble_eq_true rfl)); intro l' h' F' N' l1 nd9; (try k_sweep); (try k_fold))
  k_with "newList" => (k_here; k_dflt (refine' my_list ?k1 ?k2 ?k3 ?k4 ?_; (case k1 => k_asm); (case k2 => k_asm); (case k3 => with_reducible assumption); (case k4 => exact Nat.le_of_ble_eq_true rfl)); intro l' h' F' N' l1 nd9; (try k_sweep); (try k_fold))
  k_with "storeName" => (k_here; k_dflt (first | (refine' my_store 0 ?F ?N ?D ?c ?e ?d ?_ ?a ?b; (case a => rfl); (case b => rfl); (case F => with_reducible assumption); (case N => with_reducible assumption); (case c => rfl); (case e => rfl); (case D => with_reducible assumption); (case d => with_reducible assumption)) | (refine' my_store 1 ?F ?N ?D ?c ?e ?d ?_ ?a ?b; (case a => rfl); (case b => rfl); (case F => with_reducible assumption); (case N => with_reducible assumption); (case c => rfl); (case e => rfl); (case D => with_reducible assumption); (case d => with_reducible assumption)) | (refine' my_store 2 ?F ?N ?D ?c ?e ?d ?_ ?a ?b; (case a => rfl); (case b => rfl); (case F => with_reducible assumption); (case N => with_reducible assumption); (case c => rfl); (case e => rfl); (case D => with_reducible assumption); (case d => with_reducible assumption)) | (refine' my_store 3 ?F ?N ?D ?c ?e ?d ?_ ?a ?b; (case a => rfl); (case b => rfl); (case F => with_reducible assumption); (case N => with_reducible assumption); (case c => rfl); (case e => rfl); (case D => with_reducible assumption); (case d => with_reducible assumption)) | (refine' my_store 4 ?F ?N ?D ?c ?e ?d ?_ ?a ?b; (case a => rfl); (case b => rfl); (case F => with_reducible assumption); (case N => with_reducible assumption); (case c => rfl); (case e => rfl); (case D => with_reducible assumption); (case d => with_reducible assumption)) | (refine' my_store 5 ?F ?N ?D ?c ?e ?d ?_ ?a ?b; (case a => rfl); (case b => rfl); (case F => with_reducible assumption); (case N => with_reducible assumption); (case c => rfl); (case e => rfl); (case D => with_reducible assumption); (case d => with_reducible assumption)) | (refine' my_store 6 ?F ?N ?D ?c ?e ?d ?_ ?a ?b; (case a => rfl); (case b => rfl); (case F => with_reducible assumption); (case N => with_reducible assumption); (case c => rfl); (case e => rfl); (case D => with_reducible assumption); (case d => with_reducible assumption)) | (refine' my_store 7 ?F ?N ?D ?c ?e ?d ?_ ?a ?b; (case a => rfl); (case b => rfl); (case F => with_reducible assumption); (case N => with_reducible assumption); (case c => rfl); (case e => rfl); (case D => with_reducible assumption); (case d => with_reducible assumption)) | (refine' my_store 8 ?F ?N ?D ?c ?e ?d ?_ ?a ?b; (case a => rfl); (case b => rfl); (case F => with_reducible assumption); (case N => with_reducible assumption); (case c => rfl); (case e => rfl); (case D => with_reducible assumption); (case d => with_reducible assumption)) | (refine' my_store 9 ?F ?N ?D ?c ?e ?d ?_ ?a ?b; (case a => rfl); (case b => rfl); (case F => with_reducible assumption); (case N => with_reducible assumption); (case c => rfl); (case e => rfl); (case D => with_reducible assumption); (case d => with_reducible assumption)) | (refine' my_store 10 ?F ?N ?D ?c ?e ?d ?_ ?a ?b; (case a => rfl); (case b => rfl); (case F => with_reducible assumption); (case N => with_reducible assumption); (case c => rfl); (case e => rfl); (case D => with_reducible assumption); (case d => with_reducible assumption)) | (refine' my_store 11 ?F ?N ?D ?c ?e ?d ?_ ?a ?b; (case a => rfl); (case b => rfl); (case F => with_reducible assumption); (case N => with_reducible assumption); (case c => rfl); (case e => rfl); (case D => with_reducible assumption); (case d => with_reducible assumption)) | (refine' my_store 12 ?F ?N ?D ?c ?e ?d ?_ ?a ?b; (case a => rfl); (case b => rfl); (case F => with_reducible assumption); (case N => with_reducible assumption); (case c => rfl); (case e => rfl); (case D => with_reducible assumption); (case d => with_reducible assumption)) | (refine' my_store 13 ?F ?N ?D ?c ?e ?d ?_ ?a ?b; (case a => rfl); (case b => rfl); (case F => with_reducible assumption); (case N => with_reducible assumption); (case c => rfl); (case e => rfl); (case D => with_reducible assumption); (case d => with_reducible assumption)) | (refine' my_store 14 ?F ?N ?D ?c ?e ?d ?_ ?a ?b; (case a => rfl); (case b => rfl); (case F => with_reducible assumption); (case N => with_reducible assumption); (case c => rfl); (case e => rfl); (case D => with_reducible assumption); (case d => with_reducible assumption)) | (refine' my_store 15 ?F ?N ?D ?c ?e ?d ?_ ?a ?b; (case a => rfl); (case b => rfl); (case F => with_reducible assumption); (case N => with_reducible assumption); (case c => rfl); (case e => rfl); (case D => with_reducible assumption); (case d => with_reducible assumption)) | (refine' my_store 16 ?F ?N ?D ?c ?e ?d ?_ ?a ?b; (case a => rfl); (case b => rfl); (case F => with_reducible assumption); (case N => with_reducible assumption); (case c => rfl); (case e => rfl); (case D => with_reducible assumption); (case d => with_reducible assumption)) | (refine' my_store 17 ?F ?N ?D ?c ?e ?d ?_ ?a ?b; (case a => rfl); (case b => rfl); (case F => with_reducible assumption); (case N => with_reducible assumption); (case c => rfl); (case e => rfl); (case D => with_reducible assumption); (case d => with_reducible assumption)) | (refine' my_store 18 ?F ?N ?D ?c ?e ?d ?_ ?a ?b; (case a => rfl); (case b => rfl); (case F => with_reducible assumption); (case N => with_reducible assumption); (case c => rfl); (case e => rfl); (case D => with_reducible assumption); (case d => with_reducible assumption)) | (refine' my_store 19 ?F ?N ?D ?c ?e ?d ?_ ?a ?b; (case a => rfl); (case b => rfl); (case F => with_reducible assumption); (case N => with_reducible assumption); (case c => rfl); (case e => rfl); (case D => with_reducible assumption); (case d => with_reducible assumption))); intro h' o' F' N' nd9 cd9; (try dsimp only at N' nd9); (try k_sweep); (try k_fold))
  k_with "eval Dict nil nil" => (k_here; (rename ND _ => lD); k_dflt (refine' newDict_K ?k1 ?k2 (TopRead.nolimit ?k3) ?_; (case k1 => k_asm); (case k2 => k_asm); (case k3 => k_asm); k_whole); intro bd7 h' oB7 F' N7 lb7 lob7 hs' fs' hib7 fi'; (have nd9 := nd_new1N N7 lb7 lD); clear lD; (try k_sweep); (try k_fold))
  k_with "call builtin:len" => (k_here; k_dflt (refine' my_len (vs := ev) ?k1 ?k2 ?k3 ?_; (case k1 => k_asm); (case k2 => k_mem); (case k3 => omega)); (try k_fold))
  k_with "call builtin:list.append" => (k_here; (rename News _ _ _ _ => lN); (rename ND _ => lD); (first
    | ((k_dflt show wpAny _ _ (call (Value.builtin "list.append") [Value.ref eA, _]) _ _ _); k_dflt (refine' app_at 4 ?k1 lN lD ?k4 ?k5 ?_; (case k1 => k_asm); (case k4 => exact rfl); (case k5 => omega)))
    | ((k_dflt show wpAny _ _ (call (Value.builtin "list.append") [Value.ref bA, _]) _ _ _); k_dflt (refine' app_at 6 ?k1 lN lD ?k4 ?k5 ?_; (case k1 => k_asm); (case k4 => exact rfl); (case k5 => omega)))
    | ((k_dflt show wpAny _ _ (call (Value.builtin "list.append") [Value.ref rA, _]) _ _ _); k_dflt (refine' app_at 7 ?k1 lN lD ?k4 ?k5 ?_; (case k1 => k_asm); (case k4 => exact rfl); (case k5 => omega)))
    | ((k_dflt show wpAny _ _ (call (Value.builtin "list.append") [Value.ref pA, _]) _ _ _); k_dflt (refine' app_at 8 ?k1 lN lD ?k4 ?k5 ?_; (case k1 => k_asm); (case k4 => exact rfl); (case k5 => omega)))
    | ((k_dflt show wpAny _ _ (call (Value.builtin "list.append") [Value.ref sA, _]) _ _ _); k_dflt (refine' app_at 12 ?k1 lN lD ?k4 ?k5 ?_; (case k1 => k_asm); (case k4 => exact rfl); (case k5 => omega)))
    | ((k_dflt show wpAny _ _ (call (Value.builtin "list.append") [Value.ref oA, _]) _ _ _); k_dflt (refine' app_at 14 ?k1 lN lD ?k4 ?k5 ?_; (case k1 => k_asm); (case k4 => exact rfl); (case k5 => omega)))); intro h9 F9 N9 nd9; clear lN lD; (try k_fold))
  k_with "subscriptTail" => (k_here; k_dflt (first
      | (refine' my_sub (vs := sv) ?k1 ?k2 ?k3 ?k4 ?k5 ?_ ?k6; (case k1 => k_asm); (case k2 => k_mem); (case k3 => omega); (case k4 => omega); (case k5 => (rw [Int.toNat_natCast]; exact hsa)); (case k6 => with_unfolding_all rfl))
      | (refine' my_sub (vs := rs) ?k1 ?k2 ?k3 ?k4 ?k5 ?_ ?k6; (case k1 => k_asm); (case k2 => k_mem); (case k3 => omega); (case k4 => omega); (case k5 => (rw [Int.toNat_natCast]; assumption)); (case k6 => with_unfolding_all rfl))
      | (refine' my_sub (vs := ds) ?k1 ?k2 ?k3 ?k4 ?k5 ?_ ?k6; (case k1 => k_asm); (case k2 => k_mem); (case k3 => omega); (case k4 => omega); (case k5 => (rw [Int.toNat_natCast]; assumption)); (case k6 => with_unfolding_all rfl))
      | (refine' my_sub (vs := ev) ?k1 ?k2 ?k3 ?k4 ?k5 ?_ ?k6; (case k1 => k_asm); (case k2 => k_mem); (case k3 => omega); (case k4 => omega); (case k5 => (rw [Int.toNat_natCast]; assumption)); (case k6 => with_unfolding_all rfl))))
  k_with "call ref" => (first | ((with_reducible show wpAny _ _ (call (Value.ref 411) _) _ _ _); (rename News _ _ _ _ => lN); (try (rename ND _ => lD)); k_here; k_dflt (first | ((have lE := ND.front lD 14); (refine' Says.use (says_draw (many := 3) (ND.off lE) ?c1 (by decide) (by decide)) ?k1 ?k2 ?k3 ?k4 ?k5 ?kK ?kd ?ku ?_; (case k4 => exact news_front lN 14); (case c1 => with_reducible assumption); (case k1 => k_asm); (case k2 => k_asm); (case k3 => k_asm); (case k5 => k_asm); (case kK => first | exact rfl | assumption); (case kd => ktr_room); (case ku => ktr_units)))); intro r9 n9 h9 tk9 F9 N9 O9; (obtain ⟨i9, t9, o9, e9, hlo9, hhi9, hdk9, e8⟩ := O9); subst r9; subst n9; (k_dflt (have nd9 := ND.putN N9 lE)); clear lE lN lD; (obtain ⟨q9, rfl⟩ := Int.eq_ofNat_of_zero_le hlo9); (try dsimp only); (try k_fold)) | ((with_reducible show wpAny _ _ (call (Value.ref 411) _) _ _ _); (rename News _ _ _ _ => lN); (try (rename ND _ => lD)); k_here; k_dflt (first | ((have lE := ND.front lD 0); (refine' Says.use (says_draw (many := (ev.length : Int)) (ND.off lE) ?c1 (by omega) (by omega)) ?k1 ?k2 ?k3 ?k4 ?k5 ?kK ?kd ?ku ?_; (case k4 => exact news_front lN 0); (case c1 => with_reducible assumption); (case k1 => k_asm); (case k2 => k_asm); (case k3 => k_asm); (case k5 => k_asm); (case kK => first | exact rfl | assumption); (case kd => ktr_room); (case ku => ktr_units)))); intro r9 n9 h9 tk9 F9 N9 O9; (obtain ⟨i9, t9, o9, e9, hlo9, hhi9, hdk9, e8⟩ := O9); subst r9; subst n9; (k_dflt (have nd9 := ND.putN N9 lE)); clear lE lN lD; (obtain ⟨j9, rfl⟩ := Int.eq_ofNat_of_zero_le hlo9); (obtain ⟨d9, hd9⟩ : ∃ d, ids[j9]? = some d := ⟨_, List.getElem?_eq_getElem (by omega)⟩); (obtain ⟨v9, hv9, hI9⟩ := hx.hI _ _ hd9); (obtain ⟨hdt9, hdb9⟩ := hx.hDt _ _ hd9); (obtain ⟨r9, hr9, _⟩ := hx.hRt _ _ hd9); (obtain ⟨tr9, hrv9⟩ := hx.hR.get _ _ hr9); (obtain ⟨td9, hdv9⟩ := hx.hD.get _ _ hdt9); (try dsimp only); (try k_fold)) | ((with_reducible show wpAny _ _ (call (Value.ref 308) _) _ _ _); (rename News _ _ _ _ => lN); (try (rename ND _ => lD)); k_here; k_dflt (first | ((have lE := ND.front lD 1); (refine' Says.use (says_alias ?c1 (ND.off lE) ?c2 ?c3 ?c4) ?k1 ?k2 ?k3 ?k4 ?k5 ?kK ?kd ?ku ?_; (case k4 => exact news_front lN 1); (case c1 => k_mem); (case c2 => omega); (case c3 => omega); (case c4 => exact hI9.handed); (case k1 => k_asm); (case k2 => k_asm); (case k3 => k_asm); (case k5 => k_asm); (case kK => first | exact rfl | assumption); (case kd => ktr_room); (case ku => ktr_units)))); intro r9 n9 h9 tk9 F9 N9 O9; (obtain ⟨x8, dx8, t8, w1, w2, w3, w4, e9, q1, q2, e8⟩ := O9); subst r9; subst n9; (k_dflt (have nd9 := nd_new2N N9 (lt_put q2) q1 (ND.put lE))); clear lE lN lD; (try dsimp only); (try k_fold)) | ((with_reducible show wpAny _ _ (call (Value.ref 283) _) _ _ _); (rename News _ _ _ _ => lN); (try (rename ND _ => lD)); k_here; k_dflt (refine' Says.use (says_scope_new) ?k1 ?k2 ?k3 ?k4 ?k5 ?kK ?kd ?ku ?_; (case k4 => exact lN);  (case k1 => k_asm); (case k2 => k_asm); (case k3 => k_asm); (case k5 => k_asm); (case kK => first | exact rfl | assumption); (case kd => ktr_room); (case ku => ktr_units)); intro r9 n9 h9 tk9 F9 N9 O9; (obtain ⟨a7, ad7, nd7, oS7, w5, w6, e9, q1, q2, q3, q4, q5, e8⟩ := O9); subst r9; subst n9; (k_dflt (have nd9 := nd_new3N N9 q3 q1 q2 lD)); clear lN lD; (try dsimp only); (try k_fold)))
  k_with "exec For Name Call cons nil" => (k_here; (rename Fr _ _ _ _ => lF'); (with_unfolding_all refine' For_invVF lF' ?k1 ?k2 ?_ (hE := hE); (case k1 => exact rfl); (case k2 => exact rfl); k_whole))
  k_with "pyIter ref" => (k_dflt ((rename Fr _ _ _ _ => lF); (rename News _ _ _ _ => lN); (rename ND _ => lD); (rename IsRange _ _ _ _ _ _ _ _ => rgX); (have N8 := news_front (news_front (news_front (news_front (news_front (news_front (news_front (news_front (news_front lN 3) 7) 8) 9) 11) 7) 8) 14) 8); (have D8 := ((((((((lD.front 3).front 7).front 8).front 9).front 11).front 7).front 8).front 14).front 8); (refine' rs_range (n := q9) (InJ w i t D wd tA a1 a2 xA bA rA pA oA nd7 bd7 t1 t2 t4 t5 t6 (n + 1) (ids ++ [.ali (n + 1) d9 (chain nms i)]) ((eA, _) :: (bA, _) :: (rA, _) :: (pA, _) :: (sA, _) :: (oA, _) :: (a7, _) :: (ad7, _) :: (_, _) :: (x8, _) :: (dx8, _) :: fo)) rfl rgX ?small (rangeSize_nat _ _) lF N8 D8 (InJ.start (lvM_self rfl rfl rfl rfl rfl rfl) (by with_reducible assumption) (by with_reducible assumption) (by with_reducible assumption)) (fun i2 t2' m2 nx2 h2 tk2 own2 hi2 hJ2 F2 N2 nd2 => ?turn) (fun m2 nx2 h2 tk2 hJ2 F2 N2 nd2 => ?done)); (case small => exact small_one (by omega) (by omega) (by omega) (by omega)); (case turn => exact inner_turn B X T (by omega) (by omega) (hx.inner (F0 := (eA, _) :: (bA, _) :: (rA, _) :: (pA, _) :: (sA, _) :: (oA, _) :: (a7, _) :: (ad7, _) :: (_, _) :: (x8, _) :: (dx8, _) :: fo) (fun p hp => .tail _ (.tail _ (.tail _ (.tail _ (.tail _ (.tail _ (.tail _ (.tail _ (.tail _ (.tail _ (.tail _ (hsub p hp)))))))))))) hi hd9 hv9 hsa (.tail _ (.tail _ (.tail _ (.tail _ (.tail _ (.tail _ (.tail _ (.tail _ (.tail _ (.head _)))))))))) (.tail _ (.tail _ (.tail _ (.tail _ (.tail _ (.tail _ (.tail _ (.tail _ (.tail _ (.tail _ (.head _))))))))))) (.tail _ (.tail _ (.tail _ (.tail _ (.tail _ (.tail _ (.head _))))))) (.tail _ (.tail _ (.tail _ (.tail _ (.tail _ (.tail _ (.tail _ (.head _)))))))) (.head _) (.tail _ (.tail _ (.tail _ (.tail _ (.head _))))) (.tail _ (.tail _ (.tail _ (.tail _ (.tail _ (.head _))))))) (by simp [hl]) (by simp; omega) (by simp; omega) (by omega) (by omega) (by omega) (by omega) (getElem?_last (by omega)) (getElem?_last (by omega)) (hx.hinj.snoc (hx.newkey d9 _)) hJ2 F2 N2 nd2); (case' done => ((obtain @⟨u5, gr, oD5, oN5, oB5, n5, t35, kvs5, kvb5, nm5, ws5, hdk5, hn15, hn25, hdN5, hNm5, hkl5, hdB5, hWd5, hbl5, hNB5⟩ := hJ2); (try k_fold)))))
  k_with "RsPost" => (dsimp only [RsPost])
  k_steps
  subst hfo
  have q9 := news_sub N2 (fun p hp => (turn_perm [_, _] (_ :: _ :: gr) [_, _, _, _, _, _] [_, _, _, _, _] [_, _, _] fz own).mem_iff.mpr hp)
  have d9 := nd2.perm (turn_perm [_, _] (_ :: _ :: gr) [_, _, _, _, _, _] [_, _, _, _, _] [_, _, _] fz own).symm
  refine ⟨_, _, _, _, rfl, F2, q9, d9, ?_⟩
  exact LvJ.of (lawM_self rfl rfl rfl rfl rfl) (fun p hp => in_new (hfz p hp)) hdk5 h4 h6 h7 (hx.next (fun p hp => in_new hp) hi hd9 hv9 hr9 hsa (.tail _ (.tail _ (List.mem_append.mpr (.inr (.tail _ (.tail _ (.tail _ (.head _)))))))) (.tail _ (.tail _ (List.mem_append.mpr (.inr (.tail _ (.tail _ (.tail _ (.tail _ (.head _))))))))) (.tail _ (.tail _ (List.mem_append.mpr (.inr (.tail _ (.tail _ (.head _))))))) (.tail _ (.tail _ (List.mem_append.mpr (.inr (.head _))))) (.tail _ (.tail _ (List.mem_append.mpr (.inr (.tail _ (.head _)))))) (.head _) (.tail _ (.head _)) q4 lob7 hdN5 hdB5 (hNm5.mono (fun p hp => .tail _ (.tail _ (List.mem_append.mpr (.inl hp))))) hWd5 hNB5 hn15 (by omega))
end Mine
namespace Mine
theorem mem_or {α : Type} {p : α} {l r : List α} (h : p ∈ l ++ r) : p ∈ l ∨ p ∈ r := List.mem_append.mp h
section
variable {prog : Program} {w : World} {A : Around} {E : Value → Shared → Prop} {s : Shared} {env : Env} {h₀ : Heap} {x : Str} {body : List Stmt} {Q : Flow → Shared → Prop}
/-- a for over a list that stands in the ledger, its whole state told by J -/
theorem rl_list {l : Addr} {vs : List Value} {k : Nat} {m₀ : Str → Option Value} {news : Led} (J : Nat → (Str → Option Value) → Led → Prop)
    (hh : A.handled = none) (hm : ∀ i m nx, J i m nx → (l, listOf vs.toArray k) ∈ nx) (F : Fr h₀ env.locals s.heap m₀) (N : News h₀ env.locals s.heap news) (D : ND news) (hj : J 0 m₀ news)
    (turn : ∀ i v m₁ nx h tk own, vs[i]? = some v → J i m₁ nx → Fr h₀ env.locals h (fun y => if y = x then some v else m₁ y) → News h₀ env.locals h (nx ++ own) → ND (nx ++ own) →
      wpAny (model prog w) A (execs body env) (RsPost h₀ env.locals (J (i + 1)) own { s with heap := h, toks := tk } Q) E { s with heap := h, toks := tk })
    (done : ∀ m₁ nx h tk, J vs.length m₁ nx → Fr h₀ env.locals h m₁ → News h₀ env.locals h nx → ND nx → Q .next { s with heap := h, toks := tk }) :
    wpAny (model prog w) A (pyIter (.ref l)) (fun it s₂ => LoopAtV prog w A h₀ env x body Q E it s₂) E s := by
  have hN := N _ (hm 0 m₀ news hj)
  have hls : s.heap.IsList l vs.toArray := ⟨_, hN.1, rfl, k, rfl⟩
  have hne : l ≠ s.heap.objs.size := Nat.ne_of_lt (Heap.lt_size hN.1)
  have hll : l ≠ env.locals := hN.2.1
  refine wpAny_pyIter_list hls ?_
  have W := Walks.list (prog := prog) (w := w) hh s.heap.objs.size l hne vs.toArray
  refine ⟨_, _, _, vs.toArray.size, _, _, m₀, news, fun i m nx => J i m nx ∧ ND nx, rfl, W, ?_, ?_, ?_, ⟨⟨_, Heap.get?_push_size _ rfl, rfl, rfl⟩, hls.at fun o e => Heap.get?_push_of_some _ e⟩, F.push _, (fun p hp => ⟨Heap.get?_push_of_some _ (N p hp).1, (N p hp).2⟩), ⟨hj, D⟩, ?_, ?_⟩
  · intro h
    rcases List.mem_cons.mp h with e | h
    · exact absurd F.ns.lt (e ▸ Nat.lt_irrefl _)
    · exact hll (List.mem_singleton.mp h).symm
  · intro b hb
    rw [List.mem_singleton.mp hb]
    exact next_is_new F
  · intro p hp hI
    exact absurd (Heap.lt_size (N p hp).1) ((List.mem_singleton.mp hI) ▸ Nat.lt_irrefl _)
  · rintro i v m₁ nx s₁ own ⟨h, tk, rfl⟩ hin hP ⟨hJ, hD⟩ hoff hown hheap hmem hst F₁ N₁
    obtain ⟨⟨oi, hoi, _⟩, _⟩ := hst
    have hI : (s.heap.objs.size, oi) ∈ own := hmem _ (.head _) (next_is_new F) oi hoi
    have N₁' : News h₀ env.locals h own := fun p hp => N₁ p (List.mem_append.mpr (.inl hp))
    have NL := N₁ _ (List.mem_append.mpr (.inr (hm _ _ _ hJ)))
    have hsame : ∀ p ∈ own, p.1 = l → p = (l, listOf vs.toArray k) := by
      rintro ⟨a, o⟩ hp rfl
      have h1 := (N₁' _ hp).1
      have h2 := NL.1
      rw [h2] at h1
      exact Prod.ext rfl (Option.some.inj h1).symm
    obtain ⟨own', h1, h2⟩ := own_nd (own := own.filter fun p => p.1 ≠ l) fun q hq => N₁' q (List.mem_filter.mp hq).1
    have g1 : ∀ p, p ∈ own' ↔ p ∈ own ∧ p.1 ≠ l := fun p => by rw [h1]; simp [List.mem_filter]
    have hoff' : TbOff own' nx := by
      intro p hp q hq e
      have hp' := (g1 p).mp hp
      rcases List.mem_cons.mp (hown p hp'.1) with z | z
      · exact hoff q hq (List.mem_singleton.mpr (by rw [← e, z]))
      · exact hp'.2 (List.mem_singleton.mp z)
    have N₂ : News h₀ env.locals h (nx ++ own') := fun p hp => N₁ p ((mem_or hp).elim (fun h => List.mem_append.mpr (.inr h)) fun h => List.mem_append.mpr (.inl ((g1 p).mp h).1))
    have hv : vs[i]? = some v := by simpa using hP
    refine wpAny_mono (turn i v m₁ nx h tk own' hv hJ F₁ N₂ (hD.app h2 hoff')) (fun f s₂ p => ?_) fun _ _ e => e
    have fin : RsEnd h₀ env.locals (J (i + 1)) own' { s with heap := h, toks := tk } s₂ → LoopStepU h₀ env.locals [s.heap.objs.size] own (fun m nx => J (i + 1) m nx ∧ ND nx) { s with heap := h, toks := tk } .next s₂ := by
      rintro ⟨h', tk', m', nx', e, F', N', D', hJ'⟩
      have hI' : (s.heap.objs.size, oi) ∈ own' := (g1 _).mpr ⟨hI, fun z => hne z.symm⟩
      refine ⟨rfl, h', tk', m', nx', e, F', fun p hp => ?_, fun p hp hq => D'.appOff _ hI' p hp (List.mem_singleton.mp hq).symm, hJ', D'.appL⟩
      rcases mem_or hp with hp | hp
      · by_cases z : p.1 = l
        · rw [hsame p hp z]
          exact N' _ (List.mem_append.mpr (.inl (hm _ _ _ hJ')))
        · exact N' p (List.mem_append.mpr (.inr ((g1 p).mpr ⟨hp, z⟩)))
      · exact N' p (List.mem_append.mpr (.inl hp))
    cases f with
    | ret v => exact .ret p
    | brk => exact .brk p
    | next => exact .next (fin p)
    | cont => exact .cont (fin p)
  · rintro h' tk m' nx' F' N' _ ⟨hJ, hD⟩
    exact done m' nx' h' tk (by simpa using hJ) F' N' hD
/-- the turns of a comprehension, by an invariant -/
theorem comp_all {L : Addr} {m : Str → Option Value} {elt : PySem.Expr} {scope : Scope} {cl : List (Str × Addr)} {S : Led → Prop} {P : Nat → Value → Prop} {Fin : List Value → Led → Prop} {n : Nat} (J : Nat → List Value → Led → Prop)
    (step : ∀ i ys news v I oI C oC D m₂ h tk (E' : Value → Shared → Prop), i < n → J i ys news → P i v → LCg.NsObj oC m₂ → m₂ x = some v → Fr h₀ L h m → News h₀ L h ((I, oI) :: (C, oC) :: (D, LCg.lst ys) :: news) → LCg.Off3 I C D news → ((@Ne Nat I C) ∧ (@Ne Nat I D) ∧ (@Ne Nat C D)) →
      wpAny (model prog w) A (eval elt (compEnvC scope cl C env)) (LCg.CompEnd h₀ L m { s with heap := h, toks := tk } I oI C oC D (LCg.lst ys) S (fun y news' => J (i + 1) (ys ++ [y]) news')) E' { s with heap := h, toks := tk })
    (fin : ∀ ys news, J n ys news → Fin ys news) : ∀ (k i : Nat) (ys : List Value) (news : Led), i + k = n → J i ys news →
    LCg.CompRest prog w A h₀ L m env elt x scope cl s S P Fin k i ys news := by
  intro k
  induction k with
  | zero => intro i ys news e hj; obtain rfl : i = n := by omega
            exact fin _ _ hj
  | succ k ih =>
    intro i ys news e hj
    refine LCg.CompRest.succ fun v I oI C oC D m₂ h tk E' hv hC hx F N off ne => ?_
    refine wpAny_mono (step i ys news v I oI C oC D m₂ h tk E' (by omega) hj hv hC hx F N off ne) (fun y s₂ q => ?_) fun _ _ e => e
    obtain ⟨h', tk', news', rfl, F', N', o', hS, r⟩ := q
    exact ⟨h', tk', news', rfl, F', N', o', hS, ih _ _ _ (by omega) r⟩
end
end Mine
namespace Mine
-- what a symbol means in a scope, told by numbers
theorem chain_zero {nms : List Nm} {nm : Nm} (h : nms[0]? = some nm) : chain nms 0 = [nm] := by
  cases nms with
  | nil => cases h
  | cons a l => simp at h; subst h; simp [chain]
theorem chain_succ {nms : List Nm} {nm : Nm} {l : Nat} (h : nms[l + 1]? = some nm) : chain nms (l + 1) = nm :: chain nms l := by
  unfold chain
  rw [List.take_add_one, h]
  simp
theorem bound_meant {ids : List Idn} {nms : List Nm} {Bds : List (List (Int × Str))} (hNB : ∀ (l : Nat) (nm : Nm) (ws : List (Int × Str)), nms[l]? = some nm → Bds[l]? = some ws → NB ids nm ws) (hl : nms.length = Bds.length) {j : Nat} {d : Idn} (hj : ids[j]? = some d) :
    ∀ lv, lv < nms.length → boundP d.key (chain nms lv) = (meantAt Bds (j : Int) lv).map den := by
  intro lv
  induction lv with
  | zero =>
    intro h
    obtain ⟨nm, h1⟩ : ∃ nm, nms[0]? = some nm := ⟨_, List.getElem?_eq_getElem h⟩
    obtain ⟨ws, h2⟩ : ∃ ws, Bds[0]? = some ws := ⟨_, List.getElem?_eq_getElem (by omega)⟩
    have q := (hNB 0 nm ws h1 h2).look j d hj
    have e : Bds.getD 0 [] = ws := by simp [List.getD, h2]
    rw [chain_zero h1, meantAt, e, boundP, q]
    cases lookW ws (j : Int) <;> rfl
  | succ l ih =>
    intro h
    obtain ⟨nm, h1⟩ : ∃ nm, nms[l + 1]? = some nm := ⟨_, List.getElem?_eq_getElem h⟩
    obtain ⟨ws, h2⟩ : ∃ ws, Bds[l + 1]? = some ws := ⟨_, List.getElem?_eq_getElem (by omega)⟩
    have q := (hNB (l + 1) nm ws h1 h2).look j d hj
    have e : Bds.getD (l + 1) [] = ws := by simp [List.getD, h2]
    rw [chain_succ h1, meantAt, e, boundP, q]
    cases lookW ws (j : Int) with
    | none => exact ih (by omega)
    | some x => rfl
def wordOf : Option (Option Str) → Str
  | some (some x) => x
  | _ => Str.ofString ""
theorem specialP_word (d : Idn) (sc : List Nm) : specialP d sc = wordOf (findP d sc) := by
  unfold specialP wordOf; split <;> simp_all
theorem wordOf_den (x : Str) : wordOf (some (den x)) = x := by
  unfold den
  split
  · next e => rw [e]; rfl
  · rfl
theorem findP_hit {d : Idn} {sc : List Nm} {b : Option Str} (h : boundP d.key sc = some b) : findP d sc = some b := by
  cases d with
  | sym a n x => rw [findP]; exact h
  | ali n b' sc' => rw [findP, show boundP (2 * n + 1) sc = some b from h]
theorem special_meant {w : World} {L D wA wd eA sA : Nat} {r0 : Addr} {i : Nat} {n : Int} {ids : List Idn} {Bs : List (Option (Nat × Nat))} {Rs Ds : List Int} {nms : List Nm} {Bds : List (List (Int × Str))} {ev bs rs ds sv ov : List Value} {fz : Led}
    (H : LvFix w L D wA wd eA sA r0 i n ids Bs Rs Ds nms Bds ev bs rs ds sv ov fz) : ∀ (f j : Nat) (d : Idn) (lv : Nat), j < f → ids[j]? = some d → lv ≤ i → specialP d (chain nms lv) = meantP Bs Bds f j lv := by
  intro f
  have h1 := H.hnl
  have h2 := H.hOl
  induction f with
  | zero => intro j d lv h; omega
  | succ f ih =>
    intro j d lv hf hj hl
    have q := bound_meant H.hNB (by omega) hj lv (by omega)
    rw [meantP, specialP_word]
    cases hm : meantAt Bds (j : Int) lv with
    | some x =>
      rw [hm] at q
      rw [findP_hit q]
      exact wordOf_den x
    | none =>
      rw [hm] at q
      dsimp only
      rcases H.hT j d hj with ⟨e, a, m, x, rfl⟩ | ⟨b, l, num, bd, e, e2, e3, e4, rfl⟩
      · have e' : Bs.getD j none = none := by simp [List.getD, e]
        rw [e', findP, show boundP (2 * m) (chain nms lv) = none from q]
        rfl
      · have e' : Bs.getD j none = some (b, l) := by simp [List.getD, e]
        rw [e', findP, show boundP (2 * num + 1) (chain nms lv) = none from q]
        dsimp only
        rw [← specialP_word]
        exact ih b bd l (by omega) e2 (by omega)
theorem bases_wf {w : World} {L D wA wd eA sA : Nat} {r0 : Addr} {i : Nat} {n : Int} {ids : List Idn} {Bs : List (Option (Nat × Nat))} {Rs Ds : List Int} {nms : List Nm} {Bds : List (List (Int × Str))} {ev bs rs ds sv ov : List Value} {fz : Led}
    (H : LvFix w L D wA wd eA sA r0 i n ids Bs Rs Ds nms Bds ev bs rs ds sv ov fz) : ∀ i b l, Bs.getD i none = some (b, l) → b < i ∧ b < Bs.length ∧ l < Bds.length := by
  intro j b l e
  have hBl := H.hBl
  have hOl := H.hOl
  have e' : Bs[j]? = some (some (b, l)) := by
    unfold List.getD at e
    cases h : Bs[j]? with
    | none => rw [h] at e; cases e
    | some o => rw [h] at e; exact congrArg some e
  have hjl := (List.getElem?_eq_some_iff.mp e').1
  obtain ⟨d, hd⟩ : ∃ d, ids[j]? = some d := ⟨_, List.getElem?_eq_getElem (by omega)⟩
  rcases H.hT j d hd with ⟨e1, _⟩ | ⟨b', l', num, bd, e1, e2, e3, e4, _⟩
  · rw [e'] at e1; cases e1
  · rw [e'] at e1; cases e1
    exact ⟨e3, by omega, by omega⟩
end Mine
namespace Mine
theorem LvFix.mono {w : World} {L D wA wd eA sA : Nat} {r0 : Addr} {i : Nat} {n : Int} {ids : List Idn} {Bs : List (Option (Nat × Nat))} {Rs Ds : List Int} {nms : List Nm} {Bds : List (List (Int × Str))} {ev bs rs ds sv ov : List Value} {fz fz' : Led}
    (h : LvFix w L D wA wd eA sA r0 i n ids Bs Rs Ds nms Bds ev bs rs ds sv ov fz) (hs : ∀ p ∈ fz, p ∈ fz') : LvFix w L D wA wd eA sA r0 i n ids Bs Rs Ds nms Bds ev bs rs ds sv ov fz' where
  c1 := by obtain ⟨o, q1, q2⟩ := h.c1; exact ⟨o, hs _ q1, q2⟩
  c2 := by obtain ⟨o, q1, q2⟩ := h.c2; exact ⟨o, hs _ q1, q2⟩
  c3 := by obtain ⟨o, q1, q2⟩ := h.c3; exact ⟨o, hs _ q1, q2⟩
  c5 := by obtain ⟨o, q1, q2⟩ := h.c5; exact ⟨o, hs _ q1, q2⟩
  hw := hs _ h.hw
  hl := h.hl
  h3 := h.h3
  hI := fun j d hj => by obtain ⟨v, q1, q2⟩ := h.hI j d hj; exact ⟨v, q1, q2.mono hs⟩
  hB := h.hB.mono hs
  hBl := h.hBl
  hR := h.hR
  hRl := h.hRl
  hRt := h.hRt
  hD := h.hD
  hDl := h.hDl
  hDt := h.hDt
  hS := fun l hl => by obtain ⟨a, q1, q2, q3⟩ := h.hS l hl; exact ⟨a, q1, q2.mono hs, q3.mono hs⟩
  hSl := h.hSl
  hO := h.hO.mono hs
  hOl := h.hOl
  hnl := h.hnl
  hNB := h.hNB
  hT := h.hT
  hinj := h.hinj
  hnum := h.hnum
  hn := h.hn
  hn' := h.hn'
theorem Idn.parity (d : Idn) : (d.depth = 0 ∧ d.key % 2 = 0) ∨ (0 < d.depth ∧ d.key % 2 = 1) := by
  cases d with
  | sym a n x => exact .inl ⟨rfl, by simp only [Idn.key]; omega⟩
  | ali n b s => exact .inr ⟨by simp only [Idn.depth]; omega, by simp only [Idn.key]; omega⟩
theorem Idn.fparity (d : Idn) : d.key.fmod 2 = if decide (0 < (d.depth : Int)) = true then 1 else 0 := by
  have e : d.key.fmod 2 = d.key % 2 := by rw [Int.fmod_eq_emod_of_nonneg _ (by decide)]
  rw [e]
  rcases d.parity with ⟨h1, h2⟩ | ⟨h1, h2⟩
  · rw [h2, if_neg]; simp [h1]
  · rw [h2, if_pos]; simp; omega
theorem LvFix.at {w : World} {L D wA wd eA sA : Nat} {r0 : Addr} {i : Nat} {n : Int} {ids : List Idn} {Bs : List (Option (Nat × Nat))} {Rs Ds : List Int} {nms : List Nm} {Bds : List (List (Int × Str))} {ev bs rs ds sv ov : List Value} {fz : Led}
    (h : LvFix w L D wA wd eA sA r0 i n ids Bs Rs Ds nms Bds ev bs rs ds sv ov fz) {k : Nat} (hk : k < ids.length) :
    ∃ (d : Idn) (v : Value) (q : Int) (x : Str) (tr td : Tok), ids[k]? = some d ∧ ev[k]? = some v ∧ IdnIn w fz v d ∧ rs[k]? = some (.int q tr) ∧ ds[k]? = some (.int d.depth td) ∧ d.depth ≤ i ∧ d.rootX = x ∧ ev[q.toNat]? = some (.ref d.rootA) ∧
      ((q = 0 ∧ x = Str.ofString "if") ∨ (q = 1 ∧ x = Str.ofString "let") ∨ (q = 2 ∧ x = Str.ofString "x")) := by
  obtain ⟨d, hd⟩ : ∃ d, ids[k]? = some d := ⟨_, List.getElem?_eq_getElem hk⟩
  obtain ⟨v, hv, hI⟩ := h.hI _ _ hd
  obtain ⟨hdt, hdb⟩ := h.hDt _ _ hd
  obtain ⟨r, hr, hr3, hx, hra⟩ := h.hRt _ _ hd
  obtain ⟨tr, hrv⟩ := h.hR.get _ _ hr
  obtain ⟨td, hdv⟩ := h.hD.get _ _ hdt
  refine ⟨d, v, (r : Int), txt r, tr, td, hd, hv, hI, hrv, hdv, hdb, hx, by simpa using hra, ?_⟩
  rcases (by omega : r = 0 ∨ r = 1 ∨ r = 2) with rfl | rfl | rfl
  · exact .inl ⟨rfl, rfl⟩
  · exact .inr (.inl ⟨rfl, rfl⟩)
  · exact .inr (.inr ⟨rfl, rfl⟩)
theorem eq_ii : (Str.ofString "if" == Str.ofString "if") = true := by decide +kernel
theorem eq_il : (Str.ofString "if" == Str.ofString "let") = false := by decide +kernel
theorem eq_ix : (Str.ofString "if" == Str.ofString "x") = false := by decide +kernel
theorem eq_li : (Str.ofString "let" == Str.ofString "if") = false := by decide +kernel
theorem eq_ll : (Str.ofString "let" == Str.ofString "let") = true := by decide +kernel
theorem eq_lx : (Str.ofString "let" == Str.ofString "x") = false := by decide +kernel
theorem eq_xi : (Str.ofString "x" == Str.ofString "if") = false := by decide +kernel
theorem eq_xl : (Str.ofString "x" == Str.ofString "let") = false := by decide +kernel
theorem eq_xx : (Str.ofString "x" == Str.ofString "x") = true := by decide +kernel
/-- what a turn of the checking loop leaves -/
inductive CkJ (L xA bA rA pA oA : Nat) (fx : Led) : (Str → Option Value) → Led → Prop
  | mk {o4 o6 : Obj} {v4 v6 : Option Value} {u : Str → Option Value} : o4.data = .cell v4 → o6.data = .cell v6 → CkJ L xA bA rA pA oA fx (lawM xA bA rA pA oA u) ((L + 1 + 1 + 1 + 1, o4) :: (L + 1 + 1 + 1 + 1 + 1 + 1, o6) :: fx)
theorem CkJ.of {L xA bA rA pA oA : Nat} {fx : Led} {o4 o6 : Obj} {v4 v6 : Option Value} {m : Str → Option Value} (hm : m = lawM xA bA rA pA oA m) (h4 : o4.data = .cell v4) (h6 : o6.data = .cell v6) :
    CkJ L xA bA rA pA oA fx m ((L + 1 + 1 + 1 + 1, o4) :: (L + 1 + 1 + 1 + 1 + 1 + 1, o6) :: fx) := by
  have q := CkJ.mk (L := L) (xA := xA) (bA := bA) (rA := rA) (pA := pA) (oA := oA) (fx := fx) (u := m) h4 h6
  rwa [← hm] at q
end Mine
namespace Mine
local macro_rules | `(tactic| walk_at $s:str) => `(tactic| k_extra $s)
local macro_rules | `(tactic| k_room) => `(tactic| ktr_room)
local macro_rules | `(tactic| k_all) => `(tactic| assumption)
local macro_rules | `(tactic| k_mem) => `(tactic| assumption)

/-- the j-th of a row stands in it ahead -/
def Rep (ks : List Int) (j : Nat) : Prop := ∃ i, i < j ∧ ∃ k, ks[i]? = some k ∧ ks[j]? = some k
/-- the first place of a row whose entry stands in it ahead -/
def Fst (ks : List Int) (p : Option Nat) : Prop := match p with
  | none => ∀ j, ¬ Rep ks j
  | some p => Rep ks p ∧ ∀ j, j < p → ¬ Rep ks j
theorem look_stored {kvs : List (Int × Value)} {k k' : Int} {v : Value} : valueAt (stored kvs k v) k' = if k' = k then some v else valueAt kvs k' := look_stv
theorem rep_none {ks : List Int} {i : Nat} {k : Int} (hk : ks[i]? = some k) (hn : ¬ ∃ j, j < i ∧ ks[j]? = some k) : ¬ Rep ks i := by
  rintro ⟨j, h1, k', h2, h3⟩
  rw [hk] at h3; cases h3
  exact hn ⟨j, h1, h2⟩
theorem rep_of {ks : List Int} {i : Nat} {k : Int} (hk : ks[i]? = some k) (h : ∃ j, j < i ∧ ks[j]? = some k) : Rep ks i := let ⟨j, h1, h2⟩ := h; ⟨j, h1, k, h2, hk⟩
theorem rep_lt {ks : List Int} {i : Nat} (h : Rep ks i) : i < ks.length := let ⟨_, _, _, _, h2⟩ := h; (List.getElem?_eq_some_iff.mp h2).1
theorem fst_end {ks : List Int} {n : Nat} (hn : n = ks.length) (h : ∀ j, j < n → ¬ Rep ks j) : Fst ks none := fun j r => h j (hn ▸ rep_lt r) r
theorem lt_succ_or {i : Nat} {P : Nat → Prop} (h : ∀ j, j < i → P j) (h1 : P i) : ∀ j, j < i + 1 → P j := fun j hj => by
  rcases Nat.lt_succ_iff_lt_or_eq.mp hj with q | rfl
  · exact h j q
  · exact h1
inductive FtJ (w : World) (kd : Nat) (news : Led) (ks : List Int) (i : Nat) : (Str → Option Value) → Led → Prop
  | mk {u : Str → Option Value} {o : Obj} {kvs : List (Int × Value)} : o.IsDictOf (IntK w) kvs → kvs.length ≤ i → (∀ k, (valueAt kvs k).isSome = true ↔ ∃ j, j < i ∧ ks[j]? = some k) → (∀ j, j < i → ¬ Rep ks j) →
      FtJ w kd news ks i (fun y => if y = Str.ofString "known" then some (.ref kd) else u y) ((kd, o) :: news)
theorem FtJ.start {w : World} {kd : Nat} {news : Led} {ks : List Int} {m : Str → Option Value} {o : Obj} (h : o.IsDictOf (IntK w) []) (hm : m (Str.ofString "known") = some (.ref kd)) : FtJ w kd news ks 0 m ((kd, o) :: news) := by
  have q := FtJ.mk (news := news) (kd := kd) (ks := ks) (i := 0) (u := m) h (Nat.le_refl _) (fun k => ⟨fun h => (by cases h), fun ⟨j, h, _⟩ => absurd h (Nat.not_lt_zero _)⟩) (fun j h => absurd h (Nat.not_lt_zero _))
  have e : (fun y => if y = Str.ofString "known" then some (Value.ref kd) else m y) = m := by
    funext y
    split
    · next e => rw [e, hm]
    · rfl
  rwa [e] at q
theorem FtJ.step {w : World} {kd : Nat} {news : Led} {ks : List Int} {i : Nat} {m : Str → Option Value} {o : Obj} {kvs : List (Int × Value)} {k : Int} {v : Value} (hk : ks[i]? = some k) (h : o.IsDictOf (IntK w) (stored kvs k v)) (hm : m (Str.ofString "known") = some (.ref kd))
    (hl : kvs.length ≤ i) (hv : ∀ k, (valueAt kvs k).isSome = true ↔ ∃ j, j < i ∧ ks[j]? = some k) (hr : ∀ j, j < i → ¬ Rep ks j) (hn : valueAt kvs k = none) : FtJ w kd news ks (i + 1) m ((kd, o) :: news) := by
  have q := FtJ.mk (news := news) (kd := kd) (ks := ks) (i := i + 1) (u := m) h (Nat.le_trans stored_length (Nat.succ_le_succ hl)) (fun k' => by
      rw [look_stored]
      by_cases e : k' = k
      · subst e; simp only [if_true, Option.isSome_some, true_iff]; exact ⟨i, by omega, hk⟩
      · rw [if_neg e, hv k']
        constructor
        · rintro ⟨j, h1, h2⟩; exact ⟨j, by omega, h2⟩
        · rintro ⟨j, h1, h2⟩
          rcases Nat.lt_succ_iff_lt_or_eq.mp h1 with z | rfl
          · exact ⟨j, z, h2⟩
          · rw [hk] at h2; exact absurd (Option.some.inj h2).symm e) (lt_succ_or hr (rep_none hk fun z => by have := (hv k).mpr z; rw [hn] at this; cases this))
  have e : (fun y => if y = Str.ofString "known" then some (Value.ref kd) else m y) = m := by
    funext y
    split
    · next e => rw [e, hm]
    · rfl
  rwa [e] at q
theorem idn_in {w : World} {h₀ h : Heap} {L kd : Addr} {o : Obj} {news own : Led} {v : Value} {d : Idn} (_N : News h₀ L h ((kd, o) :: (news ++ own))) (h : IdnIn w news v d) : IdnIn w ((kd, o) :: (news ++ own)) v d := h.mono fun _ hp => .tail _ (List.mem_append.mpr (.inl hp))
theorem says_first {w : World} {news : Led} {l k : Addr} {vs : List Value} {ds : List Idn} (hm : (l, listOf vs.toArray k) ∈ news) (hn : ND news) (hl : vs.length = ds.length) (hs : vs.length ≤ 100)
    (hI : ∀ (j : Nat) (d : Idn), ds[j]? = some d → ∃ v, vs[j]? = some v ∧ IdnIn w news v d) :
  Says w 301 [.ref l] news 6 (fun r news' => (∃ p, Fst (ds.map Idn.key) p ∧ r = (match p with | none => .none | some p => (vs[p]?).getD .none)) ∧ news' = news) := by
  unfold Says
  k_fill
  intro mean mg mb dp un gd cn cs a ccd cl outer A₀ base h₀ L m s Q E B F X N T hk hd hu hret
  k_with_none
  refine wpAny_call ?_
  k_dflt ktr_enter
  k_with "exec For Name Name cons nil" => (k_here; (rename Fr _ _ _ _ => lF'); (with_unfolding_all refine' For_invVF lF' ?k1 ?k2 ?_; (case k1 => exact rfl); (case k2 => exact rfl); k_whole))
  k_with "pyIter ref" => ((rename Fr _ _ _ _ => lF'); (rename News _ _ _ _ => lN'); (with_unfolding_all refine' rl_list (vs := vs) (k := k) (FtJ w _ news (ds.map Idn.key)) (by rfl) (fun i m nx h => by cases h; exact .tail _ hm) lF' lN' (nd_new1 (by assumption) hn) (FtJ.start (by assumption) (by rfl)) (fun i' v' m' nx' h' tk' own' hv' hJ' F' N' nd' => ?turn) (fun m' nx' h' tk' hJ' F' N' nd' => ?done)); clear lF' lN'; (case' turn => (obtain @⟨u', o', kvs', hd', hl', hk', hr'⟩ := hJ'; (obtain ⟨d', hd9⟩ : ∃ d, ds[i']? = some d := ⟨_, List.getElem?_eq_getElem (hl ▸ (List.getElem?_eq_some_iff.mp hv').1)⟩); (obtain ⟨v9, hv9, hI9⟩ := hI _ _ hd9); (obtain rfl : v' = v9 := by rw [hv'] at hv9; exact Option.some.inj hv9); (simp only [List.cons_append] at N' nd'); (have hi' : i' < vs.length := (List.getElem?_eq_some_iff.mp hv').1); (have hkey : (ds.map Idn.key)[i']? = some d'.key := by (rw [List.getElem?_map, hd9]; rfl)); (have hI8 := idn_in N' hI9); (rcases hv8 : valueAt kvs' d'.key with _ | v8) <;> (try k_fold))); (case' done => (obtain @⟨u', o', kvs', hd', hl', hk', hr'⟩ := hJ'; (try k_fold))))
  k_with "setItem ref int" => (k_here; (rename News _ _ _ _ => lN); (rename ND _ => lD); k_dflt (refine' set_at 0 ?k1 lN lD ?k4 ?k5 ?k6 ?_; (case k1 => k_asm); (case k4 => rfl); (case k5 => assumption); (case k6 => omega)); intro h9 o9 F9 N9 nd9 hd9; clear lN lD; (try k_fold))
  k_with "compareOp In int ref" => (k_here; k_dflt (first
      | refine kda_in (knd := IntK w) (by k_asm) (by k_mem) (by assumption) (by assumption) (intKind_is _ _ _ _) false (by rw [hv8]; rfl) ?_
      | refine kda_in (knd := IntK w) (by k_asm) (by k_mem) (by assumption) (by assumption) (intKind_is _ _ _ _) true (by rw [hv8]; rfl) ?_))
  k_with "call ref" => (k_here; k_dflt (refine' Says.use (says_key_of (by assumption)) ?k1 ?k2 ?k3 ?k4 ?k5 ?kK ?kd ?ku ?_; (case k1 => k_asm); (case k2 => k_asm); (case k3 => k_asm); (case k4 => k_asm); (case k5 => k_asm); (case kK => first | exact rfl | assumption); (case kd => ktr_room); (case ku => ktr_units)); intro r9 n9 h9 tk9 F9 N9 O9; obtain ⟨⟨t9, e9⟩, e8⟩ := O9; subst r9; subst n9; (try dsimp only); (try k_fold))
  k_with "RsPost" => (dsimp only [RsPost])
  k_steps
  all_goals first
    | exact hret _ _ _ _ (by k_asm) (by refine cb_drop (by assumption) ?_; k_sub) ⟨⟨none, fst_end (by simp [hl]) hr', rfl⟩, rfl⟩
    | exact hret _ _ _ _ (by k_asm) (fun p hp => (by assumption : News _ _ _ ((_, _) :: (news ++ _))) p (.tail _ (List.mem_append.mpr (.inl hp)))) ⟨⟨some i', ⟨rep_of hkey ((hk' _).mp (by rw [hv8]; rfl)), hr'⟩, by simp [hv']⟩, rfl⟩
    | (refine' ⟨_, _, _, (_, _) :: news, rfl, F9, N9, nd9, FtJ.step hkey hd9 (by rfl) hl' hk' hr' hv8⟩)
   
end Mine
namespace Mine
local macro_rules | `(tactic| walk_at $s:str) => `(tactic| k_extra $s)
local macro_rules | `(tactic| k_room) => `(tactic| ktr_room)
local macro_rules | `(tactic| k_all) => `(tactic| assumption)
local macro_rules | `(tactic| k_mem) => `(tactic| assumption)

theorem any_rep {ks : List Int} {i : Nat} (hi : i < ks.length) (h : ((List.take ((i : Int)).toNat ks).any fun x => x == ks.getD ((i : Int)).toNat 0) = true) : Rep ks i := by
  rw [Int.toNat_natCast] at h
  obtain ⟨x, hx, e⟩ := List.any_eq_true.mp h
  obtain ⟨j, hj, rfl⟩ := List.getElem_of_mem hx
  have hj' : j < i := by simp at hj; omega
  have e' := eq_of_beq e
  rw [List.getElem_take] at e'
  refine ⟨j, hj', _, List.getElem?_eq_getElem (by omega), ?_⟩
  rw [e', List.getElem?_eq_getElem hi]
  simp [List.getD, List.getElem?_eq_getElem hi]
theorem any_no {ks : List Int} {i : Nat} (h : ((List.take ((i : Int)).toNat ks).any fun x => x == ks.getD ((i : Int)).toNat 0) = false) : ¬ Rep ks i := by
  rintro ⟨j, hj, k, h1, h2⟩
  rw [Int.toNat_natCast] at h
  have := List.any_eq_false.mp h k (List.mem_of_getElem? (i := j) (by rw [List.getElem?_take_of_lt hj, h1]))
  simp [List.getD, h2] at this
theorem says_twice {w : World} {news : Led} {l k : Addr} {vs : List Value} {ks : List Int} (hm : (l, listOf vs.toArray k) ∈ news) (hn : ND news) (hi : IntsAre vs ks) (hs : vs.length ≤ 100) :
  Says w 425 [.ref l] news 6 (fun r news' => (∃ p t, Fst ks p ∧ r = (match p with | none => .int (-1) t | some p => .int (p : Int) t)) ∧ ∀ q ∈ news, q ∈ news') := by
  unfold Says
  k_fill
  intro mean mg mb dp un gd cn cs a ccd cl outer A₀ base h₀ L m s Q E B F X N T hk hd hu hret
  k_with_none
  have hlen : vs.length = ks.length := hi.length
  refine wpAny_call ?_
  k_dflt ktr_enter
  k_with "exec For Name Call cons nil" => (k_here; (rename Fr _ _ _ _ => lF'); (with_unfolding_all refine' For_invVF lF' ?k1 ?k2 ?_; (case k1 => exact rfl); (case k2 => exact rfl); k_whole))
  k_with "call builtin:len" => (k_here; k_dflt (refine' my_len (vs := vs) ?k1 ?k2 ?k3 ?_; (case k1 => k_asm); (case k2 => k_mem); (case k3 => omega)); (try k_fold))
  k_with "pyIter ref" => (k_dflt ((rename Fr _ _ _ _ => lF'); (rename News _ _ _ _ => lN'); (rename IsRange _ _ _ _ _ _ _ _ => rgX); (with_unfolding_all refine' rd_range (n := ks.length) (fun i => ∀ j, j < i → ¬ Rep ks j) (by rfl) rgX ?small ?size lF' lN' (fun j hj => absurd hj (by omega)) (fun i' k' t' h' tk' own' hk' hlt' hI' hoff' F' N' => ?turn) (fun u' h' tk' hI' F' N' => ?done)); clear lF' lN'; (case small => exact small_one (by omega) (by omega) (by omega) (by omega)); (case size => exact rangeSize_nat _ _); (case' turn => ((obtain rfl : k' = ((i' : Nat) : Int) := by omega); (obtain ⟨z9, hz9⟩ : ∃ z, ks[i']? = some z := ⟨_, List.getElem?_eq_getElem (by omega)⟩); (obtain ⟨t9, ht9⟩ := (by assumption : IntsAre vs ks).get _ _ hz9); (try k_fold))); (case' done => ((try k_fold)))))
  k_with "RdPost" => (dsimp only [RdPost])
  k_steps
  all_goals first
    | exact hret _ _ _ _ (by k_asm) (by k_asm) ⟨⟨none, _, fst_end rfl hI', rfl⟩, fun q hq => hq⟩
    | exact hret _ _ _ _ (by k_asm) (by k_asm) ⟨⟨some i', _, ⟨any_rep hlt' (by assumption), hI'⟩, rfl⟩, fun q hq => .tail _ (List.mem_append.mpr (.inl hq))⟩
    | (refine RdEnd.intro (by assumption) (by assumption) (fun _ h => .tail _ h) (by intro z hz; simp [hz]) (lt_succ_or hI' (any_no (by assumption))))
   
end Mine
namespace Mine
def Halt (p : Prop) : Prop := p
theorem halt_in {p : Prop} (h : Halt p) : p := h
theorem halt_out {p : Prop} (h : p) : Halt p := h
abbrev pairO (l : Int) (t : Tok) : Obj := { cls := .type "tuple", data := .seq [Value.int l t, Value.bool true].toArray }
inductive TupB (news : Led) : List Value → Nat → Prop
  | nil : TupB news [] 0
  | snoc {ys : List Value} {n : Nat} {a : Addr} {t : Tok} : TupB news ys n → (a, pairO n t) ∈ news → TupB news (ys ++ [.ref a]) (n + 1)
theorem TupB.mono {news news' : Led} {ys : List Value} {n : Nat} (h : TupB news ys n) (hs : ∀ p ∈ news, p ∈ news') : TupB news' ys n := by
  induction h with
  | nil => exact .nil
  | snoc _ m ih => exact .snoc ih (hs _ m)
def tdats : Nat → List PyData
  | 0 => []
  | n + 1 => tdats n ++ [.tuple [.int n, .bool true]]
theorem reads_snoc {h : Heap} {v : Value} {d : PyData} : ∀ {vs : List Value} {ds : List PyData} {as : List Addr} (_ : ReadsAll h vs ds as) {bs : List Addr} (_ : Reads h v d bs), ∃ cs, ReadsAll h (vs ++ [v]) (ds ++ [d]) cs
  | _, _, _, .nil, _, r => ⟨_, .cons r .nil⟩
  | _, _, _, .cons h1 h2, _, r => by
    obtain ⟨cs, q⟩ := reads_snoc h2 r
    exact ⟨_, .cons h1 q⟩
theorem TupB.reads {h₀ h : Heap} {L : Addr} {news : Led} {ys : List Value} {n : Nat} (N : News h₀ L h news) (T : TupB news ys n) : ∃ as, ReadsAll h ys (tdats n) as := by
  induction T with
  | nil => exact ⟨_, .nil⟩
  | snoc _ m ih =>
    obtain ⟨as, q⟩ := ih
    exact reads_snoc q (reads_tuple_at (N.get m) rfl rfl (.cons (.int _ _) (.cons (.bool _) .nil)))
theorem tdats_ok : ∀ n, n ≤ 5 → SeqAt.shaped (.list (tdats n)) = true ∧ PyData.eqv (.list (tdats n)) (.list (tdats n)) = true := by
  intro n hn
  rcases (by omega : n = 0 ∨ n = 1 ∨ n = 2 ∨ n = 3 ∨ n = 4 ∨ n = 5) with rfl | rfl | rfl | rfl | rfl | rfl <;> exact ⟨by decide +kernel, by decide +kernel⟩
theorem tup_eq {w : World} {A : Around} {E : Value → Shared → Prop} {s : Shared} {h₀ : Heap} {L a b : Addr} {news n1 n2 : Led} {xs ys : List Value} {ka kb n : Nat} {Q : Value → Shared → Prop}
    (N : News h₀ L s.heap news) (ma : (a, listOf xs.toArray ka) ∈ news) (mb : (b, listOf ys.toArray kb) ∈ news) (Ta : TupB n1 xs n) (sa : ∀ p ∈ n1, p ∈ news) (Tb : TupB n2 ys n) (sb : ∀ p ∈ n2, p ∈ news) (hn : n ≤ 5) (hu : A.units + 64 < cLine) (h : Q (.bool true) s) :
    wpAny (model PySem.Challenge.rw_nt0172_01.row.prog w) A (compareOp .Eq (.ref a) (.ref b)) Q E s := by
  obtain ⟨as, ra⟩ := (Ta.mono sa).reads N
  obtain ⟨bs, rb⟩ := (Tb.mono sb).reads N
  obtain ⟨h1, h2⟩ := tdats_ok n hn
  refine eq_dataH (reads_list_at (N.get ma) rfl rfl (by simpa using ra)) (reads_list_at (N.get mb) rfl rfl (by simpa using rb)) h1 h1 hu ?_
  rw [h2]; exact h
theorem nd_off3 {I C D : Addr} {oI oC oD : Obj} {l : Led} (h : ND l) (o : LCg.Off3 I C D l) (ne : ((@Ne Nat I C) ∧ (@Ne Nat I D) ∧ (@Ne Nat C D))) : ND ((I, oI) :: (C, oC) :: (D, oD) :: l) := by
  have om := o.mem
  refine ((h.consOff (o := oD) (a := D) fun p hp => (om p hp).2.2).consOff (o := oC) (a := C) ?_).consOff (o := oI) (a := I) ?_
  · intro p hp
    rcases List.mem_cons.mp hp with rfl | hp
    · exact Ne.symm ne.2.2
    · exact (om p hp).2.1
  · intro p hp
    rcases List.mem_cons.mp hp with rfl | hp
    · exact Ne.symm ne.1
    · rcases List.mem_cons.mp hp with rfl | hp
      · exact Ne.symm ne.2.1
      · exact (om p hp).1
theorem off3_cons {I C D a : Addr} {o : Obj} {l : Led} (h : LCg.Off3 I C D l) (h1 : @Ne Nat a I) (h2 : @Ne Nat a C) (h3 : @Ne Nat a D) : LCg.Off3 I C D ((a, o) :: l) := ⟨⟨h1, h2, h3⟩, h⟩
theorem off3_new {I C D a : Addr} {oI oC oD o : Obj} {l : Led} (h : LCg.Off3 I C D l) (h1 : ∀ p ∈ (I, oI) :: (C, oC) :: (D, oD) :: l, p.1 < a) : LCg.Off3 I C D ((a, o) :: l) :=
  off3_cons h (fun e => Nat.lt_irrefl a (e ▸ h1 (I, oI) (.head _))) (fun e => Nat.lt_irrefl a (e ▸ h1 (C, oC) (.tail _ (.head _)))) (fun e => Nat.lt_irrefl a (e ▸ h1 (D, oD) (.tail _ (.tail _ (.head _)))))
theorem mem_rot3 {p a b c x : Addr × Obj} {l : Led} (h : p ∈ a :: b :: c :: x :: l) : p ∈ x :: a :: b :: c :: l := by
  rcases List.mem_cons.mp h with rfl | h
  · exact .tail _ (.head _)
  · rcases List.mem_cons.mp h with rfl | h
    · exact .tail _ (.tail _ (.head _))
    · rcases List.mem_cons.mp h with rfl | h
      · exact .tail _ (.tail _ (.tail _ (.head _)))
      · rcases List.mem_cons.mp h with rfl | h
        · exact .head _
        · exact .tail _ (.tail _ (.tail _ (.tail _ h)))
theorem compEnd_push {h₀ : Heap} {L I C D a : Addr} {m : Str → Option Value} {s₁ : Shared} {oI oC oD o : Obj} {S : Led → Prop} {rest : Value → Led → Prop} {y : Value} {h' : Heap} {tk : Nat} {news : Led}
    (F : Fr h₀ L h' m) (N : News h₀ L h' ((a, o) :: (I, oI) :: (C, oC) :: (D, oD) :: news)) (off : LCg.Off3 I C D news) (l1 : ∀ p ∈ (I, oI) :: (C, oC) :: (D, oD) :: news, p.1 < a) (hS : S ((a, o) :: news)) (r : rest y ((a, o) :: news)) :
    LCg.CompEnd h₀ L m s₁ I oI C oC D oD S rest y { s₁ with heap := h', toks := tk } := LCg.CompEnd.intro F N _ (fun _ hp => mem_rot3 hp) (off3_new off l1) hS r
theorem compEnd_same {h₀ : Heap} {L I C D : Addr} {m : Str → Option Value} {s₁ : Shared} {oI oC oD : Obj} {S : Led → Prop} {rest : Value → Led → Prop} {y : Value} {h' : Heap} {tk : Nat} {news : Led}
    (F : Fr h₀ L h' m) (N : News h₀ L h' ((I, oI) :: (C, oC) :: (D, oD) :: news)) (off : LCg.Off3 I C D news) (hS : S news) (r : rest y news) :
    LCg.CompEnd h₀ L m s₁ I oI C oC D oD S rest y { s₁ with heap := h', toks := tk } := LCg.CompEnd.intro F N _ (fun _ hp => hp) off hS r
theorem my_tuple0 {w : World} {A : Around} {E : Value → Shared → Prop} {s : Shared} {h₀ : Heap} {L : Addr} {m : Str → Option Value} {news : Led} {vs : List Value} {Q : Value → Shared → Prop}
    (F : Fr h₀ L s.heap m) (N : News h₀ L s.heap news)
    (h : ∀ l h', Fr h₀ L h' m → News h₀ L h' ((l, { cls := .type "tuple", data := .seq vs.toArray }) :: news) → (∀ p ∈ news, p.1 < l) → Q (.ref l) { s with heap := h' })
    (hz : vs.length ≤ 1000) :
    wpAny (model PySem.Challenge.rw_nt0172_01.row.prog w) A (newTuple vs) Q E s := 
  newTuple_N F N (fun h' F' N' => h _ h' F' N' (fun p hp => Heap.lt_size (N p hp).1)) (by rw [sizeLine_eq]; omega)
end Mine
namespace Mine
local macro_rules | `(tactic| walk_at $s:str) => `(tactic| k_extra $s)
local macro_rules | `(tactic| k_room) => `(tactic| ktr_room)
local macro_rules | `(tactic| k_all) => `(tactic| assumption)
local macro_rules | `(tactic| k_mem) => `(tactic| assumption)

theorem law_tail12 {w : World} {mean : ExcName → Option Value} {mg mb : Str → Option Value} {dp un : Nat} {gd : Option (List Code)} {fa : Addr} {ccd : Value} {outer : List Env} {A₀ : Around} {base h₀ : Heap} {L : Addr} {s : Shared} {Q : Flow → Shared → Prop} {E : Value → Shared → Prop}
    {D wA wd eA sA ks : Nat} {r0 : Addr} {i : Nat} {n : Int} {ids : List Idn} {Bs : List (Option (Nat × Nat))} {Rs Ds : List Int} {nms : List Nm} {Bds : List (List (Int × Str))} {ev bs rs ds sv ov : List Value} {fo : Led} {m : Str → Option Value}
    (B : Below A₀ base outer h₀) (X : (_root_.Mine.tp.heap_39 w.params).In h₀) (T : Top _root_.Mine.tp.view_39 [] mean mg mb h₀) (hd : dp + 60 < recursionLimit) (hu : un + 8 * 60 < cLine) (hi : i ≤ 4)
    (H : LvFix w L D wA wd eA sA r0 i n ids Bs Rs Ds nms Bds ev bs rs ds sv ov fo) (ms : (sA, listOf sv.toArray ks) ∈ fo)
    (F : Fr h₀ L s.heap m) (N : News h₀ L s.heap fo) (hQ : ∀ h' tk' m', Fr h₀ L h' m' → Q (.ret (.bool true)) { s with heap := h', toks := tk' }) :
    wpAny (model PySem.Challenge.rw_nt0172_01.row.prog w) (lawTop dp un gd L fa ccd outer) (execs (lawBody.drop 12) (lawEnv L fa ccd)) Q E s := by
  (revert X; k_fill; intro X)
  k_with_none
  conv => arg 3; arg 1; whnf
  delta lawTop lawEnv
  conv in (occs := *) lawSc => all_goals whnf
  obtain ⟨oc3, m3, d3⟩ := H.c3
  have hsl := H.hSl
  obtain ⟨sa0, hsa0, hsc0, hup0⟩ := H.hS 0 (Nat.zero_le _)
  have hr0 : sa0 = r0 := by cases hup0; rfl
  subst hr0
  k_with "call builtin:len" => (k_here; k_dflt (refine' my_len (vs := sv) ?k1 ?k2 ?k3 ?_; (case k1 => k_asm); (case k2 => k_mem); (case k3 => omega)); (try k_fold))
  k_with "call type:range" => ((rename Fr _ _ _ _ => lF'); (rename News _ _ _ _ => lN'); (with_unfolding_all refine range1_rows lF' lN' ?_); intro h9 tk9 t9 u9 v9 rgX F9 N9 kp9; clear lF' lN')
  k_with "subscriptTail" => (k_here; k_dflt (refine' my_sub (vs := sv) ?k1 ?k2 ?k3 ?k4 ?k5 ?_ ?k6; (case k1 => k_asm); (case k2 => k_mem); (case k3 => decide); (case k4 => decide); (case k5 => exact hsa0); (case k6 => with_unfolding_all rfl)))
  k_with "eval ListComp" => (k_here; k_dflt (refine LCg.ListComp_U (F₀ := by k_asm) (by rfl) (by decide) (by rfl) (by decide) (by rfl) ?_))
  k_with "CompSrc" => (k_here; k_dflt (first
    | (refine LCg.CompSrc.ledger (its := sv.toArray) (by rfl) (by k_asm) (by k_asm) (by k_mem) (by (rw [List.size_toArray]; rw [sizeLine_eq]; omega)) ?_; intro g'; (refine comp_all (fun k ys news => (∀ p ∈ fo, p ∈ news) ∧ TupB news ys k) (fun i' ys' news' v' I' oI' C' oC' D' m' h' tk' E' hi' hJ' hv' hC' hx' F' N' off' ne' => ?step) (fun ys1 news1 hJ' => ?fin) _ 0 [] _ (Nat.zero_add _) ⟨fun _ h => h, .nil⟩); (case' step => ((change wpAny _ _ _ _ _ _); (have hi5 : i' < 5 := by (rw [List.size_toArray] at hi'; omega)); (obtain ⟨hs', hT'⟩ := hJ'); (obtain ⟨sb, hsb, hsc, hup⟩ := H.hS i' (by rw [List.size_toArray] at hi'; omega)); (obtain rfl : v' = .ref sb := (Option.some.inj (hsb.symm.trans (by simpa using hv'))).symm); (have m3' := hs' _ m3); (have ms' := hs' _ ms); (have hup' := hup.mono hs'); (obtain ⟨q1, q2, q3, q4, q5, q6, q7, q8⟩ := (hsc.mono hs').inst))); (case' fin => ((obtain ⟨hs1, hT1⟩ := hJ'); (replace m3 := hs1 _ m3); (replace ms := hs1 _ ms); rw [List.size_toArray] at hT1)))
    | ((rename IsRange _ _ _ _ _ _ _ _ => rgX); refine LCg.CompSrc.range (n := sv.length) (by rfl) (by k_asm) (by k_asm) rgX (small_one (by omega) (by omega) (by omega) (by omega)) (rangeSize_nat _ _) (by (rw [sizeLine_eq]; omega)) ?_; intro g'; (refine comp_all (fun k ys news => (∀ p ∈ (D1, LCg.lst ys1) :: news1, p ∈ news) ∧ TupB news ys k) (fun i' ys' news' v' I' oI' C' oC' D' m' h' tk' E' hi' hJ' hv' hC' hx' F' N' off' ne' => ?step2) (fun ys2 news2 hJ' => ?fin2) _ 0 [] _ (Nat.zero_add _) ⟨fun _ h => h, .nil⟩); (case' step2 => ((change wpAny _ _ _ _ _ _); (obtain ⟨hs', hT'⟩ := hJ'); (obtain ⟨t', hv'⟩ := hv'); rw [Int.zero_add] at hv'; subst hv')); (case' fin2 => ((obtain ⟨hs2, hT2⟩ := hJ'))))))
  k_with "FinA" => ((unfold LCg.FinA); intro D1 h1' tk1 F1 N1 o1'; (try dsimp only))
  k_with "newTuple" => (k_here; k_dflt (refine' my_tuple0 ?k1 ?k2 ?_ ?k4; (case k1 => k_asm); (case k2 => k_asm); (case k4 => exact Nat.le_of_ble_eq_true rfl)); intro l' h' F' N' l1; (try dsimp only))
  k_with "CompEnd" => ((rename News _ _ _ _ => lN); (refine compEnd_push (by k_asm) lN off' (by with_reducible assumption) ?src ⟨fun p hp => .tail _ (hs' p hp), (hT'.mono (fun p hp => .tail _ hp)).snoc (.head _)⟩); (case src => first | exact Or.inr ⟨_, .tail _ ms', rfl, _, rfl⟩ | exact trivial))
  k_with "compareOp Eq ref ref" => (k_here; k_dflt ((rename News _ _ _ _ => lN); (refine tup_eq (n := sv.length) lN (.tail _ (hs2 _ (.head _))) (.head _) hT1 (fun p hp => .tail _ (hs2 _ (.tail _ hp))) hT2 (fun p hp => .tail _ hp) (by omega) (by ke_room) ?_)))
  k_with "call ref" => (first | ((with_reducible show wpAny _ _ (call (Value.ref 280) _) _ _ _); (rename News _ _ _ _ => lN); (try (rename ND _ => lD)); k_here; k_dflt (refine' Says.use (says_scope_depth (r0 := sa0) (v := .ref sb) (n := i') ?c1 (by omega)) ?k1 ?k2 ?k3 ?k4 ?k5 ?kK ?kd ?ku ?_; (case k4 => exact lN); (case c1 => exact hup'.mono (fun p hp => .tail _ (.tail _ (.tail _ hp)))); (case k1 => k_asm); (case k2 => k_asm); (case k3 => k_asm); (case k5 => k_asm); (case kK => first | exact rfl | assumption); (case kd => ktr_room); (case ku => ktr_units)); intro r9 n9 h9 tk9 F9 N9 O9; (obtain ⟨⟨t9, e9⟩, e8⟩ := O9); subst r9; subst n9; (try dsimp only); (try k_fold)) | ((with_reducible show wpAny _ _ (call (Value.ref 273) _) _ _ _); (rename News _ _ _ _ => lN); (try (rename ND _ => lD)); k_here; k_dflt (refine' Says.use (says_outermost (r0 := sa0) (v := .ref sb) (n := i') ?c1) ?k1 ?k2 ?k3 ?k4 ?k5 ?kK ?kd ?ku ?_; (case k4 => exact lN); (case c1 => exact hup'.mono (fun p hp => .tail _ (.tail _ (.tail _ hp)))); (case k1 => k_asm); (case k2 => k_asm); (case k3 => k_asm); (case k5 => k_asm); (case kK => first | exact rfl | assumption); (case kd => ktr_room); (case ku => ktr_units)); intro r9 n9 h9 tk9 F9 N9 O9; (obtain ⟨e9, e8⟩ := O9); subst r9; subst n9; (try dsimp only); (try k_fold)) | ((with_reducible show wpAny _ _ (call (Value.ref 224) _) _ _ _); (rename News _ _ _ _ => lN); (try (rename ND _ => lD)); k_here; k_dflt (refine' Says.use (says_named_int) ?k1 ?k2 ?k3 ?k4 ?k5 ?kK ?kd ?ku ?_; (case k4 => exact lN);  (case k1 => k_asm); (case k2 => k_asm); (case k3 => k_asm); (case k5 => k_asm); (case kK => first | exact rfl | assumption); (case kd => ktr_room); (case ku => ktr_units)); intro r9 n9 h9 tk9 F9 N9 O9; (obtain ⟨e9, e8⟩ := O9); subst r9; subst n9; (try dsimp only); (try k_fold)))
  k_steps
  all_goals exact hQ _ _ _ (by k_asm)
end Mine
namespace Mine
theorem rep_map {ks : List Int} {f : Int → Int} (h : ∀ a ∈ ks, ∀ b ∈ ks, f a = f b → a = b) (j : Nat) : Rep (ks.map f) j ↔ Rep ks j := by
  constructor
  · rintro ⟨i, hi, k, h1, h2⟩
    rw [List.getElem?_map] at h1 h2
    obtain ⟨a, ha, ea⟩ := Option.map_eq_some_iff.mp h1
    obtain ⟨b, hb, eb⟩ := Option.map_eq_some_iff.mp h2
    have e := h a (List.mem_of_getElem? ha) b (List.mem_of_getElem? hb) (ea.trans eb.symm)
    subst e
    exact ⟨i, hi, a, ha, hb⟩
  · rintro ⟨i, hi, k, h1, h2⟩
    exact ⟨i, hi, f k, by rw [List.getElem?_map, h1]; rfl, by rw [List.getElem?_map, h2]; rfl⟩
theorem fst_map {ks : List Int} {f : Int → Int} (h : ∀ a ∈ ks, ∀ b ∈ ks, f a = f b → a = b) {p : Option Nat} (hp : Fst (ks.map f) p) : Fst ks p := by
  cases p with
  | none => exact fun j r => hp j ((rep_map h j).mpr r)
  | some p => exact ⟨(rep_map h p).mp hp.1, fun j hj r => hp.2 j hj ((rep_map h j).mpr r)⟩
theorem fst_one {ks : List Int} {p q : Option Nat} (hp : Fst ks p) (hq : Fst ks q) : p = q := by
  cases p with
  | none => cases q with
    | none => rfl
    | some q => exact absurd hq.1 (hp q)
  | some p => cases q with
    | none => exact absurd hp.1 (hq p)
    | some q =>
      have h1 : ¬ p < q := fun h => hq.2 p h hp.1
      have h2 : ¬ q < p := fun h => hp.2 q h hq.1
      rw [show p = q by omega]
theorem off1_nd {D : Addr} {o : Obj} : ∀ {l : Led}, ND l → LCg.Off1 D l → ND ((D, o) :: l)
  | l, h, x => h.consOff fun p hp => by
    have key : ∀ {l : Led}, LCg.Off1 D l → ∀ p ∈ l, p.1 ≠ D := by
      intro l
      induction l with
      | nil => intro _ p hp; cases hp
      | cons a l ih =>
        intro x p hp
        rcases List.mem_cons.mp hp with rfl | hp
        · exact x.1
        · exact ih x.2 p hp
    exact key x p hp
theorem compEnd_rot {h₀ : Heap} {L I C D a : Addr} {m : Str → Option Value} {s₁ : Shared} {oI oC oD o o' : Obj} {S : Led → Prop} {rest : Value → Led → Prop} {y : Value} {h' : Heap} {tk : Nat} {news : Led}
    (F : Fr h₀ L h' m) (N : News h₀ L h' ((a, o) :: (I, oI) :: (C, oC) :: (D, oD) :: news)) (off : LCg.Off3 I C D ((a, o') :: news)) (hS : S ((a, o) :: news)) (r : rest y ((a, o) :: news)) :
    LCg.CompEnd h₀ L m s₁ I oI C oC D oD S rest y { s₁ with heap := h', toks := tk } := LCg.CompEnd.intro F N _ (fun _ hp => mem_rot3 hp) ⟨off.1, off.2⟩ hS r
inductive RowJ (D : Nat) (fo : Led) (len : Nat) (k : Nat) : List Value → Led → Prop
  | mk {oD : Obj} {ys : List Value} {ks : List Int} : DeckObj oD → ND ((D, oD) :: fo) → IntsAre ys ks → ks.length = k → (∀ x ∈ ks, 0 ≤ x ∧ x < (len : Int)) → RowJ D fo len k ys ((D, oD) :: fo)
theorem RowJ.next {D : Nat} {fo : Led} {len k : Nat} {oD oD' : Obj} {ys : List Value} {ks : List Int} {x : Int} {t : Tok} (hd : DeckObj oD') (nd : ND ((D, oD) :: fo)) (hi : IntsAre ys ks) (hl : ks.length = k) (hk : ∀ x ∈ ks, 0 ≤ x ∧ x < (len : Int))
    (h0 : 0 ≤ x) (h1 : x < (len : Int)) : RowJ D fo len (k + 1) (ys ++ [.int x t]) ((D, oD') :: fo) :=
  .mk (ks := ks ++ [x]) hd nd.put (IntsAre.snoc hi x t) (by simp [hl]) (fun y hy => by
    rcases List.mem_append.mp hy with q | q
    · exact hk y q
    · rw [List.mem_singleton.mp q]; exact ⟨h0, h1⟩)
def dOf (ids : List Idn) (x : Int) : Idn := (ids[x.toNat]?).getD (.sym 0 0 (Str.ofString ""))
theorem dOf_at {ids : List Idn} {x : Int} (h0 : 0 ≤ x) (h1 : x < (ids.length : Int)) : ids[x.toNat]? = some (dOf ids x) := by
  unfold dOf
  rw [List.getElem?_eq_getElem (by omega)]; rfl
theorem dOf_inj {ids : List Idn} (h : Inj ids) {a b : Int} (a0 : 0 ≤ a) (a1 : a < (ids.length : Int)) (b0 : 0 ≤ b) (b1 : b < (ids.length : Int)) (e : (dOf ids a).key = (dOf ids b).key) : a = b := by
  have := h _ _ _ (dOf_at a0 a1) _ (dOf_at b0 b1) e
  omega
/-- the rows' identifiers, picked one after another -/
structure SelJ (ev : List Value) (ks : List Int) (nw : Led) (k : Nat) (ys : List Value) (news : Led) : Prop where
  e : news = nw
  len : ys.length = k
  at_ : ∀ j, j < k → ∃ x v, ks[j]? = some x ∧ ev[x.toNat]? = some v ∧ ys[j]? = some v
theorem SelJ.nil {ev : List Value} {ks : List Int} {nw : Led} : SelJ ev ks nw 0 [] nw := ⟨rfl, rfl, fun j h => absurd h (Nat.not_lt_zero _)⟩
theorem SelJ.next {ev : List Value} {ks : List Int} {nw news : Led} {k : Nat} {ys : List Value} (h : SelJ ev ks nw k ys news) {x : Int} {v : Value} (hk : ks[k]? = some x) (hv : ev[x.toNat]? = some v) : SelJ ev ks nw (k + 1) (ys ++ [v]) news := by
  refine ⟨h.e, by simp [h.len], fun j hj => ?_⟩
  rcases Nat.lt_succ_iff_lt_or_eq.mp hj with q | rfl
  · obtain ⟨x, v, h1, h2, h3⟩ := h.at_ j q
    exact ⟨x, v, h1, h2, getElem?_old h3⟩
  · exact ⟨x, v, hk, hv, getElem?_last (by rw [h.len])⟩
theorem twice_out {r : Value} {p : Option Nat} {t : Tok} (h : r = (match p, t with | none, t => .int (-1) t | some p, t => .int (p : Int) t)) : ∃ z u, r = .int z u ∧ ((z = -1 ∧ p = none) ∨ ∃ q : Nat, p = some q ∧ z = q) := by
  cases p with
  | none => exact ⟨_, _, h, .inl ⟨rfl, rfl⟩⟩
  | some q => exact ⟨_, _, h, .inr ⟨q, rfl, rfl⟩⟩
theorem none_out {z : Int} (h : (z = -1 ∧ (none : Option Nat) = none) ∨ ∃ q : Nat, (none : Option Nat) = some q ∧ z = q) : z = -1 := by
  rcases h with h | ⟨q, h, _⟩
  · exact h.1
  · cases h
theorem some_out {z : Int} {p : Nat} (h : (z = -1 ∧ some p = none) ∨ ∃ q : Nat, some p = some q ∧ z = q) : z = (p : Int) := by
  rcases h with h | ⟨q, h, e⟩
  · cases h.2
  · cases h; exact e
theorem dOf_sep {ids : List Idn} {ks : List Int} (h : Inj ids) (hk : ∀ x ∈ ks, 0 ≤ x ∧ x < (ids.length : Int)) : ∀ a ∈ ks, ∀ b ∈ ks, (fun x => (dOf ids x).key) a = (fun x => (dOf ids x).key) b → a = b :=
  fun a ha b hb e => dOf_inj h (hk a ha).1 (hk a ha).2 (hk b hb).1 (hk b hb).2 e
theorem first_out {ids : List Idn} {ks : List Int} {p q : Option Nat} (h : Inj ids) (hk : ∀ x ∈ ks, 0 ≤ x ∧ x < (ids.length : Int)) (hp : Fst ((ks.map (dOf ids)).map Idn.key) p) (hq : Fst ks q) : p = q := by
  rw [List.map_map] at hp
  exact fst_one (fst_map (dOf_sep h hk) hp) hq
theorem IdnIn.isRef {w : World} {news : Led} {v : Value} {d : Idn} (h : IdnIn w news v d) : ∃ a, v = .ref a := by
  cases h <;> exact ⟨_, rfl⟩
theorem sel_idn {w : World} {fo nw : Led} {ids : List Idn} {ev ys : List Value} {ks : List Int} {k : Nat} (hI : ∀ (j : Nat) (d : Idn), ids[j]? = some d → ∃ v, ev[j]? = some v ∧ IdnIn w fo v d) (hs : ∀ p ∈ fo, p ∈ nw)
    (hk : ∀ x ∈ ks, 0 ≤ x ∧ x < (ids.length : Int)) (hl : ks.length = k) (h : ∀ j, j < k → ∃ x v, ks[j]? = some x ∧ ev[x.toNat]? = some v ∧ ys[j]? = some v) :
    ∀ (j : Nat) (d : Idn), (ks.map (dOf ids))[j]? = some d → ∃ v, ys[j]? = some v ∧ IdnIn w nw v d := by
  intro j d hd
  rw [List.getElem?_map] at hd
  obtain ⟨x, hx, rfl⟩ := Option.map_eq_some_iff.mp hd
  obtain ⟨x', v, h1, h2, h3⟩ := h j (by have := (List.getElem?_eq_some_iff.mp hx).1; omega)
  rw [hx] at h1; cases h1
  have b := hk x (List.mem_of_getElem? hx)
  obtain ⟨v', h4, h5⟩ := hI _ _ (dOf_at b.1 b.2)
  rw [h2] at h4; cases h4
  exact ⟨v, h3, h5.mono hs⟩
theorem pick_out {w : World} {fo : Led} {ids : List Idn} {ev ys rv : List Value} {ks : List Int} {k p : Nat} (hI : ∀ (j : Nat) (d : Idn), ids[j]? = some d → ∃ v, ev[j]? = some v ∧ IdnIn w fo v d)
    (hk : ∀ x ∈ ks, 0 ≤ x ∧ x < (ids.length : Int)) (hl : ks.length = k) (h : ∀ j, j < k → ∃ x v, ks[j]? = some x ∧ ev[x.toNat]? = some v ∧ ys[j]? = some v) (hr : IntsAre rv ks) (hp : Fst ks (some p)) :
    ∃ x a t, rv[p]? = some (.int x t) ∧ 0 ≤ x ∧ x < (ids.length : Int) ∧ ev[x.toNat]? = some (.ref a) ∧ (ys[p]?).getD .none = .ref a ∧ p < k ∧ ks.getD (p : Int).toNat 0 = x := by
  have hpl := rep_lt hp.1
  obtain ⟨x, v, h1, h2, h3⟩ := h p (by omega)
  have b := hk x (List.mem_of_getElem? h1)
  obtain ⟨v', h4, h5⟩ := hI _ _ (dOf_at b.1 b.2)
  rw [h2] at h4; cases h4
  obtain ⟨a, rfl⟩ := h5.isRef
  obtain ⟨t, ht⟩ := hr.get _ _ h1
  exact ⟨x, a, t, ht, b.1, b.2, h2, by rw [h3]; rfl, by omega, by rw [Int.toNat_natCast, List.getD_eq_getElem?_getD, h1]; rfl⟩
end Mine
namespace Mine
local macro_rules | `(tactic| walk_at $s:str) => `(tactic| k_extra $s)
local macro_rules | `(tactic| k_room) => `(tactic| ktr_room)
local macro_rules | `(tactic| k_all) => `(tactic| assumption)
local macro_rules | `(tactic| k_mem) => `(tactic| assumption)

theorem law_tail9 {w : World} {mean : ExcName → Option Value} {mg mb : Str → Option Value} {dp un : Nat} {gd : Option (List Code)} {fa : Addr} {ccd : Value} {outer : List Env} {A₀ : Around} {base h₀ : Heap} {L : Addr} {s : Shared} {Q : Flow → Shared → Prop} {E : Value → Shared → Prop}
    {D wA wd eA sA ke ks : Nat} {r0 : Addr} {i : Nat} {n : Int} {ids : List Idn} {Bs : List (Option (Nat × Nat))} {Rs Ds : List Int} {nms : List Nm} {Bds : List (List (Int × Str))} {ev bs rs ds sv ov : List Value} {fo : Led} {oD : Obj} {m : Str → Option Value}
    (B : Below A₀ base outer h₀) (X : (_root_.Mine.tp.heap_39 w.params).In h₀) (T : Top _root_.Mine.tp.view_39 [] mean mg mb h₀) (hd : dp + 60 < recursionLimit) (hu : un + 8 * 60 < cLine) (hi : i ≤ 4)
    (H : LvFix w L D wA wd eA sA r0 i n ids Bs Rs Ds nms Bds ev bs rs ds sv ov fo) (me : (eA, listOf ev.toArray ke) ∈ fo) (ms : (sA, listOf sv.toArray ks) ∈ fo) (hdk : DeckObj oD)
    (F : Fr h₀ L s.heap m) (N : News h₀ L s.heap ((D, oD) :: fo)) (nd : ND ((D, oD) :: fo)) (hQ : ∀ h' tk' m', Fr h₀ L h' m' → Q (.ret (.bool true)) { s with heap := h', toks := tk' }) :
    wpAny (model PySem.Challenge.rw_nt0172_01.row.prog w) (lawTop dp un gd L fa ccd outer) (execs (lawBody.drop 9) (lawEnv L fa ccd)) Q E s := by
  (revert X; k_fill; intro X)
  k_with_none
  conv => arg 3; arg 1; whnf
  delta lawTop lawEnv
  conv in (occs := *) lawSc => all_goals whnf
  obtain ⟨oc1, m1, d1⟩ := H.c1
  obtain ⟨oc5, m5, d5⟩ := H.c5
  have hsl := H.hSl
  have hl := H.hl
  have h3 := H.h3
  k_with "call builtin:len" => (k_here; k_dflt (refine' my_len (vs := ev) ?k1 ?k2 ?k3 ?_; (case k1 => k_asm); (case k2 => k_mem); (case k3 => omega)); (try k_fold))
  k_with "call type:range" => ((rename Fr _ _ _ _ => lF'); (rename News _ _ _ _ => lN'); (with_unfolding_all refine range1_rows lF' lN' ?_); intro h9 tk9 t9 u9 v9 rgX F9 N9 kp9; clear lF' lN')
  k_with "subscriptTail" => (k_here; k_dflt (first
      | (refine' my_sub (vs := ys1) ?k1 ?k2 ?k3 ?k4 ?k5 ?_ ?k6; (case k1 => k_asm); (case k2 => k_mem); (case k3 => omega); (case k4 => omega); (case k5 => (rw [Int.toNat_natCast]; assumption)); (case k6 => with_unfolding_all rfl))
      | (refine' my_sub (vs := ev) ?k1 ?k2 ?k3 ?k4 ?k5 ?_ ?k6; (case k1 => k_asm); (case k2 => k_mem); (case k3 => first | omega | (rw [g7]; omega)); (case k4 => first | omega | (rw [g7]; omega)); (case k5 => first | assumption | (rw [g7]; assumption)); (case k6 => with_unfolding_all rfl))))
  k_with "eval ListComp" => (k_here; k_dflt (refine LCg.ListComp_U (F₀ := by k_asm) (by with_unfolding_all rfl) (by decide) (by rfl) (by decide) (by rfl) ?_))
  k_with "CompSrc" => (k_here; k_dflt (first
    | ((rename News _ _ _ _ => lN); (rename IsRange _ _ _ _ _ _ _ _ => rgX); refine LCg.CompSrc.range (n := q9) (by rfl) (by k_asm) lN rgX (small_one (by omega) (by omega) (by omega) (by omega)) (rangeSize_nat _ _) (by (rw [sizeLine_eq]; omega)) ?_; intro g'; (refine comp_all (RowJ D fo ids.length) (fun i' ys' news' v' I' oI' C' oC' D' m' h' tk' E' hi' hJ' hv' hC' hx' F' N' off' ne' => ?step) (fun ys1 news1 hJ' => ?fin) _ 0 [] _ (Nat.zero_add _) (RowJ.mk (ks := []) (by with_reducible assumption) (by with_reducible assumption) .nil rfl (fun _ h => nomatch h))); (case' step => ((change wpAny _ _ _ _ _ _); (obtain @⟨oD', ys', ks', hdk', nd', hi9, hl', hk'⟩ := hJ'); (have nd3 := nd_off3 (oI := oI') (oC := oC') (oD := LCg.lst ys') nd' off' ne'))); (case' fin => ((obtain @⟨oD1, ys1, ks1, hdk1, nd1, hi1, hl1, hk1⟩ := hJ'); (have hyl := IntsAre.length hi1))))
    | ((rename News _ _ _ _ => lN); refine LCg.CompSrc.ledger (its := ys1.toArray) (by rfl) (by k_asm) lN (by k_mem) (by (rw [List.size_toArray]; rw [sizeLine_eq]; omega)) ?_; intro g'; (refine comp_all (SelJ ev ks1 _) (fun i' ys' news' v' I' oI' C' oC' D' m' h' tk' E' hi' hJ' hv' hC' hx' F' N' off' ne' => ?step2) (fun ys2 news2 hJ' => ?fin2) _ 0 [] _ (Nat.zero_add _) SelJ.nil); (case' step2 => ((change wpAny _ _ _ _ _ _); (obtain ⟨k9, tk9', hv9, hk9⟩ := IntsAre.at hi1 i' v' (by simpa using hv')); subst hv9; (have hb9 := hk1 _ (List.mem_of_getElem? hk9)); (obtain ⟨v9', hev, _⟩ := H.hI _ _ (dOf_at hb9.1 hb9.2)); (obtain rfl := hJ'.e))); (case' fin2 => ((obtain ⟨e2, len2, pk2⟩ := hJ'); subst e2; rw [List.size_toArray] at len2 pk2)))))
  k_with "FinA" => ((unfold LCg.FinA); intro D1 h1' tk1 F1 N1 o1'; (have ndr := off1_nd (o := LCg.lst ys1) nd1 o1'); (try dsimp only))
  k_with "FinE" => ((unfold LCg.FinE); intro D2 h2' tk2 F2 N2 o2'; (have nd2 := off1_nd (o := LCg.lst ys2) ndr o2'); (try dsimp only))
  k_with "CompEnd" => ((rename News _ _ _ _ => lN); (first | (refine compEnd_rot (by k_asm) lN off' trivial (RowJ.next (by with_reducible assumption) nd' hi9 hl' hk' (by omega) (by omega))) | (refine compEnd_same (by k_asm) lN off' (Or.inr ⟨_, .head _, rfl, _, rfl⟩) (SelJ.next hJ' hk9 hev))))
  k_with "execs cons" => ((with_reducible show wpAny _ _ (execs (Stmt.Assign [Expr.Name (Str.ofString "told") _] _ _ :: _) _) _ _ _); refine halt_in ?_)
  k_with "call ref" => (first | ((with_reducible show wpAny _ _ (call (Value.ref 411) _) _ _ _); (rename News _ _ _ _ => lN); (try (rename ND _ => lD)); k_here; k_dflt (first | ((have lE := ND.front lD 0); (refine' Says.use (says_draw (many := 7) (ND.off lE) ?c1 (by decide) (by decide)) ?k1 ?k2 ?k3 ?k4 ?k5 ?kK ?kd ?ku ?_; (case k4 => exact news_front lN 0); (case c1 => with_reducible assumption); (case k1 => k_asm); (case k2 => k_asm); (case k3 => k_asm); (case k5 => k_asm); (case kK => first | exact rfl | assumption); (case kd => ktr_room); (case ku => ktr_units)))); intro r9 n9 h9 tk9 F9 N9 O9; (obtain ⟨i9, t9, o9, e9, hlo9, hhi9, hdk9, e8⟩ := O9); subst r9; subst n9; (k_dflt (have nd9 := ND.putN N9 lE)); clear lE lN lD; (obtain ⟨q9, rfl⟩ := Int.eq_ofNat_of_zero_le hlo9); (try dsimp only); (try k_fold)) | ((with_reducible show wpAny _ _ (call (Value.ref 411) _) _ _ _); (rename News _ _ _ _ => lN); (try (rename ND _ => lD)); k_here; k_dflt (first | ((have lE := ND.front lD 3); (refine' Says.use (says_draw (many := (ev.length : Int)) (ND.off lE) ?c1 (by omega) (by omega)) ?k1 ?k2 ?k3 ?k4 ?k5 ?kK ?kd ?ku ?_; (case k4 => exact news_front lN 3); (case c1 => with_reducible assumption); (case k1 => k_asm); (case k2 => k_asm); (case k3 => k_asm); (case k5 => k_asm); (case kK => first | exact rfl | assumption); (case kd => ktr_room); (case ku => ktr_units)))); intro r9 n9 h9 tk9 F9 N9 O9; (obtain ⟨i9, t9, o9, e9, hlo9, hhi9, hdk9, e8⟩ := O9); subst r9; subst n9; clear lE lN lD; (try dsimp only); (try k_fold)) | ((with_reducible show wpAny _ _ (call (Value.ref 425) _) _ _ _); (rename News _ _ _ _ => lN); (try (rename ND _ => lD)); k_here; k_dflt (refine' Says.use (says_twice (l := D1) (vs := ys1) (ks := ks1) (.head _) lD hi1 (by omega)) ?k1 ?k2 ?k3 ?k4 ?k5 ?kK ?kd ?ku ?_; (case k4 => exact lN);  (case k1 => k_asm); (case k2 => k_asm); (case k3 => k_asm); (case k5 => k_asm); (case kK => first | exact rfl | assumption); (case kd => ktr_room); (case ku => ktr_units)); intro r9 n9 h9 tk9 F9 N9 O9; (have ndr := lD); (obtain ⟨⟨p8, t8, f8, e8⟩, s8⟩ := O9); (obtain ⟨z8, u8, e7, hz8⟩ := twice_out e8); subst e7; (replace N9 := news_sub N9 s8); clear lN s8 e8; (try dsimp only); (try k_fold)) | ((with_reducible show wpAny _ _ (call (Value.ref 301) _) _ _ _); (rename News _ _ _ _ => lN); (try (rename ND _ => lD)); k_here; k_dflt (refine' Says.use (says_first (l := D2) (vs := ys2) (ds := ks1.map (dOf ids)) (.head _) lD (by (rw [List.length_map]; omega)) (by omega) (sel_idn H.hI (fun p hp => .tail _ (.tail _ (.tail _ hp))) hk1 (by omega) pk2)) ?k1 ?k2 ?k3 ?k4 ?k5 ?kK ?kd ?ku ?_; (case k4 => exact lN);  (case k1 => k_asm); (case k2 => k_asm); (case k3 => k_asm); (case k5 => k_asm); (case kK => first | exact rfl | assumption); (case kd => ktr_room); (case ku => ktr_units)); intro r9 n9 h9 tk9 F9 N9 O9; (obtain ⟨⟨p9, f9, e9⟩, e7⟩ := O9); subst n9; (obtain rfl := first_out H.hinj hk1 f9 f8); rcases p9 with _ | p9 <;> (first | ((obtain rfl := none_out hz8); dsimp only at e9; subst r9) | ((obtain rfl := some_out hz8); (obtain ⟨x9, a9, tx9, g1, g2, g3, g4, g5, g6, g7⟩ := pick_out H.hI hk1 (by omega) pk2 hi1 f8); dsimp only at e9; rw [g5] at e9; subst r9)) <;>  (try dsimp only); (try k_fold)))
  k_steps
  all_goals first | (with_reducible refine halt_out ?_) | (exfalso; omega)
  all_goals ((rename News _ _ _ _ => lN); (rename Fr _ _ _ _ => lF); exact law_tail12 (fo := _ :: _ :: _ :: _ :: fo) B X T hd hu hi (H.mono (fun p hp => .tail _ (.tail _ (.tail _ (.tail _ hp))))) (.tail _ (.tail _ (.tail _ (.tail _ ms)))) lF lN hQ)
end Mine
namespace Mine
structure KeyJ (ids : List Idn) (nw : Led) (k : Nat) (ys : List Value) (news : Led) : Prop where
  e : news = nw
  are : IntsAre ys ((ids.map Idn.key).take k)
theorem KeyJ.nil {ids : List Idn} {nw : Led} : KeyJ ids nw 0 [] nw := ⟨rfl, .nil⟩
theorem KeyJ.next {ids : List Idn} {nw news : Led} {k : Nat} {ys : List Value} {d : Idn} {t : Tok} (h : KeyJ ids nw k ys news) (hd : ids[k]? = some d) : KeyJ ids nw (k + 1) (ys ++ [.int d.key t]) news := by
  refine ⟨h.e, ?_⟩
  have e : (ids.map Idn.key).take (k + 1) = (ids.map Idn.key).take k ++ [d.key] := by
    rw [List.take_add_one, List.getElem?_map, hd]; rfl
  rw [e]
  exact IntsAre.snoc h.are _ _
theorem Inj.nodup {ids : List Idn} (h : Inj ids) : (ids.map Idn.key).Nodup := by
  refine List.pairwise_iff_getElem.mpr ?_
  intro i j hi0 hj hij e
  rw [List.length_map] at hj
  have hi : ids[i]? = some ids[i] := List.getElem?_eq_getElem (by omega)
  have hj' : ids[j]? = some ids[j] := List.getElem?_eq_getElem hj
  rw [List.getElem_map, List.getElem_map] at e
  have := h _ _ _ hi _ hj' e
  omega
theorem near_ne {ids : List Idn} {vs : List Value} {ns : List Int} {j : Nat} (h : Inj ids) (hp : ns.Perm (ids.map Idn.key)) (hi : IntsAre vs ns) (hj : j + 1 < ns.length) : ∃ x t y u, vs[j]? = some (.int x t) ∧ vs[j + 1]? = some (.int y u) ∧ ns.getD (1 + (j : Int) - 1).toNat 0 ≠ ns.getD (1 + (j : Int)).toNat 0 := by
  have nd : ns.Nodup := hp.nodup_iff.mpr h.nodup
  obtain ⟨t, ht⟩ := hi.get j ns[j] (List.getElem?_eq_getElem (by omega))
  obtain ⟨u, hu⟩ := hi.get (j + 1) ns[j + 1] (List.getElem?_eq_getElem hj)
  refine ⟨_, t, _, u, ht, hu, fun e => ?_⟩
  rw [show (1 + (j : Int) - 1).toNat = j by omega, show (1 + (j : Int)).toNat = j + 1 by omega, List.getD_eq_getElem?_getD, List.getD_eq_getElem?_getD, List.getElem?_eq_getElem (by omega), List.getElem?_eq_getElem hj] at e
  exact List.pairwise_iff_getElem.mp nd j (j + 1) (by omega) hj (by omega) e
section
variable {prog : Program} {w : World} {A : Around} {s : Shared} {env : Env} {h₀ : Heap} {x : Str}
theorem compT_none {L : Addr} {m : Str → Option Value} {ct elt : PySem.Expr} {scope : Scope} {cl : List (Str × Addr)} {S : Led → Prop} {P : Nat → Value → Prop} {Fin : List Value → Led → Prop} {n : Nat} (nw : Led)
    (step : ∀ i v I oI C oC D m₂ h tk (E' : Value → Shared → Prop), i < n → P i v → LCg.NsObj oC m₂ → m₂ x = some v → Fr h₀ L h m → News h₀ L h ((I, oI) :: (C, oC) :: (D, LCg.lst []) :: nw) → LCg.Off3 I C D nw → ((@Ne Nat I C) ∧ (@Ne Nat I D) ∧ (@Ne Nat C D)) →
      wpAny (model prog w) A (isTrue ct (compEnvC scope cl C env) (eval ct (compEnvC scope cl C env))) (fun b s' => if b = true then Halt False else
        LCg.CompEnd h₀ L m { s with heap := h, toks := tk } I oI C oC D (LCg.lst []) S (fun _ news' => news' = nw) Value.none s') E' { s with heap := h, toks := tk })
    (fin : Fin [] nw) : ∀ (k i : Nat), i + k = n → LCt.CompRestT prog w A h₀ L m env ct elt x scope cl s S P Fin k i [] nw := by
  intro k
  induction k with
  | zero => intro i _; exact LCt.CompRestT.zero fin
  | succ k ih =>
    intro i e
    refine LCt.CompRestT.succ fun v I oI C oC D m₂ h tk E' hv hC hx F N off ne => ?_
    refine wpAny_mono (step i v I oI C oC D m₂ h tk E' (by omega) hv hC hx F N off ne) (fun b s₂ q => ?_) fun _ _ e => e
    cases b with
    | true => exact absurd (q : False) id
    | false =>
      simp only [Bool.false_eq_true, if_false] at q ⊢
      obtain ⟨h', tk', news', rfl, F', N', o', hS, rfl⟩ := q
      exact ⟨h', tk', _, rfl, F', N', o', hS, ih _ (by omega)⟩
end
end Mine
namespace Mine
local macro_rules | `(tactic| walk_at $s:str) => `(tactic| k_extra $s)
local macro_rules | `(tactic| k_room) => `(tactic| ktr_room)
local macro_rules | `(tactic| k_all) => `(tactic| assumption)
local macro_rules | `(tactic| k_mem) => `(tactic| assumption)

theorem law_tail7 {w : World} {mean : ExcName → Option Value} {mg mb : Str → Option Value} {dp un : Nat} {gd : Option (List Code)} {fa : Addr} {ccd : Value} {outer : List Env} {A₀ : Around} {base h₀ : Heap} {L : Addr} {s : Shared} {Q : Flow → Shared → Prop} {E : Value → Shared → Prop}
    {D wA wd eA sA ke ks : Nat} {r0 : Addr} {i : Nat} {n : Int} {ids : List Idn} {Bs : List (Option (Nat × Nat))} {Rs Ds : List Int} {nms : List Nm} {Bds : List (List (Int × Str))} {ev bs rs ds sv ov : List Value} {fo : Led} {oD o7 : Obj} {v7 : Option Value} {m : Str → Option Value}
    (B : Below A₀ base outer h₀) (X : (_root_.Mine.tp.heap_39 w.params).In h₀) (T : Top _root_.Mine.tp.view_39 [] mean mg mb h₀) (hd : dp + 60 < recursionLimit) (hu : un + 8 * 60 < cLine) (hi : i ≤ 4)
    (H : LvFix w L D wA wd eA sA r0 i n ids Bs Rs Ds nms Bds ev bs rs ds sv ov fo) (me : (eA, listOf ev.toArray ke) ∈ fo) (ms : (sA, listOf sv.toArray ks) ∈ fo) (hdk : DeckObj oD) (h7 : o7.data = .cell v7)
    (F : Fr h₀ L s.heap m) (N : News h₀ L s.heap ((L + 1 + 1 + 1 + 1 + 1 + 1 + 1, o7) :: (D, oD) :: fo)) (nd : ND ((L + 1 + 1 + 1 + 1 + 1 + 1 + 1, o7) :: (D, oD) :: fo)) (hQ : ∀ h' tk' m', Fr h₀ L h' m' → Q (.ret (.bool true)) { s with heap := h', toks := tk' }) :
    wpAny (model PySem.Challenge.rw_nt0172_01.row.prog w) (lawTop dp un gd L fa ccd outer) (execs (lawBody.drop 7) (lawEnv L fa ccd)) Q E s := by
  (revert X; k_fill; intro X)
  k_with_none
  conv => arg 3; arg 1; whnf
  delta lawTop lawEnv
  conv in (occs := *) lawSc => all_goals whnf
  obtain ⟨oc3, m3, d3⟩ := H.c3
  obtain ⟨oc5, m5, d5⟩ := H.c5
  have hsl := H.hSl
  have hl := H.hl
  have h3 := H.h3
  obtain ⟨sa0, hsa0, hsc0, hup0⟩ := H.hS 0 (Nat.zero_le _)
  k_with "call builtin:len" => (k_here; k_dflt (refine' my_len (vs := vs9) ?k1 ?k2 ?k3 ?_; (case k1 => k_asm); (case k2 => k_mem); (case k3 => omega)); (try k_fold))
  k_with "call type:range" => ((rename Fr _ _ _ _ => lF'); (rename News _ _ _ _ => lN'); (with_unfolding_all refine range2_rows lF' lN' ?_); intro h9 tk9 t9 u9 v9 rgX F9 N9 kp9; clear lF' lN')
  k_with "storeName" => (k_here; k_dflt (refine' my_store 2 ?F ?N ?D ?c ?e ?d ?_ ?a ?b; (case a => rfl); (case b => rfl); (case F => with_reducible assumption); (case N => with_reducible assumption); (case c => rfl); (case e => rfl); (case D => with_reducible assumption); (case d => with_reducible assumption)); intro h' o' F' N' nd9 cd9; (try dsimp only at N' nd9))
  k_with "subscriptTail" => (k_here; k_dflt (first
      | (refine' my_sub (vs := vs9) ?k1 ?k2 ?k3 ?k4 ?k5 ?_ ?k6; (case k1 => k_asm); (case k2 => k_mem); (case k3 => omega); (case k4 => omega); (case k5 => first | (rw [show (1 + (i' : Int) - 1).toNat = i' by omega]; exact g1) | (rw [show (1 + (i' : Int)).toNat = i' + 1 by omega]; exact g2)); (case k6 => with_unfolding_all rfl))
      | (refine' my_sub (vs := sv) ?k1 ?k2 ?k3 ?k4 ?k5 ?_ ?k6; (case k1 => k_asm); (case k2 => k_mem); (case k3 => decide); (case k4 => decide); (case k5 => exact hsa0); (case k6 => with_unfolding_all rfl))))
  k_with "eval ListComp" => (k_here; first | ((with_reducible show wpAny _ _ (eval (Expr.ListComp _ [⟨_, _, [], _⟩] _ _) _) _ _ _); k_dflt (refine LCg.ListComp_U (F₀ := by k_asm) (by with_unfolding_all rfl) (by decide) (by rfl) (by decide) (by rfl) ?_)) | k_dflt (refine LCt.ListComp_T (F₀ := by k_asm) (by with_unfolding_all rfl) (by decide) (by rfl) (by decide) (by rfl) ?_))
  k_with "CompSrc" => (k_here; k_dflt ((rename News _ _ _ _ => lN); refine LCg.CompSrc.ledger (its := ev.toArray) (by rfl) (by k_asm) lN (by k_mem) (by (rw [List.size_toArray]; rw [sizeLine_eq]; omega)) ?_; intro g'; (refine comp_all (KeyJ ids _) (fun i' ys' news' v' I' oI' C' oC' D' m' h' tk' E' hi' hJ' hv' hC' hx' F' N' off' ne' => ?step) (fun ys1 news1 hJ' => ?fin) _ 0 [] _ (Nat.zero_add _) KeyJ.nil); (case' step => ((change wpAny _ _ _ _ _ _); (have hi5 : i' < ids.length := by (rw [List.size_toArray] at hi'; omega)); (obtain ⟨d9, hd9⟩ : ∃ d, ids[i']? = some d := ⟨_, List.getElem?_eq_getElem hi5⟩); (obtain ⟨v9', hv9', hI9⟩ := H.hI _ _ hd9); (obtain rfl : v' = v9' := (Option.some.inj (hv9'.symm.trans (by simpa using hv'))).symm); (obtain rfl := hJ'.e))); (case' fin => ((obtain ⟨e1, are1⟩ := hJ'); subst e1; rw [List.size_toArray, List.take_of_length_le (by (rw [List.length_map]; omega))] at are1))))
  k_with "CompSrcT" => (k_here; k_dflt ((rename News _ _ _ _ => lN); (rename IsRange _ _ _ _ _ _ _ _ => rgX); refine LCt.CompSrcT.range (by rfl) (by k_asm) lN rgX (small_one (by omega) (by omega) (by omega) (by omega)) (rangeSize_nat _ _) (by (rw [sizeLine_eq]; omega)) ?_; intro g'; (refine compT_none _ (fun i' v' I' oI' C' oC' D' m' h' tk' E' hi' hv' hC' hx' F' N' off' ne' => ?step2) ?fin2 _ 0 (Nat.zero_add _)); (case' step2 => ((change wpAny _ _ _ _ _ _); (obtain ⟨t', hv'⟩ := hv'); subst hv'; (obtain ⟨x9, tx9, y9, ty9, g1, g2, g3⟩ := near_ne (j := i') H.hinj pe9 are9 (by omega))))))
  k_with "FinE" => ((unfold LCg.FinE); intro D1 h1' tk1 F1 N1 o1'; (try (have nd1 := off1_nd (o := LCg.lst ys1) nd o1')); (try dsimp only))
  k_with "CompEnd" => ((rename News _ _ _ _ => lN); (first | (refine compEnd_same (by k_asm) lN off' (Or.inr ⟨_, .tail _ (.tail _ me), rfl, _, rfl⟩) (KeyJ.next hJ' hd9)) | (refine compEnd_same (by k_asm) lN off' trivial rfl)))
  k_with "call builtin:sorted" => (k_here; k_dflt (refine' kso_sorted (vs := ys1) (ns := ids.map Idn.key) ?k1 ?k2 ?k3 are1 ?k5 ?_; (case k1 => k_asm); (case k2 => k_asm); (case k3 => exact kso_isList (by k_asm) (.head _) rfl); (case k5 => (rw [List.length_map]; omega)); k_whole); intro D2 vs9 ns9 c9 h9 F9 N9 lt9 are9 le9 pe9 as9 bs9; (have nd9 := ND.cons (o := listOf vs9.toArray c9) nd1 lt9); (have ln9 := are9.length); rw [List.length_map] at le9)
  k_with "execs cons" => ((with_reducible show wpAny _ _ (execs (Stmt.Assign [Expr.Name (Str.ofString "row") _] _ _ :: _) _) _ _ _); refine halt_in ?_)
  k_with "call ref" => (first | ((with_reducible show wpAny _ _ (call (Value.ref 203) _) _ _ _); (rename News _ _ _ _ => lN); (try (rename ND _ => lD)); k_here; k_dflt (refine' Says.use (says_key_of (v := v') (d := d9) ?c1) ?k1 ?k2 ?k3 ?k4 ?k5 ?kK ?kd ?ku ?_; (case k4 => exact lN); (case c1 => exact hI9.mono (fun p hp => .tail _ (.tail _ (.tail _ (.tail _ (.tail _ hp)))))); (case k1 => k_asm); (case k2 => k_asm); (case k3 => k_asm); (case k5 => k_asm); (case kK => first | exact rfl | assumption); (case kd => ktr_room); (case ku => ktr_units)); intro r9 n9 h9 tk9 F9 N9 O9; (obtain ⟨⟨t9, e9⟩, e8⟩ := O9); subst r9; subst n9; (try dsimp only); (try k_fold)) | ((with_reducible show wpAny _ _ (call (Value.ref 294) _) _ _ _); (rename News _ _ _ _ => lN); (try (rename ND _ => lD)); k_here; k_dflt (refine' Says.use (says_special_int) ?k1 ?k2 ?k3 ?k4 ?k5 ?kK ?kd ?ku ?_; (case k4 => exact lN);  (case k1 => k_asm); (case k2 => k_asm); (case k3 => k_asm); (case k5 => k_asm); (case kK => first | exact rfl | assumption); (case kd => ktr_room); (case ku => ktr_units)); intro r9 n9 h9 tk9 F9 N9 O9; (obtain ⟨⟨t9, e9⟩, e8⟩ := O9); subst r9; subst n9; (try dsimp only); (try k_fold)))
  k_steps
  all_goals first | (with_reducible refine halt_out ?_) | skip
  all_goals first | exact g3 (by with_reducible assumption) | skip
  (rename News _ _ _ _ => lN); (rename Fr _ _ _ _ => lF)
  exact law_tail9 B X T hd hu hi H me ms hdk lF (news_sub lN (fun p hp => .tail _ (.tail _ (.tail _ (.tail _ (.tail _ hp)))))) nd.tl hQ
end Mine
namespace Mine
local macro_rules | `(tactic| walk_at $s:str) => `(tactic| k_extra $s)
local macro_rules | `(tactic| k_room) => `(tactic| ktr_room)
local macro_rules | `(tactic| k_all) => `(tactic| assumption)
local macro_rules | `(tactic| k_mem) => `(tactic| assumption)

theorem meant_turn {w : World} {mean : ExcName → Option Value} {mg mb : Str → Option Value} {dp un : Nat} {gd : Option (List Code)} {fa : Addr} {ccd : Value} {outer : List Env} {A₀ : Around} {base h₀ : Heap} {L : Addr} {s : Shared} {Q : Flow → Shared → Prop} {E : Value → Shared → Prop}
    {D wA wd eA sA bA rA pA oA xA kb ko ks : Nat} {r0 : Addr} {i : Nat} {n : Int} {ids : List Idn} {Bs : List (Option (Nat × Nat))} {Rs Ds : List Int} {nms : List Nm} {Bds : List (List (Int × Str))} {ev bs rs ds sv ov : List Value} {fx own : Led} {k lv : Nat} {t tn : Tok} {o6 : Obj} {v : Value} {d : Idn} {u : Str → Option Value} {k' : Int}
    (B : Below A₀ base outer h₀) (X : (_root_.Mine.tp.heap_39 w.params).In h₀) (T : Top _root_.Mine.tp.view_39 [] mean mg mb h₀) (hd : dp + 60 < recursionLimit) (hu : un + 8 * 60 < cLine) (hi : i ≤ 4)
    (H : LvFix w L D wA wd eA sA r0 i n ids Bs Rs Ds nms Bds ev bs rs ds sv ov fx) (mb' : (bA, listOf bs.toArray kb) ∈ fx) (mo : (oA, listOf ov.toArray ko) ∈ fx) (ms : (sA, listOf sv.toArray ks) ∈ fx) (m6 : (L + 1 + 1 + 1 + 1 + 1 + 1, o6) ∈ fx) (d6 : o6.data = .cell (some v)) (hk : k < ids.length) (hdk : ids[k]? = some d) (hI : IdnIn w fx v d) (hlv : lv ≤ i) (hk' : k' = (lv : Int))
    (F : Fr h₀ L s.heap (fun y => if y = Str.ofString "level" then some (.int k' t) else if y = Str.ofString "number" then some (.int k tn) else lawM xA bA rA pA oA u y)) (N : News h₀ L s.heap (fx ++ own)) :
    wpAny (model PySem.Challenge.rw_nt0172_01.row.prog w) (lawTop dp un gd L fa ccd outer) (execs meantBody (lawEnv L fa ccd))
      (RdPost h₀ L (Str.ofString "level") (fun y => if y = Str.ofString "number" then some (.int k tn) else lawM xA bA rA pA oA u y) (fx ++ own) True s Q) E s := by
  (revert X; k_fill; intro X)
  k_with_none
  conv => arg 4; arg 1; whnf
  delta lawTop lawEnv
  conv in (occs := *) lawSc => all_goals whnf
  obtain ⟨fo, hfo⟩ : ∃ fo, fo = fx ++ own := ⟨_, rfl⟩
  rw [← hfo] at N ⊢
  have hsub : ∀ p ∈ fx, p ∈ fo := fun p hp => hfo ▸ List.mem_append.mpr (.inl hp)
  have Hx := H.mono hsub
  replace mb' := hsub _ mb'
  replace mo := hsub _ mo
  replace ms := hsub _ ms
  replace m6 := hsub _ m6
  replace hI := hI.mono hsub
  obtain ⟨oc3, m3, d3⟩ := Hx.c3
  have h3 := Hx.h3
  have hsl := Hx.hSl
  have hOl := Hx.hOl
  have hBl := Hx.hBl
  obtain ⟨sa, hsa, hsc, hup⟩ := Hx.hS lv hlv
  subst hk'
  have hsm := special_meant Hx 7 k d lv (by omega) hdk hlv
  have hwf := bases_wf Hx
  unfold lawM at F
  k_with "subscriptTail" => (k_here; k_dflt (first | (refine' my_sub (vs := sv) ?k1 ?k2 ?k3 ?k4 ?k5 ?_ ?k6; (case k1 => k_asm); (case k2 => k_mem); (case k3 => omega); (case k4 => omega); (case k5 => (rw [Int.toNat_natCast]; assumption)); (case k6 => with_unfolding_all rfl))))
  k_with "call ref" => (first | (k_here; k_dflt (refine' Says.use (says_special (d := d) (sc := chain nms lv) (by assumption) (by assumption)) ?k1 ?k2 ?k3 ?k4 ?k5 ?kK ?kd ?ku ?_; (case k1 => k_asm); (case k2 => k_asm); (case k3 => k_asm); (case k4 => k_asm); (case k5 => k_asm); (case kK => first | exact rfl | assumption); (case kd => ktr_room); (case ku => ktr_units)); intro r9 n9 h9 tk9 F9 N9 O9; (obtain ⟨⟨t9, e9⟩, e8⟩ := O9); rw [hsm] at e9; subst r9; subst n9; (try dsimp only); (try k_fold)) | (k_here; k_dflt (refine' Says.use (says_meant (by assumption) (by assumption) Hx.hB Hx.hO hwf (by omega) (by omega) 7 k lv (by omega) (by omega) (by omega) _ _) ?k1 ?k2 ?k3 ?k4 ?k5 ?kK ?kd ?ku ?_; (case k1 => k_asm); (case k2 => k_asm); (case k3 => k_asm); (case k4 => k_asm); (case k5 => k_asm); (case kK => first | exact rfl | assumption); (case kd => ktr_room); (case ku => ktr_units)); intro r9 n9 h9 tk9 F9 N9 O9; (obtain ⟨⟨t9, e9⟩, e8⟩ := O9); subst r9; subst n9; (try dsimp only); (try k_fold)))
  k_with "RdPost" => (dsimp only [RdPost])
  k_with "RdEnd" => (refine RdEnd.intro (by assumption) (by assumption) (fun _ h => h) (by intro z hz; simp [hz, lawM]) trivial)
  k_steps
  all_goals exact absurd (by assumption : (meantP Bs Bds 7 k lv != meantP Bs Bds 7 k lv) = true) (by simp)
end Mine
namespace Mine
local macro_rules | `(tactic| walk_at $s:str) => `(tactic| k_extra $s)
local macro_rules | `(tactic| k_room) => `(tactic| ktr_room)
local macro_rules | `(tactic| k_all) => `(tactic| assumption)
local macro_rules | `(tactic| k_mem) => `(tactic| assumption)

theorem mem_drop3 {p a b c : Addr × Obj} {l : Led} (h : p ∈ a :: b :: l) : p ∈ a :: b :: c :: l := by
  rcases List.mem_cons.mp h with rfl | h
  · exact .head _
  · rcases List.mem_cons.mp h with rfl | h
    · exact .tail _ (.head _)
    · exact .tail _ (.tail _ (.tail _ h))
theorem check_turn_0 {w : World} {mean : ExcName → Option Value} {mg mb : Str → Option Value} {dp un : Nat} {gd : Option (List Code)} {fa : Addr} {ccd : Value} {outer : List Env} {A₀ : Around} {base h₀ : Heap} {L : Addr} {s : Shared} {Q : Flow → Shared → Prop} {E : Value → Shared → Prop}
    {D wA wd eA sA bA rA pA oA xA ke kb kr kp ks ko kx : Nat} {r0 : Addr} {i : Nat} {n : Int} {ids : List Idn} {Bs : List (Option (Nat × Nat))} {Rs Ds : List Int} {nms : List Nm} {Bds : List (List (Int × Str))} {ev bs rs ds sv ov : List Value} {x1 x2 x3 : Tok} {fx own nx : Led} {k : Nat} {t : Tok} {m : Str → Option Value} {d : Idn} {v : Value} {tr td : Tok}
    (B : Below A₀ base outer h₀) (X : (_root_.Mine.tp.heap_39 w.params).In h₀) (T : Top _root_.Mine.tp.view_39 [] mean mg mb h₀) (hd : dp + 60 < recursionLimit) (hu : un + 8 * 60 < cLine) (hi : i ≤ 4) (hE : PassesOwn (model PySem.Challenge.rw_nt0172_01.row.prog w) (lawTop dp un gd L fa ccd outer) (lawEnv L fa ccd) E)
    (H : LvFix w L D wA wd eA sA r0 i n ids Bs Rs Ds nms Bds ev bs rs ds sv ov fx) (me : (eA, listOf ev.toArray ke) ∈ fx) (mb' : (bA, listOf bs.toArray kb) ∈ fx) (mr : (rA, listOf rs.toArray kr) ∈ fx) (mp : (pA, listOf ds.toArray kp) ∈ fx) (ms : (sA, listOf sv.toArray ks) ∈ fx) (mo : (oA, listOf ov.toArray ko) ∈ fx)
    (mx : (xA, listOf [Value.str (Str.ofString "if") x1, Value.str (Str.ofString "let") x2, Value.str (Str.ofString "x") x3].toArray kx) ∈ fx) (hk : k < ids.length)
    (hdk : ids[k]? = some d) (hv : ev[k]? = some v) (hI : IdnIn w fx v d) (hrv : rs[k]? = some (.int 0 tr)) (hdv : ds[k]? = some (.int d.depth td)) (hdi : d.depth ≤ i) (hrx : d.rootX = Str.ofString "if") (hra : ev[Int.toNat 0]? = some (.ref d.rootA))
    (hJ : CkJ L xA bA rA pA oA fx m nx)
    (F : Fr h₀ L s.heap (fun y => if y = Str.ofString "number" then some (.int (0 + (k : Int)) t) else m y)) (N : News h₀ L s.heap (nx ++ own)) (ndx : ND (nx ++ own)) :
    wpAny (model PySem.Challenge.rw_nt0172_01.row.prog w) (lawTop dp un gd L fa ccd outer) (execs checkBody (lawEnv L fa ccd))
      (RsPost h₀ L (CkJ L xA bA rA pA oA fx) own s Q) E s := by
  (revert X; k_fill; intro X)
  k_with_none
  conv => arg 4; arg 1; whnf
  delta lawTop lawEnv
  conv in (occs := *) lawSc => all_goals whnf
  obtain @⟨o4, o6, v4, v6, u, h4, h6⟩ := hJ
  simp only [List.cons_append] at N ndx
  obtain ⟨fo, hfo⟩ : ∃ fo, fo = fx ++ own := ⟨_, rfl⟩
  rw [← hfo] at N ndx
  have hsub : ∀ p ∈ fx, p ∈ fo := fun p hp => hfo ▸ List.mem_append.mpr (.inl hp)
  have Hx := H.mono hsub
  replace me := hsub _ me
  replace mb' := hsub _ mb'
  replace mr := hsub _ mr
  replace mp := hsub _ mp
  replace ms := hsub _ ms
  replace mo := hsub _ mo
  replace mx := hsub _ mx
  obtain ⟨oc3, m3, d3⟩ := Hx.c3
  obtain ⟨oc5, m5, d5⟩ := Hx.c5
  have h3 := Hx.h3
  have hl := Hx.hl
  have hsl := Hx.hSl
  replace hI := hI.mono hsub
  have hpar := d.fparity
  rw [Int.zero_add] at F
  unfold lawM at F
  k_with "newTuple" => (k_here; k_dflt (refine' my_tuple ?k1 ?k2 ?k3 ?k4 ?_; (case k1 => k_asm); (case k2 => k_asm); (case k3 => with_reducible assumption); (case k4 => exact Nat.le_of_ble_eq_true rfl)); intro l' h' F' N' l1 nd9; (try k_sweep); (try k_fold))
  k_with "newList" => (k_here; k_dflt (refine' my_list ?k1 ?k2 ?k3 ?k4 ?_; (case k1 => k_asm); (case k2 => k_asm); (case k3 => with_reducible assumption); (case k4 => exact Nat.le_of_ble_eq_true rfl)); intro l' h' F' N' l1 nd9; (try k_sweep); (try k_fold))
  k_with "storeName" => (k_here; k_dflt (first | (refine' my_store 0 ?F ?N ?D ?c ?e ?d ?_ ?a ?b; (case a => rfl); (case b => rfl); (case F => with_reducible assumption); (case N => with_reducible assumption); (case c => rfl); (case e => rfl); (case D => with_reducible assumption); (case d => with_reducible assumption)) | (refine' my_store 1 ?F ?N ?D ?c ?e ?d ?_ ?a ?b; (case a => rfl); (case b => rfl); (case F => with_reducible assumption); (case N => with_reducible assumption); (case c => rfl); (case e => rfl); (case D => with_reducible assumption); (case d => with_reducible assumption)) | (refine' my_store 2 ?F ?N ?D ?c ?e ?d ?_ ?a ?b; (case a => rfl); (case b => rfl); (case F => with_reducible assumption); (case N => with_reducible assumption); (case c => rfl); (case e => rfl); (case D => with_reducible assumption); (case d => with_reducible assumption)) | (refine' my_store 3 ?F ?N ?D ?c ?e ?d ?_ ?a ?b; (case a => rfl); (case b => rfl); (case F => with_reducible assumption); (case N => with_reducible assumption); (case c => rfl); (case e => rfl); (case D => with_reducible assumption); (case d => with_reducible assumption)) | (refine' my_store 4 ?F ?N ?D ?c ?e ?d ?_ ?a ?b; (case a => rfl); (case b => rfl); (case F => with_reducible assumption); (case N => with_reducible assumption); (case c => rfl); (case e => rfl); (case D => with_reducible assumption); (case d => with_reducible assumption)) | (refine' my_store 5 ?F ?N ?D ?c ?e ?d ?_ ?a ?b; (case a => rfl); (case b => rfl); (case F => with_reducible assumption); (case N => with_reducible assumption); (case c => rfl); (case e => rfl); (case D => with_reducible assumption); (case d => with_reducible assumption)) | (refine' my_store 6 ?F ?N ?D ?c ?e ?d ?_ ?a ?b; (case a => rfl); (case b => rfl); (case F => with_reducible assumption); (case N => with_reducible assumption); (case c => rfl); (case e => rfl); (case D => with_reducible assumption); (case d => with_reducible assumption)) | (refine' my_store 7 ?F ?N ?D ?c ?e ?d ?_ ?a ?b; (case a => rfl); (case b => rfl); (case F => with_reducible assumption); (case N => with_reducible assumption); (case c => rfl); (case e => rfl); (case D => with_reducible assumption); (case d => with_reducible assumption)) | (refine' my_store 8 ?F ?N ?D ?c ?e ?d ?_ ?a ?b; (case a => rfl); (case b => rfl); (case F => with_reducible assumption); (case N => with_reducible assumption); (case c => rfl); (case e => rfl); (case D => with_reducible assumption); (case d => with_reducible assumption)) | (refine' my_store 9 ?F ?N ?D ?c ?e ?d ?_ ?a ?b; (case a => rfl); (case b => rfl); (case F => with_reducible assumption); (case N => with_reducible assumption); (case c => rfl); (case e => rfl); (case D => with_reducible assumption); (case d => with_reducible assumption)) | (refine' my_store 10 ?F ?N ?D ?c ?e ?d ?_ ?a ?b; (case a => rfl); (case b => rfl); (case F => with_reducible assumption); (case N => with_reducible assumption); (case c => rfl); (case e => rfl); (case D => with_reducible assumption); (case d => with_reducible assumption)) | (refine' my_store 11 ?F ?N ?D ?c ?e ?d ?_ ?a ?b; (case a => rfl); (case b => rfl); (case F => with_reducible assumption); (case N => with_reducible assumption); (case c => rfl); (case e => rfl); (case D => with_reducible assumption); (case d => with_reducible assumption)) | (refine' my_store 12 ?F ?N ?D ?c ?e ?d ?_ ?a ?b; (case a => rfl); (case b => rfl); (case F => with_reducible assumption); (case N => with_reducible assumption); (case c => rfl); (case e => rfl); (case D => with_reducible assumption); (case d => with_reducible assumption)) | (refine' my_store 13 ?F ?N ?D ?c ?e ?d ?_ ?a ?b; (case a => rfl); (case b => rfl); (case F => with_reducible assumption); (case N => with_reducible assumption); (case c => rfl); (case e => rfl); (case D => with_reducible assumption); (case d => with_reducible assumption)) | (refine' my_store 14 ?F ?N ?D ?c ?e ?d ?_ ?a ?b; (case a => rfl); (case b => rfl); (case F => with_reducible assumption); (case N => with_reducible assumption); (case c => rfl); (case e => rfl); (case D => with_reducible assumption); (case d => with_reducible assumption)) | (refine' my_store 15 ?F ?N ?D ?c ?e ?d ?_ ?a ?b; (case a => rfl); (case b => rfl); (case F => with_reducible assumption); (case N => with_reducible assumption); (case c => rfl); (case e => rfl); (case D => with_reducible assumption); (case d => with_reducible assumption)) | (refine' my_store 16 ?F ?N ?D ?c ?e ?d ?_ ?a ?b; (case a => rfl); (case b => rfl); (case F => with_reducible assumption); (case N => with_reducible assumption); (case c => rfl); (case e => rfl); (case D => with_reducible assumption); (case d => with_reducible assumption)) | (refine' my_store 17 ?F ?N ?D ?c ?e ?d ?_ ?a ?b; (case a => rfl); (case b => rfl); (case F => with_reducible assumption); (case N => with_reducible assumption); (case c => rfl); (case e => rfl); (case D => with_reducible assumption); (case d => with_reducible assumption)) | (refine' my_store 18 ?F ?N ?D ?c ?e ?d ?_ ?a ?b; (case a => rfl); (case b => rfl); (case F => with_reducible assumption); (case N => with_reducible assumption); (case c => rfl); (case e => rfl); (case D => with_reducible assumption); (case d => with_reducible assumption)) | (refine' my_store 19 ?F ?N ?D ?c ?e ?d ?_ ?a ?b; (case a => rfl); (case b => rfl); (case F => with_reducible assumption); (case N => with_reducible assumption); (case c => rfl); (case e => rfl); (case D => with_reducible assumption); (case d => with_reducible assumption))); intro h' o' F' N' nd9 cd9; (try dsimp only at N' nd9); (try k_sweep); (try k_fold))
  k_with "call builtin:len" => (k_here; k_dflt (refine' my_len (vs := sv) ?k1 ?k2 ?k3 ?_; (case k1 => k_asm); (case k2 => k_mem); (case k3 => omega)); (try k_fold))
  k_with "subscriptTail" => (k_here; k_dflt (first
      | (refine' my_sub (vs := sv) ?k1 ?k2 ?k3 ?k4 ?k5 ?_ ?k6; (case k1 => k_asm); (case k2 => k_mem); (case k3 => omega); (case k4 => omega); (case k5 => (rw [Int.toNat_natCast]; assumption)); (case k6 => with_unfolding_all rfl))
      | (refine' my_sub (vs := rs) ?k1 ?k2 ?k3 ?k4 ?k5 ?_ ?k6; (case k1 => k_asm); (case k2 => k_mem); (case k3 => omega); (case k4 => omega); (case k5 => (rw [Int.toNat_natCast]; assumption)); (case k6 => with_unfolding_all rfl))
      | (refine' my_sub (vs := ds) ?k1 ?k2 ?k3 ?k4 ?k5 ?_ ?k6; (case k1 => k_asm); (case k2 => k_mem); (case k3 => omega); (case k4 => omega); (case k5 => (rw [Int.toNat_natCast]; assumption)); (case k6 => with_unfolding_all rfl))
      | (refine' my_sub (vs := ev) ?k1 ?k2 ?k3 ?k4 ?k5 ?_ ?k6; (case k1 => k_asm); (case k2 => k_mem); (case k3 => omega); (case k4 => omega); (case k5 => first | exact hra | (rw [Int.toNat_natCast]; assumption)); (case k6 => with_unfolding_all rfl))
      | (refine' my_sub (vs := [Value.str (Str.ofString "if") x1, Value.str (Str.ofString "let") x2, Value.str (Str.ofString "x") x3]) ?k1 ?k2 ?k3 ?k4 ?k5 ?_ ?k6; (case k1 => k_asm); (case k2 => k_mem); (case k3 => decide); (case k4 => decide); (case k5 => rfl); (case k6 => with_unfolding_all rfl))))
  k_with "call ref" => (first | ((with_reducible show wpAny _ _ (call (Value.ref 210) _) _ _ _); (rename News _ _ _ _ => lN); (try (rename ND _ => lD)); k_here; k_dflt (refine' Says.use (says_root (v := v) (d := d) ?c1) ?k1 ?k2 ?k3 ?k4 ?k5 ?kK ?kd ?ku ?_; (case k4 => exact lN); (case c1 => (refine IdnIn.mono hI (fun p hp => ?_); (repeat (first | exact hp | apply List.Mem.tail)))); (case k1 => k_asm); (case k2 => k_asm); (case k3 => k_asm); (case k5 => k_asm); (case kK => first | exact rfl | assumption); (case kd => ktr_room); (case ku => ktr_units)); intro r9 n9 h9 tk9 F9 N9 O9; (obtain ⟨e9, e8⟩ := O9); subst r9; subst n9; (try dsimp only); (try k_fold)) | ((with_reducible show wpAny _ _ (call (Value.ref 217) _) _ _ _); (rename News _ _ _ _ => lN); (try (rename ND _ => lD)); k_here; k_dflt (refine' Says.use (says_title (v := v) (d := d) ?c1) ?k1 ?k2 ?k3 ?k4 ?k5 ?kK ?kd ?ku ?_; (case k4 => exact lN); (case c1 => (refine IdnIn.mono hI (fun p hp => ?_); (repeat (first | exact hp | apply List.Mem.tail)))); (case k1 => k_asm); (case k2 => k_asm); (case k3 => k_asm); (case k5 => k_asm); (case kK => first | exact rfl | assumption); (case kd => ktr_room); (case ku => ktr_units)); intro r9 n9 h9 tk9 F9 N9 O9; (obtain ⟨⟨t9, e9⟩, e8⟩ := O9); rw [hrx] at e9; subst r9; subst n9; (try dsimp only); (try k_fold)) | ((with_reducible show wpAny _ _ (call (Value.ref 399) _) _ _ _); (rename News _ _ _ _ => lN); (try (rename ND _ => lD)); k_here; k_dflt (refine' Says.use (says_depth_ (v := v) (d := d) ?c1 ?c2) ?k1 ?k2 ?k3 ?k4 ?k5 ?kK ?kd ?ku ?_; (case k4 => exact lN); (case c1 => (refine IdnIn.mono hI (fun p hp => ?_); (repeat (first | exact hp | apply List.Mem.tail)))); (case c2 => omega); (case k1 => k_asm); (case k2 => k_asm); (case k3 => k_asm); (case k5 => k_asm); (case kK => first | exact rfl | assumption); (case kd => ktr_room); (case ku => ktr_units)); intro r9 n9 h9 tk9 F9 N9 O9; (obtain ⟨⟨t9, e9⟩, e8⟩ := O9); subst r9; subst n9; (try dsimp only); (try k_fold)) | ((with_reducible show wpAny _ _ (call (Value.ref 224) _) _ _ _); (rename News _ _ _ _ => lN); (try (rename ND _ => lD)); k_here; k_dflt (refine' Says.use (says_named (v := v) (d := d) ?c1) ?k1 ?k2 ?k3 ?k4 ?k5 ?kK ?kd ?ku ?_; (case k4 => exact lN); (case c1 => (refine IdnIn.mono hI (fun p hp => ?_); (repeat (first | exact hp | apply List.Mem.tail)))); (case k1 => k_asm); (case k2 => k_asm); (case k3 => k_asm); (case k5 => k_asm); (case kK => first | exact rfl | assumption); (case kd => ktr_room); (case ku => ktr_units)); intro r9 n9 h9 tk9 F9 N9 O9; (obtain ⟨e9, e8⟩ := O9); rw [hrx] at e9; (simp only [eq_ii, eq_il, eq_ix, eq_li, eq_ll, eq_lx, eq_xi, eq_xl, eq_xx] at e9); subst r9; subst n9; (try dsimp only); (try k_fold)) | ((with_reducible show wpAny _ _ (call (Value.ref 196) _) _ _ _); (rename News _ _ _ _ => lN); (try (rename ND _ => lD)); k_here; k_dflt (refine' Says.use (says_is_id (v := v) (d := d) ?c1) ?k1 ?k2 ?k3 ?k4 ?k5 ?kK ?kd ?ku ?_; (case k4 => exact lN); (case c1 => (refine IdnIn.mono hI (fun p hp => ?_); (repeat (first | exact hp | apply List.Mem.tail)))); (case k1 => k_asm); (case k2 => k_asm); (case k3 => k_asm); (case k5 => k_asm); (case kK => first | exact rfl | assumption); (case kd => ktr_room); (case ku => ktr_units)); intro r9 n9 h9 tk9 F9 N9 O9; (obtain ⟨e9, e8⟩ := O9); subst r9; subst n9; (try dsimp only); (try k_fold)) | ((with_reducible show wpAny _ _ (call (Value.ref 203) _) _ _ _); (rename News _ _ _ _ => lN); (try (rename ND _ => lD)); k_here; k_dflt (refine' Says.use (says_key_of (v := v) (d := d) ?c1) ?k1 ?k2 ?k3 ?k4 ?k5 ?kK ?kd ?ku ?_; (case k4 => exact lN); (case c1 => (refine IdnIn.mono hI (fun p hp => ?_); (repeat (first | exact hp | apply List.Mem.tail)))); (case k1 => k_asm); (case k2 => k_asm); (case k3 => k_asm); (case k5 => k_asm); (case kK => first | exact rfl | assumption); (case kd => ktr_room); (case ku => ktr_units)); intro r9 n9 h9 tk9 F9 N9 O9; (obtain ⟨⟨t9, e9⟩, e8⟩ := O9); subst r9; subst n9; (try dsimp only); (try k_fold)))
  k_with "CompEnd" => ((rename News _ _ _ _ => lN); (refine LCg.CompEnd.intro (by k_asm) lN _ (fun _ h => h) ?off ?src ?_); (case off => (simp only [LCg.Off3, and_true]; with_reducible assumption)); (case src => exact Or.inr ⟨_, by k_mem, rfl, _, rfl⟩); clear lN)
  k_with "call type:range" => ((rename Fr _ _ _ _ => lF'); (rename News _ _ _ _ => lN'); (with_unfolding_all refine range1_rows lF' lN' ?_); intro h9 tk9 t9 u9 v9 rgX F9 N9 kp9; clear lF' lN')
  k_with "exec For Name Call cons nil" => (k_here; (rename Fr _ _ _ _ => lF'); (with_unfolding_all refine' For_invVF lF' ?k1 ?k2 ?_ (hE := hE); (case k1 => exact rfl); (case k2 => exact rfl); k_whole))
  k_with "pyIter ref" => (k_dflt ((rename Fr _ _ _ _ => lF); (rename News _ _ _ _ => lN); (rename ND _ => lD); (rename IsRange _ _ _ _ _ _ _ _ => rgX); (refine' rd_range (n := sv.length) (fun _ => True) rfl rgX ?small (rangeSize_nat _ _) lF lN trivial (fun i' k' t' h' tk' own' hk' hlt' hI' hoff' F' N' => ?turn) (fun u' h' tk' hI' F' N' => ?done)); (case small => exact small_one (by omega) (by omega) (by omega) (by omega)); (case turn => exact meant_turn (lv := i') B X T (by omega) (by omega) hi (Hx.mono (fun p hp => (.tail _ (.tail _ (.tail _ (.tail _ (.tail _ hp))))))) (.tail _ (.tail _ (.tail _ (.tail _ (.tail _ mb'))))) (.tail _ (.tail _ (.tail _ (.tail _ (.tail _ mo))))) (.tail _ (.tail _ (.tail _ (.tail _ (.tail _ ms))))) (.tail _ (.tail _ (.tail _ (.head _)))) (by assumption) hk hdk (hI.mono (fun p hp => (.tail _ (.tail _ (.tail _ (.tail _ (.tail _ hp))))))) (by omega) (by omega) F' N')))
  k_with "RsPost" => (dsimp only [RsPost])
  k_steps
  all_goals try (exfalso; first | exact absurd rfl (by with_reducible assumption) | exact absurd hpar (by with_reducible assumption))
  (rename News _ _ _ _ => lN); (rename ND _ => lD); (rename Fr _ _ _ _ => lF)
  subst hfo
  have q9 := news_sub lN (fun p hp => .tail _ (.tail _ (mem_drop3 hp)))
  have d9 := (lD.front 2).tl
  refine ⟨_, _, _, _ :: _ :: fx, rfl, lF, q9, d9, ?_⟩
  exact CkJ.of (lawM_self rfl rfl rfl rfl rfl) (by with_reducible assumption) (by with_reducible assumption)
theorem check_turn_1 {w : World} {mean : ExcName → Option Value} {mg mb : Str → Option Value} {dp un : Nat} {gd : Option (List Code)} {fa : Addr} {ccd : Value} {outer : List Env} {A₀ : Around} {base h₀ : Heap} {L : Addr} {s : Shared} {Q : Flow → Shared → Prop} {E : Value → Shared → Prop}
    {D wA wd eA sA bA rA pA oA xA ke kb kr kp ks ko kx : Nat} {r0 : Addr} {i : Nat} {n : Int} {ids : List Idn} {Bs : List (Option (Nat × Nat))} {Rs Ds : List Int} {nms : List Nm} {Bds : List (List (Int × Str))} {ev bs rs ds sv ov : List Value} {x1 x2 x3 : Tok} {fx own nx : Led} {k : Nat} {t : Tok} {m : Str → Option Value} {d : Idn} {v : Value} {tr td : Tok}
    (B : Below A₀ base outer h₀) (X : (_root_.Mine.tp.heap_39 w.params).In h₀) (T : Top _root_.Mine.tp.view_39 [] mean mg mb h₀) (hd : dp + 60 < recursionLimit) (hu : un + 8 * 60 < cLine) (hi : i ≤ 4) (hE : PassesOwn (model PySem.Challenge.rw_nt0172_01.row.prog w) (lawTop dp un gd L fa ccd outer) (lawEnv L fa ccd) E)
    (H : LvFix w L D wA wd eA sA r0 i n ids Bs Rs Ds nms Bds ev bs rs ds sv ov fx) (me : (eA, listOf ev.toArray ke) ∈ fx) (mb' : (bA, listOf bs.toArray kb) ∈ fx) (mr : (rA, listOf rs.toArray kr) ∈ fx) (mp : (pA, listOf ds.toArray kp) ∈ fx) (ms : (sA, listOf sv.toArray ks) ∈ fx) (mo : (oA, listOf ov.toArray ko) ∈ fx)
    (mx : (xA, listOf [Value.str (Str.ofString "if") x1, Value.str (Str.ofString "let") x2, Value.str (Str.ofString "x") x3].toArray kx) ∈ fx) (hk : k < ids.length)
    (hdk : ids[k]? = some d) (hv : ev[k]? = some v) (hI : IdnIn w fx v d) (hrv : rs[k]? = some (.int 1 tr)) (hdv : ds[k]? = some (.int d.depth td)) (hdi : d.depth ≤ i) (hrx : d.rootX = Str.ofString "let") (hra : ev[Int.toNat 1]? = some (.ref d.rootA))
    (hJ : CkJ L xA bA rA pA oA fx m nx)
    (F : Fr h₀ L s.heap (fun y => if y = Str.ofString "number" then some (.int (0 + (k : Int)) t) else m y)) (N : News h₀ L s.heap (nx ++ own)) (ndx : ND (nx ++ own)) :
    wpAny (model PySem.Challenge.rw_nt0172_01.row.prog w) (lawTop dp un gd L fa ccd outer) (execs checkBody (lawEnv L fa ccd))
      (RsPost h₀ L (CkJ L xA bA rA pA oA fx) own s Q) E s := by
  (revert X; k_fill; intro X)
  k_with_none
  conv => arg 4; arg 1; whnf
  delta lawTop lawEnv
  conv in (occs := *) lawSc => all_goals whnf
  obtain @⟨o4, o6, v4, v6, u, h4, h6⟩ := hJ
  simp only [List.cons_append] at N ndx
  obtain ⟨fo, hfo⟩ : ∃ fo, fo = fx ++ own := ⟨_, rfl⟩
  rw [← hfo] at N ndx
  have hsub : ∀ p ∈ fx, p ∈ fo := fun p hp => hfo ▸ List.mem_append.mpr (.inl hp)
  have Hx := H.mono hsub
  replace me := hsub _ me
  replace mb' := hsub _ mb'
  replace mr := hsub _ mr
  replace mp := hsub _ mp
  replace ms := hsub _ ms
  replace mo := hsub _ mo
  replace mx := hsub _ mx
  obtain ⟨oc3, m3, d3⟩ := Hx.c3
  obtain ⟨oc5, m5, d5⟩ := Hx.c5
  have h3 := Hx.h3
  have hl := Hx.hl
  have hsl := Hx.hSl
  replace hI := hI.mono hsub
  have hpar := d.fparity
  rw [Int.zero_add] at F
  unfold lawM at F
  k_with "newTuple" => (k_here; k_dflt (refine' my_tuple ?k1 ?k2 ?k3 ?k4 ?_; (case k1 => k_asm); (case k2 => k_asm); (case k3 => with_reducible assumption); (case k4 => exact Nat.le_of_ble_eq_true rfl)); intro l' h' F' N' l1 nd9; (try k_sweep); (try k_fold))
  k_with "newList" => (k_here; k_dflt (refine' my_list ?k1 ?k2 ?k3 ?k4 ?_; (case k1 => k_asm); (case k2 => k_asm); (case k3 => with_reducible assumption); (case k4 => exact Nat.le_of_ble_eq_true rfl)); intro l' h' F' N' l1 nd9; (try k_sweep); (try k_fold))
  k_with "storeName" => (k_here; k_dflt (first | (refine' my_store 0 ?F ?N ?D ?c ?e ?d ?_ ?a ?b; (case a => rfl); (case b => rfl); (case F => with_reducible assumption); (case N => with_reducible assumption); (case c => rfl); (case e => rfl); (case D => with_reducible assumption); (case d => with_reducible assumption)) | (refine' my_store 1 ?F ?N ?D ?c ?e ?d ?_ ?a ?b; (case a => rfl); (case b => rfl); (case F => with_reducible assumption); (case N => with_reducible assumption); (case c => rfl); (case e => rfl); (case D => with_reducible assumption); (case d => with_reducible assumption)) | (refine' my_store 2 ?F ?N ?D ?c ?e ?d ?_ ?a ?b; (case a => rfl); (case b => rfl); (case F => with_reducible assumption); (case N => with_reducible assumption); (case c => rfl); (case e => rfl); (case D => with_reducible assumption); (case d => with_reducible assumption)) | (refine' my_store 3 ?F ?N ?D ?c ?e ?d ?_ ?a ?b; (case a => rfl); (case b => rfl); (case F => with_reducible assumption); (case N => with_reducible assumption); (case c => rfl); (case e => rfl); (case D => with_reducible assumption); (case d => with_reducible assumption)) | (refine' my_store 4 ?F ?N ?D ?c ?e ?d ?_ ?a ?b; (case a => rfl); (case b => rfl); (case F => with_reducible assumption); (case N => with_reducible assumption); (case c => rfl); (case e => rfl); (case D => with_reducible assumption); (case d => with_reducible assumption)) | (refine' my_store 5 ?F ?N ?D ?c ?e ?d ?_ ?a ?b; (case a => rfl); (case b => rfl); (case F => with_reducible assumption); (case N => with_reducible assumption); (case c => rfl); (case e => rfl); (case D => with_reducible assumption); (case d => with_reducible assumption)) | (refine' my_store 6 ?F ?N ?D ?c ?e ?d ?_ ?a ?b; (case a => rfl); (case b => rfl); (case F => with_reducible assumption); (case N => with_reducible assumption); (case c => rfl); (case e => rfl); (case D => with_reducible assumption); (case d => with_reducible assumption)) | (refine' my_store 7 ?F ?N ?D ?c ?e ?d ?_ ?a ?b; (case a => rfl); (case b => rfl); (case F => with_reducible assumption); (case N => with_reducible assumption); (case c => rfl); (case e => rfl); (case D => with_reducible assumption); (case d => with_reducible assumption)) | (refine' my_store 8 ?F ?N ?D ?c ?e ?d ?_ ?a ?b; (case a => rfl); (case b => rfl); (case F => with_reducible assumption); (case N => with_reducible assumption); (case c => rfl); (case e => rfl); (case D => with_reducible assumption); (case d => with_reducible assumption)) | (refine' my_store 9 ?F ?N ?D ?c ?e ?d ?_ ?a ?b; (case a => rfl); (case b => rfl); (case F => with_reducible assumption); (case N => with_reducible assumption); (case c => rfl); (case e => rfl); (case D => with_reducible assumption); (case d => with_reducible assumption)) | (refine' my_store 10 ?F ?N ?D ?c ?e ?d ?_ ?a ?b; (case a => rfl); (case b => rfl); (case F => with_reducible assumption); (case N => with_reducible assumption); (case c => rfl); (case e => rfl); (case D => with_reducible assumption); (case d => with_reducible assumption)) | (refine' my_store 11 ?F ?N ?D ?c ?e ?d ?_ ?a ?b; (case a => rfl); (case b => rfl); (case F => with_reducible assumption); (case N => with_reducible assumption); (case c => rfl); (case e => rfl); (case D => with_reducible assumption); (case d => with_reducible assumption)) | (refine' my_store 12 ?F ?N ?D ?c ?e ?d ?_ ?a ?b; (case a => rfl); (case b => rfl); (case F => with_reducible assumption); (case N => with_reducible assumption); (case c => rfl); (case e => rfl); (case D => with_reducible assumption); (case d => with_reducible assumption)) | (refine' my_store 13 ?F ?N ?D ?c ?e ?d ?_ ?a ?b; (case a => rfl); (case b => rfl); (case F => with_reducible assumption); (case N => with_reducible assumption); (case c => rfl); (case e => rfl); (case D => with_reducible assumption); (case d => with_reducible assumption)) | (refine' my_store 14 ?F ?N ?D ?c ?e ?d ?_ ?a ?b; (case a => rfl); (case b => rfl); (case F => with_reducible assumption); (case N => with_reducible assumption); (case c => rfl); (case e => rfl); (case D => with_reducible assumption); (case d => with_reducible assumption)) | (refine' my_store 15 ?F ?N ?D ?c ?e ?d ?_ ?a ?b; (case a => rfl); (case b => rfl); (case F => with_reducible assumption); (case N => with_reducible assumption); (case c => rfl); (case e => rfl); (case D => with_reducible assumption); (case d => with_reducible assumption)) | (refine' my_store 16 ?F ?N ?D ?c ?e ?d ?_ ?a ?b; (case a => rfl); (case b => rfl); (case F => with_reducible assumption); (case N => with_reducible assumption); (case c => rfl); (case e => rfl); (case D => with_reducible assumption); (case d => with_reducible assumption)) | (refine' my_store 17 ?F ?N ?D ?c ?e ?d ?_ ?a ?b; (case a => rfl); (case b => rfl); (case F => with_reducible assumption); (case N => with_reducible assumption); (case c => rfl); (case e => rfl); (case D => with_reducible assumption); (case d => with_reducible assumption)) | (refine' my_store 18 ?F ?N ?D ?c ?e ?d ?_ ?a ?b; (case a => rfl); (case b => rfl); (case F => with_reducible assumption); (case N => with_reducible assumption); (case c => rfl); (case e => rfl); (case D => with_reducible assumption); (case d => with_reducible assumption)) | (refine' my_store 19 ?F ?N ?D ?c ?e ?d ?_ ?a ?b; (case a => rfl); (case b => rfl); (case F => with_reducible assumption); (case N => with_reducible assumption); (case c => rfl); (case e => rfl); (case D => with_reducible assumption); (case d => with_reducible assumption))); intro h' o' F' N' nd9 cd9; (try dsimp only at N' nd9); (try k_sweep); (try k_fold))
  k_with "call builtin:len" => (k_here; k_dflt (refine' my_len (vs := sv) ?k1 ?k2 ?k3 ?_; (case k1 => k_asm); (case k2 => k_mem); (case k3 => omega)); (try k_fold))
  k_with "subscriptTail" => (k_here; k_dflt (first
      | (refine' my_sub (vs := sv) ?k1 ?k2 ?k3 ?k4 ?k5 ?_ ?k6; (case k1 => k_asm); (case k2 => k_mem); (case k3 => omega); (case k4 => omega); (case k5 => (rw [Int.toNat_natCast]; assumption)); (case k6 => with_unfolding_all rfl))
      | (refine' my_sub (vs := rs) ?k1 ?k2 ?k3 ?k4 ?k5 ?_ ?k6; (case k1 => k_asm); (case k2 => k_mem); (case k3 => omega); (case k4 => omega); (case k5 => (rw [Int.toNat_natCast]; assumption)); (case k6 => with_unfolding_all rfl))
      | (refine' my_sub (vs := ds) ?k1 ?k2 ?k3 ?k4 ?k5 ?_ ?k6; (case k1 => k_asm); (case k2 => k_mem); (case k3 => omega); (case k4 => omega); (case k5 => (rw [Int.toNat_natCast]; assumption)); (case k6 => with_unfolding_all rfl))
      | (refine' my_sub (vs := ev) ?k1 ?k2 ?k3 ?k4 ?k5 ?_ ?k6; (case k1 => k_asm); (case k2 => k_mem); (case k3 => omega); (case k4 => omega); (case k5 => first | exact hra | (rw [Int.toNat_natCast]; assumption)); (case k6 => with_unfolding_all rfl))
      | (refine' my_sub (vs := [Value.str (Str.ofString "if") x1, Value.str (Str.ofString "let") x2, Value.str (Str.ofString "x") x3]) ?k1 ?k2 ?k3 ?k4 ?k5 ?_ ?k6; (case k1 => k_asm); (case k2 => k_mem); (case k3 => decide); (case k4 => decide); (case k5 => rfl); (case k6 => with_unfolding_all rfl))))
  k_with "call ref" => (first | ((with_reducible show wpAny _ _ (call (Value.ref 210) _) _ _ _); (rename News _ _ _ _ => lN); (try (rename ND _ => lD)); k_here; k_dflt (refine' Says.use (says_root (v := v) (d := d) ?c1) ?k1 ?k2 ?k3 ?k4 ?k5 ?kK ?kd ?ku ?_; (case k4 => exact lN); (case c1 => (refine IdnIn.mono hI (fun p hp => ?_); (repeat (first | exact hp | apply List.Mem.tail)))); (case k1 => k_asm); (case k2 => k_asm); (case k3 => k_asm); (case k5 => k_asm); (case kK => first | exact rfl | assumption); (case kd => ktr_room); (case ku => ktr_units)); intro r9 n9 h9 tk9 F9 N9 O9; (obtain ⟨e9, e8⟩ := O9); subst r9; subst n9; (try dsimp only); (try k_fold)) | ((with_reducible show wpAny _ _ (call (Value.ref 217) _) _ _ _); (rename News _ _ _ _ => lN); (try (rename ND _ => lD)); k_here; k_dflt (refine' Says.use (says_title (v := v) (d := d) ?c1) ?k1 ?k2 ?k3 ?k4 ?k5 ?kK ?kd ?ku ?_; (case k4 => exact lN); (case c1 => (refine IdnIn.mono hI (fun p hp => ?_); (repeat (first | exact hp | apply List.Mem.tail)))); (case k1 => k_asm); (case k2 => k_asm); (case k3 => k_asm); (case k5 => k_asm); (case kK => first | exact rfl | assumption); (case kd => ktr_room); (case ku => ktr_units)); intro r9 n9 h9 tk9 F9 N9 O9; (obtain ⟨⟨t9, e9⟩, e8⟩ := O9); rw [hrx] at e9; subst r9; subst n9; (try dsimp only); (try k_fold)) | ((with_reducible show wpAny _ _ (call (Value.ref 399) _) _ _ _); (rename News _ _ _ _ => lN); (try (rename ND _ => lD)); k_here; k_dflt (refine' Says.use (says_depth_ (v := v) (d := d) ?c1 ?c2) ?k1 ?k2 ?k3 ?k4 ?k5 ?kK ?kd ?ku ?_; (case k4 => exact lN); (case c1 => (refine IdnIn.mono hI (fun p hp => ?_); (repeat (first | exact hp | apply List.Mem.tail)))); (case c2 => omega); (case k1 => k_asm); (case k2 => k_asm); (case k3 => k_asm); (case k5 => k_asm); (case kK => first | exact rfl | assumption); (case kd => ktr_room); (case ku => ktr_units)); intro r9 n9 h9 tk9 F9 N9 O9; (obtain ⟨⟨t9, e9⟩, e8⟩ := O9); subst r9; subst n9; (try dsimp only); (try k_fold)) | ((with_reducible show wpAny _ _ (call (Value.ref 224) _) _ _ _); (rename News _ _ _ _ => lN); (try (rename ND _ => lD)); k_here; k_dflt (refine' Says.use (says_named (v := v) (d := d) ?c1) ?k1 ?k2 ?k3 ?k4 ?k5 ?kK ?kd ?ku ?_; (case k4 => exact lN); (case c1 => (refine IdnIn.mono hI (fun p hp => ?_); (repeat (first | exact hp | apply List.Mem.tail)))); (case k1 => k_asm); (case k2 => k_asm); (case k3 => k_asm); (case k5 => k_asm); (case kK => first | exact rfl | assumption); (case kd => ktr_room); (case ku => ktr_units)); intro r9 n9 h9 tk9 F9 N9 O9; (obtain ⟨e9, e8⟩ := O9); rw [hrx] at e9; (simp only [eq_ii, eq_il, eq_ix, eq_li, eq_ll, eq_lx, eq_xi, eq_xl, eq_xx] at e9); subst r9; subst n9; (try dsimp only); (try k_fold)) | ((with_reducible show wpAny _ _ (call (Value.ref 196) _) _ _ _); (rename News _ _ _ _ => lN); (try (rename ND _ => lD)); k_here; k_dflt (refine' Says.use (says_is_id (v := v) (d := d) ?c1) ?k1 ?k2 ?k3 ?k4 ?k5 ?kK ?kd ?ku ?_; (case k4 => exact lN); (case c1 => (refine IdnIn.mono hI (fun p hp => ?_); (repeat (first | exact hp | apply List.Mem.tail)))); (case k1 => k_asm); (case k2 => k_asm); (case k3 => k_asm); (case k5 => k_asm); (case kK => first | exact rfl | assumption); (case kd => ktr_room); (case ku => ktr_units)); intro r9 n9 h9 tk9 F9 N9 O9; (obtain ⟨e9, e8⟩ := O9); subst r9; subst n9; (try dsimp only); (try k_fold)) | ((with_reducible show wpAny _ _ (call (Value.ref 203) _) _ _ _); (rename News _ _ _ _ => lN); (try (rename ND _ => lD)); k_here; k_dflt (refine' Says.use (says_key_of (v := v) (d := d) ?c1) ?k1 ?k2 ?k3 ?k4 ?k5 ?kK ?kd ?ku ?_; (case k4 => exact lN); (case c1 => (refine IdnIn.mono hI (fun p hp => ?_); (repeat (first | exact hp | apply List.Mem.tail)))); (case k1 => k_asm); (case k2 => k_asm); (case k3 => k_asm); (case k5 => k_asm); (case kK => first | exact rfl | assumption); (case kd => ktr_room); (case ku => ktr_units)); intro r9 n9 h9 tk9 F9 N9 O9; (obtain ⟨⟨t9, e9⟩, e8⟩ := O9); subst r9; subst n9; (try dsimp only); (try k_fold)))
  k_with "CompEnd" => ((rename News _ _ _ _ => lN); (refine LCg.CompEnd.intro (by k_asm) lN _ (fun _ h => h) ?off ?src ?_); (case off => (simp only [LCg.Off3, and_true]; with_reducible assumption)); (case src => exact Or.inr ⟨_, by k_mem, rfl, _, rfl⟩); clear lN)
  k_with "call type:range" => ((rename Fr _ _ _ _ => lF'); (rename News _ _ _ _ => lN'); (with_unfolding_all refine range1_rows lF' lN' ?_); intro h9 tk9 t9 u9 v9 rgX F9 N9 kp9; clear lF' lN')
  k_with "exec For Name Call cons nil" => (k_here; (rename Fr _ _ _ _ => lF'); (with_unfolding_all refine' For_invVF lF' ?k1 ?k2 ?_ (hE := hE); (case k1 => exact rfl); (case k2 => exact rfl); k_whole))
  k_with "pyIter ref" => (k_dflt ((rename Fr _ _ _ _ => lF); (rename News _ _ _ _ => lN); (rename ND _ => lD); (rename IsRange _ _ _ _ _ _ _ _ => rgX); (refine' rd_range (n := sv.length) (fun _ => True) rfl rgX ?small (rangeSize_nat _ _) lF lN trivial (fun i' k' t' h' tk' own' hk' hlt' hI' hoff' F' N' => ?turn) (fun u' h' tk' hI' F' N' => ?done)); (case small => exact small_one (by omega) (by omega) (by omega) (by omega)); (case turn => exact meant_turn (lv := i') B X T (by omega) (by omega) hi (Hx.mono (fun p hp => (.tail _ (.tail _ (.tail _ (.tail _ (.tail _ hp))))))) (.tail _ (.tail _ (.tail _ (.tail _ (.tail _ mb'))))) (.tail _ (.tail _ (.tail _ (.tail _ (.tail _ mo))))) (.tail _ (.tail _ (.tail _ (.tail _ (.tail _ ms))))) (.tail _ (.tail _ (.tail _ (.head _)))) (by assumption) hk hdk (hI.mono (fun p hp => (.tail _ (.tail _ (.tail _ (.tail _ (.tail _ hp))))))) (by omega) (by omega) F' N')))
  k_with "RsPost" => (dsimp only [RsPost])
  k_steps
  all_goals try (exfalso; first | exact absurd rfl (by with_reducible assumption) | exact absurd hpar (by with_reducible assumption))
  (rename News _ _ _ _ => lN); (rename ND _ => lD); (rename Fr _ _ _ _ => lF)
  subst hfo
  have q9 := news_sub lN (fun p hp => .tail _ (.tail _ (mem_drop3 hp)))
  have d9 := (lD.front 2).tl
  refine ⟨_, _, _, _ :: _ :: fx, rfl, lF, q9, d9, ?_⟩
  exact CkJ.of (lawM_self rfl rfl rfl rfl rfl) (by with_reducible assumption) (by with_reducible assumption)
theorem check_turn_2 {w : World} {mean : ExcName → Option Value} {mg mb : Str → Option Value} {dp un : Nat} {gd : Option (List Code)} {fa : Addr} {ccd : Value} {outer : List Env} {A₀ : Around} {base h₀ : Heap} {L : Addr} {s : Shared} {Q : Flow → Shared → Prop} {E : Value → Shared → Prop}
    {D wA wd eA sA bA rA pA oA xA ke kb kr kp ks ko kx : Nat} {r0 : Addr} {i : Nat} {n : Int} {ids : List Idn} {Bs : List (Option (Nat × Nat))} {Rs Ds : List Int} {nms : List Nm} {Bds : List (List (Int × Str))} {ev bs rs ds sv ov : List Value} {x1 x2 x3 : Tok} {fx own nx : Led} {k : Nat} {t : Tok} {m : Str → Option Value} {d : Idn} {v : Value} {tr td : Tok}
    (B : Below A₀ base outer h₀) (X : (_root_.Mine.tp.heap_39 w.params).In h₀) (T : Top _root_.Mine.tp.view_39 [] mean mg mb h₀) (hd : dp + 60 < recursionLimit) (hu : un + 8 * 60 < cLine) (hi : i ≤ 4) (hE : PassesOwn (model PySem.Challenge.rw_nt0172_01.row.prog w) (lawTop dp un gd L fa ccd outer) (lawEnv L fa ccd) E)
    (H : LvFix w L D wA wd eA sA r0 i n ids Bs Rs Ds nms Bds ev bs rs ds sv ov fx) (me : (eA, listOf ev.toArray ke) ∈ fx) (mb' : (bA, listOf bs.toArray kb) ∈ fx) (mr : (rA, listOf rs.toArray kr) ∈ fx) (mp : (pA, listOf ds.toArray kp) ∈ fx) (ms : (sA, listOf sv.toArray ks) ∈ fx) (mo : (oA, listOf ov.toArray ko) ∈ fx)
    (mx : (xA, listOf [Value.str (Str.ofString "if") x1, Value.str (Str.ofString "let") x2, Value.str (Str.ofString "x") x3].toArray kx) ∈ fx) (hk : k < ids.length)
    (hdk : ids[k]? = some d) (hv : ev[k]? = some v) (hI : IdnIn w fx v d) (hrv : rs[k]? = some (.int 2 tr)) (hdv : ds[k]? = some (.int d.depth td)) (hdi : d.depth ≤ i) (hrx : d.rootX = Str.ofString "x") (hra : ev[Int.toNat 2]? = some (.ref d.rootA))
    (hJ : CkJ L xA bA rA pA oA fx m nx)
    (F : Fr h₀ L s.heap (fun y => if y = Str.ofString "number" then some (.int (0 + (k : Int)) t) else m y)) (N : News h₀ L s.heap (nx ++ own)) (ndx : ND (nx ++ own)) :
    wpAny (model PySem.Challenge.rw_nt0172_01.row.prog w) (lawTop dp un gd L fa ccd outer) (execs checkBody (lawEnv L fa ccd))
      (RsPost h₀ L (CkJ L xA bA rA pA oA fx) own s Q) E s := by
  (revert X; k_fill; intro X)
  k_with_none
  conv => arg 4; arg 1; whnf
  delta lawTop lawEnv
  conv in (occs := *) lawSc => all_goals whnf
  obtain @⟨o4, o6, v4, v6, u, h4, h6⟩ := hJ
  simp only [List.cons_append] at N ndx
  obtain ⟨fo, hfo⟩ : ∃ fo, fo = fx ++ own := ⟨_, rfl⟩
  rw [← hfo] at N ndx
  have hsub : ∀ p ∈ fx, p ∈ fo := fun p hp => hfo ▸ List.mem_append.mpr (.inl hp)
  have Hx := H.mono hsub
  replace me := hsub _ me
  replace mb' := hsub _ mb'
  replace mr := hsub _ mr
  replace mp := hsub _ mp
  replace ms := hsub _ ms
  replace mo := hsub _ mo
  replace mx := hsub _ mx
  obtain ⟨oc3, m3, d3⟩ := Hx.c3
  obtain ⟨oc5, m5, d5⟩ := Hx.c5
  have h3 := Hx.h3
  have hl := Hx.hl
  have hsl := Hx.hSl
  replace hI := hI.mono hsub
  have hpar := d.fparity
  rw [Int.zero_add] at F
  unfold lawM at F
  k_with "newTuple" => (k_here; k_dflt (refine' my_tuple ?k1 ?k2 ?k3 ?k4 ?_; (case k1 => k_asm); (case k2 => k_asm); (case k3 => with_reducible assumption); (case k4 => exact Nat.le_of_ble_eq_true rfl)); intro l' h' F' N' l1 nd9; (try k_sweep); (try k_fold))
  k_with "newList" => (k_here; k_dflt (refine' my_list ?k1 ?k2 ?k3 ?k4 ?_; (case k1 => k_asm); (case k2 => k_asm); (case k3 => with_reducible assumption); (case k4 => exact Nat.le_of_ble_eq_true rfl)); intro l' h' F' N' l1 nd9; (try k_sweep); (try k_fold))
  k_with "storeName" => (k_here; k_dflt (first | (refine' my_store 0 ?F ?N ?D ?c ?e ?d ?_ ?a ?b; (case a => rfl); (case b => rfl); (case F => with_reducible assumption); (case N => with_reducible assumption); (case c => rfl); (case e => rfl); (case D => with_reducible assumption); (case d => with_reducible assumption)) | (refine' my_store 1 ?F ?N ?D ?c ?e ?d ?_ ?a ?b; (case a => rfl); (case b => rfl); (case F => with_reducible assumption); (case N => with_reducible assumption); (case c => rfl); (case e => rfl); (case D => with_reducible assumption); (case d => with_reducible assumption)) | (refine' my_store 2 ?F ?N ?D ?c ?e ?d ?_ ?a ?b; (case a => rfl); (case b => rfl); (case F => with_reducible assumption); (case N => with_reducible assumption); (case c => rfl); (case e => rfl); (case D => with_reducible assumption); (case d => with_reducible assumption)) | (refine' my_store 3 ?F ?N ?D ?c ?e ?d ?_ ?a ?b; (case a => rfl); (case b => rfl); (case F => with_reducible assumption); (case N => with_reducible assumption); (case c => rfl); (case e => rfl); (case D => with_reducible assumption); (case d => with_reducible assumption)) | (refine' my_store 4 ?F ?N ?D ?c ?e ?d ?_ ?a ?b; (case a => rfl); (case b => rfl); (case F => with_reducible assumption); (case N => with_reducible assumption); (case c => rfl); (case e => rfl); (case D => with_reducible assumption); (case d => with_reducible assumption)) | (refine' my_store 5 ?F ?N ?D ?c ?e ?d ?_ ?a ?b; (case a => rfl); (case b => rfl); (case F => with_reducible assumption); (case N => with_reducible assumption); (case c => rfl); (case e => rfl); (case D => with_reducible assumption); (case d => with_reducible assumption)) | (refine' my_store 6 ?F ?N ?D ?c ?e ?d ?_ ?a ?b; (case a => rfl); (case b => rfl); (case F => with_reducible assumption); (case N => with_reducible assumption); (case c => rfl); (case e => rfl); (case D => with_reducible assumption); (case d => with_reducible assumption)) | (refine' my_store 7 ?F ?N ?D ?c ?e ?d ?_ ?a ?b; (case a => rfl); (case b => rfl); (case F => with_reducible assumption); (case N => with_reducible assumption); (case c => rfl); (case e => rfl); (case D => with_reducible assumption); (case d => with_reducible assumption)) | (refine' my_store 8 ?F ?N ?D ?c ?e ?d ?_ ?a ?b; (case a => rfl); (case b => rfl); (case F => with_reducible assumption); (case N => with_reducible assumption); (case c => rfl); (case e => rfl); (case D => with_reducible assumption); (case d => with_reducible assumption)) | (refine' my_store 9 ?F ?N ?D ?c ?e ?d ?_ ?a ?b; (case a => rfl); (case b => rfl); (case F => with_reducible assumption); (case N => with_reducible assumption); (case c => rfl); (case e => rfl); (case D => with_reducible assumption); (case d => with_reducible assumption)) | (refine' my_store 10 ?F ?N ?D ?c ?e ?d ?_ ?a ?b; (case a => rfl); (case b => rfl); (case F => with_reducible assumption); (case N => with_reducible assumption); (case c => rfl); (case e => rfl); (case D => with_reducible assumption); (case d => with_reducible assumption)) | (refine' my_store 11 ?F ?N ?D ?c ?e ?d ?_ ?a ?b; (case a => rfl); (case b => rfl); (case F => with_reducible assumption); (case N => with_reducible assumption); (case c => rfl); (case e => rfl); (case D => with_reducible assumption); (case d => with_reducible assumption)) | (refine' my_store 12 ?F ?N ?D ?c ?e ?d ?_ ?a ?b; (case a => rfl); (case b => rfl); (case F => with_reducible assumption); (case N => with_reducible assumption); (case c => rfl); (case e => rfl); (case D => with_reducible assumption); (case d => with_reducible assumption)) | (refine' my_store 13 ?F ?N ?D ?c ?e ?d ?_ ?a ?b; (case a => rfl); (case b => rfl); (case F => with_reducible assumption); (case N => with_reducible assumption); (case c => rfl); (case e => rfl); (case D => with_reducible assumption); (case d => with_reducible assumption)) | (refine' my_store 14 ?F ?N ?D ?c ?e ?d ?_ ?a ?b; (case a => rfl); (case b => rfl); (case F => with_reducible assumption); (case N => with_reducible assumption); (case c => rfl); (case e => rfl); (case D => with_reducible assumption); (case d => with_reducible assumption)) | (refine' my_store 15 ?F ?N ?D ?c ?e ?d ?_ ?a ?b; (case a => rfl); (case b => rfl); (case F => with_reducible assumption); (case N => with_reducible assumption); (case c => rfl); (case e => rfl); (case D => with_reducible assumption); (case d => with_reducible assumption)) | (refine' my_store 16 ?F ?N ?D ?c ?e ?d ?_ ?a ?b; (case a => rfl); (case b => rfl); (case F => with_reducible assumption); (case N => with_reducible assumption); (case c => rfl); (case e => rfl); (case D => with_reducible assumption); (case d => with_reducible assumption)) | (refine' my_store 17 ?F ?N ?D ?c ?e ?d ?_ ?a ?b; (case a => rfl); (case b => rfl); (case F => with_reducible assumption); (case N => with_reducible assumption); (case c => rfl); (case e => rfl); (case D => with_reducible assumption); (case d => with_reducible assumption)) | (refine' my_store 18 ?F ?N ?D ?c ?e ?d ?_ ?a ?b; (case a => rfl); (case b => rfl); (case F => with_reducible assumption); (case N => with_reducible assumption); (case c => rfl); (case e => rfl); (case D => with_reducible assumption); (case d => with_reducible assumption)) | (refine' my_store 19 ?F ?N ?D ?c ?e ?d ?_ ?a ?b; (case a => rfl); (case b => rfl); (case F => with_reducible assumption); (case N => with_reducible assumption); (case c => rfl); (case e => rfl); (case D => with_reducible assumption); (case d => with_reducible assumption))); intro h' o' F' N' nd9 cd9; (try dsimp only at N' nd9); (try k_sweep); (try k_fold))
  k_with "call builtin:len" => (k_here; k_dflt (refine' my_len (vs := sv) ?k1 ?k2 ?k3 ?_; (case k1 => k_asm); (case k2 => k_mem); (case k3 => omega)); (try k_fold))
  k_with "subscriptTail" => (k_here; k_dflt (first
      | (refine' my_sub (vs := sv) ?k1 ?k2 ?k3 ?k4 ?k5 ?_ ?k6; (case k1 => k_asm); (case k2 => k_mem); (case k3 => omega); (case k4 => omega); (case k5 => (rw [Int.toNat_natCast]; assumption)); (case k6 => with_unfolding_all rfl))
      | (refine' my_sub (vs := rs) ?k1 ?k2 ?k3 ?k4 ?k5 ?_ ?k6; (case k1 => k_asm); (case k2 => k_mem); (case k3 => omega); (case k4 => omega); (case k5 => (rw [Int.toNat_natCast]; assumption)); (case k6 => with_unfolding_all rfl))
      | (refine' my_sub (vs := ds) ?k1 ?k2 ?k3 ?k4 ?k5 ?_ ?k6; (case k1 => k_asm); (case k2 => k_mem); (case k3 => omega); (case k4 => omega); (case k5 => (rw [Int.toNat_natCast]; assumption)); (case k6 => with_unfolding_all rfl))
      | (refine' my_sub (vs := ev) ?k1 ?k2 ?k3 ?k4 ?k5 ?_ ?k6; (case k1 => k_asm); (case k2 => k_mem); (case k3 => omega); (case k4 => omega); (case k5 => first | exact hra | (rw [Int.toNat_natCast]; assumption)); (case k6 => with_unfolding_all rfl))
      | (refine' my_sub (vs := [Value.str (Str.ofString "if") x1, Value.str (Str.ofString "let") x2, Value.str (Str.ofString "x") x3]) ?k1 ?k2 ?k3 ?k4 ?k5 ?_ ?k6; (case k1 => k_asm); (case k2 => k_mem); (case k3 => decide); (case k4 => decide); (case k5 => rfl); (case k6 => with_unfolding_all rfl))))
  k_with "call ref" => (first | ((with_reducible show wpAny _ _ (call (Value.ref 210) _) _ _ _); (rename News _ _ _ _ => lN); (try (rename ND _ => lD)); k_here; k_dflt (refine' Says.use (says_root (v := v) (d := d) ?c1) ?k1 ?k2 ?k3 ?k4 ?k5 ?kK ?kd ?ku ?_; (case k4 => exact lN); (case c1 => (refine IdnIn.mono hI (fun p hp => ?_); (repeat (first | exact hp | apply List.Mem.tail)))); (case k1 => k_asm); (case k2 => k_asm); (case k3 => k_asm); (case k5 => k_asm); (case kK => first | exact rfl | assumption); (case kd => ktr_room); (case ku => ktr_units)); intro r9 n9 h9 tk9 F9 N9 O9; (obtain ⟨e9, e8⟩ := O9); subst r9; subst n9; (try dsimp only); (try k_fold)) | ((with_reducible show wpAny _ _ (call (Value.ref 217) _) _ _ _); (rename News _ _ _ _ => lN); (try (rename ND _ => lD)); k_here; k_dflt (refine' Says.use (says_title (v := v) (d := d) ?c1) ?k1 ?k2 ?k3 ?k4 ?k5 ?kK ?kd ?ku ?_; (case k4 => exact lN); (case c1 => (refine IdnIn.mono hI (fun p hp => ?_); (repeat (first | exact hp | apply List.Mem.tail)))); (case k1 => k_asm); (case k2 => k_asm); (case k3 => k_asm); (case k5 => k_asm); (case kK => first | exact rfl | assumption); (case kd => ktr_room); (case ku => ktr_units)); intro r9 n9 h9 tk9 F9 N9 O9; (obtain ⟨⟨t9, e9⟩, e8⟩ := O9); rw [hrx] at e9; subst r9; subst n9; (try dsimp only); (try k_fold)) | ((with_reducible show wpAny _ _ (call (Value.ref 399) _) _ _ _); (rename News _ _ _ _ => lN); (try (rename ND _ => lD)); k_here; k_dflt (refine' Says.use (says_depth_ (v := v) (d := d) ?c1 ?c2) ?k1 ?k2 ?k3 ?k4 ?k5 ?kK ?kd ?ku ?_; (case k4 => exact lN); (case c1 => (refine IdnIn.mono hI (fun p hp => ?_); (repeat (first | exact hp | apply List.Mem.tail)))); (case c2 => omega); (case k1 => k_asm); (case k2 => k_asm); (case k3 => k_asm); (case k5 => k_asm); (case kK => first | exact rfl | assumption); (case kd => ktr_room); (case ku => ktr_units)); intro r9 n9 h9 tk9 F9 N9 O9; (obtain ⟨⟨t9, e9⟩, e8⟩ := O9); subst r9; subst n9; (try dsimp only); (try k_fold)) | ((with_reducible show wpAny _ _ (call (Value.ref 224) _) _ _ _); (rename News _ _ _ _ => lN); (try (rename ND _ => lD)); k_here; k_dflt (refine' Says.use (says_named (v := v) (d := d) ?c1) ?k1 ?k2 ?k3 ?k4 ?k5 ?kK ?kd ?ku ?_; (case k4 => exact lN); (case c1 => (refine IdnIn.mono hI (fun p hp => ?_); (repeat (first | exact hp | apply List.Mem.tail)))); (case k1 => k_asm); (case k2 => k_asm); (case k3 => k_asm); (case k5 => k_asm); (case kK => first | exact rfl | assumption); (case kd => ktr_room); (case ku => ktr_units)); intro r9 n9 h9 tk9 F9 N9 O9; (obtain ⟨e9, e8⟩ := O9); rw [hrx] at e9; (simp only [eq_ii, eq_il, eq_ix, eq_li, eq_ll, eq_lx, eq_xi, eq_xl, eq_xx] at e9); subst r9; subst n9; (try dsimp only); (try k_fold)) | ((with_reducible show wpAny _ _ (call (Value.ref 196) _) _ _ _); (rename News _ _ _ _ => lN); (try (rename ND _ => lD)); k_here; k_dflt (refine' Says.use (says_is_id (v := v) (d := d) ?c1) ?k1 ?k2 ?k3 ?k4 ?k5 ?kK ?kd ?ku ?_; (case k4 => exact lN); (case c1 => (refine IdnIn.mono hI (fun p hp => ?_); (repeat (first | exact hp | apply List.Mem.tail)))); (case k1 => k_asm); (case k2 => k_asm); (case k3 => k_asm); (case k5 => k_asm); (case kK => first | exact rfl | assumption); (case kd => ktr_room); (case ku => ktr_units)); intro r9 n9 h9 tk9 F9 N9 O9; (obtain ⟨e9, e8⟩ := O9); subst r9; subst n9; (try dsimp only); (try k_fold)) | ((with_reducible show wpAny _ _ (call (Value.ref 203) _) _ _ _); (rename News _ _ _ _ => lN); (try (rename ND _ => lD)); k_here; k_dflt (refine' Says.use (says_key_of (v := v) (d := d) ?c1) ?k1 ?k2 ?k3 ?k4 ?k5 ?kK ?kd ?ku ?_; (case k4 => exact lN); (case c1 => (refine IdnIn.mono hI (fun p hp => ?_); (repeat (first | exact hp | apply List.Mem.tail)))); (case k1 => k_asm); (case k2 => k_asm); (case k3 => k_asm); (case k5 => k_asm); (case kK => first | exact rfl | assumption); (case kd => ktr_room); (case ku => ktr_units)); intro r9 n9 h9 tk9 F9 N9 O9; (obtain ⟨⟨t9, e9⟩, e8⟩ := O9); subst r9; subst n9; (try dsimp only); (try k_fold)))
  k_with "CompEnd" => ((rename News _ _ _ _ => lN); (refine LCg.CompEnd.intro (by k_asm) lN _ (fun _ h => h) ?off ?src ?_); (case off => (simp only [LCg.Off3, and_true]; with_reducible assumption)); (case src => exact Or.inr ⟨_, by k_mem, rfl, _, rfl⟩); clear lN)
  k_with "call type:range" => ((rename Fr _ _ _ _ => lF'); (rename News _ _ _ _ => lN'); (with_unfolding_all refine range1_rows lF' lN' ?_); intro h9 tk9 t9 u9 v9 rgX F9 N9 kp9; clear lF' lN')
  k_with "exec For Name Call cons nil" => (k_here; (rename Fr _ _ _ _ => lF'); (with_unfolding_all refine' For_invVF lF' ?k1 ?k2 ?_ (hE := hE); (case k1 => exact rfl); (case k2 => exact rfl); k_whole))
  k_with "pyIter ref" => (k_dflt ((rename Fr _ _ _ _ => lF); (rename News _ _ _ _ => lN); (rename ND _ => lD); (rename IsRange _ _ _ _ _ _ _ _ => rgX); (refine' rd_range (n := sv.length) (fun _ => True) rfl rgX ?small (rangeSize_nat _ _) lF lN trivial (fun i' k' t' h' tk' own' hk' hlt' hI' hoff' F' N' => ?turn) (fun u' h' tk' hI' F' N' => ?done)); (case small => exact small_one (by omega) (by omega) (by omega) (by omega)); (case turn => exact meant_turn (lv := i') B X T (by omega) (by omega) hi (Hx.mono (fun p hp => (.tail _ (.tail _ (.tail _ (.tail _ (.tail _ hp))))))) (.tail _ (.tail _ (.tail _ (.tail _ (.tail _ mb'))))) (.tail _ (.tail _ (.tail _ (.tail _ (.tail _ mo))))) (.tail _ (.tail _ (.tail _ (.tail _ (.tail _ ms))))) (.tail _ (.tail _ (.tail _ (.head _)))) (by assumption) hk hdk (hI.mono (fun p hp => (.tail _ (.tail _ (.tail _ (.tail _ (.tail _ hp))))))) (by omega) (by omega) F' N')))
  k_with "RsPost" => (dsimp only [RsPost])
  k_steps
  all_goals try (exfalso; first | exact absurd rfl (by with_reducible assumption) | exact absurd hpar (by with_reducible assumption))
  (rename News _ _ _ _ => lN); (rename ND _ => lD); (rename Fr _ _ _ _ => lF)
  subst hfo
  have q9 := news_sub lN (fun p hp => .tail _ (.tail _ (mem_drop3 hp)))
  have d9 := (lD.front 2).tl
  refine ⟨_, _, _, _ :: _ :: fx, rfl, lF, q9, d9, ?_⟩
  exact CkJ.of (lawM_self rfl rfl rfl rfl rfl) (by with_reducible assumption) (by with_reducible assumption)
theorem check_turn {w : World} {mean : ExcName → Option Value} {mg mb : Str → Option Value} {dp un : Nat} {gd : Option (List Code)} {fa : Addr} {ccd : Value} {outer : List Env} {A₀ : Around} {base h₀ : Heap} {L : Addr} {s : Shared} {Q : Flow → Shared → Prop} {E : Value → Shared → Prop}
    {D wA wd eA sA bA rA pA oA xA ke kb kr kp ks ko kx : Nat} {r0 : Addr} {i : Nat} {n : Int} {ids : List Idn} {Bs : List (Option (Nat × Nat))} {Rs Ds : List Int} {nms : List Nm} {Bds : List (List (Int × Str))} {ev bs rs ds sv ov : List Value} {x1 x2 x3 : Tok} {fx own nx : Led} {k : Nat} {t : Tok} {m : Str → Option Value}
    (B : Below A₀ base outer h₀) (X : (_root_.Mine.tp.heap_39 w.params).In h₀) (T : Top _root_.Mine.tp.view_39 [] mean mg mb h₀) (hd : dp + 60 < recursionLimit) (hu : un + 8 * 60 < cLine) (hi : i ≤ 4) (hE : PassesOwn (model PySem.Challenge.rw_nt0172_01.row.prog w) (lawTop dp un gd L fa ccd outer) (lawEnv L fa ccd) E)
    (H : LvFix w L D wA wd eA sA r0 i n ids Bs Rs Ds nms Bds ev bs rs ds sv ov fx) (me : (eA, listOf ev.toArray ke) ∈ fx) (mb' : (bA, listOf bs.toArray kb) ∈ fx) (mr : (rA, listOf rs.toArray kr) ∈ fx) (mp : (pA, listOf ds.toArray kp) ∈ fx) (ms : (sA, listOf sv.toArray ks) ∈ fx) (mo : (oA, listOf ov.toArray ko) ∈ fx)
    (mx : (xA, listOf [Value.str (Str.ofString "if") x1, Value.str (Str.ofString "let") x2, Value.str (Str.ofString "x") x3].toArray kx) ∈ fx) (hk : k < ids.length)
    (hJ : CkJ L xA bA rA pA oA fx m nx)
    (F : Fr h₀ L s.heap (fun y => if y = Str.ofString "number" then some (.int (0 + (k : Int)) t) else m y)) (N : News h₀ L s.heap (nx ++ own)) (ndx : ND (nx ++ own)) :
    wpAny (model PySem.Challenge.rw_nt0172_01.row.prog w) (lawTop dp un gd L fa ccd outer) (execs checkBody (lawEnv L fa ccd))
      (RsPost h₀ L (CkJ L xA bA rA pA oA fx) own s Q) E s := by
  obtain ⟨d, v, q, x, tr, td, hdk, hv, hI, hrv, hdv, hdi, hrx, hra, hcase⟩ := H.at hk
  rcases hcase with ⟨rfl, rfl⟩ | ⟨rfl, rfl⟩ | ⟨rfl, rfl⟩
  · exact check_turn_0 B X T hd hu hi hE H me mb' mr mp ms mo mx hk hdk hv hI hrv hdv hdi hrx hra hJ F N ndx
  · exact check_turn_1 B X T hd hu hi hE H me mb' mr mp ms mo mx hk hdk hv hI hrv hdv hdi hrx hra hJ F N ndx
  · exact check_turn_2 B X T hd hu hi hE H me mb' mr mp ms mo mx hk hdk hv hI hrv hdv hdi hrx hra hJ F N ndx
end Mine
namespace Mine
local macro_rules | `(tactic| walk_at $s:str) => `(tactic| k_extra $s)
local macro_rules | `(tactic| k_room) => `(tactic| ktr_room)
local macro_rules | `(tactic| k_all) => `(tactic| assumption)
local macro_rules | `(tactic| k_mem) => `(tactic| assumption)

theorem law_tail6 {w : World} {mean : ExcName → Option Value} {mg mb : Str → Option Value} {dp un : Nat} {gd : Option (List Code)} {fa : Addr} {ccd : Value} {outer : List Env} {A₀ : Around} {base h₀ : Heap} {L : Addr} {s : Shared} {Q : Flow → Shared → Prop} {E : Value → Shared → Prop}
    {D wA wd eA sA bA rA pA oA xA ke kb kr kp ks ko kx : Nat} {r0 : Addr} {i : Nat} {n : Int} {ids : List Idn} {Bs : List (Option (Nat × Nat))} {Rs Ds : List Int} {nms : List Nm} {Bds : List (List (Int × Str))} {ev bs rs ds sv ov : List Value} {x1 x2 x3 : Tok} {fo : Led} {oD o4 o6 o7 : Obj} {v4 v6 v7 : Option Value} {u : Str → Option Value}
    (B : Below A₀ base outer h₀) (X : (_root_.Mine.tp.heap_39 w.params).In h₀) (T : Top _root_.Mine.tp.view_39 [] mean mg mb h₀) (hd : dp + 60 < recursionLimit) (hu : un + 8 * 60 < cLine) (hi : i ≤ 4) (hE : PassesOwn (model PySem.Challenge.rw_nt0172_01.row.prog w) (lawTop dp un gd L fa ccd outer) (lawEnv L fa ccd) E)
    (H : LvFix w L D wA wd eA sA r0 i n ids Bs Rs Ds nms Bds ev bs rs ds sv ov fo) (me : (eA, listOf ev.toArray ke) ∈ fo) (mb' : (bA, listOf bs.toArray kb) ∈ fo) (mr : (rA, listOf rs.toArray kr) ∈ fo) (mp : (pA, listOf ds.toArray kp) ∈ fo) (ms : (sA, listOf sv.toArray ks) ∈ fo) (mo : (oA, listOf ov.toArray ko) ∈ fo)
    (mx : (xA, listOf [Value.str (Str.ofString "if") x1, Value.str (Str.ofString "let") x2, Value.str (Str.ofString "x") x3].toArray kx) ∈ fo) (hdk : DeckObj oD) (h4 : o4.data = .cell v4) (h6 : o6.data = .cell v6) (h7 : o7.data = .cell v7)
    (F : Fr h₀ L s.heap (lawM xA bA rA pA oA u)) (N : News h₀ L s.heap ((L + 1 + 1 + 1 + 1, o4) :: (L + 1 + 1 + 1 + 1 + 1 + 1, o6) :: (L + 1 + 1 + 1 + 1 + 1 + 1 + 1, o7) :: (D, oD) :: fo)) (nd : ND ((L + 1 + 1 + 1 + 1, o4) :: (L + 1 + 1 + 1 + 1 + 1 + 1, o6) :: (L + 1 + 1 + 1 + 1 + 1 + 1 + 1, o7) :: (D, oD) :: fo)) (hQ : ∀ h' tk' m', Fr h₀ L h' m' → Q (.ret (.bool true)) { s with heap := h', toks := tk' }) :
    wpAny (model PySem.Challenge.rw_nt0172_01.row.prog w) (lawTop dp un gd L fa ccd outer) (execs (lawBody.drop 6) (lawEnv L fa ccd)) Q E s := by
  (revert X; k_fill; intro X)
  k_with_none
  conv => arg 3; arg 1; whnf
  delta lawTop lawEnv
  conv in (occs := *) lawSc => all_goals whnf
  obtain ⟨oc5, m5, d5⟩ := H.c5
  have hl := H.hl
  have h3 := H.h3
  have Hx : LvFix w L D wA wd eA sA r0 i n ids Bs Rs Ds nms Bds ev bs rs ds sv ov ((L + 1 + 1 + 1 + 1 + 1 + 1 + 1, o7) :: (D, oD) :: fo) := H.mono fun p hp => .tail _ (.tail _ hp)
  unfold lawM at F
  k_with "call builtin:len" => (k_here; k_dflt (refine' my_len (vs := ev) ?k1 ?k2 ?k3 ?_; (case k1 => k_asm); (case k2 => k_mem); (case k3 => omega)); (try k_fold))
  k_with "call type:range" => ((rename Fr _ _ _ _ => lF'); (rename News _ _ _ _ => lN'); (with_unfolding_all refine range1_rows lF' lN' ?_); intro h9 tk9 t9 u9 v9 rgX F9 N9 kp9; clear lF' lN')
  k_with "exec For Name Call cons nil" => (k_here; (rename Fr _ _ _ _ => lF'); (with_unfolding_all refine' For_invVF lF' ?k1 ?k2 ?_ (hE := hE); (case k1 => exact rfl); (case k2 => exact rfl); k_whole))
  k_with "pyIter ref" => (k_dflt ((rename Fr _ _ _ _ => lF); (rename News _ _ _ _ => lN); (rename ND _ => lD); (rename IsRange _ _ _ _ _ _ _ _ => rgX); (refine' rs_range (n := ev.length) (fun _ => CkJ L xA bA rA pA oA ((L + 1 + 1 + 1 + 1 + 1 + 1 + 1, o7) :: (D, oD) :: fo)) rfl rgX ?small (rangeSize_nat _ _) lF lN lD (CkJ.of (lawM_self rfl rfl rfl rfl rfl) h4 h6) (fun i2 t2' m2 nx2 h2 tk2 own2 hi2 hJ2 F2 N2 nd2 => ?turn) (fun m2 nx2 h2 tk2 hJ2 F2 N2 nd2 => ?done)); (case small => exact small_one (by omega) (by omega) (by omega) (by omega)); (case turn => exact check_turn B X T hd hu hi hE Hx (.tail _ (.tail _ me)) (.tail _ (.tail _ mb')) (.tail _ (.tail _ mr)) (.tail _ (.tail _ mp)) (.tail _ (.tail _ ms)) (.tail _ (.tail _ mo)) (.tail _ (.tail _ mx)) (by omega) hJ2 F2 N2 nd2); (case' done => ((obtain @⟨o45, o65, v45, v65, u5, h45, h65⟩ := hJ2); (try k_fold)))))
  k_with "execs cons" => ((with_reducible show wpAny _ _ (execs (Stmt.Assign [Expr.Name (Str.ofString "keys") _] _ _ :: _) _) _ _ _); refine halt_in ?_)
  k_steps
  with_reducible refine halt_out ?_
  (rename News _ _ _ _ => lN); (rename Fr _ _ _ _ => lF)
  exact law_tail7 B X T hd hu hi H me ms hdk h7 lF (news_sub lN (fun p hp => .tail _ (.tail _ hp))) lD.tl.tl hQ
end Mine
namespace Mine
local macro_rules | `(tactic| walk_at $s:str) => `(tactic| k_extra $s)
local macro_rules | `(tactic| k_room) => `(tactic| ktr_room)
local macro_rules | `(tactic| k_all) => `(tactic| assumption)
local macro_rules | `(tactic| k_mem) => `(tactic| assumption)

theorem law_tail5 {w : World} {mean : ExcName → Option Value} {mg mb : Str → Option Value} {dp un : Nat} {gd : Option (List Code)} {fa : Addr} {ccd : Value} {outer : List Env} {A₀ : Around} {base h₀ : Heap} {L : Addr} {s : Shared} {Q : Flow → Shared → Prop} {E : Value → Shared → Prop}
    {D wA wd tA a1 a2 xA eA bA rA pA sA oA ke kb kr kp ks ko kx : Nat} {t1 t2 t3 t4 t5 t6 : Tok} {r0 : Addr} {n : Int} {ids : List Idn} {Bs : List (Option (Nat × Nat))} {Rs Ds : List Int} {nms : List Nm} {Bds : List (List (Int × Str))} {ev bs rs ds sv ov : List Value} {x1 x2 x3 : Tok} {fz : Led} {oD o4 o6 o7 : Obj} {v4 v6 v7 : Option Value} {u : Str → Option Value}
    (B : Below A₀ base outer h₀) (X : (_root_.Mine.tp.heap_39 w.params).In h₀) (T : Top _root_.Mine.tp.view_39 [] mean mg mb h₀) (hd : dp + 60 < recursionLimit) (hu : un + 8 * 60 < cLine) (hE : PassesOwn (model PySem.Challenge.rw_nt0172_01.row.prog w) (lawTop dp un gd L fa ccd outer) (lawEnv L fa ccd) E)
    (H : LvFix w L D wA wd eA sA r0 0 n ids Bs Rs Ds nms Bds ev bs rs ds sv ov fz)
    (mx : (xA, listOf [Value.str (Str.ofString "if") x1, Value.str (Str.ofString "let") x2, Value.str (Str.ofString "x") x3].toArray kx) ∈ fz) (hdk : DeckObj oD) (h4 : o4.data = .cell v4) (h6 : o6.data = .cell v6) (h7 : o7.data = .cell v7)
    (F : Fr h₀ L s.heap (lawM xA bA rA pA oA u))
    (N : News h₀ L s.heap ((D, oD) :: (wd, worldD w tA a1 a2 n t1 t2 t3 t4 t5 t6) :: (eA, listOf ev.toArray ke) :: (bA, listOf bs.toArray kb) :: (rA, listOf rs.toArray kr) :: (pA, listOf ds.toArray kp) :: (sA, listOf sv.toArray ks) :: (oA, listOf ov.toArray ko) :: (L + 1 + 1 + 1 + 1, o4) :: (L + 1 + 1 + 1 + 1 + 1 + 1, o6) :: (L + 1 + 1 + 1 + 1 + 1 + 1 + 1, o7) :: fz))
    (nd : ND ((D, oD) :: (wd, worldD w tA a1 a2 n t1 t2 t3 t4 t5 t6) :: (eA, listOf ev.toArray ke) :: (bA, listOf bs.toArray kb) :: (rA, listOf rs.toArray kr) :: (pA, listOf ds.toArray kp) :: (sA, listOf sv.toArray ks) :: (oA, listOf ov.toArray ko) :: (L + 1 + 1 + 1 + 1, o4) :: (L + 1 + 1 + 1 + 1 + 1 + 1, o6) :: (L + 1 + 1 + 1 + 1 + 1 + 1 + 1, o7) :: fz)) (hQ : ∀ h' tk' m', Fr h₀ L h' m' → Q (.ret (.bool true)) { s with heap := h', toks := tk' }) :
    wpAny (model PySem.Challenge.rw_nt0172_01.row.prog w) (lawTop dp un gd L fa ccd outer) (execs (lawBody.drop 5) (lawEnv L fa ccd)) Q E s := by
  (revert X; k_fill; intro X)
  k_with_none
  conv => arg 3; arg 1; whnf
  delta lawTop lawEnv
  conv in (occs := *) lawSc => all_goals whnf
  obtain ⟨oc1, m1, d1⟩ := H.c1
  unfold lawM at F
  k_with "call type:range" => ((rename Fr _ _ _ _ => lF'); (rename News _ _ _ _ => lN'); (with_unfolding_all refine range1_rows lF' lN' ?_); intro h9 tk9 t9 u9 v9 rgX F9 N9 kp9; clear lF' lN')
  k_with "call ref" => ((with_reducible show wpAny _ _ (call (Value.ref 411) _) _ _ _); (rename News _ _ _ _ => lN); (try (rename ND _ => lD)); k_here; k_dflt (first | ((have lE := ND.front lD 0); (refine' Says.use (says_draw (many := 5) (ND.off lE) ?c1 (by decide) (by decide)) ?k1 ?k2 ?k3 ?k4 ?k5 ?kK ?kd ?ku ?_; (case k4 => exact news_front lN 0); (case c1 => with_reducible assumption); (case k1 => k_asm); (case k2 => k_asm); (case k3 => k_asm); (case k5 => k_asm); (case kK => first | exact rfl | assumption); (case kd => ktr_room); (case ku => ktr_units)))); intro r9 n9 h9 tk9 F9 N9 O9; (obtain ⟨i9, t9, o9, e9, hlo9, hhi9, hdk9, e8⟩ := O9); subst r9; subst n9; (k_dflt (have nd9 := ND.putN N9 lE)); clear lE lN lD; (obtain ⟨q9, rfl⟩ := Int.eq_ofNat_of_zero_le hlo9); (try dsimp only); (try k_fold))
  k_with "exec For Name Call cons nil" => (k_here; (rename Fr _ _ _ _ => lF'); (with_unfolding_all refine' For_invVF lF' ?k1 ?k2 ?_ (hE := hE); (case k1 => exact rfl); (case k2 => exact rfl); k_whole))
  k_with "pyIter ref" => (k_dflt ((rename Fr _ _ _ _ => lF); (rename News _ _ _ _ => lN); (rename ND _ => lD); (rename IsRange _ _ _ _ _ _ _ _ => rgX); (refine' rs_range (n := q9) (LvJ w L D wA wd tA a1 a2 xA eA bA rA pA sA oA t1 t2 t4 t5 t6 r0 fz) rfl rgX ?small (rangeSize_nat _ _) lF lN lD (LvJ.of (lawM_self rfl rfl rfl rfl rfl) (fun _ h => h) (by with_reducible assumption) h4 h6 h7 H) (fun i2 t2' m2 nx2 h2 tk2 own2 hi2 hJ2 F2 N2 nd2 => ?turn) (fun m2 nx2 h2 tk2 hJ2 F2 N2 nd2 => ?done)); (case small => exact small_one (by omega) (by omega) (by omega) (by omega)); (case turn => exact level_turn B X T hd hu (by omega) hE hJ2 F2 N2 nd2); (case' done => ((obtain @⟨o45, o65, o75, v45, v65, v75, u5, fz5, oD5, n5, t35, ids5, Bs5, Rs5, Ds5, nms5, Bds5, ev5, bs5, rs5, ds5, sv5, ov5, ke5, kb5, kr5, kp5, ks5, ko5, hfz5, hdk5, h45, h65, h75, H5⟩ := hJ2); (try k_fold)))))
  k_with "execs cons" => ((with_reducible show wpAny _ _ (execs (Stmt.For (Expr.Name (Str.ofString "number") _) _ _ _ _ :: _) _) _ _ _); refine halt_in ?_)
  k_steps
  with_reducible refine halt_out ?_
  (rename News _ _ _ _ => lN); (rename Fr _ _ _ _ => lF)
  have pm := List.perm_append_comm_assoc [(L + 1 + 1 + 1 + 1, o45), (L + 1 + 1 + 1 + 1 + 1 + 1, o65), (L + 1 + 1 + 1 + 1 + 1 + 1 + 1, o75)] [(D, oD5), (wd, worldD w tA a1 a2 n5 t1 t2 t35 t4 t5 t6), (eA, listOf ev5.toArray ke5), (bA, listOf bs5.toArray kb5), (rA, listOf rs5.toArray kr5), (pA, listOf ds5.toArray kp5), (sA, listOf sv5.toArray ks5), (oA, listOf ov5.toArray ko5)] fz5
  have N6 := news_sub lN (fun p hp => pm.mem_iff.mp hp)
  have d6 := nd2.perm pm
  exact law_tail6 B X T hd hu (by omega) hE (H5.mono (fun p hp => .tail _ (.tail _ (.tail _ (.tail _ (.tail _ (.tail _ (.tail _ hp)))))))) (.tail _ (.head _)) (.tail _ (.tail _ (.head _))) (.tail _ (.tail _ (.tail _ (.head _)))) (.tail _ (.tail _ (.tail _ (.tail _ (.head _))))) (.tail _ (.tail _ (.tail _ (.tail _ (.tail _ (.head _)))))) (.tail _ (.tail _ (.tail _ (.tail _ (.tail _ (.tail _ (.head _))))))) (.tail _ (.tail _ (.tail _ (.tail _ (.tail _ (.tail _ (.tail _ (hfz5 _ mx)))))))) hdk5 h45 h65 h75 lF N6 d6 hQ
end Mine
namespace Mine
local macro_rules | `(tactic| walk_at $s:str) => `(tactic| k_extra $s)
local macro_rules | `(tactic| k_room) => `(tactic| ktr_room)
local macro_rules | `(tactic| k_all) => `(tactic| assumption)
local macro_rules | `(tactic| k_mem) => `(tactic| assumption)

inductive DkJ (nw : Led) (k : Nat) : List Value → Led → Prop
  | mk {ys : List Value} {ks : List Int} : IntsAre ys ks → ks.length = k → (∀ x ∈ ks, 0 ≤ x) → DkJ nw k ys nw
theorem DkJ.next {nw : Led} {k : Nat} {ys : List Value} {ks : List Int} {x : Int} {t : Tok} (hi : IntsAre ys ks) (hl : ks.length = k) (hk : ∀ x ∈ ks, 0 ≤ x) (h0 : 0 ≤ x) : DkJ nw (k + 1) (ys ++ [.int x t]) nw :=
  .mk (ks := ks ++ [x]) (IntsAre.snoc hi x t) (by simp [hl]) (fun y hy => by
    rcases List.mem_append.mp hy with q | q
    · exact hk y q
    · rw [List.mem_singleton.mp q]; exact h0)
theorem nd_skip {a b : Addr × Obj} {l : Led} (h : ND (a :: b :: l)) : ND (a :: l) := (h.perm (List.Perm.swap a b l)).tl
theorem says_deck {w : World} {mean : ExcName → Option Value} {mg mb : Str → Option Value} {dp un : Nat} {gd : Option (List Code)} {cn : Str} {cs : Scope} {a : Addr} {ccd : Value} {cl : List (Str × Addr)} {outer : List Env}
    {A₀ : Around} {base h₀ : Heap} {L : Addr} {m : Str → Option Value} {s : Shared} {Q E : Value → Shared → Prop} {sl : Addr} {vs : List Value} {ns : List Int} {news : Led}
    (B : Below A₀ base outer h₀) (F : Fr h₀ L s.heap m) (X : (tp.heap_39 w.params).In h₀) (N : News h₀ L s.heap news) (T : Top tp.view_39 [] mean mg mb h₀) (hk : cs.kind = .function)
    (hL : h₀.IsList sl vs.toArray) (hI : IntsAre vs ns) (hn : ns.length ≤ 63) (nd : ND news)
    (hd : dp + 3 < recursionLimit) (hu : un + 8 * 3 < cLine)
    (hret : ∀ D oD h' tk', Fr h₀ L h' m → News h₀ L h' ((D, oD) :: news) → DeckObj oD → ND ((D, oD) :: news) → Q (.ref D) { s with heap := h', toks := tk' }) :
    wpAny (model PySem.Challenge.rw_nt0172_01.row.prog w) (ktrTop dp un gd cn cs L a ccd cl outer) (call (.ref 404) [.ref sl]) Q E s := by
  (revert X; k_fill; intro X)
  k_with_none
  refine wpAny_call ?_
  k_dflt ktr_enter
  (rename Fr h₀ L _ m => FG)
  have hL' := hL.at (FG.keep sl)
  clear hL
  k_with "eval ListComp" => (k_here; k_dflt (refine LCg.ListComp_U (F₀ := by k_asm) (by with_unfolding_all rfl) (by decide) (by rfl) (by decide) (by rfl) ?_))
  k_with "CompSrc" => (k_here; k_dflt ((rename News _ _ _ _ => lN); (rename IntsAre _ (List.take 16 ns) => lI); (have ndx := nd_new1N lN (by assumption) nd); (have ln := IntsAre.length lI); rw [List.length_take] at ln; refine LCg.CompSrc.ledger (by rfl) (by k_asm) lN (.head _) (by (rw [List.size_toArray]; rw [sizeLine_eq]; omega)) ?_; intro g'; (refine comp_all (DkJ _) (fun i' ys' news' v' I' oI' C' oC' D' m' h' tk' E' hi' hJ' hv' hC' hx' F' N' off' ne' => ?step) (fun ys1 news1 hJ' => ?fin) _ 0 [] _ (Nat.zero_add _) (.mk .nil rfl (fun _ h => nomatch h))); (case' step => ((change wpAny _ _ _ _ _ _); (obtain ⟨hi9, hl', hk'⟩ := hJ'); (obtain ⟨k9, tk9', hv9, hk9⟩ := IntsAre.at lI i' v' (by simpa using hv')); subst hv9)); (case' fin => ((obtain ⟨hi1, hl1, hk1⟩ := hJ'); rw [List.size_toArray] at hl1))))
  k_with "FinE" => ((unfold LCg.FinE); intro D1 h1' tk1 F1 N1 o1'; (have nd1 := off1_nd (o := LCg.lst ys1) ndx o1'); (try dsimp only))
  k_with "FinA" => ((unfold LCg.FinA); intro D1 h1' tk1 F1 N1 o1'; (have nd1 := off1_nd (o := LCg.lst ys1) ndx o1'); (try dsimp only))
  k_with "CompEnd" => ((rename News _ _ _ _ => lN); (refine compEnd_same (by k_asm) lN off' (Or.inr ⟨_, .head _, rfl, _, rfl⟩) (DkJ.next hi9 hl' hk' ?pos)))
  k_steps
  · (rename Fr h₀ L _ m => kF); (rename News h₀ L _ _ => kN)
    exact hret _ _ _ _ kF (news_sub kN (fun p hp => (List.mem_cons.mp hp).elim (fun e => e ▸ .head _) (fun h => .tail _ (.tail _ h)))) (.mk (k := ys1.length) rfl hi1 hk1 (by omega)) (nd_skip nd1)
  · exact Int.fmod_nonneg_of_pos _ (by decide +kernel)
end Mine
namespace Mine
theorem stored_keys {kvs : List (Str × Value)} {x : Str} {v : Value} (h : x ∉ kvs.map (·.1)) : (PySem.stored kvs x v).map (·.1) = kvs.map (·.1) ++ [x] := by
  have e : kvs.any (fun kv => kv.1 = x) = false := by
    rw [List.any_eq_false]
    intro p hp q
    exact h (List.mem_map.mpr ⟨p, hp, of_decide_eq_true q⟩)
  unfold PySem.stored
  rw [e]
  simp
theorem txt_new : ∀ i, i < 3 → txt i ∉ (List.range i).map txt := by
  intro i hi
  rcases (by omega : i = 0 ∨ i = 1 ∨ i = 2) with rfl | rfl | rfl <;> decide +kernel
theorem ND.same {l l' : Led} (h : ND l) (e : l'.map (·.1) = l.map (·.1)) : ND l' := ⟨e ▸ h.nd⟩
theorem nd_3off {I C D : Addr} {oI oC oD : Obj} {l : Led} (h : ND ((I, oI) :: (C, oC) :: (D, oD) :: l)) : LCg.Off3 I C D l :=
  LCg.Off3.of fun p hp => ⟨h.off p (.tail _ (.tail _ hp)), h.tl.off p (.tail _ hp), h.tl.tl.off p hp⟩
/-- the turns of the comprehension that makes the symbols -/
inductive SymJ (w : World) (rl bt : Nat) (e5 : Addr × Obj) (fo : Led) (k : Nat) : List Value → Led → Prop
  | mk {gr : Led} {kc : Nat} {ob : Obj} {kvs : List (Str × Value)} {ys : List Value} : ND ((rl, listOf ys.toArray kc) :: (bt, ob) :: e5 :: (gr ++ fo)) → Obj.IsDictOf (PySem.strKind ThePr w) ob kvs → kvs.map (·.1) = (List.range k).map txt → ys.length = k →
      (∀ j, j < k → ∃ a, ys[j]? = some (.ref a) ∧ IdnIn w gr (.ref a) (.sym a j (txt j))) → SymJ w rl bt e5 fo k ys ((rl, listOf ys.toArray kc) :: (bt, ob) :: e5 :: (gr ++ fo))
theorem SymJ.next {w : World} {rl bt a d : Nat} {e5 : Addr × Obj} {fo gr : Led} {k kc kd : Nat} {ob : Obj} {kvs : List (Str × Value)} {ys : List Value} {u3 u4 u5 u6 : Tok} (hk : k < 3)
    (nd : ND ((rl, listOf (ys ++ [Value.ref a]).toArray kc) :: (bt, ob) :: e5 :: (a, instObj 38 d) :: (d, dictOf [⟨kh w "number", .str (Str.ofString "number") u3, .int ys.length u4⟩, ⟨kh w "text", .str (Str.ofString "text") u5, .str (txt k) u6⟩] kd) :: (gr ++ fo)))
    (hd : Obj.IsDictOf (PySem.strKind ThePr w) ob (PySem.stored kvs (txt k) (.ref a))) (hkv : kvs.map (·.1) = (List.range k).map txt) (hl : ys.length = k) (hs : ∀ j, j < k → ∃ a, ys[j]? = some (.ref a) ∧ IdnIn w gr (.ref a) (.sym a j (txt j))) :
    SymJ w rl bt e5 fo (k + 1) (ys ++ [.ref a]) ((rl, listOf (ys ++ [Value.ref a]).toArray kc) :: (bt, ob) :: e5 :: (a, instObj 38 d) :: (d, dictOf [⟨kh w "number", .str (Str.ofString "number") u3, .int ys.length u4⟩, ⟨kh w "text", .str (Str.ofString "text") u5, .str (txt k) u6⟩] kd) :: (gr ++ fo)) := by
  have hx : txt k ∉ kvs.map (·.1) := by rw [hkv]; exact txt_new k hk
  refine .mk (gr := (a, instObj 38 d) :: (d, _) :: gr) nd hd ?_ (by simp [hl]) fun j hj => ?_
  · rw [stored_keys hx, hkv, List.range_succ, List.map_append]; rfl
  · rcases Nat.lt_succ_iff_lt_or_eq.mp hj with q | rfl
    · obtain ⟨b, h1, h2⟩ := hs j q
      exact ⟨b, getElem?_old h1, h2.mono fun p hp => .tail _ (.tail _ hp)⟩
    · refine ⟨a, getElem?_last hl.symm, ?_⟩
      subst hl
      exact .sym (by omega) (by omega) (.head _) (.tail _ (.head _))
theorem sym_none {kvs : List (Str × Value)} {k : Nat} (hk : k < 3) (hkv : kvs.map (·.1) = (List.range k).map txt) : valueAt kvs (txt k) = none :=
  valueAt_none_of_not_mem (by rw [hkv]; exact txt_new k hk)
theorem texts_at {t0 t1 t2 : Tok} {i : Nat} {v : Value} (h : [Value.str (Str.ofString "if") t0, Value.str (Str.ofString "let") t1, Value.str (Str.ofString "x") t2].toArray[i]? = some v) : i < 3 ∧ ∃ t, v = .str (txt i) t := by
  have h' : [Value.str (Str.ofString "if") t0, Value.str (Str.ofString "let") t1, Value.str (Str.ofString "x") t2][i]? = some v := by simpa using h
  have hi := (List.getElem?_eq_some_iff.mp h').1
  simp only [List.length_cons, List.length_nil] at hi
  refine ⟨hi, ?_⟩
  rcases (by omega : i = 0 ∨ i = 1 ∨ i = 2) with rfl | rfl | rfl
  · exact ⟨t0, (Option.some.inj h').symm⟩
  · exact ⟨t1, (Option.some.inj h').symm⟩
  · exact ⟨t2, (Option.some.inj h').symm⟩
end Mine
namespace Mine
theorem three {P : Nat → Prop} (h0 : P 0) (h1 : P 1) (h2 : P 2) : ∀ j, j < 3 → P j := fun j hj => by
  rcases (by omega : j = 0 ∨ j = 1 ∨ j = 2) with rfl | rfl | rfl <;> assumption
theorem three_at {α : Type} {a b c d : α} {j : Nat} (h : [a, b, c][j]? = some d) : (j = 0 ∧ d = a) ∨ (j = 1 ∧ d = b) ∨ (j = 2 ∧ d = c) := by
  have hj := (List.getElem?_eq_some_iff.mp h).1
  simp only [List.length_cons, List.length_nil] at hj
  rcases (by omega : j = 0 ∨ j = 1 ∨ j = 2) with rfl | rfl | rfl
  · exact .inl ⟨rfl, (Option.some.inj h).symm⟩
  · exact .inr (.inl ⟨rfl, (Option.some.inj h).symm⟩)
  · exact .inr (.inr ⟨rfl, (Option.some.inj h).symm⟩)
theorem LvFix.start {w : World} {L D wA wd eA sA a7 ad7 nd7 bd s0 s1 s2 sp1 sp2 k9 : Nat} {c1 c2 c3 c5 oN oB : Obj} {w5 w6 t0 t1 t2 p0 p1 p2 y0 y1 : Tok} {ev : List Value} {fz : Led}
    (m1 : (L + 1, c1) ∈ fz) (d1 : c1.data = .cell (some (.ref D))) (m2 : (L + 1 + 1, c2) ∈ fz) (d2 : c2.data = .cell (some (.ref wA))) (m3 : (L + 1 + 1 + 1, c3) ∈ fz) (d3 : c3.data = .cell (some (.ref sA))) (m5 : (L + 1 + 1 + 1 + 1 + 1, c5) ∈ fz) (d5 : c5.data = .cell (some (.ref eA)))
    (mw : (wA, instObj 388 wd) ∈ fz) (hy : ev.length = 3) (e0 : ev[0]? = some (.ref s0)) (i0 : IdnIn w fz (.ref s0) (.sym s0 0 (txt 0))) (e1 : ev[1]? = some (.ref s1)) (i1 : IdnIn w fz (.ref s1) (.sym s1 1 (txt 1))) (e2 : ev[2]? = some (.ref s2)) (i2 : IdnIn w fz (.ref s2) (.sym s2 2 (txt 2)))
    (ma : (a7, instObj 283 ad7) ∈ fz) (mad : (ad7, dictOf [⟨kh w "parent", .str (Str.ofString "parent") w5, .none⟩, ⟨kh w "names", .str (Str.ofString "names") w6, .ref nd7⟩] k9) ∈ fz)
    (mnd : (nd7, oN) ∈ fz) (hlo : (nd7 == sysModules) = false) (hdN : oN.IsDictOf (IntK w) (PySem.stored (PySem.stored [] (2 * 0) (.ref sp1)) (2 * 1) (.ref sp2)))
    (h1 : SpecialIn w fz sp1 (Str.ofString "if")) (h2 : SpecialIn w fz sp2 (Str.ofString "let"))
    (mbd : (bd, oB) ∈ fz) (hlob : (bd == sysModules) = false) (hdB : oB.IsDictOf (IntK w) [(0, .str (Str.ofString "if") y0), (1, .str (Str.ofString "let") y1)]) :
    LvFix w L D wA wd eA sA a7 0 0 [.sym s0 0 (txt 0), .sym s1 1 (txt 1), .sym s2 2 (txt 2)] [none, none, none] [0, 1, 2] [0, 0, 0]
      [stv (stv [] (Idn.sym s0 0 (txt 0)).key (den (Str.ofString "if"))) (Idn.sym s1 1 (txt 1)).key (den (Str.ofString "let"))] [stv (stv [] ((0 : Nat) : Int) (Str.ofString "if")) ((1 : Nat) : Int) (Str.ofString "let")]
      ev [.none, .none, .none] [.int 0 t0, .int 1 t1, .int 2 t2] [.int 0 p0, .int 0 p1, .int 0 p2] [.ref a7] [.ref bd] fz := by
  have hinj : Inj [.sym s0 0 (txt 0), .sym s1 1 (txt 1), .sym s2 2 (txt 2)] := by
    intro i j d hi d' hj e
    rcases three_at hi with ⟨rfl, rfl⟩ | ⟨rfl, rfl⟩ | ⟨rfl, rfl⟩ <;> rcases three_at hj with ⟨rfl, rfl⟩ | ⟨rfl, rfl⟩ | ⟨rfl, rfl⟩ <;> first | rfl | (simp only [Idn.key] at e; omega)
  refine ⟨⟨c1, m1, d1⟩, ⟨c2, m2, d2⟩, ⟨c3, m3, d3⟩, ⟨c5, m5, d5⟩, mw, hy, rfl, ?_, ?_, rfl, .cons _ _ (.cons _ _ (.cons _ _ .nil)), rfl, ?_, .cons _ _ (.cons _ _ (.cons _ _ .nil)), rfl, ?_, ?_, rfl, ?_, rfl, rfl, ?_, ?_, hinj, ?_, Int.le_refl _, by omega⟩
  · intro j d hj
    rcases three_at hj with ⟨rfl, rfl⟩ | ⟨rfl, rfl⟩ | ⟨rfl, rfl⟩
    · exact ⟨_, e0, i0⟩
    · exact ⟨_, e1, i1⟩
    · exact ⟨_, e2, i2⟩
  · exact ⟨rfl, three ⟨_, rfl, .none⟩ ⟨_, rfl, .none⟩ ⟨_, rfl, .none⟩⟩
  · intro j d hj
    rcases three_at hj with ⟨rfl, rfl⟩ | ⟨rfl, rfl⟩ | ⟨rfl, rfl⟩
    · exact ⟨0, rfl, by decide, rfl, e0⟩
    · exact ⟨1, rfl, by decide, rfl, e1⟩
    · exact ⟨2, rfl, by decide, rfl, e2⟩
  · intro j d hj
    rcases three_at hj with ⟨rfl, rfl⟩ | ⟨rfl, rfl⟩ | ⟨rfl, rfl⟩ <;> exact ⟨rfl, Nat.le_refl _⟩
  · intro l hl
    obtain rfl : l = 0 := by omega
    refine ⟨a7, rfl, ?_, .root ma mad⟩
    refine .cons ma mad mnd hdN hlo ?_ .nil
    have n0 : NmIn w fz [] [] := .nil
    have b1 : BdIn w fz (.ref sp1) (den (Str.ofString "if")) := by rw [den_if]; exact .spec h1
    have b2 : BdIn w fz (.ref sp2) (den (Str.ofString "let")) := by rw [den_let]; exact .spec h2
    exact (n0.stored b1).stored b2
  · refine ⟨rfl, fun l hl => ?_⟩
    obtain rfl : l = 0 := by simpa using hl
    have q0 : WdIn [] [] := .nil
    exact ⟨bd, oB, _, rfl, mbd, hlob, hdB, (q0.stored (k := ((0 : Nat) : Int)) (x := Str.ofString "if") (t := y0)).stored (k := ((1 : Nat) : Int)) (x := Str.ofString "let") (t := y1)⟩
  · intro l nm ws g1 g2
    have hl : l < 1 := (List.getElem?_eq_some_iff.mp g1).1
    obtain rfl : l = 0 := by omega
    obtain rfl := Option.some.inj g1
    obtain rfl := Option.some.inj g2
    exact ((NB.nil _).put hinj (j := 0) rfl (Str.ofString "if")).put hinj (j := 1) rfl (Str.ofString "let")
  · intro j d hj
    rcases three_at hj with ⟨rfl, rfl⟩ | ⟨rfl, rfl⟩ | ⟨rfl, rfl⟩ <;> exact .inl ⟨rfl, _, _, _, rfl⟩
  · intro num b sc hm
    simp at hm
end Mine
namespace Mine
abbrev tupO (vs : List Value) : Obj := { cls := .type "tuple", data := .seq vs.toArray }
section
variable {prog : Program} {w : World} {A : Around} {E : Value → Shared → Prop} {s : Shared} {env : Env} {h₀ : Heap} {x : Str} {body : List Stmt} {Q : Flow → Shared → Prop}
/-- a for over a tuple that stands in the ledger, its whole state told by J -/
theorem rl_tuple {l : Addr} {vs : List Value} {m₀ : Str → Option Value} {news : Led} (J : Nat → (Str → Option Value) → Led → Prop)
    (hh : A.handled = none) (hm : ∀ i m nx, J i m nx → (l, tupO vs) ∈ nx) (F : Fr h₀ env.locals s.heap m₀) (N : News h₀ env.locals s.heap news) (D : ND news) (hj : J 0 m₀ news)
    (turn : ∀ i v m₁ nx h tk own, vs[i]? = some v → J i m₁ nx → Fr h₀ env.locals h (fun y => if y = x then some v else m₁ y) → News h₀ env.locals h (nx ++ own) → ND (nx ++ own) →
      wpAny (model prog w) A (execs body env) (RsPost h₀ env.locals (J (i + 1)) own { s with heap := h, toks := tk } Q) E { s with heap := h, toks := tk })
    (done : ∀ m₁ nx h tk, J vs.length m₁ nx → Fr h₀ env.locals h m₁ → News h₀ env.locals h nx → ND nx → Q .next { s with heap := h, toks := tk }) :
    wpAny (model prog w) A (pyIter (.ref l)) (fun it s₂ => LoopAtV prog w A h₀ env x body Q E it s₂) E s := by
  have hN := N _ (hm 0 m₀ news hj)
  have hls : s.heap.IsTuple l vs.toArray := ⟨_, hN.1, rfl, _, rfl⟩
  have hne : l ≠ s.heap.objs.size := Nat.ne_of_lt (Heap.lt_size hN.1)
  have hll : l ≠ env.locals := hN.2.1
  refine wpAny_pyIter_tuple hls ?_
  have W := Walks.tuple (prog := prog) (w := w) hh s.heap.objs.size l hne vs.toArray
  refine ⟨_, _, _, vs.toArray.size, _, _, m₀, news, fun i m nx => J i m nx ∧ ND nx, rfl, W, ?_, ?_, ?_, ⟨⟨_, Heap.get?_push_size _ rfl, rfl, rfl⟩, hls.at fun o e => Heap.get?_push_of_some _ e⟩, F.push _, (fun p hp => ⟨Heap.get?_push_of_some _ (N p hp).1, (N p hp).2⟩), ⟨hj, D⟩, ?_, ?_⟩
  · intro h
    rcases List.mem_cons.mp h with e | h
    · exact absurd F.ns.lt (e ▸ Nat.lt_irrefl _)
    · exact hll (List.mem_singleton.mp h).symm
  · intro b hb
    rw [List.mem_singleton.mp hb]
    exact next_is_new F
  · intro p hp hI
    exact absurd (Heap.lt_size (N p hp).1) ((List.mem_singleton.mp hI) ▸ Nat.lt_irrefl _)
  · rintro i v m₁ nx s₁ own ⟨h, tk, rfl⟩ hin hP ⟨hJ, hD⟩ hoff hown hheap hmem hst F₁ N₁
    obtain ⟨⟨oi, hoi, _⟩, _⟩ := hst
    have hI : (s.heap.objs.size, oi) ∈ own := hmem _ (.head _) (next_is_new F) oi hoi
    have N₁' : News h₀ env.locals h own := fun p hp => N₁ p (List.mem_append.mpr (.inl hp))
    have NL := N₁ _ (List.mem_append.mpr (.inr (hm _ _ _ hJ)))
    have hsame : ∀ p ∈ own, p.1 = l → p = (l, tupO vs) := by
      rintro ⟨a, o⟩ hp rfl
      have h1 := (N₁' _ hp).1
      have h2 := NL.1
      rw [h2] at h1
      exact Prod.ext rfl (Option.some.inj h1).symm
    obtain ⟨own', h1, h2⟩ := own_nd (own := own.filter fun p => p.1 ≠ l) fun q hq => N₁' q (List.mem_filter.mp hq).1
    have g1 : ∀ p, p ∈ own' ↔ p ∈ own ∧ p.1 ≠ l := fun p => by rw [h1]; simp [List.mem_filter]
    have hoff' : TbOff own' nx := by
      intro p hp q hq e
      have hp' := (g1 p).mp hp
      rcases List.mem_cons.mp (hown p hp'.1) with z | z
      · exact hoff q hq (List.mem_singleton.mpr (by rw [← e, z]))
      · exact hp'.2 (List.mem_singleton.mp z)
    have N₂ : News h₀ env.locals h (nx ++ own') := fun p hp => N₁ p ((mem_or hp).elim (fun h => List.mem_append.mpr (.inr h)) fun h => List.mem_append.mpr (.inl ((g1 p).mp h).1))
    have hv : vs[i]? = some v := by simpa using hP
    refine wpAny_mono (turn i v m₁ nx h tk own' hv hJ F₁ N₂ (hD.app h2 hoff')) (fun f s₂ p => ?_) fun _ _ e => e
    have fin : RsEnd h₀ env.locals (J (i + 1)) own' { s with heap := h, toks := tk } s₂ → LoopStepU h₀ env.locals [s.heap.objs.size] own (fun m nx => J (i + 1) m nx ∧ ND nx) { s with heap := h, toks := tk } .next s₂ := by
      rintro ⟨h', tk', m', nx', e, F', N', D', hJ'⟩
      have hI' : (s.heap.objs.size, oi) ∈ own' := (g1 _).mpr ⟨hI, fun z => hne z.symm⟩
      refine ⟨rfl, h', tk', m', nx', e, F', fun p hp => ?_, fun p hp hq => D'.appOff _ hI' p hp (List.mem_singleton.mp hq).symm, hJ', D'.appL⟩
      rcases mem_or hp with hp | hp
      · by_cases z : p.1 = l
        · rw [hsame p hp z]
          exact N' _ (List.mem_append.mpr (.inl (hm _ _ _ hJ')))
        · exact N' p (List.mem_append.mpr (.inr ((g1 p).mpr ⟨hp, z⟩)))
      · exact N' p (List.mem_append.mpr (.inl hp))
    cases f with
    | ret v => exact .ret p
    | brk => exact .brk p
    | next => exact .next (fin p)
    | cont => exact .cont (fin p)
  · rintro h' tk m' nx' F' N' _ ⟨hJ, hD⟩
    exact done m' nx' h' tk (by simpa using hJ) F' N' hD
end
/-- what the first scope holds, after k of its two binds -/
inductive BiF (w : World) (gr : Led) : Nat → List (Int × Value) → Prop
  | z : BiF w gr 0 []
  | one {sp1 : Nat} : SpecialIn w gr sp1 (Str.ofString "if") → BiF w gr 1 (PySem.stored [] (2 * 0) (.ref sp1))
  | two {sp1 sp2 : Nat} : SpecialIn w gr sp1 (Str.ofString "if") → SpecialIn w gr sp2 (Str.ofString "let") → BiF w gr 2 (PySem.stored (PySem.stored [] (2 * 0) (.ref sp1)) (2 * 1) (.ref sp2))
theorem BiF.next {w : World} {gr gr' : Led} {j sj sp : Nat} {kvs : List (Int × Value)} (h : BiF w gr j kvs) (hj : j < 2) (hs : ∀ p ∈ gr, p ∈ gr') (hsp : SpecialIn w gr' sp (txt j)) : BiF w gr' (j + 1) (PySem.stored kvs (Idn.sym sj j (txt j)).key (.ref sp)) := by
  cases h with
  | z => exact .one hsp
  | one h1 => exact .two (h1.mono hs) hsp
  | two => omega
theorem BiF.len {w : World} {gr : Led} {j : Nat} {kvs : List (Int × Value)} (h : BiF w gr j kvs) : kvs.length ≤ 2 := by
  cases h with
  | z => exact Nat.zero_le _
  | one => exact Nat.le_of_ble_eq_true rfl
  | two => exact Nat.le_of_ble_eq_true rfl
inductive BiJ (w : World) (xA bA rA pA oA nd7 : Nat) (tp : Addr × Obj) (fo : Led) (k : Nat) : (Str → Option Value) → Led → Prop
  | mk {gr : Led} {oN : Obj} {kvs : List (Int × Value)} {u : Str → Option Value} : oN.IsDictOf (IntK w) kvs → BiF w gr k kvs → BiJ w xA bA rA pA oA nd7 tp fo k (lawM xA bA rA pA oA u) ((nd7, oN) :: tp :: (gr ++ fo))
theorem BiJ.of {w : World} {xA bA rA pA oA nd7 : Nat} {tp : Addr × Obj} {fo gr : Led} {k : Nat} {oN : Obj} {kvs : List (Int × Value)} {m : Str → Option Value} (hm : m = lawM xA bA rA pA oA m) (h1 : oN.IsDictOf (IntK w) kvs) (h2 : BiF w gr k kvs) :
    BiJ w xA bA rA pA oA nd7 tp fo k m ((nd7, oN) :: tp :: (gr ++ fo)) := by
  have q := BiJ.mk (xA := xA) (bA := bA) (rA := rA) (pA := pA) (oA := oA) (nd7 := nd7) (tp := tp) (fo := fo) (u := m) h1 h2
  rwa [← hm] at q
end Mine
namespace Mine
local macro_rules | `(tactic| walk_at $s:str) => `(tactic| k_extra $s)
local macro_rules | `(tactic| k_room) => `(tactic| ktr_room)
local macro_rules | `(tactic| k_all) => `(tactic| assumption)
local macro_rules | `(tactic| k_mem) => `(tactic| assumption)

theorem in11 {p a b c d e f g h i j k : Addr × Obj} {l : Led} (q : p ∈ l) : p ∈ a :: b :: c :: d :: e :: f :: g :: h :: i :: j :: k :: l := .tail _ (.tail _ (.tail _ (.tail _ (.tail _ (.tail _ (.tail _ (.tail _ (.tail _ (.tail _ (.tail _ q))))))))))
theorem two_at {α : Type} {a b d : α} {j : Nat} (h : [a, b][j]? = some d) : (j = 0 ∧ d = a) ∨ (j = 1 ∧ d = b) := by
  have hj := (List.getElem?_eq_some_iff.mp h).1
  simp only [List.length_cons, List.length_nil] at hj
  rcases (by omega : j = 0 ∨ j = 1) with rfl | rfl
  · exact .inl ⟨rfl, (Option.some.inj h).symm⟩
  · exact .inr ⟨rfl, (Option.some.inj h).symm⟩
theorem start_split {h₀ h : Heap} {L : Addr} {a b : Addr × Obj} {gr E fo : Led} (N : News h₀ L h (a :: b :: (gr ++ (E ++ fo)))) (D : ND (a :: b :: (gr ++ (E ++ fo)))) : ∃ fz, News h₀ L h (E ++ fz) ∧ ND (E ++ fz) ∧ (∀ p ∈ fo, p ∈ fz) ∧ (∀ p ∈ gr, p ∈ fz) ∧ a ∈ fz :=
  have pm : (a :: b :: (gr ++ (E ++ fo))).Perm (E ++ ((a :: b :: gr) ++ fo)) := List.perm_append_comm_assoc (a :: b :: gr) E fo
  ⟨(a :: b :: gr) ++ fo, news_sub N (fun p hp => pm.mem_iff.mpr hp), D.perm pm.symm, fun p hp => List.mem_append.mpr (.inr hp), fun p hp => List.mem_append.mpr (.inl (.tail _ (.tail _ hp))), .head _⟩
abbrev bindBody : List Stmt := forBody lawBody[4]?
theorem bind_turn {w : World} {mean : ExcName → Option Value} {mg mb : Str → Option Value} {dp un : Nat} {gd : Option (List Code)} {fa : Addr} {ccd : Value} {outer : List Env} {A₀ : Around} {base h₀ : Heap} {L : Addr} {s : Shared} {Q : Flow → Shared → Prop} {E : Value → Shared → Prop}
    {c3 c5 : Obj} {xA eA bA rA pA sA oA nd7 a7 ad7 ke kx k9 sj j : Nat} {w5 w6 x0 x1 x2 tj tn : Tok} {m : Str → Option Value} {fo own nx : Led} {tp : Addr × Obj} {ev : List Value}
    (B : Below A₀ base outer h₀) (X : (_root_.Mine.tp.heap_39 w.params).In h₀) (T : Top _root_.Mine.tp.view_39 [] mean mg mb h₀) (hd : dp + 60 < recursionLimit) (hu : un + 8 * 60 < cLine) (hj : j < 2)
    (m3 : (L + 1 + 1 + 1, c3) ∈ fo) (d3 : c3.data = .cell (some (.ref sA))) (m5 : (L + 1 + 1 + 1 + 1 + 1, c5) ∈ fo) (d5 : c5.data = .cell (some (.ref eA)))
    (ms : (sA, listOf [Value.ref a7].toArray 0) ∈ fo) (me : (eA, listOf ev.toArray ke) ∈ fo)
    (mx : (xA, listOf [Value.str (Str.ofString "if") x0, Value.str (Str.ofString "let") x1, Value.str (Str.ofString "x") x2].toArray kx) ∈ fo)
    (ma : (a7, instObj 283 ad7) ∈ fo) (mad : (ad7, dictOf [⟨kh w "parent", .str (Str.ofString "parent") w5, .none⟩, ⟨kh w "names", .str (Str.ofString "names") w6, .ref nd7⟩] k9) ∈ fo)
    (hy : ev.length = 3) (hsj : ev[j]? = some (Value.ref sj)) (hI : IdnIn w fo (.ref sj) (.sym sj j (txt j))) (hxj : [Value.str (Str.ofString "if") x0, Value.str (Str.ofString "let") x1, Value.str (Str.ofString "x") x2][j]? = some (.str (txt j) tj))
    (hJ : BiJ w xA bA rA pA oA nd7 tp fo j m nx)
    (F : Fr h₀ L s.heap (fun y => if y = Str.ofString "number" then some (.int (j : Int) tn) else m y)) (N : News h₀ L s.heap (nx ++ own)) (ndx : ND (nx ++ own)) :
    wpAny (model PySem.Challenge.rw_nt0172_01.row.prog w) (lawTop dp un gd L fa ccd outer) (execs bindBody (lawEnv L fa ccd))
      (RsPost h₀ L (BiJ w xA bA rA pA oA nd7 tp fo (j + 1)) own s Q) E s := by
  (revert X; k_fill; intro X)
  k_with_none
  conv => arg 4; arg 1; whnf
  delta lawTop lawEnv
  conv in (occs := *) lawSc => all_goals whnf
  obtain @⟨gr, oN, kvs, u, hdN, hF⟩ := hJ
  simp only [List.cons_append] at N ndx
  obtain ⟨nw, hnw⟩ : ∃ nw, nw = (gr ++ fo) ++ own := ⟨_, rfl⟩
  rw [← hnw] at N ndx
  have hsub : ∀ p ∈ fo, p ∈ nw := fun p hp => hnw ▸ List.mem_append.mpr (.inl (List.mem_append.mpr (.inr hp)))
  replace m3 := hsub _ m3
  replace m5 := hsub _ m5
  replace ms := hsub _ ms
  replace me := hsub _ me
  replace mx := hsub _ mx
  replace ma := hsub _ ma
  replace mad := hsub _ mad
  replace hI := hI.mono hsub
  have hkl := hF.len
  unfold lawM at F
  k_with "newTuple" => (k_here; k_dflt (refine' my_tuple ?k1 ?k2 ?k3 ?k4 ?_; (case k1 => k_asm); (case k2 => k_asm); (case k3 => with_reducible assumption); (case k4 => exact Nat.le_of_ble_eq_true rfl)); intro l' h' F' N' l1 nd9; (try k_sweep); (try k_fold))
  k_with "newList" => (k_here; k_dflt (refine' my_list ?k1 ?k2 ?k3 ?k4 ?_; (case k1 => k_asm); (case k2 => k_asm); (case k3 => with_reducible assumption); (case k4 => exact Nat.le_of_ble_eq_true rfl)); intro l' h' F' N' l1 nd9; (try k_sweep); (try k_fold))
  k_with "storeName" => (k_here; k_dflt (first | (refine' my_store 0 ?F ?N ?D ?c ?e ?d ?_ ?a ?b; (case a => rfl); (case b => rfl); (case F => with_reducible assumption); (case N => with_reducible assumption); (case c => rfl); (case e => rfl); (case D => with_reducible assumption); (case d => with_reducible assumption)) | (refine' my_store 1 ?F ?N ?D ?c ?e ?d ?_ ?a ?b; (case a => rfl); (case b => rfl); (case F => with_reducible assumption); (case N => with_reducible assumption); (case c => rfl); (case e => rfl); (case D => with_reducible assumption); (case d => with_reducible assumption)) | (refine' my_store 2 ?F ?N ?D ?c ?e ?d ?_ ?a ?b; (case a => rfl); (case b => rfl); (case F => with_reducible assumption); (case N => with_reducible assumption); (case c => rfl); (case e => rfl); (case D => with_reducible assumption); (case d => with_reducible assumption)) | (refine' my_store 3 ?F ?N ?D ?c ?e ?d ?_ ?a ?b; (case a => rfl); (case b => rfl); (case F => with_reducible assumption); (case N => with_reducible assumption); (case c => rfl); (case e => rfl); (case D => with_reducible assumption); (case d => with_reducible assumption)) | (refine' my_store 4 ?F ?N ?D ?c ?e ?d ?_ ?a ?b; (case a => rfl); (case b => rfl); (case F => with_reducible assumption); (case N => with_reducible assumption); (case c => rfl); (case e => rfl); (case D => with_reducible assumption); (case d => with_reducible assumption)) | (refine' my_store 5 ?F ?N ?D ?c ?e ?d ?_ ?a ?b; (case a => rfl); (case b => rfl); (case F => with_reducible assumption); (case N => with_reducible assumption); (case c => rfl); (case e => rfl); (case D => with_reducible assumption); (case d => with_reducible assumption)) | (refine' my_store 6 ?F ?N ?D ?c ?e ?d ?_ ?a ?b; (case a => rfl); (case b => rfl); (case F => with_reducible assumption); (case N => with_reducible assumption); (case c => rfl); (case e => rfl); (case D => with_reducible assumption); (case d => with_reducible assumption)) | (refine' my_store 7 ?F ?N ?D ?c ?e ?d ?_ ?a ?b; (case a => rfl); (case b => rfl); (case F => with_reducible assumption); (case N => with_reducible assumption); (case c => rfl); (case e => rfl); (case D => with_reducible assumption); (case d => with_reducible assumption)) | (refine' my_store 8 ?F ?N ?D ?c ?e ?d ?_ ?a ?b; (case a => rfl); (case b => rfl); (case F => with_reducible assumption); (case N => with_reducible assumption); (case c => rfl); (case e => rfl); (case D => with_reducible assumption); (case d => with_reducible assumption)) | (refine' my_store 9 ?F ?N ?D ?c ?e ?d ?_ ?a ?b; (case a => rfl); (case b => rfl); (case F => with_reducible assumption); (case N => with_reducible assumption); (case c => rfl); (case e => rfl); (case D => with_reducible assumption); (case d => with_reducible assumption)) | (refine' my_store 10 ?F ?N ?D ?c ?e ?d ?_ ?a ?b; (case a => rfl); (case b => rfl); (case F => with_reducible assumption); (case N => with_reducible assumption); (case c => rfl); (case e => rfl); (case D => with_reducible assumption); (case d => with_reducible assumption)) | (refine' my_store 11 ?F ?N ?D ?c ?e ?d ?_ ?a ?b; (case a => rfl); (case b => rfl); (case F => with_reducible assumption); (case N => with_reducible assumption); (case c => rfl); (case e => rfl); (case D => with_reducible assumption); (case d => with_reducible assumption)) | (refine' my_store 12 ?F ?N ?D ?c ?e ?d ?_ ?a ?b; (case a => rfl); (case b => rfl); (case F => with_reducible assumption); (case N => with_reducible assumption); (case c => rfl); (case e => rfl); (case D => with_reducible assumption); (case d => with_reducible assumption)) | (refine' my_store 13 ?F ?N ?D ?c ?e ?d ?_ ?a ?b; (case a => rfl); (case b => rfl); (case F => with_reducible assumption); (case N => with_reducible assumption); (case c => rfl); (case e => rfl); (case D => with_reducible assumption); (case d => with_reducible assumption)) | (refine' my_store 14 ?F ?N ?D ?c ?e ?d ?_ ?a ?b; (case a => rfl); (case b => rfl); (case F => with_reducible assumption); (case N => with_reducible assumption); (case c => rfl); (case e => rfl); (case D => with_reducible assumption); (case d => with_reducible assumption)) | (refine' my_store 15 ?F ?N ?D ?c ?e ?d ?_ ?a ?b; (case a => rfl); (case b => rfl); (case F => with_reducible assumption); (case N => with_reducible assumption); (case c => rfl); (case e => rfl); (case D => with_reducible assumption); (case d => with_reducible assumption)) | (refine' my_store 16 ?F ?N ?D ?c ?e ?d ?_ ?a ?b; (case a => rfl); (case b => rfl); (case F => with_reducible assumption); (case N => with_reducible assumption); (case c => rfl); (case e => rfl); (case D => with_reducible assumption); (case d => with_reducible assumption)) | (refine' my_store 17 ?F ?N ?D ?c ?e ?d ?_ ?a ?b; (case a => rfl); (case b => rfl); (case F => with_reducible assumption); (case N => with_reducible assumption); (case c => rfl); (case e => rfl); (case D => with_reducible assumption); (case d => with_reducible assumption)) | (refine' my_store 18 ?F ?N ?D ?c ?e ?d ?_ ?a ?b; (case a => rfl); (case b => rfl); (case F => with_reducible assumption); (case N => with_reducible assumption); (case c => rfl); (case e => rfl); (case D => with_reducible assumption); (case d => with_reducible assumption)) | (refine' my_store 19 ?F ?N ?D ?c ?e ?d ?_ ?a ?b; (case a => rfl); (case b => rfl); (case F => with_reducible assumption); (case N => with_reducible assumption); (case c => rfl); (case e => rfl); (case D => with_reducible assumption); (case d => with_reducible assumption))); intro h' o' F' N' nd9 cd9; (try dsimp only at N' nd9); (try k_sweep); (try k_fold))
  k_with "subscriptTail" => (k_here; k_dflt (first
      | (refine' my_sub (vs := [Value.ref a7]) ?k1 ?k2 ?k3 ?k4 ?k5 ?_ ?k6; (case k1 => k_asm); (case k2 => k_mem); (case k3 => decide); (case k4 => decide); (case k5 => rfl); (case k6 => with_unfolding_all rfl))
      | (refine' my_sub (vs := ev) ?k1 ?k2 ?k3 ?k4 ?k5 ?_ ?k6; (case k1 => k_asm); (case k2 => k_mem); (case k3 => omega); (case k4 => omega); (case k5 => (rw [Int.toNat_natCast]; exact hsj)); (case k6 => with_unfolding_all rfl))
      | (refine' my_sub (v := .str (txt j) tj) (vs := [Value.str (Str.ofString "if") x0, Value.str (Str.ofString "let") x1, Value.str (Str.ofString "x") x2]) ?k1 ?k2 ?k3 ?k4 ?k5 ?_ ?k6; (case k1 => k_asm); (case k2 => k_mem); (case k3 => omega); (case k4 => omega); (case k5 => (rw [Int.toNat_natCast]; exact hxj)); (case k6 => with_unfolding_all rfl))))
  k_with "call ref" => (first | ((with_reducible show wpAny _ _ (call (Value.ref 143) _) _ _ _); (rename News _ _ _ _ => lN); (try (rename ND _ => lD)); k_here; k_dflt (refine' Says.use (says_special_new) ?k1 ?k2 ?k3 ?k4 ?k5 ?kK ?kd ?ku ?_; (case k4 => exact lN);  (case k1 => k_asm); (case k2 => k_asm); (case k3 => k_asm); (case k5 => k_asm); (case kK => first | exact rfl | assumption); (case kd => ktr_room); (case ku => ktr_units)); intro r9 n9 h9 tk9 F9 N9 O9; (obtain ⟨a9, dd9, z1, z2, e9, q1, q2, e8⟩ := O9); subst r9; subst n9; (have nd9 := nd_new2N N9 q2 q1 lD); clear lN lD; (try dsimp only); (try k_fold)) | ((with_reducible show wpAny _ _ (call (Value.ref 245) _) _ _ _); (rename News _ _ _ _ => lN); (try (rename ND _ => lD)); k_here; k_dflt (first | ((have lE := ND.front lD 2); (refine' Says.use (says_bind (v := .ref sj) (d := .sym sj j (txt j)) ?c1 ?c2 (ND.off lE) ?c3 ?c4 ?c5) ?k1 ?k2 ?k3 ?k4 ?k5 ?kK ?kd ?ku ?_; (case k4 => exact news_front lN 2); (case c1 => k_mem); (case c2 => k_mem); (case c3 => with_reducible assumption); (case c4 => omega); (case c5 => (refine IdnIn.mono hI (fun p hp => ?_); (repeat (first | exact hp | apply List.Mem.tail)))); (case k1 => k_asm); (case k2 => k_asm); (case k3 => k_asm); (case k5 => k_asm); (case kK => first | exact rfl | assumption); (case kd => ktr_room); (case ku => ktr_units)))); intro r9 n9 h9 tk9 F9 N9 O9; (obtain ⟨e9, o9, hd9', e8⟩ := O9); subst r9; subst n9; (k_dflt (have nd9 := ND.putN N9 lE)); clear lE lN lD; (try dsimp only); (try k_fold)))
  k_with "RsPost" => (dsimp only [RsPost])
  k_steps
  (rename News _ _ _ _ => lN); (rename ND _ => lD); (rename Fr _ _ _ _ => lF)
  subst hnw
  refine ⟨_, _, _, (nd7, _) :: tp :: ((_ :: _ :: gr) ++ fo), rfl, lF, news_front (news_front lN 3) 1, (lD.front 3).front 1, ?_⟩
  exact BiJ.of (lawM_self rfl rfl rfl rfl rfl) (by with_reducible assumption) (hF.next hj (fun p hp => .tail _ (.tail _ hp)) (.mk (.head _) (.tail _ (.head _))))
theorem law_tail4 {w : World} {mean : ExcName → Option Value} {mg mb : Str → Option Value} {dp un : Nat} {gd : Option (List Code)} {fa : Addr} {ccd : Value} {outer : List Env} {A₀ : Around} {base h₀ : Heap} {L : Addr} {s : Shared} {Q : Flow → Shared → Prop} {E : Value → Shared → Prop}
    {c1 c2 c3 c4 c5 c6 c7 oD oS oB : Obj} {v4 v6 v7 : Option Value} {D wA wd tA a1 a2 xA eA bA rA pA sA oA bd nd7 a7 ad7 ke kx k9 : Nat} {u1 u2 u3 u4 u5 u6 w5 w6 x0 x1 x2 t0 t1 t2 p0 p1 p2 y0 y1 : Tok} {m : Str → Option Value} {fo : Led} {ev : List Value}
    (B : Below A₀ base outer h₀) (X : (_root_.Mine.tp.heap_39 w.params).In h₀) (T : Top _root_.Mine.tp.view_39 [] mean mg mb h₀) (hd : dp + 60 < recursionLimit) (hu : un + 8 * 60 < cLine) (hE : PassesOwn (model PySem.Challenge.rw_nt0172_01.row.prog w) (lawTop dp un gd L fa ccd outer) (lawEnv L fa ccd) E)
    (m1 : (L + 1, c1) ∈ fo) (d1 : c1.data = .cell (some (.ref D))) (m2 : (L + 1 + 1, c2) ∈ fo) (d2 : c2.data = .cell (some (.ref wA))) (m3 : (L + 1 + 1 + 1, c3) ∈ fo) (d3 : c3.data = .cell (some (.ref sA))) (m5 : (L + 1 + 1 + 1 + 1 + 1, c5) ∈ fo) (d5 : c5.data = .cell (some (.ref eA)))
    (h4 : c4.data = .cell v4) (h6 : c6.data = .cell v6) (h7 : c7.data = .cell v7) (hdk : DeckObj oD)
    (mw : (wA, instObj 388 wd) ∈ fo) (mx : (xA, listOf [Value.str (Str.ofString "if") x0, Value.str (Str.ofString "let") x1, Value.str (Str.ofString "x") x2].toArray kx) ∈ fo)
    (ma : (a7, instObj 283 ad7) ∈ fo) (mad : (ad7, dictOf [⟨kh w "parent", .str (Str.ofString "parent") w5, .none⟩, ⟨kh w "names", .str (Str.ofString "names") w6, .ref nd7⟩] k9) ∈ fo)
    (mbd : (bd, oB) ∈ fo) (hlob : (bd == sysModules) = false) (hdB : oB.IsDictOf (IntK w) [(0, .str (Str.ofString "if") y0), (1, .str (Str.ofString "let") y1)])
    (hy : ev.length = 3) (hs : ∀ j : Nat, j < 3 → ∃ a, ev[j]? = some (Value.ref a) ∧ IdnIn w fo (.ref a) (.sym a j (txt j)))
    (q4 : (nd7 == sysModules) = false) (q5 : Obj.IsDictOf (IntK w) oS [])
    (F : Fr h₀ L s.heap (fun y => if y = Str.ofString "bound" then some (.ref oA) else if y = Str.ofString "depths" then some (.ref pA) else if y = Str.ofString "roots" then some (.ref rA) else if y = Str.ofString "bases" then some (.ref bA) else if y = Str.ofString "texts" then some (.ref xA) else m y))
    (N : News h₀ L s.heap ((D, oD) :: (wd, worldD w tA a1 a2 0 u1 u2 u3 u4 u5 u6) :: (eA, listOf ev.toArray ke) :: (bA, listOf [Value.none, Value.none, Value.none].toArray 0) :: (rA, listOf [Value.int 0 t0, Value.int 1 t1, Value.int 2 t2].toArray 0) :: (pA, listOf [Value.int 0 p0, Value.int 0 p1, Value.int 0 p2].toArray 0) :: (sA, listOf [Value.ref a7].toArray 0) :: (oA, listOf [Value.ref bd].toArray 0) :: (L + 1 + 1 + 1 + 1, c4) :: (L + 1 + 1 + 1 + 1 + 1 + 1, c6) :: (L + 1 + 1 + 1 + 1 + 1 + 1 + 1, c7) :: (nd7, oS) :: fo))
    (nd : ND ((D, oD) :: (wd, worldD w tA a1 a2 0 u1 u2 u3 u4 u5 u6) :: (eA, listOf ev.toArray ke) :: (bA, listOf [Value.none, Value.none, Value.none].toArray 0) :: (rA, listOf [Value.int 0 t0, Value.int 1 t1, Value.int 2 t2].toArray 0) :: (pA, listOf [Value.int 0 p0, Value.int 0 p1, Value.int 0 p2].toArray 0) :: (sA, listOf [Value.ref a7].toArray 0) :: (oA, listOf [Value.ref bd].toArray 0) :: (L + 1 + 1 + 1 + 1, c4) :: (L + 1 + 1 + 1 + 1 + 1 + 1, c6) :: (L + 1 + 1 + 1 + 1 + 1 + 1 + 1, c7) :: (nd7, oS) :: fo))
    (hQ : ∀ h' tk' m', Fr h₀ L h' m' → Q (.ret (.bool true)) { s with heap := h', toks := tk' }) :
    wpAny (model PySem.Challenge.rw_nt0172_01.row.prog w) (lawTop dp un gd L fa ccd outer) (execs (lawBody.drop 4) (lawEnv L fa ccd)) Q E s := by
  (revert X; k_fill; intro X)
  k_with_none
  conv => arg 3; arg 1; whnf
  delta lawTop lawEnv
  conv in (occs := *) lawSc => all_goals whnf
  obtain ⟨s0, hs0, hI0⟩ := hs 0 (by decide)
  obtain ⟨s1, hs1, hI1⟩ := hs 1 (by decide)
  obtain ⟨s2, hs2, hI2⟩ := hs 2 (by decide)
  k_with "newTuple" => (k_here; k_dflt (refine' my_tuple ?k1 ?k2 ?k3 ?k4 ?_; (case k1 => k_asm); (case k2 => k_asm); (case k3 => with_reducible assumption); (case k4 => exact Nat.le_of_ble_eq_true rfl)); intro l' h' F' N' l1 nd9; (try k_sweep); (try k_fold))
  k_with "newList" => (k_here; k_dflt (refine' my_list ?k1 ?k2 ?k3 ?k4 ?_; (case k1 => k_asm); (case k2 => k_asm); (case k3 => with_reducible assumption); (case k4 => exact Nat.le_of_ble_eq_true rfl)); intro l' h' F' N' l1 nd9; (try k_sweep); (try k_fold))
  k_with "storeName" => (k_here; k_dflt (first | (refine' my_store 0 ?F ?N ?D ?c ?e ?d ?_ ?a ?b; (case a => rfl); (case b => rfl); (case F => with_reducible assumption); (case N => with_reducible assumption); (case c => rfl); (case e => rfl); (case D => with_reducible assumption); (case d => with_reducible assumption)) | (refine' my_store 1 ?F ?N ?D ?c ?e ?d ?_ ?a ?b; (case a => rfl); (case b => rfl); (case F => with_reducible assumption); (case N => with_reducible assumption); (case c => rfl); (case e => rfl); (case D => with_reducible assumption); (case d => with_reducible assumption)) | (refine' my_store 2 ?F ?N ?D ?c ?e ?d ?_ ?a ?b; (case a => rfl); (case b => rfl); (case F => with_reducible assumption); (case N => with_reducible assumption); (case c => rfl); (case e => rfl); (case D => with_reducible assumption); (case d => with_reducible assumption)) | (refine' my_store 3 ?F ?N ?D ?c ?e ?d ?_ ?a ?b; (case a => rfl); (case b => rfl); (case F => with_reducible assumption); (case N => with_reducible assumption); (case c => rfl); (case e => rfl); (case D => with_reducible assumption); (case d => with_reducible assumption)) | (refine' my_store 4 ?F ?N ?D ?c ?e ?d ?_ ?a ?b; (case a => rfl); (case b => rfl); (case F => with_reducible assumption); (case N => with_reducible assumption); (case c => rfl); (case e => rfl); (case D => with_reducible assumption); (case d => with_reducible assumption)) | (refine' my_store 5 ?F ?N ?D ?c ?e ?d ?_ ?a ?b; (case a => rfl); (case b => rfl); (case F => with_reducible assumption); (case N => with_reducible assumption); (case c => rfl); (case e => rfl); (case D => with_reducible assumption); (case d => with_reducible assumption)) | (refine' my_store 6 ?F ?N ?D ?c ?e ?d ?_ ?a ?b; (case a => rfl); (case b => rfl); (case F => with_reducible assumption); (case N => with_reducible assumption); (case c => rfl); (case e => rfl); (case D => with_reducible assumption); (case d => with_reducible assumption)) | (refine' my_store 7 ?F ?N ?D ?c ?e ?d ?_ ?a ?b; (case a => rfl); (case b => rfl); (case F => with_reducible assumption); (case N => with_reducible assumption); (case c => rfl); (case e => rfl); (case D => with_reducible assumption); (case d => with_reducible assumption)) | (refine' my_store 8 ?F ?N ?D ?c ?e ?d ?_ ?a ?b; (case a => rfl); (case b => rfl); (case F => with_reducible assumption); (case N => with_reducible assumption); (case c => rfl); (case e => rfl); (case D => with_reducible assumption); (case d => with_reducible assumption)) | (refine' my_store 9 ?F ?N ?D ?c ?e ?d ?_ ?a ?b; (case a => rfl); (case b => rfl); (case F => with_reducible assumption); (case N => with_reducible assumption); (case c => rfl); (case e => rfl); (case D => with_reducible assumption); (case d => with_reducible assumption)) | (refine' my_store 10 ?F ?N ?D ?c ?e ?d ?_ ?a ?b; (case a => rfl); (case b => rfl); (case F => with_reducible assumption); (case N => with_reducible assumption); (case c => rfl); (case e => rfl); (case D => with_reducible assumption); (case d => with_reducible assumption)) | (refine' my_store 11 ?F ?N ?D ?c ?e ?d ?_ ?a ?b; (case a => rfl); (case b => rfl); (case F => with_reducible assumption); (case N => with_reducible assumption); (case c => rfl); (case e => rfl); (case D => with_reducible assumption); (case d => with_reducible assumption)) | (refine' my_store 12 ?F ?N ?D ?c ?e ?d ?_ ?a ?b; (case a => rfl); (case b => rfl); (case F => with_reducible assumption); (case N => with_reducible assumption); (case c => rfl); (case e => rfl); (case D => with_reducible assumption); (case d => with_reducible assumption)) | (refine' my_store 13 ?F ?N ?D ?c ?e ?d ?_ ?a ?b; (case a => rfl); (case b => rfl); (case F => with_reducible assumption); (case N => with_reducible assumption); (case c => rfl); (case e => rfl); (case D => with_reducible assumption); (case d => with_reducible assumption)) | (refine' my_store 14 ?F ?N ?D ?c ?e ?d ?_ ?a ?b; (case a => rfl); (case b => rfl); (case F => with_reducible assumption); (case N => with_reducible assumption); (case c => rfl); (case e => rfl); (case D => with_reducible assumption); (case d => with_reducible assumption)) | (refine' my_store 15 ?F ?N ?D ?c ?e ?d ?_ ?a ?b; (case a => rfl); (case b => rfl); (case F => with_reducible assumption); (case N => with_reducible assumption); (case c => rfl); (case e => rfl); (case D => with_reducible assumption); (case d => with_reducible assumption)) | (refine' my_store 16 ?F ?N ?D ?c ?e ?d ?_ ?a ?b; (case a => rfl); (case b => rfl); (case F => with_reducible assumption); (case N => with_reducible assumption); (case c => rfl); (case e => rfl); (case D => with_reducible assumption); (case d => with_reducible assumption)) | (refine' my_store 17 ?F ?N ?D ?c ?e ?d ?_ ?a ?b; (case a => rfl); (case b => rfl); (case F => with_reducible assumption); (case N => with_reducible assumption); (case c => rfl); (case e => rfl); (case D => with_reducible assumption); (case d => with_reducible assumption)) | (refine' my_store 18 ?F ?N ?D ?c ?e ?d ?_ ?a ?b; (case a => rfl); (case b => rfl); (case F => with_reducible assumption); (case N => with_reducible assumption); (case c => rfl); (case e => rfl); (case D => with_reducible assumption); (case d => with_reducible assumption)) | (refine' my_store 19 ?F ?N ?D ?c ?e ?d ?_ ?a ?b; (case a => rfl); (case b => rfl); (case F => with_reducible assumption); (case N => with_reducible assumption); (case c => rfl); (case e => rfl); (case D => with_reducible assumption); (case d => with_reducible assumption))); intro h' o' F' N' nd9 cd9; (try dsimp only at N' nd9); (try k_sweep); (try k_fold))
  k_with "exec For Name Tuple cons nil" => (k_here; (rename Fr _ _ _ _ => lF'); (with_unfolding_all refine' For_invVF lF' ?k1 ?k2 ?_ (hE := hE); (case k1 => exact rfl); (case k2 => exact rfl); k_whole))
  k_with "pyIter ref" => (k_dflt ((rename Fr _ _ _ _ => lF); (rename News _ _ _ _ => lN); (rename ND _ => lD); (have N8 := news_front lN 12); (have D8 := lD.front 12); (refine' rl_tuple (BiJ w xA bA rA pA oA nd7 (_, tupO _) ((D, oD) :: (wd, worldD w tA a1 a2 0 u1 u2 u3 u4 u5 u6) :: (eA, listOf ev.toArray ke) :: (bA, listOf [Value.none, Value.none, Value.none].toArray 0) :: (rA, listOf [Value.int 0 t0, Value.int 1 t1, Value.int 2 t2].toArray 0) :: (pA, listOf [Value.int 0 p0, Value.int 0 p1, Value.int 0 p2].toArray 0) :: (sA, listOf [Value.ref a7].toArray 0) :: (oA, listOf [Value.ref bd].toArray 0) :: (L + 1 + 1 + 1 + 1, c4) :: (L + 1 + 1 + 1 + 1 + 1 + 1, c6) :: (L + 1 + 1 + 1 + 1 + 1 + 1 + 1, c7) :: fo)) rfl (fun i m nx h => by cases h; exact .tail _ (.head _)) lF N8 D8 (BiJ.of (gr := []) (lawM_self rfl rfl rfl rfl rfl) q5 .z) (fun i2 v2 m2 nx2 h2 tk2 own2 hv2 hJ2 F2 N2 nd2 => ?turn) (fun m2 nx2 h2 tk2 hJ2 F2 N2 nd2 => ?done)); (case turn => ((rcases two_at hv2 with ⟨rfl, rfl⟩ | ⟨rfl, rfl⟩) <;> (first | exact bind_turn (sj := s0) (j := 0) B X T hd hu (by decide) (in11 m3) d3 (in11 m5) d5 (.tail _ (.tail _ (.tail _ (.tail _ (.tail _ (.tail _ (.head _))))))) (.tail _ (.tail _ (.head _))) (in11 mx) (in11 ma) (in11 mad) hy hs0 (hI0.mono (fun p hp => in11 hp)) rfl hJ2 F2 N2 nd2 | exact bind_turn (sj := s1) (j := 1) B X T hd hu (by decide) (in11 m3) d3 (in11 m5) d5 (.tail _ (.tail _ (.tail _ (.tail _ (.tail _ (.tail _ (.head _))))))) (.tail _ (.tail _ (.head _))) (in11 mx) (in11 ma) (in11 mad) hy hs1 (hI1.mono (fun p hp => in11 hp)) rfl hJ2 F2 N2 nd2))); (case' done => ((obtain @⟨gr5, oN5, kvs5, u5', hdN5, hF5⟩ := hJ2); (try k_fold)))))
  k_with "execs cons" => ((with_reducible show wpAny _ _ (execs (Stmt.For (Expr.Name (Str.ofString "level") _) _ _ _ _ :: _) _) _ _ _); refine halt_in ?_)
  k_steps
  with_reducible refine halt_out ?_
  (rename News _ _ _ _ => lN); (rename Fr _ _ _ _ => lF)
  obtain ⟨fz, N6, D6, hin, hgr, ha⟩ := start_split (E := [(D, oD), (wd, worldD w tA a1 a2 0 u1 u2 u3 u4 u5 u6), (eA, listOf ev.toArray ke), (bA, listOf [Value.none, Value.none, Value.none].toArray 0), (rA, listOf [Value.int 0 t0, Value.int 1 t1, Value.int 2 t2].toArray 0), (pA, listOf [Value.int 0 p0, Value.int 0 p1, Value.int 0 p2].toArray 0), (sA, listOf [Value.ref a7].toArray 0), (oA, listOf [Value.ref bd].toArray 0), (L + 1 + 1 + 1 + 1, c4), (L + 1 + 1 + 1 + 1 + 1 + 1, c6), (L + 1 + 1 + 1 + 1 + 1 + 1 + 1, c7)]) (fo := fo) (gr := gr5) (a := (nd7, oN5)) lN nd2
  cases hF5 with
  | two g1 g2 =>
    have H := LvFix.start (L := L) (D := D) (eA := eA) (sA := sA) (t0 := t0) (t1 := t1) (t2 := t2) (p0 := p0) (p1 := p1) (p2 := p2) (hin _ m1) d1 (hin _ m2) d2 (hin _ m3) d3 (hin _ m5) d5 (hin _ mw) hy hs0 (hI0.mono hin) hs1 (hI1.mono hin) hs2 (hI2.mono hin) (hin _ ma) (hin _ mad) ha q4 hdN5
      (g1.mono hgr) (g2.mono hgr) (hin _ mbd) hlob hdB
    exact law_tail5 B X T hd hu hE H (hin _ mx) hdk h4 h6 h7 lF N6 D6 hQ
end Mine
namespace Mine
local macro_rules | `(tactic| walk_at $s:str) => `(tactic| k_extra $s)
local macro_rules | `(tactic| k_room) => `(tactic| ktr_room)
local macro_rules | `(tactic| k_all) => `(tactic| assumption)
local macro_rules | `(tactic| k_mem) => `(tactic| assumption)

theorem nd_twoN {h₀ h : Heap} {L : Addr} {a b : Nat} {o1 o2 : Obj} {l : Led} (_N : News h₀ L h ((a, o1) :: (b, o2) :: l)) (hb : ∀ p ∈ l, p.1 < b) (ha : ∀ p ∈ ((b, o2) :: l : Led), p.1 < a) (h : ND l) : ND ((a, o1) :: (b, o2) :: l) := (h.cons hb).cons ha
theorem law_tail3 {w : World} {mean : ExcName → Option Value} {mg mb : Str → Option Value} {dp un : Nat} {gd : Option (List Code)} {fa : Addr} {ccd : Value} {outer : List Env} {A₀ : Around} {base h₀ : Heap} {L : Addr} {s : Shared} {Q : Flow → Shared → Prop} {E : Value → Shared → Prop}
    {c1 c2 c3 c4 c5 c6 c7 oD oS : Obj} {v4 v6 v7 : Option Value} {D wA wd tA a1 a2 xA eA bA rA pA sA nd7 a7 ad7 ke kx k9 : Nat} {u1 u2 u3 u4 u5 u6 w5 w6 x0 x1 x2 t0 t1 t2 p0 p1 p2 : Tok} {m : Str → Option Value} {fo : Led} {ev : List Value}
    (B : Below A₀ base outer h₀) (X : (_root_.Mine.tp.heap_39 w.params).In h₀) (T : Top _root_.Mine.tp.view_39 [] mean mg mb h₀) (hd : dp + 60 < recursionLimit) (hu : un + 8 * 60 < cLine) (hE : PassesOwn (model PySem.Challenge.rw_nt0172_01.row.prog w) (lawTop dp un gd L fa ccd outer) (lawEnv L fa ccd) E)
    (m1 : (L + 1, c1) ∈ fo) (d1 : c1.data = .cell (some (.ref D))) (m2 : (L + 1 + 1, c2) ∈ fo) (d2 : c2.data = .cell (some (.ref wA))) (m3 : (L + 1 + 1 + 1, c3) ∈ fo) (d3 : c3.data = .cell (some (.ref sA))) (m5 : (L + 1 + 1 + 1 + 1 + 1, c5) ∈ fo) (d5 : c5.data = .cell (some (.ref eA)))
    (h4 : c4.data = .cell v4) (h6 : c6.data = .cell v6) (h7 : c7.data = .cell v7) (hdk : DeckObj oD)
    (mw : (wA, instObj 388 wd) ∈ fo) (mx : (xA, listOf [Value.str (Str.ofString "if") x0, Value.str (Str.ofString "let") x1, Value.str (Str.ofString "x") x2].toArray kx) ∈ fo)
    (ma : (a7, instObj 283 ad7) ∈ fo) (mad : (ad7, dictOf [⟨kh w "parent", .str (Str.ofString "parent") w5, .none⟩, ⟨kh w "names", .str (Str.ofString "names") w6, .ref nd7⟩] k9) ∈ fo)
    (hy : ev.length = 3) (hs : ∀ j : Nat, j < 3 → ∃ a, ev[j]? = some (Value.ref a) ∧ IdnIn w fo (.ref a) (.sym a j (txt j)))
    (q4 : (nd7 == sysModules) = false) (q5 : Obj.IsDictOf (IntK w) oS [])
    (F : Fr h₀ L s.heap (fun y => if y = Str.ofString "depths" then some (.ref pA) else if y = Str.ofString "roots" then some (.ref rA) else if y = Str.ofString "bases" then some (.ref bA) else if y = Str.ofString "texts" then some (.ref xA) else m y))
    (N : News h₀ L s.heap ((D, oD) :: (wd, worldD w tA a1 a2 0 u1 u2 u3 u4 u5 u6) :: (eA, listOf ev.toArray ke) :: (bA, listOf [Value.none, Value.none, Value.none].toArray 0) :: (rA, listOf [Value.int 0 t0, Value.int 1 t1, Value.int 2 t2].toArray 0) :: (pA, listOf [Value.int 0 p0, Value.int 0 p1, Value.int 0 p2].toArray 0) :: (sA, listOf [Value.ref a7].toArray 0) :: (L + 1 + 1 + 1 + 1, c4) :: (L + 1 + 1 + 1 + 1 + 1 + 1, c6) :: (L + 1 + 1 + 1 + 1 + 1 + 1 + 1, c7) :: (nd7, oS) :: fo))
    (nd : ND ((D, oD) :: (wd, worldD w tA a1 a2 0 u1 u2 u3 u4 u5 u6) :: (eA, listOf ev.toArray ke) :: (bA, listOf [Value.none, Value.none, Value.none].toArray 0) :: (rA, listOf [Value.int 0 t0, Value.int 1 t1, Value.int 2 t2].toArray 0) :: (pA, listOf [Value.int 0 p0, Value.int 0 p1, Value.int 0 p2].toArray 0) :: (sA, listOf [Value.ref a7].toArray 0) :: (L + 1 + 1 + 1 + 1, c4) :: (L + 1 + 1 + 1 + 1 + 1 + 1, c6) :: (L + 1 + 1 + 1 + 1 + 1 + 1 + 1, c7) :: (nd7, oS) :: fo))
    (hQ : ∀ h' tk' m', Fr h₀ L h' m' → Q (.ret (.bool true)) { s with heap := h', toks := tk' }) :
    wpAny (model PySem.Challenge.rw_nt0172_01.row.prog w) (lawTop dp un gd L fa ccd outer) (execs (lawBody.drop 3) (lawEnv L fa ccd)) Q E s := by
  (revert X; k_fill; intro X)
  k_with_none
  conv => arg 3; arg 1; whnf
  delta lawTop lawEnv
  conv in (occs := *) lawSc => all_goals whnf
  obtain ⟨s0, hs0, hI0⟩ := hs 0 (by decide)
  obtain ⟨s1, hs1, hI1⟩ := hs 1 (by decide)
  k_with "newTuple" => (k_here; k_dflt (refine' my_tuple ?k1 ?k2 ?k3 ?k4 ?_; (case k1 => k_asm); (case k2 => k_asm); (case k3 => with_reducible assumption); (case k4 => exact Nat.le_of_ble_eq_true rfl)); intro l' h' F' N' l1 nd9; (try k_sweep); (try k_fold))
  k_with "newList" => (k_here; k_dflt (refine' my_list ?k1 ?k2 ?k3 ?k4 ?_; (case k1 => k_asm); (case k2 => k_asm); (case k3 => with_reducible assumption); (case k4 => exact Nat.le_of_ble_eq_true rfl)); intro l' h' F' N' l1 nd9; (try k_sweep); (try k_fold))
  k_with "storeName" => (k_here; k_dflt (first | (refine' my_store 0 ?F ?N ?D ?c ?e ?d ?_ ?a ?b; (case a => rfl); (case b => rfl); (case F => with_reducible assumption); (case N => with_reducible assumption); (case c => rfl); (case e => rfl); (case D => with_reducible assumption); (case d => with_reducible assumption)) | (refine' my_store 1 ?F ?N ?D ?c ?e ?d ?_ ?a ?b; (case a => rfl); (case b => rfl); (case F => with_reducible assumption); (case N => with_reducible assumption); (case c => rfl); (case e => rfl); (case D => with_reducible assumption); (case d => with_reducible assumption)) | (refine' my_store 2 ?F ?N ?D ?c ?e ?d ?_ ?a ?b; (case a => rfl); (case b => rfl); (case F => with_reducible assumption); (case N => with_reducible assumption); (case c => rfl); (case e => rfl); (case D => with_reducible assumption); (case d => with_reducible assumption)) | (refine' my_store 3 ?F ?N ?D ?c ?e ?d ?_ ?a ?b; (case a => rfl); (case b => rfl); (case F => with_reducible assumption); (case N => with_reducible assumption); (case c => rfl); (case e => rfl); (case D => with_reducible assumption); (case d => with_reducible assumption)) | (refine' my_store 4 ?F ?N ?D ?c ?e ?d ?_ ?a ?b; (case a => rfl); (case b => rfl); (case F => with_reducible assumption); (case N => with_reducible assumption); (case c => rfl); (case e => rfl); (case D => with_reducible assumption); (case d => with_reducible assumption)) | (refine' my_store 5 ?F ?N ?D ?c ?e ?d ?_ ?a ?b; (case a => rfl); (case b => rfl); (case F => with_reducible assumption); (case N => with_reducible assumption); (case c => rfl); (case e => rfl); (case D => with_reducible assumption); (case d => with_reducible assumption)) | (refine' my_store 6 ?F ?N ?D ?c ?e ?d ?_ ?a ?b; (case a => rfl); (case b => rfl); (case F => with_reducible assumption); (case N => with_reducible assumption); (case c => rfl); (case e => rfl); (case D => with_reducible assumption); (case d => with_reducible assumption)) | (refine' my_store 7 ?F ?N ?D ?c ?e ?d ?_ ?a ?b; (case a => rfl); (case b => rfl); (case F => with_reducible assumption); (case N => with_reducible assumption); (case c => rfl); (case e => rfl); (case D => with_reducible assumption); (case d => with_reducible assumption)) | (refine' my_store 8 ?F ?N ?D ?c ?e ?d ?_ ?a ?b; (case a => rfl); (case b => rfl); (case F => with_reducible assumption); (case N => with_reducible assumption); (case c => rfl); (case e => rfl); (case D => with_reducible assumption); (case d => with_reducible assumption)) | (refine' my_store 9 ?F ?N ?D ?c ?e ?d ?_ ?a ?b; (case a => rfl); (case b => rfl); (case F => with_reducible assumption); (case N => with_reducible assumption); (case c => rfl); (case e => rfl); (case D => with_reducible assumption); (case d => with_reducible assumption)) | (refine' my_store 10 ?F ?N ?D ?c ?e ?d ?_ ?a ?b; (case a => rfl); (case b => rfl); (case F => with_reducible assumption); (case N => with_reducible assumption); (case c => rfl); (case e => rfl); (case D => with_reducible assumption); (case d => with_reducible assumption)) | (refine' my_store 11 ?F ?N ?D ?c ?e ?d ?_ ?a ?b; (case a => rfl); (case b => rfl); (case F => with_reducible assumption); (case N => with_reducible assumption); (case c => rfl); (case e => rfl); (case D => with_reducible assumption); (case d => with_reducible assumption)) | (refine' my_store 12 ?F ?N ?D ?c ?e ?d ?_ ?a ?b; (case a => rfl); (case b => rfl); (case F => with_reducible assumption); (case N => with_reducible assumption); (case c => rfl); (case e => rfl); (case D => with_reducible assumption); (case d => with_reducible assumption)) | (refine' my_store 13 ?F ?N ?D ?c ?e ?d ?_ ?a ?b; (case a => rfl); (case b => rfl); (case F => with_reducible assumption); (case N => with_reducible assumption); (case c => rfl); (case e => rfl); (case D => with_reducible assumption); (case d => with_reducible assumption)) | (refine' my_store 14 ?F ?N ?D ?c ?e ?d ?_ ?a ?b; (case a => rfl); (case b => rfl); (case F => with_reducible assumption); (case N => with_reducible assumption); (case c => rfl); (case e => rfl); (case D => with_reducible assumption); (case d => with_reducible assumption)) | (refine' my_store 15 ?F ?N ?D ?c ?e ?d ?_ ?a ?b; (case a => rfl); (case b => rfl); (case F => with_reducible assumption); (case N => with_reducible assumption); (case c => rfl); (case e => rfl); (case D => with_reducible assumption); (case d => with_reducible assumption)) | (refine' my_store 16 ?F ?N ?D ?c ?e ?d ?_ ?a ?b; (case a => rfl); (case b => rfl); (case F => with_reducible assumption); (case N => with_reducible assumption); (case c => rfl); (case e => rfl); (case D => with_reducible assumption); (case d => with_reducible assumption)) | (refine' my_store 17 ?F ?N ?D ?c ?e ?d ?_ ?a ?b; (case a => rfl); (case b => rfl); (case F => with_reducible assumption); (case N => with_reducible assumption); (case c => rfl); (case e => rfl); (case D => with_reducible assumption); (case d => with_reducible assumption)) | (refine' my_store 18 ?F ?N ?D ?c ?e ?d ?_ ?a ?b; (case a => rfl); (case b => rfl); (case F => with_reducible assumption); (case N => with_reducible assumption); (case c => rfl); (case e => rfl); (case D => with_reducible assumption); (case d => with_reducible assumption)) | (refine' my_store 19 ?F ?N ?D ?c ?e ?d ?_ ?a ?b; (case a => rfl); (case b => rfl); (case F => with_reducible assumption); (case N => with_reducible assumption); (case c => rfl); (case e => rfl); (case D => with_reducible assumption); (case d => with_reducible assumption))); intro h' o' F' N' nd9 cd9; (try dsimp only at N' nd9); (try k_sweep); (try k_fold))
  k_with "execs cons" => ((with_reducible show wpAny _ _ (execs (Stmt.For (Expr.Name (Str.ofString "number") _) _ _ _ _ :: _) _) _ _ _); refine halt_in ?_)
  k_steps
  with_reducible refine halt_out ?_
  rename_i hh1 oB lo hB hf ap la oA hh2 lb hh3 lF lN
  have N8 := (news_front (news_front (news_front (news_front (news_front (news_front (news_front (news_front (news_front (news_front (news_front (news_front lN 12) 12) 12) 12) 4) 12) 12) 12) 12) 12) 12) 12)
  have nd2 := nd_twoN lN (ktn_ltOf la) (ktn_ltOf lb) nd
  have D8 := ((((((((((((nd2.front 12).front 12).front 12).front 12).front 4).front 12).front 12).front 12).front 12).front 12).front 12).front 12)
  have hin : ∀ p ∈ fo, p ∈ (s.heap.objs.size, oB) :: fo := fun p hp => List.Mem.tail _ hp
  exact law_tail4 B X T hd hu hE (hin _ m1) d1 (hin _ m2) d2 (hin _ m3) d3 (hin _ m5) d5 h4 h6 h7 hdk (hin _ mw) (hin _ mx) (hin _ ma) (hin _ mad) (.head _) lo hB hy (fun j hj => let ⟨a, e1, e2⟩ := hs j hj; ⟨a, e1, e2.mono hin⟩) q4 q5 lF N8 D8 hQ
end Mine
namespace Mine
local macro_rules | `(tactic| walk_at $s:str) => `(tactic| k_extra $s)
local macro_rules | `(tactic| k_room) => `(tactic| ktr_room)
local macro_rules | `(tactic| k_all) => `(tactic| assumption)
local macro_rules | `(tactic| k_mem) => `(tactic| assumption)

theorem law_tail3' {w : World} {mean : ExcName → Option Value} {mg mb : Str → Option Value} {dp un : Nat} {gd : Option (List Code)} {fa : Addr} {ccd : Value} {outer : List Env} {A₀ : Around} {base h₀ : Heap} {L : Addr} {s : Shared} {h : Heap} {tk : Nat} {Q : Flow → Shared → Prop} {E : Value → Shared → Prop}
    {c1 c2 c3 c4 c5 c6 c7 oD oS : Obj} {v4 v6 v7 : Option Value} {D wA wd tA a1 a2 xA eA bA rA pA sA nd7 a7 ad7 ke kx k9 : Nat} {u1 u2 u3 u4 u5 u6 w5 w6 x0 x1 x2 t0 t1 t2 p0 p1 p2 : Tok} {m : Str → Option Value} {fo : Led} {ev : List Value}
    (B : Below A₀ base outer h₀) (X : (_root_.Mine.tp.heap_39 w.params).In h₀) (T : Top _root_.Mine.tp.view_39 [] mean mg mb h₀) (hd : dp + 60 < recursionLimit) (hu : un + 8 * 60 < cLine) (hE : PassesOwn (model PySem.Challenge.rw_nt0172_01.row.prog w) (lawTop dp un gd L fa ccd outer) (lawEnv L fa ccd) E)
    (m1 : (L + 1, c1) ∈ fo) (d1 : c1.data = .cell (some (.ref D))) (m2 : (L + 1 + 1, c2) ∈ fo) (d2 : c2.data = .cell (some (.ref wA))) (m3 : (L + 1 + 1 + 1, c3) ∈ fo) (d3 : c3.data = .cell (some (.ref sA))) (m5 : (L + 1 + 1 + 1 + 1 + 1, c5) ∈ fo) (d5 : c5.data = .cell (some (.ref eA)))
    (h4 : c4.data = .cell v4) (h6 : c6.data = .cell v6) (h7 : c7.data = .cell v7) (hdk : DeckObj oD)
    (mw : (wA, instObj 388 wd) ∈ fo) (mx : (xA, listOf [Value.str (Str.ofString "if") x0, Value.str (Str.ofString "let") x1, Value.str (Str.ofString "x") x2].toArray kx) ∈ fo)
    (ma : (a7, instObj 283 ad7) ∈ fo) (mad : (ad7, dictOf [⟨kh w "parent", .str (Str.ofString "parent") w5, .none⟩, ⟨kh w "names", .str (Str.ofString "names") w6, .ref nd7⟩] k9) ∈ fo)
    (hy : ev.length = 3) (hs : ∀ j : Nat, j < 3 → ∃ a, ev[j]? = some (Value.ref a) ∧ IdnIn w fo (.ref a) (.sym a j (txt j)))
    (q4 : (nd7 == sysModules) = false) (q5 : Obj.IsDictOf (IntK w) oS [])
    (F : Fr h₀ L h (fun y => if y = Str.ofString "depths" then some (.ref pA) else if y = Str.ofString "roots" then some (.ref rA) else if y = Str.ofString "bases" then some (.ref bA) else if y = Str.ofString "texts" then some (.ref xA) else m y))
    (N : News h₀ L h ((D, oD) :: (wd, worldD w tA a1 a2 0 u1 u2 u3 u4 u5 u6) :: (eA, listOf ev.toArray ke) :: (bA, listOf [Value.none, Value.none, Value.none].toArray 0) :: (rA, listOf [Value.int 0 t0, Value.int 1 t1, Value.int 2 t2].toArray 0) :: (pA, listOf [Value.int 0 p0, Value.int 0 p1, Value.int 0 p2].toArray 0) :: (sA, listOf [Value.ref a7].toArray 0) :: (L + 1 + 1 + 1 + 1, c4) :: (L + 1 + 1 + 1 + 1 + 1 + 1, c6) :: (L + 1 + 1 + 1 + 1 + 1 + 1 + 1, c7) :: (nd7, oS) :: fo))
    (nd : ND ((D, oD) :: (wd, worldD w tA a1 a2 0 u1 u2 u3 u4 u5 u6) :: (eA, listOf ev.toArray ke) :: (bA, listOf [Value.none, Value.none, Value.none].toArray 0) :: (rA, listOf [Value.int 0 t0, Value.int 1 t1, Value.int 2 t2].toArray 0) :: (pA, listOf [Value.int 0 p0, Value.int 0 p1, Value.int 0 p2].toArray 0) :: (sA, listOf [Value.ref a7].toArray 0) :: (L + 1 + 1 + 1 + 1, c4) :: (L + 1 + 1 + 1 + 1 + 1 + 1, c6) :: (L + 1 + 1 + 1 + 1 + 1 + 1 + 1, c7) :: (nd7, oS) :: fo))
    (hQ : ∀ h' tk' m', Fr h₀ L h' m' → Q (.ret (.bool true)) { s with heap := h', toks := tk' }) :
    wpAny (model PySem.Challenge.rw_nt0172_01.row.prog w) (lawTop dp un gd L fa ccd outer) (execs (lawBody.drop 3) (lawEnv L fa ccd)) Q E { heap := h, gens := s.gens, drawn := s.drawn, toks := tk, os := s.os } := by
  exact @law_tail3 w mean mg mb dp un gd fa ccd outer A₀ base h₀ L { heap := h, gens := s.gens, drawn := s.drawn, toks := tk, os := s.os } Q E c1 c2 c3 c4 c5 c6 c7 oD oS v4 v6 v7 D wA wd tA a1 a2 xA eA bA rA pA sA nd7 a7 ad7 ke kx k9 u1 u2 u3 u4 u5 u6 w5 w6 x0 x1 x2 t0 t1 t2 p0 p1 p2 m fo ev B X T hd hu hE m1 d1 m2 d2 m3 d3 m5 d5 h4 h6 h7 hdk mw mx ma mad hy hs q4 q5 F N nd hQ
end Mine
namespace Mine
local macro_rules | `(tactic| walk_at $s:str) => `(tactic| k_extra $s)
local macro_rules | `(tactic| k_room) => `(tactic| ktr_room)
local macro_rules | `(tactic| k_all) => `(tactic| assumption)
local macro_rules | `(tactic| k_mem) => `(tactic| assumption)

theorem inr7 {p a b c d : Addr × Obj} {gr fo : Led} (h : p ∈ fo) : p ∈ a :: b :: c :: d :: (gr ++ fo) := .tail _ (.tail _ (.tail _ (.tail _ (List.mem_append.mpr (.inr h)))))
theorem inr7' {p a b c d e : Addr × Obj} {gr fo : Led} (h : p ∈ fo) : p ∈ a :: b :: c :: d :: e :: (gr ++ fo) := .tail _ (inr7 h)
theorem nd_symN {h₀ h : Heap} {L : Addr} {a d rl bt : Nat} {o1 o2 o3 o4 o5 o6 : Obj} {l : Led} (_N : News h₀ L h ((a, o1) :: (d, o2) :: (rl, o3) :: (bt, o4) :: l)) (hl : ∀ p ∈ ((rl, o5) :: (bt, o6) :: l : Led), p.1 < d) (h1 : d < a) (h : ND ((rl, o5) :: (bt, o6) :: l)) :
    ND ((a, o1) :: (d, o2) :: (rl, o3) :: (bt, o4) :: l) := (nd_new2 (o := o1) (o' := o2) hl h1 h).same rfl
theorem cut3 {h₀ h : Heap} {L : Addr} {a b c : Addr × Obj} {l : Led} (N : News h₀ L h (a :: b :: c :: l)) (D : ND (a :: b :: c :: l)) : ∃ fo, fo = l ∧ News h₀ L h (a :: b :: c :: ([] ++ fo)) ∧ ND (a :: b :: c :: ([] ++ fo)) := ⟨l, rfl, N, D⟩
theorem cut11 {h₀ h : Heap} {L : Addr} {a b c d e f g i j k m : Addr × Obj} {l : Led} (N : News h₀ L h (a :: b :: c :: d :: e :: f :: g :: i :: j :: k :: m :: l)) (D : ND (a :: b :: c :: d :: e :: f :: g :: i :: j :: k :: m :: l)) :
    ∃ fo, fo = l ∧ News h₀ L h (a :: b :: c :: d :: e :: f :: g :: i :: j :: k :: m :: fo) ∧ ND (a :: b :: c :: d :: e :: f :: g :: i :: j :: k :: m :: fo) := ⟨l, rfl, N, D⟩
theorem tail_perm (a b c d : Addr × Obj) (gr fo : Led) : (a :: b :: c :: d :: (gr ++ fo)).Perm (a :: b :: c :: d :: (fo ++ gr)) := ((((List.perm_append_comm (l₁ := gr) (l₂ := fo)).cons _).cons _).cons _).cons _
theorem law_tail1 {w : World} {mean : ExcName → Option Value} {mg mb : Str → Option Value} {dp un : Nat} {gd : Option (List Code)} {fa : Addr} {ccd : Value} {outer : List Env} {A₀ : Around} {base h₀ : Heap} {L : Addr} {s : Shared} {Q : Flow → Shared → Prop} {E : Value → Shared → Prop}
    {c1 c2 c3 c4 c5 c6 c7 oD o1 o2 ob : Obj} {v3 v4 v5 v6 v7 : Option Value} {D wA wd tA td rl bt a1 a2 : Nat} {u1 u2 u3 u4 u5 u6 u7 u8 : Tok} {m : Str → Option Value}
    (B : Below A₀ base outer h₀) (X : (_root_.Mine.tp.heap_39 w.params).In h₀) (T : Top _root_.Mine.tp.view_39 [] mean mg mb h₀) (hd : dp + 60 < recursionLimit) (hu : un + 8 * 60 < cLine) (hE : PassesOwn (model PySem.Challenge.rw_nt0172_01.row.prog w) (lawTop dp un gd L fa ccd outer) (lawEnv L fa ccd) E)
    (h1 : c1.data = .cell (some (.ref D))) (h2 : c2.data = .cell (some (.ref wA))) (h3 : c3.data = .cell v3) (h4 : c4.data = .cell v4) (h5 : c5.data = .cell v5) (h6 : c6.data = .cell v6) (h7 : c7.data = .cell v7) (hdk : DeckObj oD)
    (hne : rl < bt) (hlo : (bt == sysModules) = false) (hd' : Obj.IsDictOf (PySem.strKind ThePr w) ob [])
    (F : Fr h₀ L s.heap m)
    (N : News h₀ L s.heap [(L + 1 + 1 + 1 + 1 + 1, c5), (L + 1 + 1 + 1, c3), (L + 1 + 1, c2), (L + 1, c1), (a2, o2), (a1, o1), (bt, ob), (rl, listOf [].toArray 0), (tA, instObj 101 td), (td, dictOf [⟨kh w "rows", .str (Str.ofString "rows") u7, .ref rl⟩, ⟨kh w "by_text", .str (Str.ofString "by_text") u8, .ref bt⟩] 2), (wA, instObj 388 wd), (wd, worldD w tA a1 a2 0 u1 u2 u3 u4 u5 u6), (D, oD),
      (L + 1 + 1 + 1 + 1 + 1 + 1 + 1, c7), (L + 1 + 1 + 1 + 1 + 1 + 1, c6), (L + 1 + 1 + 1 + 1, c4)])
    (nd : ND [(L + 1 + 1 + 1 + 1 + 1, c5), (L + 1 + 1 + 1, c3), (L + 1 + 1, c2), (L + 1, c1), (a2, o2), (a1, o1), (bt, ob), (rl, listOf [].toArray 0), (tA, instObj 101 td), (td, dictOf [⟨kh w "rows", .str (Str.ofString "rows") u7, .ref rl⟩, ⟨kh w "by_text", .str (Str.ofString "by_text") u8, .ref bt⟩] 2), (wA, instObj 388 wd), (wd, worldD w tA a1 a2 0 u1 u2 u3 u4 u5 u6), (D, oD),
      (L + 1 + 1 + 1 + 1 + 1 + 1 + 1, c7), (L + 1 + 1 + 1 + 1 + 1 + 1, c6), (L + 1 + 1 + 1 + 1, c4)])
    (hQ : ∀ h' tk' m', Fr h₀ L h' m' → Q (.ret (.bool true)) { s with heap := h', toks := tk' }) :
    wpAny (model PySem.Challenge.rw_nt0172_01.row.prog w) (lawTop dp un gd L fa ccd outer) (execs (lawBody.drop 1) (lawEnv L fa ccd)) Q E s := by
  (revert X; k_fill; intro X)
  k_with_none
  conv => arg 3; arg 1; whnf
  delta lawTop lawEnv
  conv in (occs := *) lawSc => all_goals whnf
  k_with "newTuple" => (k_here; k_dflt (refine' my_tuple ?k1 ?k2 ?k3 ?k4 ?_; (case k1 => k_asm); (case k2 => k_asm); (case k3 => with_reducible assumption); (case k4 => exact Nat.le_of_ble_eq_true rfl)); intro l' h' F' N' l1 nd9; (try k_sweep); (try k_fold))
  k_with "storeName" => (k_here; k_dflt (first | (refine' my_store 0 ?F ?N ?D ?c ?e ?d ?_ ?a ?b; (case a => rfl); (case b => rfl); (case F => with_reducible assumption); (case N => with_reducible assumption); (case c => rfl); (case e => rfl); (case D => with_reducible assumption); (case d => with_reducible assumption)) | (refine' my_store 1 ?F ?N ?D ?c ?e ?d ?_ ?a ?b; (case a => rfl); (case b => rfl); (case F => with_reducible assumption); (case N => with_reducible assumption); (case c => rfl); (case e => rfl); (case D => with_reducible assumption); (case d => with_reducible assumption)) | (refine' my_store 2 ?F ?N ?D ?c ?e ?d ?_ ?a ?b; (case a => rfl); (case b => rfl); (case F => with_reducible assumption); (case N => with_reducible assumption); (case c => rfl); (case e => rfl); (case D => with_reducible assumption); (case d => with_reducible assumption)) | (refine' my_store 3 ?F ?N ?D ?c ?e ?d ?_ ?a ?b; (case a => rfl); (case b => rfl); (case F => with_reducible assumption); (case N => with_reducible assumption); (case c => rfl); (case e => rfl); (case D => with_reducible assumption); (case d => with_reducible assumption)) | (refine' my_store 4 ?F ?N ?D ?c ?e ?d ?_ ?a ?b; (case a => rfl); (case b => rfl); (case F => with_reducible assumption); (case N => with_reducible assumption); (case c => rfl); (case e => rfl); (case D => with_reducible assumption); (case d => with_reducible assumption)) | (refine' my_store 5 ?F ?N ?D ?c ?e ?d ?_ ?a ?b; (case a => rfl); (case b => rfl); (case F => with_reducible assumption); (case N => with_reducible assumption); (case c => rfl); (case e => rfl); (case D => with_reducible assumption); (case d => with_reducible assumption)) | (refine' my_store 6 ?F ?N ?D ?c ?e ?d ?_ ?a ?b; (case a => rfl); (case b => rfl); (case F => with_reducible assumption); (case N => with_reducible assumption); (case c => rfl); (case e => rfl); (case D => with_reducible assumption); (case d => with_reducible assumption)) | (refine' my_store 7 ?F ?N ?D ?c ?e ?d ?_ ?a ?b; (case a => rfl); (case b => rfl); (case F => with_reducible assumption); (case N => with_reducible assumption); (case c => rfl); (case e => rfl); (case D => with_reducible assumption); (case d => with_reducible assumption)) | (refine' my_store 8 ?F ?N ?D ?c ?e ?d ?_ ?a ?b; (case a => rfl); (case b => rfl); (case F => with_reducible assumption); (case N => with_reducible assumption); (case c => rfl); (case e => rfl); (case D => with_reducible assumption); (case d => with_reducible assumption)) | (refine' my_store 9 ?F ?N ?D ?c ?e ?d ?_ ?a ?b; (case a => rfl); (case b => rfl); (case F => with_reducible assumption); (case N => with_reducible assumption); (case c => rfl); (case e => rfl); (case D => with_reducible assumption); (case d => with_reducible assumption)) | (refine' my_store 10 ?F ?N ?D ?c ?e ?d ?_ ?a ?b; (case a => rfl); (case b => rfl); (case F => with_reducible assumption); (case N => with_reducible assumption); (case c => rfl); (case e => rfl); (case D => with_reducible assumption); (case d => with_reducible assumption)) | (refine' my_store 11 ?F ?N ?D ?c ?e ?d ?_ ?a ?b; (case a => rfl); (case b => rfl); (case F => with_reducible assumption); (case N => with_reducible assumption); (case c => rfl); (case e => rfl); (case D => with_reducible assumption); (case d => with_reducible assumption)) | (refine' my_store 12 ?F ?N ?D ?c ?e ?d ?_ ?a ?b; (case a => rfl); (case b => rfl); (case F => with_reducible assumption); (case N => with_reducible assumption); (case c => rfl); (case e => rfl); (case D => with_reducible assumption); (case d => with_reducible assumption)) | (refine' my_store 13 ?F ?N ?D ?c ?e ?d ?_ ?a ?b; (case a => rfl); (case b => rfl); (case F => with_reducible assumption); (case N => with_reducible assumption); (case c => rfl); (case e => rfl); (case D => with_reducible assumption); (case d => with_reducible assumption)) | (refine' my_store 14 ?F ?N ?D ?c ?e ?d ?_ ?a ?b; (case a => rfl); (case b => rfl); (case F => with_reducible assumption); (case N => with_reducible assumption); (case c => rfl); (case e => rfl); (case D => with_reducible assumption); (case d => with_reducible assumption)) | (refine' my_store 15 ?F ?N ?D ?c ?e ?d ?_ ?a ?b; (case a => rfl); (case b => rfl); (case F => with_reducible assumption); (case N => with_reducible assumption); (case c => rfl); (case e => rfl); (case D => with_reducible assumption); (case d => with_reducible assumption)) | (refine' my_store 16 ?F ?N ?D ?c ?e ?d ?_ ?a ?b; (case a => rfl); (case b => rfl); (case F => with_reducible assumption); (case N => with_reducible assumption); (case c => rfl); (case e => rfl); (case D => with_reducible assumption); (case d => with_reducible assumption)) | (refine' my_store 17 ?F ?N ?D ?c ?e ?d ?_ ?a ?b; (case a => rfl); (case b => rfl); (case F => with_reducible assumption); (case N => with_reducible assumption); (case c => rfl); (case e => rfl); (case D => with_reducible assumption); (case d => with_reducible assumption)) | (refine' my_store 18 ?F ?N ?D ?c ?e ?d ?_ ?a ?b; (case a => rfl); (case b => rfl); (case F => with_reducible assumption); (case N => with_reducible assumption); (case c => rfl); (case e => rfl); (case D => with_reducible assumption); (case d => with_reducible assumption)) | (refine' my_store 19 ?F ?N ?D ?c ?e ?d ?_ ?a ?b; (case a => rfl); (case b => rfl); (case F => with_reducible assumption); (case N => with_reducible assumption); (case c => rfl); (case e => rfl); (case D => with_reducible assumption); (case d => with_reducible assumption))); intro h' o' F' N' nd9 cd9; (try dsimp only at N' nd9); (try k_sweep); (try k_fold))
  k_with "newList" => (first | ((with_reducible show wpAny _ _ (newList [Value.str _ _, _, _]) _ _ _); k_here; k_dflt (refine' my_list ?k1 ?k2 ?k3 ?k4 ?_; (case k1 => k_asm); (case k2 => k_asm); (case k3 => with_reducible assumption); (case k4 => exact Nat.le_of_ble_eq_true rfl)); intro xA h' F' N' l1 nd9; (try k_sweep); (try k_fold)) | ((with_reducible show wpAny _ _ (newList [Value.ref _]) _ _ _); k_here; k_dflt (refine' my_list ?k1 ?k2 ?k3 ?k4 ?_; (case k1 => k_asm); (case k2 => k_asm); (case k3 => with_reducible assumption); (case k4 => exact Nat.le_of_ble_eq_true rfl)); intro sA h' F' N' l1 nd9; (try k_sweep); (try k_fold)) | ((with_reducible show wpAny _ _ (newList [Value.none, _, _]) _ _ _); k_here; k_dflt (refine' my_list ?k1 ?k2 ?k3 ?k4 ?_; (case k1 => k_asm); (case k2 => k_asm); (case k3 => with_reducible assumption); (case k4 => exact Nat.le_of_ble_eq_true rfl)); intro bA h' F' N' l1 nd9; (try k_sweep); (try k_fold)) | ((with_reducible show wpAny _ _ (newList [Value.int 0 _, Value.int 1 _, _]) _ _ _); k_here; k_dflt (refine' my_list ?k1 ?k2 ?k3 ?k4 ?_; (case k1 => k_asm); (case k2 => k_asm); (case k3 => with_reducible assumption); (case k4 => exact Nat.le_of_ble_eq_true rfl)); intro rA h' F' N' l1 nd9; (try k_sweep); (try k_fold)) | ((with_reducible show wpAny _ _ (newList [Value.int 0 _, Value.int 0 _, _]) _ _ _); k_here; k_dflt (refine' my_list ?k1 ?k2 ?k3 ?k4 ?_; (case k1 => k_asm); (case k2 => k_asm); (case k3 => with_reducible assumption); (case k4 => exact Nat.le_of_ble_eq_true rfl)); intro pA h' F' N' l1 nd9; (try k_sweep); (try k_fold)))
  k_with "call ref" => (first | ((with_reducible show wpAny _ _ (call (Value.ref 283) _) _ _ _); (rename News _ _ _ _ => lN); (try (rename ND _ => lD)); k_here; k_dflt (refine' Says.use (says_scope_new) ?k1 ?k2 ?k3 ?k4 ?k5 ?kK ?kd ?ku ?_; (case k4 => exact lN);  (case k1 => k_asm); (case k2 => k_asm); (case k3 => k_asm); (case k5 => k_asm); (case kK => first | exact rfl | assumption); (case kd => ktr_room); (case ku => ktr_units)); intro r9 n9 h9 tk9 F9 N9 O9; (obtain ⟨a7, ad7, nd7, oS7, w5, w6, e9, q1, q2, q3, q4, q5, e8⟩ := O9); subst r9; subst n9; (k_dflt (have nd9 := nd_new3N N9 q3 q1 q2 lD)); clear lN lD; (try dsimp only); (try k_fold)) | ((with_reducible show wpAny _ _ (call (Value.ref 336) _) _ _ _); (rename News _ _ _ _ => lN); k_here; k_dflt (refine' Says.use (says_world_symbol (vs := ys') (kvs := kvs') (rl := rl) (bt := bt) (wA := wA) (wd := wd) (tA := tA) (td := td) (a1 := a1) (a2 := a2) (rest := (I', oI') :: (C', oC') :: (D', LCg.lst ys') :: (L + 1 + 1 + 1 + 1 + 1, c5) :: nw) (hnw ▸ inr7 mw) (hnw ▸ inr7 mwd) (hnw ▸ inr7 mtA) (hnw ▸ inr7 mtd) (Nat.ne_of_lt hne) (fun p hp => ndr.off p (.tail _ hp)) ndr.tl.off hlo hdJ (sym_none hi9 hkJ) (by omega) ?hl2) ?k1 ?k2 ?k3 ?k4 ?k5 ?kK ?kd ?ku ?_; (case hl2 => (have q := congrArg List.length hkJ; rw [List.length_map, List.length_map, List.length_range] at q; omega)); (case k4 => exact news_front (news_front (news_front lN 3) 4) 1); (case k1 => k_asm); (case k2 => k_asm); (case k3 => k_asm); (case k5 => k_asm); (case kK => first | exact rfl | assumption); (case kd => ktr_room); (case ku => ktr_units)); intro r9 n9 h9 tk9 F9 N9 O9; (obtain ⟨a9, d9, o9, u3', u4', u5', u6', e9, q1, q2, q3, e8⟩ := O9); subst r9; subst n9; (have nda := nd_symN N9 q2 q1 ndr); clear lN; (try dsimp only); (try k_fold)))
  k_with "eval ListComp" => (k_here; k_dflt (refine LCg.ListComp_U (F₀ := by k_asm) (by with_unfolding_all rfl) (by decide) (by rfl) (by decide) (by rfl) ?_))
  k_with "CompSrc" => (k_here; (k_dflt ((rename News _ _ _ _ => lN); (rename ND _ => lD); (have N8 := news_front (news_front (news_front lN 7) 12) 13); (have D8 := ((lD.front 7).front 12).front 13); (dsimp only [front] at N8 D8); (obtain ⟨fo, hfo, N8, D8⟩ := cut3 N8 D8); clear lN lD)); (have m2 : (L + 1 + 1, c2) ∈ fo := by rw [hfo]; repeat (first | exact List.mem_cons_self | refine List.mem_cons_of_mem _ ?_)); (have mw : (wA, instObj 388 wd) ∈ fo := by rw [hfo]; repeat (first | exact List.mem_cons_self | refine List.mem_cons_of_mem _ ?_)); (have mwd : (wd, worldD w tA a1 a2 0 u1 u2 u3 u4 u5 u6) ∈ fo := by rw [hfo]; repeat (first | exact List.mem_cons_self | refine List.mem_cons_of_mem _ ?_)); (have mtA : (tA, instObj 101 td) ∈ fo := by rw [hfo]; repeat (first | exact List.mem_cons_self | refine List.mem_cons_of_mem _ ?_)); (have mtd : (td, dictOf [⟨kh w "rows", .str (Str.ofString "rows") u7, .ref rl⟩, ⟨kh w "by_text", .str (Str.ofString "by_text") u8, .ref bt⟩] 2) ∈ fo := by rw [hfo]; repeat (first | exact List.mem_cons_self | refine List.mem_cons_of_mem _ ?_)); (obtain ⟨x0, x1, x2, mx⟩ : ∃ x0 x1 x2, (xA, listOf [Value.str (Str.ofString "if") x0, Value.str (Str.ofString "let") x1, Value.str (Str.ofString "x") x2].toArray 0) ∈ fo := ⟨_, _, _, by rw [hfo]; repeat (first | exact List.mem_cons_self | refine List.mem_cons_of_mem _ ?_)⟩); k_dflt (refine LCg.CompSrc.ledger (its := [Value.str (Str.ofString "if") x0, Value.str (Str.ofString "let") x1, Value.str (Str.ofString "x") x2].toArray) (by rfl) (by k_asm) N8 (.tail _ (.tail _ (.tail _ mx))) (Nat.le_of_ble_eq_true rfl) ?_; intro g'; (refine comp_all (SymJ w rl bt (L + 1 + 1 + 1 + 1 + 1, c5) fo) (fun i' ys' news' v' I' oI' C' oC' D' m' h' tk' E' hi' hJ' hv' hC' hx' F' N' off' ne' => ?step) (fun ys1 news1 hJ' => ?fin) _ 0 [] _ (Nat.zero_add _) (SymJ.mk (gr := []) (kvs := []) D8 hd' rfl rfl (fun _ h => absurd h (Nat.not_lt_zero _)))); (case' step => ((change wpAny _ _ _ _ _ _); (obtain ⟨hi9, tv9, hv9⟩ := texts_at hv'); subst hv9; (obtain @⟨gr', kc', ob', kvs', ys', ndJ, hdJ, hkJ, hyJ, hsJ⟩ := hJ'); (obtain ⟨nw, hnw⟩ : ∃ nw, nw = gr' ++ fo := ⟨_, rfl⟩); rw [← hnw] at N' ndJ off'; (have m2' : (L + 1 + 1, c2) ∈ nw := hnw ▸ List.mem_append.mpr (.inr m2)); (have mw' : (wA, instObj 388 wd) ∈ nw := hnw ▸ List.mem_append.mpr (.inr mw)); (have mwd' : (wd, worldD w tA a1 a2 0 u1 u2 u3 u4 u5 u6) ∈ nw := hnw ▸ List.mem_append.mpr (.inr mwd)); (have ndr := (((nd_off3 (oI := oI') (oC := oC') (oD := LCg.lst ys') ndJ off' ne').front 3).front 4).front 1); (dsimp only [front] at ndr))); (case' fin => ((obtain @⟨gr1, kc1, ob1, kvs1, ys1, ndK, hdK, hkK, hyK, hsK⟩ := hJ')))))
  k_with "FinE" => ((unfold LCg.FinE); intro D1 h1' tk1 F1 N1 o1'; (have nd1 := off1_nd (o := LCg.lst ys1) ndK o1'); (replace N1 := news_sub N1 (fun p hp => (tail_perm _ _ _ _ _ _).mem_iff.mpr hp)); (replace nd1 := nd1.perm (tail_perm _ _ _ _ _ _).symm); subst hfo; (simp only [List.cons_append, List.nil_append] at N1 nd1); (try dsimp only))
  k_with "CompEnd" => ((rename News _ _ _ _ => lN); subst hnw; (have lN' := news_front (news_front (news_front (news_front (news_front (news_front lN 7) 4) 4) 7) 7) 7); (have nd' := (((((nda.front 7).front 4).front 4).front 7).front 7).front 7); (dsimp only [front] at lN' nd'); (refine LCg.CompEnd.intro (by k_asm) lN' _ (fun _ h => h) (nd_3off nd') (Or.inr ⟨_, inr7' mx, rfl, _, rfl⟩) (SymJ.next hi9 nd'.tl.tl.tl q3 hkJ hyJ hsJ)))
  k_with "execs cons" => ((with_reducible show wpAny _ _ (execs (Stmt.Assign [Expr.Name (Str.ofString "bound") _] _ _ :: _) _) _ _ _); refine halt_in ?_)
  k_steps
  with_reducible refine halt_out ?_
  (rename News _ _ _ _ => lN); (rename ND _ => lD); (rename Fr _ _ _ _ => lF)
  replace lN := news_front lN 11
  replace lD := lD.front 11
  dsimp only [front] at lN lD
  replace lN := news_front lN 24
  replace lD := lD.front 24
  dsimp only [front] at lN lD
  replace lN := news_front lN 25
  replace lD := lD.front 25
  dsimp only [front] at lN lD
  replace lN := news_front lN 26
  replace lD := lD.front 26
  dsimp only [front] at lN lD
  replace lN := news_front lN 14
  replace lD := lD.front 14
  dsimp only [front] at lN lD
  replace lN := news_front lN 7
  replace lD := lD.front 7
  dsimp only [front] at lN lD
  replace lN := news_front lN 8
  replace lD := lD.front 8
  dsimp only [front] at lN lD
  replace lN := news_front lN 9
  replace lD := lD.front 9
  dsimp only [front] at lN lD
  replace lN := news_front lN 10
  replace lD := lD.front 10
  dsimp only [front] at lN lD
  replace lN := news_front lN 25
  replace lD := lD.front 25
  dsimp only [front] at lN lD
  replace lN := news_front lN 26
  replace lD := lD.front 26
  dsimp only [front] at lN lD
  obtain ⟨fo, hfo, N8, D8⟩ := cut11 lN lD
  clear lN lD
  have k1 : (L + 1, c1) ∈ fo := by (with_reducible (rw [hfo]; repeat (first | exact List.mem_cons_self | refine List.mem_cons_of_mem _ ?_)))
  have k2 : (L + 1 + 1, c2) ∈ fo := by (with_reducible (rw [hfo]; repeat (first | exact List.mem_cons_self | refine List.mem_cons_of_mem _ ?_)))
  obtain ⟨c3', k3, e3⟩ : ∃ c, (L + 1 + 1 + 1, c) ∈ fo ∧ c.data = .cell (some (.ref sA)) := ⟨_, by (with_reducible (rw [hfo]; repeat (first | exact List.mem_cons_self | refine List.mem_cons_of_mem _ ?_))), by with_reducible assumption⟩
  obtain ⟨c5', k5, e5⟩ : ∃ c, (L + 1 + 1 + 1 + 1 + 1, c) ∈ fo ∧ c.data = .cell (some (.ref D1)) := ⟨_, by (with_reducible (rw [hfo]; repeat (first | exact List.mem_cons_self | refine List.mem_cons_of_mem _ ?_))), by with_reducible assumption⟩
  have kw : (wA, instObj 388 wd) ∈ fo := by (with_reducible (rw [hfo]; repeat (first | exact List.mem_cons_self | refine List.mem_cons_of_mem _ ?_)))
  obtain ⟨z0, z1, z2, kx⟩ : ∃ z0 z1 z2, (xA, listOf [Value.str (Str.ofString "if") z0, Value.str (Str.ofString "let") z1, Value.str (Str.ofString "x") z2].toArray 0) ∈ fo := ⟨_, _, _, by (with_reducible (rw [hfo]; repeat (first | exact List.mem_cons_self | refine List.mem_cons_of_mem _ ?_)))⟩
  have ka : (a7, instObj 283 ad7) ∈ fo := by (with_reducible (rw [hfo]; repeat (first | exact List.mem_cons_self | refine List.mem_cons_of_mem _ ?_)))
  have kad : (ad7, dictOf [⟨kh w "parent", .str (Str.ofString "parent") w5, .none⟩, ⟨kh w "names", .str (Str.ofString "names") w6, .ref nd7⟩] 2) ∈ fo := by (with_reducible (rw [hfo]; repeat (first | exact List.mem_cons_self | refine List.mem_cons_of_mem _ ?_)))
  have kg : ∀ p ∈ gr1, p ∈ fo := fun p hp => by (with_reducible (rw [hfo]; repeat (first | exact hp | refine List.mem_cons_of_mem _ ?_)))
  clear hfo
  conv => arg 6; dsimp only
  exact @law_tail3' w mean mg mb dp un gd fa ccd outer A₀ base h₀ L s _ _ Q E c1 c2 c3' c4 c5' c6 c7 oD oS7 v4 v6 v7 D wA wd tA a1 a2 xA D1 bA rA pA sA nd7 a7 ad7 ys1.length 0 2 u1 u2 u3 u4 u5 u6 w5 w6 z0 z1 z2 tk1 (tk1 + 1) (tk1 + 1 + 1) (tk1 + 1 + 1 + 1) (tk1 + 1 + 1 + 1 + 1) (tk1 + 1 + 1 + 1 + 1 + 1) m fo ys1 B X T hd hu hE k1 h1 k2 h2 k3 e3 k5 e5 h4 h6 h7 hdk kw kx ka kad hyK (fun j hj => let ⟨a, e1, e2⟩ := hsK j hj; ⟨a, e1, e2.mono kg⟩) q4 q5 lF N8 D8 hQ
end Mine
namespace Mine
local macro_rules | `(tactic| walk_at $s:str) => `(tactic| k_extra $s)
local macro_rules | `(tactic| k_room) => `(tactic| ktr_room)
local macro_rules | `(tactic| k_all) => `(tactic| assumption)
local macro_rules | `(tactic| k_mem) => `(tactic| assumption)

theorem law_tail1' {w : World} {mean : ExcName → Option Value} {mg mb : Str → Option Value} {dp un : Nat} {gd : Option (List Code)} {fa : Addr} {ccd : Value} {outer : List Env} {A₀ : Around} {base h₀ : Heap} {L : Addr} {s : Shared} {h : Heap} {tk : Nat} {Q : Flow → Shared → Prop} {E : Value → Shared → Prop}
    {c1 c2 c3 c4 c5 c6 c7 oD o1 o2 ob : Obj} {v3 v4 v5 v6 v7 : Option Value} {D wA wd tA td rl bt a1 a2 : Nat} {u1 u2 u3 u4 u5 u6 u7 u8 : Tok} {m : Str → Option Value}
    (B : Below A₀ base outer h₀) (X : (_root_.Mine.tp.heap_39 w.params).In h₀) (T : Top _root_.Mine.tp.view_39 [] mean mg mb h₀) (hd : dp + 60 < recursionLimit) (hu : un + 8 * 60 < cLine) (hE : PassesOwn (model PySem.Challenge.rw_nt0172_01.row.prog w) (lawTop dp un gd L fa ccd outer) (lawEnv L fa ccd) E)
    (h1 : c1.data = .cell (some (.ref D))) (h2 : c2.data = .cell (some (.ref wA))) (h3 : c3.data = .cell v3) (h4 : c4.data = .cell v4) (h5 : c5.data = .cell v5) (h6 : c6.data = .cell v6) (h7 : c7.data = .cell v7) (hdk : DeckObj oD)
    (hne : rl < bt) (hlo : (bt == sysModules) = false) (hd' : Obj.IsDictOf (PySem.strKind ThePr w) ob [])
    (F : Fr h₀ L h m)
    (N : News h₀ L h [(L + 1 + 1 + 1 + 1 + 1, c5), (L + 1 + 1 + 1, c3), (L + 1 + 1, c2), (L + 1, c1), (a2, o2), (a1, o1), (bt, ob), (rl, listOf [].toArray 0), (tA, instObj 101 td), (td, dictOf [⟨kh w "rows", .str (Str.ofString "rows") u7, .ref rl⟩, ⟨kh w "by_text", .str (Str.ofString "by_text") u8, .ref bt⟩] 2), (wA, instObj 388 wd), (wd, worldD w tA a1 a2 0 u1 u2 u3 u4 u5 u6), (D, oD),
      (L + 1 + 1 + 1 + 1 + 1 + 1 + 1, c7), (L + 1 + 1 + 1 + 1 + 1 + 1, c6), (L + 1 + 1 + 1 + 1, c4)])
    (nd : ND [(L + 1 + 1 + 1 + 1 + 1, c5), (L + 1 + 1 + 1, c3), (L + 1 + 1, c2), (L + 1, c1), (a2, o2), (a1, o1), (bt, ob), (rl, listOf [].toArray 0), (tA, instObj 101 td), (td, dictOf [⟨kh w "rows", .str (Str.ofString "rows") u7, .ref rl⟩, ⟨kh w "by_text", .str (Str.ofString "by_text") u8, .ref bt⟩] 2), (wA, instObj 388 wd), (wd, worldD w tA a1 a2 0 u1 u2 u3 u4 u5 u6), (D, oD),
      (L + 1 + 1 + 1 + 1 + 1 + 1 + 1, c7), (L + 1 + 1 + 1 + 1 + 1 + 1, c6), (L + 1 + 1 + 1 + 1, c4)])
    (hQ : ∀ h' tk' m', Fr h₀ L h' m' → Q (.ret (.bool true)) { s with heap := h', toks := tk' }) :
    wpAny (model PySem.Challenge.rw_nt0172_01.row.prog w) (lawTop dp un gd L fa ccd outer) (execs (lawBody.drop 1) (lawEnv L fa ccd)) Q E { heap := h, gens := s.gens, drawn := s.drawn, toks := tk, os := s.os } := by
  exact @law_tail1 w mean mg mb dp un gd fa ccd outer A₀ base h₀ L { heap := h, gens := s.gens, drawn := s.drawn, toks := tk, os := s.os } Q E c1 c2 c3 c4 c5 c6 c7 oD o1 o2 ob v3 v4 v5 v6 v7 D wA wd tA td rl bt a1 a2 u1 u2 u3 u4 u5 u6 u7 u8 m B X T hd hu hE h1 h2 h3 h4 h5 h6 h7 hdk hne hlo hd' F N nd hQ
end Mine
namespace Mine
local macro_rules | `(tactic| walk_at $s:str) => `(tactic| k_extra $s)
local macro_rules | `(tactic| k_room) => `(tactic| ktr_room)
local macro_rules | `(tactic| k_all) => `(tactic| assumption)
local macro_rules | `(tactic| k_mem) => `(tactic| assumption)

theorem nd_namesN {h₀ h : Heap} {L : Addr} {a d tA td rl bt a1 a2 : Nat} {o1 o2 o3 o4 o5 o6 o7 o8 : Obj} {l : Led} (_N : News h₀ L h ((a2, o1) :: (a1, o2) :: (bt, o3) :: (rl, o4) :: (tA, o5) :: (td, o6) :: (a, o7) :: (d, o8) :: l))
    (h1 : d < a) (h2 : a < td) (h3 : td < tA) (h4 : tA < rl) (h5 : rl < bt) (h6 : bt < a1) (h7 : a1 < a2) (hl : ∀ p ∈ l, p.1 < d) (h : ND l) :
    ND ((a2, o1) :: (a1, o2) :: (bt, o3) :: (rl, o4) :: (tA, o5) :: (td, o6) :: (a, o7) :: (d, o8) :: l) := nd_names h1 h2 h3 h4 h5 h6 h7 hl h
theorem law_start {w : World} {mean : ExcName → Option Value} {mg mb : Str → Option Value} {dp un : Nat} {gd : Option (List Code)} {fa : Addr} {ccd : Value} {outer : List Env} {A₀ : Around} {base h₀ : Heap} {L : Addr} {s : Shared} {Q : Flow → Shared → Prop} {E : Value → Shared → Prop}
    {sl : Addr} {vs : List Value} {ns : List Int} {c1 c2 c3 c4 c5 c6 c7 : Obj} {v1 v2 v3 v4 v5 v6 v7 : Option Value} {m : Str → Option Value}
    (B : Below A₀ base outer h₀) (X : (_root_.Mine.tp.heap_39 w.params).In h₀) (T : Top _root_.Mine.tp.view_39 [] mean mg mb h₀) (hd : dp + 60 < recursionLimit) (hu : un + 8 * 60 < cLine) (hE : PassesOwn (model PySem.Challenge.rw_nt0172_01.row.prog w) (lawTop dp un gd L fa ccd outer) (lawEnv L fa ccd) E)
    (hL : h₀.IsList sl vs.toArray) (hI : IntsAre vs ns) (hn : ns.length ≤ 63)
    (h1 : c1.data = .cell v1) (h2 : c2.data = .cell v2) (h3 : c3.data = .cell v3) (h4 : c4.data = .cell v4) (h5 : c5.data = .cell v5) (h6 : c6.data = .cell v6) (h7 : c7.data = .cell v7)
    (F : Fr h₀ L s.heap (fun y => if y = Str.ofString "script" then some (.ref sl) else m y))
    (N : News h₀ L s.heap [(L + 1 + 1 + 1 + 1 + 1 + 1 + 1, c7), (L + 1 + 1 + 1 + 1 + 1 + 1, c6), (L + 1 + 1 + 1 + 1 + 1, c5), (L + 1 + 1 + 1 + 1, c4), (L + 1 + 1 + 1, c3), (L + 1 + 1, c2), (L + 1, c1)])
    (hQ : ∀ h' tk' m', Fr h₀ L h' m' → Q (.ret (.bool true)) { s with heap := h', toks := tk' }) :
    wpAny (model PySem.Challenge.rw_nt0172_01.row.prog w) (lawTop dp un gd L fa ccd outer) (execs lawBody (lawEnv L fa ccd)) Q E s := by
  (revert X; k_fill; intro X)
  k_with_none
  conv => arg 3; arg 1; whnf
  delta lawTop lawEnv
  conv in (occs := *) lawSc => all_goals whnf
  have nd0 := nd7 N
  k_with "newTuple" => (k_here; k_dflt (refine' my_tuple ?k1 ?k2 ?k3 ?k4 ?_; (case k1 => k_asm); (case k2 => k_asm); (case k3 => with_reducible assumption); (case k4 => exact Nat.le_of_ble_eq_true rfl)); intro l' h' F' N' l1 nd9; (try k_sweep); (try k_fold))
  k_with "newList" => (k_here; k_dflt (refine' my_list ?k1 ?k2 ?k3 ?k4 ?_; (case k1 => k_asm); (case k2 => k_asm); (case k3 => with_reducible assumption); (case k4 => exact Nat.le_of_ble_eq_true rfl)); intro l' h' F' N' l1 nd9; (try k_sweep); (try k_fold))
  k_with "storeName" => (k_here; k_dflt (first | (refine' my_store 0 ?F ?N ?D ?c ?e ?d ?_ ?a ?b; (case a => rfl); (case b => rfl); (case F => with_reducible assumption); (case N => with_reducible assumption); (case c => rfl); (case e => rfl); (case D => with_reducible assumption); (case d => with_reducible assumption)) | (refine' my_store 1 ?F ?N ?D ?c ?e ?d ?_ ?a ?b; (case a => rfl); (case b => rfl); (case F => with_reducible assumption); (case N => with_reducible assumption); (case c => rfl); (case e => rfl); (case D => with_reducible assumption); (case d => with_reducible assumption)) | (refine' my_store 2 ?F ?N ?D ?c ?e ?d ?_ ?a ?b; (case a => rfl); (case b => rfl); (case F => with_reducible assumption); (case N => with_reducible assumption); (case c => rfl); (case e => rfl); (case D => with_reducible assumption); (case d => with_reducible assumption)) | (refine' my_store 3 ?F ?N ?D ?c ?e ?d ?_ ?a ?b; (case a => rfl); (case b => rfl); (case F => with_reducible assumption); (case N => with_reducible assumption); (case c => rfl); (case e => rfl); (case D => with_reducible assumption); (case d => with_reducible assumption)) | (refine' my_store 4 ?F ?N ?D ?c ?e ?d ?_ ?a ?b; (case a => rfl); (case b => rfl); (case F => with_reducible assumption); (case N => with_reducible assumption); (case c => rfl); (case e => rfl); (case D => with_reducible assumption); (case d => with_reducible assumption)) | (refine' my_store 5 ?F ?N ?D ?c ?e ?d ?_ ?a ?b; (case a => rfl); (case b => rfl); (case F => with_reducible assumption); (case N => with_reducible assumption); (case c => rfl); (case e => rfl); (case D => with_reducible assumption); (case d => with_reducible assumption)) | (refine' my_store 6 ?F ?N ?D ?c ?e ?d ?_ ?a ?b; (case a => rfl); (case b => rfl); (case F => with_reducible assumption); (case N => with_reducible assumption); (case c => rfl); (case e => rfl); (case D => with_reducible assumption); (case d => with_reducible assumption)) | (refine' my_store 7 ?F ?N ?D ?c ?e ?d ?_ ?a ?b; (case a => rfl); (case b => rfl); (case F => with_reducible assumption); (case N => with_reducible assumption); (case c => rfl); (case e => rfl); (case D => with_reducible assumption); (case d => with_reducible assumption)) | (refine' my_store 8 ?F ?N ?D ?c ?e ?d ?_ ?a ?b; (case a => rfl); (case b => rfl); (case F => with_reducible assumption); (case N => with_reducible assumption); (case c => rfl); (case e => rfl); (case D => with_reducible assumption); (case d => with_reducible assumption)) | (refine' my_store 9 ?F ?N ?D ?c ?e ?d ?_ ?a ?b; (case a => rfl); (case b => rfl); (case F => with_reducible assumption); (case N => with_reducible assumption); (case c => rfl); (case e => rfl); (case D => with_reducible assumption); (case d => with_reducible assumption)) | (refine' my_store 10 ?F ?N ?D ?c ?e ?d ?_ ?a ?b; (case a => rfl); (case b => rfl); (case F => with_reducible assumption); (case N => with_reducible assumption); (case c => rfl); (case e => rfl); (case D => with_reducible assumption); (case d => with_reducible assumption)) | (refine' my_store 11 ?F ?N ?D ?c ?e ?d ?_ ?a ?b; (case a => rfl); (case b => rfl); (case F => with_reducible assumption); (case N => with_reducible assumption); (case c => rfl); (case e => rfl); (case D => with_reducible assumption); (case d => with_reducible assumption)) | (refine' my_store 12 ?F ?N ?D ?c ?e ?d ?_ ?a ?b; (case a => rfl); (case b => rfl); (case F => with_reducible assumption); (case N => with_reducible assumption); (case c => rfl); (case e => rfl); (case D => with_reducible assumption); (case d => with_reducible assumption)) | (refine' my_store 13 ?F ?N ?D ?c ?e ?d ?_ ?a ?b; (case a => rfl); (case b => rfl); (case F => with_reducible assumption); (case N => with_reducible assumption); (case c => rfl); (case e => rfl); (case D => with_reducible assumption); (case d => with_reducible assumption)) | (refine' my_store 14 ?F ?N ?D ?c ?e ?d ?_ ?a ?b; (case a => rfl); (case b => rfl); (case F => with_reducible assumption); (case N => with_reducible assumption); (case c => rfl); (case e => rfl); (case D => with_reducible assumption); (case d => with_reducible assumption)) | (refine' my_store 15 ?F ?N ?D ?c ?e ?d ?_ ?a ?b; (case a => rfl); (case b => rfl); (case F => with_reducible assumption); (case N => with_reducible assumption); (case c => rfl); (case e => rfl); (case D => with_reducible assumption); (case d => with_reducible assumption)) | (refine' my_store 16 ?F ?N ?D ?c ?e ?d ?_ ?a ?b; (case a => rfl); (case b => rfl); (case F => with_reducible assumption); (case N => with_reducible assumption); (case c => rfl); (case e => rfl); (case D => with_reducible assumption); (case d => with_reducible assumption)) | (refine' my_store 17 ?F ?N ?D ?c ?e ?d ?_ ?a ?b; (case a => rfl); (case b => rfl); (case F => with_reducible assumption); (case N => with_reducible assumption); (case c => rfl); (case e => rfl); (case D => with_reducible assumption); (case d => with_reducible assumption)) | (refine' my_store 18 ?F ?N ?D ?c ?e ?d ?_ ?a ?b; (case a => rfl); (case b => rfl); (case F => with_reducible assumption); (case N => with_reducible assumption); (case c => rfl); (case e => rfl); (case D => with_reducible assumption); (case d => with_reducible assumption)) | (refine' my_store 19 ?F ?N ?D ?c ?e ?d ?_ ?a ?b; (case a => rfl); (case b => rfl); (case F => with_reducible assumption); (case N => with_reducible assumption); (case c => rfl); (case e => rfl); (case D => with_reducible assumption); (case d => with_reducible assumption))); intro h' o' F' N' nd9 cd9; (try dsimp only at N' nd9); (try k_sweep); (try k_fold))
  k_with "call ref" => (first
    | ((with_reducible show wpAny _ _ (call (Value.ref 404) _) _ _ _); (rename News _ _ _ _ => lN); (rename Fr _ _ _ _ => lF); k_here; k_dflt (refine' says_deck B lF X lN T ?kK hL hI hn nd0 ?kd ?ku ?_; (case kK => exact rfl); (case kd => ktr_room); (case ku => ktr_units)); intro D oD h9 tk9 F9 N9 hdk nd9; clear nd0 lN lF; (try dsimp only); (try k_fold))
    | (k_here; k_dflt (refine' Says.use (says_names_new) ?k1 ?k2 ?k3 ?k4 ?k5 ?kK ?kd ?ku ?_; (case k1 => k_asm); (case k2 => k_asm); (case k3 => k_asm); (case k4 => k_asm); (case k5 => k_asm); (case kK => first | exact rfl | assumption); (case kd => ktr_room); (case ku => ktr_units)); intro r9 n9 h9 tk9 F9 N9 O9; obtain ⟨wA, wd, tA, td, rl, bt, a1, a2, o9, o1, o2, u1, u2, u3, u4, u5, u6, u7, u8, e9, q1, q2, q3, q4, q5, q6, q7, q8, q9, q10, e8⟩ := O9; subst r9; subst n9; (rename ND _ => lD); (have ndB := nd_namesN N9 q1 q2 q3 q4 q5 q6 q7 q8 lD); clear lD; (try dsimp only); (try k_fold)))
  k_with "execs cons" => ((with_reducible show wpAny _ _ (execs (Stmt.Assign [Expr.Tuple [Expr.Name (Str.ofString "texts") _, _] _ _] _ _ :: _) _) _ _ _); refine halt_in ?_)
  k_steps
  with_reducible refine halt_out ?_
  (rename News _ _ _ _ => lN); (rename ND _ => lD); (rename Fr _ _ _ _ => lF)
  replace lN := news_sub (news_front lN 2) (fun p hp => List.Mem.tail _ hp)
  replace lD := (lD.front 2).tl
  replace lN := news_front (news_front lN 15) 14
  replace lD := (lD.front 15).front 14
  dsimp only [front] at lN lD
  conv => arg 6; dsimp only
  exact @law_tail1' w mean mg mb dp un gd fa ccd outer A₀ base h₀ L s _ _ Q E _ _ c3 c4 c5 c6 c7 oD o1 o2 o9 v3 v4 v5 v6 v7 D wA wd tA td rl bt a1 a2 u1 u2 u3 u4 u5 u6 u7 u8 _ B X T hd hu hE (by with_reducible assumption) (by with_reducible assumption) h3 h4 h5 h6 h7 hdk q5 q9 q10 lF lN lD hQ
end Mine
namespace Mine
local macro_rules | `(tactic| walk_at $s:str) => `(tactic| k_extra $s)
local macro_rules | `(tactic| k_room) => `(tactic| ktr_room)
local macro_rules | `(tactic| k_all) => `(tactic| assumption)
local macro_rules | `(tactic| k_mem) => `(tactic| assumption)

theorem loose_none : looseW _root_.Mine.tp.view_39 [] = [] := by decide +kernel
theorem lawX : PySem.Challenge.rw_nt0172_01.Holds := _root_.Mine.tp (by
  k_with_none
  k_go0
  all_goals try k_fold
  (rename News _ _ _ _ => lN); (rename Fr _ _ _ _ => lF); (rename Top _ _ _ _ _ _ => lT); (rename Heap.IsList _ _ _ => lL); (rename IntsAre _ _ => lI); (rename Frag.In _ _ => lX)
  rw [loose_none] at lT
  with_unfolding_all (change Fr _ _ _ (fun y => if y = Str.ofString "script" then some (Value.ref _) else (fun _ => none) y) at lF)
  with_unfolding_all (show wpAny _ (lawTop (1 + claimMargin + 1) 7 (some []) _ _ _ []) (execs lawBody (lawEnv _ _ _)) _ _ _)
  refine' law_start (m := fun _ => none) (below_caller _) lX lT ?dd ?uu ?hE lL lI ?le ?h1 ?h2 ?h3 ?h4 ?h5 ?h6 ?h7 lF lN ?hQ
  case dd => decide +kernel
  case uu => decide +kernel
  case le => omega
  case h1 => assumption
  case h2 => assumption
  case h3 => assumption
  case h4 => assumption
  case h5 => assumption
  case h6 => assumption
  case h7 => assumption
  case hE => passes_own
  case hQ =>
    intro h' tk' m' F'
    k_steps)
end Mine
theorem PySem.Challenge.cw_nt0172_01_holds : PySem.Challenge.rw_nt0172_01.Holds :=
  Mine.lawX
